import PyProof.Rows.All
import Wide.All
import OpenK.AllK
import Wide.FinOn
import HandS.ForMost
import HandS.Exc
import HandS.TryOnly
import HandS.ExcOwn
import HandS.WordsExc
import HandS.Deep
import HandS.IsInst
import HandS.Star
import HandS.Style
import HandS.Conv
import HandS.TupAny
import HandS.TupSets
import HandS.SetFor
import HandS.Zip
import HandS.Sort
import HandS.SortRule
import HandS.SortInts
import HandS.Wide
import HandS.MakeKwOnly
import HandS.Flow
import HandS.NoneIn
import HandS.Codes
import HandS.Evl
import HandS.Steps
import KE.DataMinMax
import KE.KDictZip
import PyProof.ReprRoads
import PySem.Challenge.RW_givesifgets_k15_whole_plans_grown
/-! The search for even ways, by itself: what it keeps. -/
set_option autoImplicit false
namespace Blo

/-- a function changed at one place -/
def put {β : Type} (f : Nat → β) (a : Nat) (b : β) : Nat → β := fun x => if x = a then b else f x
theorem put_same {β : Type} (f : Nat → β) (a : Nat) (b : β) : put f a b a = b := by simp [put]
theorem put_ne {β : Type} (f : Nat → β) {a x : Nat} (b : β) (h : x ≠ a) : put f a b x = f x := by simp [put, h]

structure St where
  back : Nat → Option Nat
  base : Nat → Nat
  even : Nat → Bool
  left : List Nat

/-! ### the program's own functions, with fuel -/
section
variable (mt : Nat → Option Nat) (bk : Nat → Option Nat) (bs : Nat → Nat)
def meetUp (stop : Nat) : Nat → List Nat → Nat → Option (List Nat)
  | 0, _, _ => none
  | k + 1, met, b => if b = stop then some met else
    match mt b with
    | none => none
    | some o => match bk o with
      | none => none
      | some x => meetUp stop k (met ++ [bs x]) (bs x)
def meetDown (met : List Nat) : Nat → Nat → Option Nat
  | 0, _ => none
  | k + 1, b => if b ∈ met then some b else
    match mt b with
    | none => none
    | some o => match bk o with
      | none => none
      | some x => meetDown met k (bs x)
def meeting (k root one other : Nat) : Option Nat :=
  match meetUp mt bk bs (bs root) k [bs one] (bs one) with
  | none => none
  | some met => meetDown mt bk bs met k (bs other)
end
def markWalk (mt : Nat → Option Nat) (bs : Nat → Nat) (top : Nat) : Nat → (Nat → Option Nat) → List Nat → Nat → Nat → Option ((Nat → Option Nat) × List Nat)
  | 0, _, _, _, _ => none
  | k + 1, bk, wi, p, h => if bs p = top then some (bk, wi) else
    match mt p with
    | none => none
    | some m => match put bk p (some h) m with
      | none => none
      | some x => markWalk mt bs top k (put bk p (some h)) (wi ++ [bs p, bs m]) x m
def merge (n top : Nat) (wi : List Nat) (bk : Nat → Option Nat) (S : St) : St where
  back := bk
  base := fun p => if S.base p ∈ wi then top else S.base p
  even := fun p => S.even p || decide (S.base p ∈ wi)
  left := S.left ++ (List.range n).filter fun p => decide (S.base p ∈ wi) && !S.even p
def shrink (n : Nat) (mt : Nat → Option Nat) (root k : Nat) (S : St) (one other : Nat) : Option St :=
  match meeting mt S.back S.base k root one other with
  | none => none
  | some top => match markWalk mt S.base top k S.back [] one other with
    | none => none
    | some r1 => match markWalk mt S.base top k r1.1 r1.2 other one with
      | none => none
      | some r2 => some (merge n top r2.2 r2.1 S)
def scan (n : Nat) (mt : Nat → Option Nat) (root k one : Nat) : List Nat → St → Option (St × Option Nat)
  | [], S => some (S, none)
  | w :: ws, S =>
    if S.base one = S.base w ∨ mt one = some w then scan n mt root k one ws S
    else if S.even w = true then
      match shrink n mt root k S one w with
      | none => none
      | some S' => scan n mt root k one ws S'
    else match mt w with
      | none => some ({ S with back := put S.back w (some one) }, some w)
      | some m => if S.back w = none then scan n mt root k one ws { S with back := put S.back w (some one), even := put S.even m true, left := S.left ++ [m] }
        else scan n mt root k one ws S
def runLoop (n : Nat) (mt : Nat → Option Nat) (root k : Nat) (near : Nat → List Nat) : Nat → Nat → St → Option (St × Option Nat)
  | 0, _, _ => none
  | f + 1, i, S => match S.left[i]? with
    | none => some (S, none)
    | some one => match scan n mt root k one (near one) S with
      | none => none
      | some (S', some w) => some (S', some w)
      | some (S', none) => runLoop n mt root k near f (i + 1) S'
def start (root : Nat) : St where
  back := fun _ => none
  base := fun p => p
  even := fun p => decide (p = root)
  left := [root]
def wayLoop (mt bk : Nat → Option Nat) (root : Nat) : Nat → List Nat → Nat → Option (List Nat)
  | 0, _, _ => none
  | k + 1, acc, v => if v = root then some acc else
    match mt v with
    | none => none
    | some m => match bk m with
      | none => none
      | some x => wayLoop mt bk root k (acc ++ [m, x]) x
end Blo
set_option autoImplicit false
namespace Blo

/-- an inner way from a person to the base of his ring -/
inductive IC (adj : Nat → Nat → Prop) (mt bk : Nat → Option Nat) (bs : Nat → Nat) (b : Nat) : Nat → List Nat → Prop
  | nil : IC adj mt bk bs b b [b]
  | cons {v m x : Nat} {L : List Nat} : mt v = some m → bk m = some x → bs v = b → bs m = b → adj m x → v ∉ L → m ∉ L → IC adj mt bk bs b x L → IC adj mt bk bs b v (v :: m :: L)

section
variable {adj : Nat → Nat → Prop} {mt bk bk' : Nat → Option Nat} {bs bs' : Nat → Nat} {b v : Nat} {L : List Nat}
theorem IC.mem (hb : bs b = b) (h : IC adj mt bk bs b v L) : ∀ z ∈ L, bs z = b := by
  induction h with
  | nil => intro z hz; rw [List.mem_singleton.mp hz]; exact hb
  | cons _ _ h1 h2 _ _ _ _ ih =>
    intro z hz
    rcases List.mem_cons.mp hz with rfl | hz
    · exact h1
    · rcases List.mem_cons.mp hz with rfl | hz
      · exact h2
      · exact ih z hz
theorem IC.head (h : IC adj mt bk bs b v L) : v ∈ L := by
  cases h with
  | nil => exact List.mem_singleton.mpr rfl
  | cons => exact List.mem_cons_self
theorem IC.last (h : IC adj mt bk bs b v L) : b ∈ L := by
  induction h with
  | nil => exact List.mem_singleton.mpr rfl
  | cons _ _ _ _ _ _ _ _ ih => exact List.mem_cons_of_mem _ (List.mem_cons_of_mem _ ih)
/-- the way stands where the pointers of its ring stand -/
theorem IC.keep (c : Nat) (h1 : ∀ z, bs z = b → bk' z = bk z) (h2 : ∀ z, bs z = b → bs' z = c) (hbc : c = b) (h : IC adj mt bk bs b v L) : IC adj mt bk' bs' c v L := by
  subst hbc
  induction h with
  | nil => exact .nil
  | cons a1 a2 a3 a4 a5 a6 a7 _ ih => exact .cons a1 (by rw [h1 _ a4]; exact a2) (h2 _ a3) (h2 _ a4) a5 a6 a7 ih
end

structure Mat (n : Nat) (adj : Nat → Nat → Prop) (mt : Nat → Option Nat) : Prop where
  sym : ∀ u v, mt u = some v → mt v = some u
  adj : ∀ u v, mt u = some v → adj u v
structure Gr (n : Nat) (adj : Nat → Nat → Prop) : Prop where
  sym : ∀ u v, adj u v → adj v u
  irr : ∀ u, ¬ adj u u
  lt : ∀ u v, adj u v → u < n

structure Inv (n : Nat) (adj : Nat → Nat → Prop) (mt : Nat → Option Nat) (r : Nat) (S : St) (rk : Nat → Nat) : Prop where
  evr : S.even r = true
  lt : ∀ v, S.even v = true → v < n
  nd : S.left.Nodup
  mem : ∀ v, v ∈ S.left ↔ S.even v = true
  odd0 : ∀ v, S.even v = false → S.base v = v
  bev : ∀ v, S.even v = true → S.even (S.base v) = true
  bb : ∀ v, S.base (S.base v) = S.base v
  up : ∀ b, S.even b = true → S.base b = b → b ≠ r → ∃ o x, mt b = some o ∧ S.even o = false ∧ S.back o = some x ∧ S.even x = true ∧ adj o x ∧ rk (S.base x) < rk b
  odd : ∀ o x, S.even o = false → S.back o = some x → ∃ b, mt o = some b ∧ S.even b = true ∧ S.base b = b
  ic : ∀ v, S.even v = true → ∃ L, IC adj mt S.back S.base (S.base v) v L

section
variable {n : Nat} {adj : Nat → Nat → Prop} {mt : Nat → Option Nat} {r : Nat} {S : St} {rk : Nat → Nat}

theorem Inv.start (hr : r < n) : Inv n adj mt r (start r) (fun _ => 0) where
  evr := by simp [Blo.start]
  lt := fun v h => by simp [Blo.start] at h; omega
  nd := by simp [Blo.start]
  mem := fun v => by simp [Blo.start]
  odd0 := fun v _ => rfl
  bev := fun v h => h
  bb := fun v => rfl
  up := fun b h _ hn => by simp [Blo.start] at h; exact absurd h hn
  odd := fun o x _ h => by simp [Blo.start] at h
  ic := fun v _ => ⟨[v], .nil⟩

/-- an even person: the base of his ring, or his mate is in the ring, too -/
theorem Inv.mate (I : Inv n adj mt r S rk) {v m : Nat} (hv : S.even v = true) (hb : S.base v ≠ v) (hm : mt v = some m) : S.base m = S.base v ∧ S.even m = true ∧ m ≠ S.base v := by
  obtain ⟨L, h⟩ := I.ic v hv
  generalize hbv : S.base v = b at *
  cases h with
  | nil => exact absurd hbv (by rw [hbv]; exact hb)
  | cons a1 a2 a3 a4 a5 a6 a7 a8 =>
    rw [hm] at a1
    cases a1
    refine ⟨a4, ?_, ?_⟩
    · cases e : S.even m with
      | true => rfl
      | false =>
        have := I.odd0 m e
        have h2 := I.bev v hv
        rw [hbv, ← a4, this, e] at h2
        exact absurd h2 (by decide)
    · intro e
      exact a7 (e ▸ a8.last)
theorem Inv.has (I : Inv n adj mt r S rk) {v : Nat} (hv : S.even v = true) (hb : S.base v ≠ v) : ∃ m, mt v = some m := by
  obtain ⟨L, h⟩ := I.ic v hv
  generalize hbv : S.base v = b at *
  cases h with
  | nil => exact absurd hbv (by rw [hbv]; exact hb)
  | cons a1 _ _ _ _ _ _ _ => exact ⟨_, a1⟩
theorem Inv.root (I : Inv n adj mt r S rk) (hr : mt r = none) : S.base r = r := by
  by_cases e : S.base r = r
  · exact e
  · obtain ⟨m, hm⟩ := I.has I.evr e
    rw [hr] at hm
    cases hm

/-! ### one more mate -/
theorem Inv.grow (G : Gr n adj) (M : Mat n adj mt) (hr : mt r = none) (I : Inv n adj mt r S rk) {one w m : Nat} (h1 : S.even one = true) (hw : S.even w = false) (ha : adj one w) (hb : S.back w = none) (hm : mt w = some m) :
    S.even m = false ∧ Inv n adj mt r { S with back := put S.back w (some one), even := put S.even m true, left := S.left ++ [m] } (put rk m (rk (S.base one) + 1)) := by
  have hmw := M.sym w m hm
  have em : S.even m = false := by
    cases e : S.even m with
    | false => rfl
    | true =>
      exfalso
      by_cases hbm : S.base m = m
      · have hmr : m ≠ r := fun q => by rw [q, hr] at hmw; cases hmw
        obtain ⟨o, x, q1, _, q3, _⟩ := I.up m e hbm hmr
        rw [hmw] at q1
        cases q1
        rw [hb] at q3
        cases q3
      · have q := (I.mate e hbm hmw).2.1
        rw [hw] at q
        cases q
  have hwm : w ≠ m := fun q => G.irr w (by have := M.adj w m hm; rw [← q] at this; exact this)
  have hbm : S.base m = m := I.odd0 m em
  have evp : ∀ v, put S.even m true v = true ↔ S.even v = true ∨ v = m := fun v => by
    by_cases q : v = m
    · rw [q, put_same]; simp
    · rw [put_ne _ _ q]; simp [q]
  have evn : ∀ v, put S.even m true v = false → S.even v = false ∧ v ≠ m := fun v h => by
    by_cases q : v = m
    · rw [q, put_same] at h; cases h
    · rw [put_ne _ _ q] at h; exact ⟨h, q⟩
  have bne : ∀ v, S.even v = true → S.base v ≠ m := fun v h q => by
    have := I.bev v h
    rw [q, em] at this
    cases this
  refine ⟨em, ?_, ?_, ?_, ?_, ?_, ?_, ?_, ?_, ?_, ?_⟩
  · exact (evp r).mpr (.inl I.evr)
  · intro v h
    rcases (evp v).mp h with q | q
    · exact I.lt v q
    · rw [q]; exact G.lt m w (M.adj m w hmw)
  · show (S.left ++ [m]).Nodup
    rw [List.nodup_append]
    refine ⟨I.nd, List.nodup_cons.mpr ⟨List.not_mem_nil, List.nodup_nil⟩, fun a ha b hb q => ?_⟩
    rw [List.mem_singleton.mp hb] at q
    rw [q] at ha
    have := (I.mem m).mp ha
    rw [em] at this
    cases this
  · intro v
    show v ∈ S.left ++ [m] ↔ put S.even m true v = true
    rw [evp, List.mem_append, List.mem_singleton, I.mem]
  · exact fun v h => I.odd0 v (evn v h).1
  · intro v h
    show put S.even m true (S.base v) = true
    rcases (evp v).mp h with q | q
    · exact (evp _).mpr (.inl (I.bev v q))
    · rw [q, hbm]; exact (evp _).mpr (.inr rfl)
  · exact I.bb
  · intro b h hb2 hnr
    rcases (evp b).mp h with q | q
    · obtain ⟨o, x, q1, q2, q3, q4, q5, q6⟩ := I.up b q hb2 hnr
      have hbw : b ≠ m := fun z => by rw [z, em] at q; cases q
      have how : o ≠ w := fun z => by
        rw [z] at q1
        have := M.sym _ _ q1
        rw [hm] at this
        cases this
        exact hbw rfl
      have hom : o ≠ m := fun z => by
        rw [z] at q1
        have := M.sym _ _ q1
        rw [hmw] at this
        cases this
        rw [hw] at q
        cases q
      refine ⟨o, x, q1, ?_, ?_, (evp x).mpr (.inl q4), q5, ?_⟩
      · show put S.even m true o = false
        rw [put_ne _ _ hom]; exact q2
      · show put S.back w (some one) o = some x
        rw [put_ne _ _ how]; exact q3
      · rw [put_ne _ _ hbw, put_ne _ _ (bne x q4)]; exact q6
    · refine ⟨w, one, by rw [q]; exact hmw, ?_, ?_, (evp one).mpr (.inl h1), G.sym _ _ ha, ?_⟩
      · show put S.even m true w = false
        rw [put_ne _ _ hwm]; exact hw
      · exact put_same _ _ _
      · rw [q, put_same, put_ne _ _ (bne one h1)]; omega
  · intro o x h1' h2'
    obtain ⟨q1, q2⟩ := evn o h1'
    have h2' : put S.back w (some one) o = some x := h2'
    by_cases how : o = w
    · exact ⟨m, by rw [how]; exact hm, (evp m).mpr (.inr rfl), hbm⟩
    · rw [put_ne _ _ how] at h2'
      obtain ⟨b, z1, z2, z3⟩ := I.odd o x q1 h2'
      exact ⟨b, z1, (evp b).mpr (.inl z2), z3⟩
  · intro v h
    rcases (evp v).mp h with q | q
    · obtain ⟨L, hL⟩ := I.ic v q
      refine ⟨L, hL.keep (S.base v) (fun z hz => ?_) (fun z hz => hz) rfl⟩
      refine put_ne _ _ fun e => ?_
      have := I.bev v q
      rw [← hz, e, I.odd0 w hw, hw] at this
      cases this
    · refine ⟨[v], ?_⟩
      show IC adj mt _ S.base (S.base v) v [v]
      rw [q, hbm]
      exact .nil
end
end Blo
set_option autoImplicit false
namespace Blo

/-! ### counting -/
theorem len_le_of_sub {l l' : List Nat} (hn : l.Nodup) (hs : ∀ x ∈ l, x ∈ l') : l.length ≤ l'.length := by
  induction l generalizing l' with
  | nil => exact Nat.zero_le _
  | cons a l ih =>
    obtain ⟨h1, h2⟩ := List.nodup_cons.mp hn
    have ha := hs a List.mem_cons_self
    have h3 : l.length ≤ (l'.erase a).length := ih h2 fun x hx => by
      have hxa : x ≠ a := fun e => h1 (e ▸ hx)
      exact (List.mem_erase_of_ne hxa).mpr (hs x (List.mem_cons_of_mem _ hx))
    rw [List.length_erase_of_mem ha] at h3
    have : 0 < l'.length := List.length_pos_of_mem ha
    simp only [List.length_cons]
    omega
theorem len_le_n {l : List Nat} {n : Nat} (hn : l.Nodup) (hs : ∀ x ∈ l, x < n) : l.length ≤ n := by
  have := len_le_of_sub (l' := List.range n) hn fun x hx => List.mem_range.mpr (hs x hx)
  rwa [List.length_range] at this

/-! ### the bases from a ring to the root -/
inductive Up (mt bk : Nat → Option Nat) (bs : Nat → Nat) (rb : Nat) : Nat → List Nat → Prop
  | nil : Up mt bk bs rb rb [rb]
  | cons {b o x : Nat} {L : List Nat} : b ≠ rb → mt b = some o → bk o = some x → Up mt bk bs rb (bs x) L → Up mt bk bs rb b (b :: L)
section
variable {mt bk : Nat → Option Nat} {bs : Nat → Nat} {rb b : Nat} {L met : List Nat}
theorem Up.head (h : Up mt bk bs rb b L) : ∃ T, L = b :: T := by
  cases h with
  | nil => exact ⟨_, rfl⟩
  | cons => exact ⟨_, rfl⟩
theorem Up.last (h : Up mt bk bs rb b L) : rb ∈ L := by
  induction h with
  | nil => exact List.mem_singleton.mpr rfl
  | cons _ _ _ _ ih => exact List.mem_cons_of_mem _ ih
theorem Up.tail (h : Up mt bk bs rb b L) : ∀ pre z post, L = pre ++ z :: post → Up mt bk bs rb z (z :: post) := by
  induction h with
  | nil =>
    intro pre z post e
    cases pre with
    | nil =>
      cases e
      exact .nil
    | cons a pre =>
      exfalso
      have := congrArg List.length e
      simp at this
  | cons h1 h2 h3 h4 ih =>
    intro pre z post e
    cases pre with
    | nil =>
      cases e
      exact .cons h1 h2 h3 h4
    | cons a pre =>
      exact ih pre z post (List.cons.inj e).2
theorem Up.meet (h : Up mt bk bs rb b L) : ∀ (k : Nat) (acc : List Nat), L.length ≤ k → meetUp mt bk bs rb k acc b = some (acc ++ L.tail) := by
  induction h with
  | nil =>
    intro k acc hk
    cases k with
    | zero => simp at hk
    | succ k => simp [meetUp]
  | @cons b o x L h1 h2 h3 h4 ih =>
    intro k acc hk
    cases k with
    | zero => simp at hk
    | succ k =>
      simp only [List.length_cons] at hk
      obtain ⟨T, rfl⟩ := h4.head
      simp only [meetUp, if_neg h1, h2, h3]
      rw [ih k _ (by omega)]
      simp
theorem Up.down (h : Up mt bk bs rb b L) (hm : rb ∈ met) : ∀ k : Nat, L.length ≤ k → ∃ pre top post, L = pre ++ top :: post ∧ meetDown mt bk bs met k b = some top ∧ top ∈ met ∧ ∀ z ∈ pre, z ∉ met := by
  induction h with
  | nil =>
    intro k hk
    cases k with
    | zero => simp at hk
    | succ k => exact ⟨[], rb, [], rfl, by simp [meetDown, hm], hm, fun z hz => nomatch hz⟩
  | @cons b o x L h1 h2 h3 h4 ih =>
    intro k hk
    cases k with
    | zero => simp at hk
    | succ k =>
      simp only [List.length_cons] at hk
      by_cases hb : b ∈ met
      · exact ⟨[], b, L, rfl, by simp [meetDown, hb], hb, fun z hz => nomatch hz⟩
      · obtain ⟨pre, top, post, e, e2, e3, e4⟩ := ih k (by omega)
        refine ⟨b :: pre, top, post, by rw [e]; rfl, ?_, e3, ?_⟩
        · simp only [meetDown, if_neg hb, h2, h3]
          exact e2
        · intro z hz
          rcases List.mem_cons.mp hz with rfl | hz
          · exact hb
          · exact e4 z hz
end
section
variable {n : Nat} {adj : Nat → Nat → Prop} {mt : Nat → Option Nat} {r : Nat} {S : St} {rk : Nat → Nat}
theorem Inv.chain (I : Inv n adj mt r S rk) : ∀ (k b : Nat), rk b ≤ k → S.even b = true → S.base b = b →
    ∃ L, Up mt S.back S.base r b L ∧ L.Nodup ∧ ∀ z ∈ L, S.even z = true ∧ S.base z = z ∧ rk z ≤ rk b := by
  intro k
  induction k with
  | zero =>
    intro b hk he hb
    by_cases hr : b = r
    · subst hr
      exact ⟨[b], .nil, by simp, fun z hz => by rw [List.mem_singleton.mp hz]; exact ⟨he, hb, Nat.le_refl _⟩⟩
    · obtain ⟨o, x, _, _, _, _, _, q⟩ := I.up b he hb hr
      omega
  | succ k ih =>
    intro b hk he hb
    by_cases hr : b = r
    · subst hr
      exact ⟨[b], .nil, by simp, fun z hz => by rw [List.mem_singleton.mp hz]; exact ⟨he, hb, Nat.le_refl _⟩⟩
    · obtain ⟨o, x, q1, q2, q3, q4, q5, q6⟩ := I.up b he hb hr
      obtain ⟨L, h1, h2, h3⟩ := ih (S.base x) (by omega) (I.bev x q4) (I.bb x)
      refine ⟨b :: L, .cons hr q1 q3 h1, List.nodup_cons.mpr ⟨fun hm => ?_, h2⟩, fun z hz => ?_⟩
      · have := (h3 b hm).2.2
        omega
      · rcases List.mem_cons.mp hz with rfl | hz
        · exact ⟨he, hb, Nat.le_refl _⟩
        · have := h3 z hz
          exact ⟨this.1, this.2.1, by omega⟩
end

/-! ### the walk up to a ring -/
inductive RW (adj : Nat → Nat → Prop) (mt bk : Nat → Option Nat) (bs : Nat → Nat) (top : Nat) : Nat → List Nat → Nat → Prop
  | nil {v : Nat} : bs v = top → RW adj mt bk bs top v [] v
  | cons {v m x t : Nat} {Q : List Nat} : bs v ≠ top → mt v = some m → bk m = some x → adj m x → v ∉ Q → m ∉ Q → v ≠ m → RW adj mt bk bs top x Q t → RW adj mt bk bs top v (v :: m :: Q) t

def setB : Nat → List Nat → (Nat → Option Nat) → (Nat → Option Nat)
  | h, v :: m :: Q, f => setB m Q (put f v (some h))
  | _, _, f => f
/-- the new pointers on a walk: turned round at the people whom it comes to, as before at their mates -/
def Bk (bk bkN : Nat → Option Nat) : Nat → List Nat → Prop
  | h, v :: m :: Q => bkN v = some h ∧ bkN m = bk m ∧ Bk bk bkN m Q
  | _, _ => True

theorem setB_out : ∀ (h : Nat) (Q : List Nat) (f : Nat → Option Nat) (z : Nat), z ∉ Q → setB h Q f z = f z
  | h, [], f, z, _ => rfl
  | h, [a], f, z, _ => rfl
  | h, v :: m :: Q, f, z, hz => by
    have h1 : z ≠ v := fun e => hz (by simp [e])
    have h2 : z ∉ Q := fun e => hz (by simp [e])
    rw [setB, setB_out m Q _ z h2, put_ne _ _ h1]
theorem Bk.congr {bk bkN bkM : Nat → Option Nat} : ∀ {h : Nat} {Q : List Nat}, Bk bk bkN h Q → (∀ z ∈ Q, bkM z = bkN z) → Bk bk bkM h Q
  | h, [], _, _ => trivial
  | h, [a], _, _ => trivial
  | h, v :: m :: Q, b, e => ⟨by rw [e v (by simp)]; exact b.1, by rw [e m (by simp)]; exact b.2.1, b.2.2.congr fun z hz => e z (by simp [hz])⟩
theorem setB_bk {bk : Nat → Option Nat} : ∀ (h : Nat) (Q : List Nat) (f : Nat → Option Nat), Q.Nodup → (∀ z ∈ Q, f z = bk z) → Bk bk (setB h Q f) h Q
  | h, [], f, _, _ => trivial
  | h, [a], f, _, _ => trivial
  | h, v :: m :: Q, f, hn, hf => by
    obtain ⟨h1, h2⟩ := List.nodup_cons.mp hn
    obtain ⟨h3, h4⟩ := List.nodup_cons.mp h2
    have hvm : m ≠ v := fun e => h1 (by simp [e])
    have hvQ : v ∉ Q := fun e => h1 (by simp [e])
    refine ⟨?_, ?_, ?_⟩
    · rw [setB, setB_out _ _ _ _ hvQ, put_same]
    · rw [setB, setB_out _ _ _ _ h3, put_ne _ _ hvm]
      exact hf m (by simp)
    · rw [setB]
      refine setB_bk m Q _ h4 fun z hz => ?_
      rw [put_ne _ _ (fun e : z = v => hvQ (e ▸ hz))]
      exact hf z (by simp [hz])

section
variable {adj : Nat → Nat → Prop} {mt bk bkN : Nat → Option Nat} {bs bsN : Nat → Nat} {top v t : Nat} {Q : List Nat}
theorem RW.nodup (h : RW adj mt bk bs top v Q t) : Q.Nodup := by
  induction h with
  | nil => exact List.nodup_nil
  | cons _ _ _ _ h1 h2 h3 _ ih =>
    refine List.nodup_cons.mpr ⟨fun hm => ?_, List.nodup_cons.mpr ⟨h2, ih⟩⟩
    rcases List.mem_cons.mp hm with e | e
    · exact h3 e
    · exact h1 e
theorem RW.mate (hs : ∀ u v, mt u = some v → mt v = some u) (h : RW adj mt bk bs top v Q t) : ∀ z ∈ Q, ∀ y, mt z = some y → y ∈ Q := by
  induction h with
  | nil => intro z hz; nomatch hz
  | @cons v m x t Q _ a1 _ _ _ _ _ _ ih =>
    intro z hz y hy
    rcases List.mem_cons.mp hz with rfl | hz
    · rw [a1] at hy; cases hy; simp
    · rcases List.mem_cons.mp hz with rfl | hz
      · have := hs _ _ a1
        rw [this] at hy; cases hy; simp
      · simp [ih z hz y hy]
theorem RW.mark (h : RW adj mt bk bs top v Q t) : ∀ (k : Nat) (f : Nat → Option Nat) (wi : List Nat) (hd : Nat), Q.length < k → (∀ z ∈ Q, f z = bk z) → markWalk mt bs top k f wi v hd = some (setB hd Q f, wi ++ Q.map bs) := by
  induction h with
  | nil h =>
    intro k f wi hd hk hf
    cases k with
    | zero => simp at hk
    | succ k => simp [markWalk, h, setB]
  | @cons v m x t Q h1 h2 h3 h4 h5 h6 h7 h8 ih =>
    intro k f wi hd hk hf
    cases k with
    | zero => simp at hk
    | succ k =>
      simp only [List.length_cons] at hk
      have e1 : put f v (some hd) m = some x := by
        rw [put_ne _ _ (Ne.symm h7), hf m (by simp)]
        exact h3
      simp only [markWalk, if_neg h1, h2, e1]
      rw [ih k _ _ _ (by omega) fun z hz => by
        rw [put_ne _ _ (fun e : z = v => h5 (e ▸ hz))]
        exact hf z (by simp [hz])]
      simp [setB]
/-- forward: the way to the top as it was -/
theorem RW.fwd (h : RW adj mt bk bs top v Q t) : ∀ (hd : Nat), Bk bk bkN hd Q → (∀ z ∈ Q, bsN z = top) → ∀ Lt, IC adj mt bkN bsN top t Lt → (∀ z ∈ Q, z ∉ Lt) → IC adj mt bkN bsN top v (Q ++ Lt) := by
  induction h with
  | nil h => intro hd _ _ Lt hL _; exact hL
  | @cons v m x t Q h1 h2 h3 h4 h5 h6 h7 h8 ih =>
    intro hd hB hb Lt hL hd2
    obtain ⟨_, b2, b3⟩ := hB
    refine .cons h2 (by rw [b2]; exact h3) (hb v (by simp)) (hb m (by simp)) h4 ?_ ?_ (ih m b3 (fun z hz => hb z (by simp [hz])) Lt hL fun z hz => hd2 z (by simp [hz]))
    · intro hm
      rcases List.mem_append.mp hm with e | e
      · exact h5 e
      · exact hd2 v (by simp) e
    · intro hm
      rcases List.mem_append.mp hm with e | e
      · exact h6 e
      · exact hd2 m (by simp) e
/-- all on the walk have a way now -/
theorem RW.ring (hs : ∀ u v, mt u = some v → mt v = some u) (ha : ∀ u v, adj u v → adj v u) (h : RW adj mt bk bs top v Q t) :
    ∀ (hd : Nat) (Lh : List Nat), Bk bk bkN hd Q → (∀ z ∈ Q, bsN z = top) → ∀ Lt, IC adj mt bkN bsN top t Lt → (∀ z ∈ Q, z ∉ Lt) → adj v hd → IC adj mt bkN bsN top hd Lh → (∀ z ∈ Q, z ∉ Lh) →
      ∀ z ∈ Q, ∃ L, IC adj mt bkN bsN top z L ∧ ∀ y ∈ L, y ∈ Q ∨ y ∈ Lh ∨ y ∈ Lt := by
  induction h with
  | nil h => intro _ _ _ _ _ _ _ _ _ _ z hz; nomatch hz
  | @cons v m x t Q h1 h2 h3 h4 h5 h6 h7 h8 ih =>
    intro hd Lh hB hb Lt hL hd2 hav hLh hd3 z hz
    have hF := RW.fwd (.cons h1 h2 h3 h4 h5 h6 h7 h8) hd hB hb Lt hL hd2
    obtain ⟨b1, b2, b3⟩ := hB
    have hM : IC adj mt bkN bsN top m (m :: v :: Lh) := .cons (hs _ _ h2) b1 (hb m (by simp)) (hb v (by simp)) hav (hd3 m (by simp)) (hd3 v (by simp)) hLh
    rcases List.mem_cons.mp hz with rfl | hz
    · exact ⟨_, hF, fun y hy => by
        rcases List.mem_append.mp hy with e | e
        · exact .inl e
        · exact .inr (.inr e)⟩
    · rcases List.mem_cons.mp hz with rfl | hz
      · refine ⟨_, hM, fun y hy => ?_⟩
        rcases List.mem_cons.mp hy with rfl | hy
        · exact .inl (by simp)
        · rcases List.mem_cons.mp hy with rfl | hy
          · exact .inl (by simp)
          · exact .inr (.inl hy)
      · obtain ⟨L, q1, q2⟩ := ih m (m :: v :: Lh) b3 (fun z hz => hb z (by simp [hz])) Lt hL (fun z hz => hd2 z (by simp [hz])) (ha _ _ h4) hM (fun y hy hm => by
          rcases List.mem_cons.mp hm with e | hm
          · exact h6 (e ▸ hy)
          · rcases List.mem_cons.mp hm with e | hm
            · exact h5 (e ▸ hy)
            · exact hd3 y (by simp [hy]) hm) z hz
        refine ⟨L, q1, fun y hy => ?_⟩
        rcases q2 y hy with e | e | e
        · exact .inl (by simp [e])
        · rcases List.mem_cons.mp e with rfl | e
          · exact .inl (by simp)
          · rcases List.mem_cons.mp e with rfl | e
            · exact .inl (by simp)
            · exact .inr (.inl e)
        · exact .inr (.inr e)
end
end Blo
set_option autoImplicit false
namespace Blo

section
variable {n : Nat} {adj : Nat → Nat → Prop} {mt : Nat → Option Nat} {r : Nat} {S : St} {rk : Nat → Nat}

/-- what is known of a walk from a person up to the ring of top; pre: the bases passed -/
structure Walked (adj : Nat → Nat → Prop) (mt : Nat → Option Nat) (S : St) (top v : Nat) (pre Q : List Nat) (t : Nat) : Prop where
  rw_ : RW adj mt S.back S.base top v Q t
  ev : S.even t = true
  bt : S.base t = top
  on : ∀ q ∈ Q, (S.even q = true ∧ S.base q ∈ pre) ∨ (S.even q = false ∧ ∃ b ∈ pre, mt q = some b)
  has : ∀ b ∈ pre, b ∈ Q ∧ ∀ o, mt b = some o → o ∈ Q

theorem Inv.icEven (I : Inv n adj mt r S rk) {b v : Nat} {L : List Nat} (hb : S.base b = b) (he : S.even b = true) (h : IC adj mt S.back S.base b v L) : ∀ z ∈ L, S.even z = true := by
  intro z hz
  have h1 := h.mem hb z hz
  cases e : S.even z with
  | true => rfl
  | false =>
    have h2 := I.odd0 z e
    rw [h1] at h2
    rw [← h2, he] at e
    cases e
theorem IC.step {bk : Nat → Option Nat} {bs : Nat → Nat} {top b v : Nat} {L : List Nat} (hbt : b ≠ top) (h : IC adj mt bk bs b v L) :
    ∀ {o x t : Nat} {Q : List Nat}, bs b = b → mt b = some o → bk o = some x → adj o x → (∀ z ∈ L, z ∉ Q) → o ∉ Q → (∀ z ∈ L, z ≠ o) → RW adj mt bk bs top x Q t → (∀ z, mt z ≠ some z) → RW adj mt bk bs top v (L ++ o :: Q) t := by
  induction h with
  | nil =>
    intro o x t Q h0 h1 h2 h3 h4 h5 h6 h7 _
    exact .cons (by rw [h0]; exact hbt) h1 h2 h3 (h4 b (by simp)) h5 (h6 b (by simp)) h7
  | @cons v m y L a1 a2 a3 a4 a5 a6 a7 a8 ih =>
    intro o x t Q h0 h1 h2 h3 h4 h5 h6 h7 h8
    refine .cons (by rw [a3]; exact hbt) a1 a2 a5 ?_ ?_ (fun e => h8 v (by rw [e] at a1 ⊢; exact a1)) (ih h0 h1 h2 h3 (fun z hz => h4 z (by simp [hz])) h5 (fun z hz => h6 z (by simp [hz])) h7 h8)
    · intro hm
      rcases List.mem_append.mp hm with e | e
      · exact a6 e
      · rcases List.mem_cons.mp e with e | e
        · exact h6 v (by simp) e
        · exact h4 v (by simp) e
    · intro hm
      rcases List.mem_append.mp hm with e | e
      · exact a7 e
      · rcases List.mem_cons.mp e with e | e
        · exact h6 m (by simp) e
        · exact h4 m (by simp) e

theorem Inv.walk (G : Gr n adj) (M : Mat n adj mt) (hr : mt r = none) (I : Inv n adj mt r S rk) {top : Nat} : ∀ (pre post : List Nat) (v : Nat), S.even v = true → Up mt S.back S.base r (S.base v) (pre ++ top :: post) →
    (pre ++ top :: post).Nodup → ∃ Q t, Walked adj mt S top v pre Q t := by
  have hself : ∀ z, mt z ≠ some z := fun z e => G.irr z (M.adj _ _ e)
  intro pre
  induction pre with
  | nil =>
    intro post v hv hU hn
    obtain ⟨T, hT⟩ := hU.head
    have e : S.base v = top := (List.cons.inj hT).1.symm
    exact ⟨[], v, .nil e, hv, e, (fun q hq => nomatch hq), fun b hb => nomatch hb⟩
  | cons b pre ih =>
    intro post v hv hU hn
    obtain ⟨hn1, hn2⟩ := List.nodup_cons.mp hn
    have hbt : b ≠ top := fun e => hn1 (by rw [e]; simp)
    have hbp : b ∉ pre := fun e => hn1 (by simp [e])
    generalize hbv : S.base v = bv at hU
    generalize hL0 : b :: pre ++ top :: post = L0 at hU
    cases hU with
    | nil =>
      exfalso
      have := congrArg List.length hL0
      simp at this
    | @cons _ o x L c1 c2 c3 c4 =>
      obtain ⟨e1, e2⟩ := List.cons.inj hL0
      subst e1
      subst e2
      have heb : S.even b = true := by rw [← hbv]; exact I.bev v hv
      have hbb : S.base b = b := by rw [← hbv]; exact I.bb v
      obtain ⟨o', x', q1, q2, q3, q4, q5, q6⟩ := I.up b heb hbb c1
      rw [c2] at q1
      cases q1
      rw [c3] at q3
      cases q3
      obtain ⟨Q, t, W⟩ := ih post x q4 c4 hn2
      obtain ⟨L, hL⟩ := I.ic v hv
      rw [hbv] at hL
      have hLb := hL.mem hbb
      have hLe := I.icEven hbb heb hL
      have hLQ : ∀ z ∈ L, z ∉ Q := fun z hz hq => by
        rcases W.on z hq with ⟨_, h⟩ | ⟨h, _⟩
        · rw [hLb z hz] at h; exact hbp h
        · rw [hLe z hz] at h; cases h
      have hoQ : o ∉ Q := fun hq => by
        rcases W.on o hq with ⟨h, _⟩ | ⟨_, b', h1, h2⟩
        · rw [q2] at h; cases h
        · rw [M.sym _ _ c2] at h2
          cases h2
          exact hbp h1
      have hLo : ∀ z ∈ L, z ≠ o := fun z hz e => by
        have := hLe z hz
        rw [e, q2] at this
        cases this
      refine ⟨L ++ o :: Q, t, hL.step hbt hbb c2 c3 q5 hLQ hoQ hLo W.rw_ hself, W.ev, W.bt, fun q hq => ?_, fun b' hb' => ?_⟩
      · rcases List.mem_append.mp hq with e | e
        · exact .inl ⟨hLe q e, by rw [hLb q e]; simp⟩
        · rcases List.mem_cons.mp e with rfl | e
          · exact .inr ⟨q2, b, by simp, M.sym _ _ c2⟩
          · rcases W.on q e with ⟨h1, h2⟩ | ⟨h1, b', h2, h3⟩
            · exact .inl ⟨h1, by simp [h2]⟩
            · exact .inr ⟨h1, b', by simp [h2], h3⟩
      · rcases List.mem_cons.mp hb' with rfl | hb'
        · refine ⟨List.mem_append_left _ hL.last, fun y hy => ?_⟩
          rw [c2] at hy
          cases hy
          simp
        · obtain ⟨h1, h2⟩ := W.has b' hb'
          exact ⟨by simp [h1], fun y hy => by simp [h2 y hy]⟩

/-- what a step of the search leaves -/
structure Ext (S S' : St) : Prop where
  beq : ∀ u v, S.base u = S.base v → S'.base u = S'.base v
  ev : ∀ v, S.even v = true → S'.even v = true
  bk : ∀ v, S.back v ≠ none → S'.back v ≠ none
  left : ∃ T, S'.left = S.left ++ T
theorem Ext.refl (S : St) : Ext S S := ⟨fun _ _ h => h, fun _ h => h, fun _ h => h, [], by simp⟩
theorem Ext.trans {S S1 S2 : St} (a : Ext S S1) (b : Ext S1 S2) : Ext S S2 := by
  obtain ⟨T, h⟩ := a.left
  obtain ⟨T', h'⟩ := b.left
  exact ⟨fun u v e => b.beq u v (a.beq u v e), fun v e => b.ev v (a.ev v e), fun v e => b.bk v (a.bk v e), T ++ T', by rw [h', h, List.append_assoc]⟩
theorem setB_some : ∀ (h : Nat) (Q : List Nat) (f : Nat → Option Nat) (z : Nat), f z ≠ none → setB h Q f z ≠ none
  | h, [], f, z, e => e
  | h, [a], f, z, e => e
  | h, v :: m :: Q, f, z, e => by
    rw [setB]
    refine setB_some m Q _ z ?_
    by_cases q : z = v
    · rw [q, put_same]; exact fun x => nomatch x
    · rw [put_ne _ _ q]; exact e

theorem Inv.shrink (G : Gr n adj) (M : Mat n adj mt) (hr : mt r = none) (I : Inv n adj mt r S rk) {one w k : Nat} (hk : n < k) (h1 : S.even one = true) (h2 : S.even w = true) (ha : adj one w) :
    ∃ S', Blo.shrink n mt r k S one w = some S' ∧ Inv n adj mt r S' rk ∧ Ext S S' ∧ S'.base one = S'.base w := by
  obtain ⟨L1, U1, N1, E1⟩ := I.chain _ (S.base one) (Nat.le_refl _) (I.bev _ h1) (I.bb _)
  obtain ⟨L2, U2, N2, E2⟩ := I.chain _ (S.base w) (Nat.le_refl _) (I.bev _ h2) (I.bb _)
  have hrb := I.root hr
  have len1 : L1.length ≤ n := len_le_n N1 fun z hz => I.lt z (E1 z hz).1
  have len2 : L2.length ≤ n := len_le_n N2 fun z hz => I.lt z (E2 z hz).1
  obtain ⟨T1, eT1⟩ := U1.head
  have mu := U1.meet k [S.base one] (by omega)
  have emet : [S.base one] ++ L1.tail = L1 := by rw [eT1]; rfl
  rw [emet] at mu
  obtain ⟨pre2, top, post2, eL2, md, hm1, hp2⟩ := U2.down (met := L1) U1.last k (by omega)
  obtain ⟨pre1, post1, eL1⟩ := List.append_of_mem hm1
  have hmeet : meeting mt S.back S.base k r one w = some top := by
    unfold meeting
    rw [hrb, mu]
    exact md
  rw [eL1] at U1 N1
  rw [eL2] at U2 N2
  obtain ⟨Q1, t1, W1⟩ := I.walk G M hr pre1 post1 one h1 U1 N1
  obtain ⟨Q2, t2, W2⟩ := I.walk G M hr pre2 post2 w h2 U2 N2
  have hset : S.even top = true := (E1 top hm1).1
  have hbt : S.base top = top := (E1 top hm1).2.1
  have inL1 : ∀ b ∈ pre1, S.even b = true ∧ S.base b = b ∧ b ≠ top ∧ b ∈ L1 := fun b hb => by
    have hb' : b ∈ L1 := by rw [eL1]; simp [hb]
    refine ⟨(E1 b hb').1, (E1 b hb').2.1, fun e => ?_, hb'⟩
    rw [List.nodup_append] at N1
    exact N1.2.2 b hb top (by simp) e
  have inL2 : ∀ b ∈ pre2, S.even b = true ∧ S.base b = b ∧ b ≠ top := fun b hb => by
    have hb' : b ∈ L2 := by rw [eL2]; simp [hb]
    refine ⟨(E2 b hb').1, (E2 b hb').2.1, fun e => ?_⟩
    rw [List.nodup_append] at N2
    exact N2.2.2 b hb top (by simp) e
  have disj : ∀ q ∈ Q1, q ∉ Q2 := fun q a b => by
    rcases W1.on q a with ⟨e1, e2⟩ | ⟨e1, b1, e2, e3⟩
    · rcases W2.on q b with ⟨_, f2⟩ | ⟨f1, _⟩
      · exact hp2 _ f2 (inL1 _ e2).2.2.2
      · rw [e1] at f1; cases f1
    · rcases W2.on q b with ⟨f1, _⟩ | ⟨_, b2, f2, f3⟩
      · rw [e1] at f1; cases f1
      · rw [e3] at f3
        cases f3
        exact hp2 _ f2 (inL1 _ e2).2.2.2
  -- ranks fall along the chains
  have rkTop : ∀ L b, Up mt S.back S.base r b L → S.even b = true → S.base b = b → ∀ z ∈ L, z ≠ b → rk z < rk b := by
    intro L b hU
    induction hU with
    | nil => intro _ _ z hz hne; exact absurd (List.mem_singleton.mp hz) hne
    | @cons b o x L c1 c2 c3 c4 ih =>
      intro he hb z hz hne
      obtain ⟨o', x', q1, _, q3, q4, _, q6⟩ := I.up b he hb c1
      rw [c2] at q1; cases q1
      rw [c3] at q3; cases q3
      rcases List.mem_cons.mp hz with e | hz
      · exact absurd e hne
      · by_cases e : z = S.base x
        · rw [e]; exact q6
        · have := ih (I.bev x q4) (I.bb x) z hz e
          omega
  have rk1 : ∀ b ∈ pre1, rk top < rk b := fun b hb => by
    obtain ⟨p, q, e⟩ := List.append_of_mem hb
    have hU := U1.tail p b (q ++ top :: post1) (by rw [e]; simp)
    exact rkTop _ _ hU (inL1 b hb).1 (inL1 b hb).2.1 top (by simp) (Ne.symm (inL1 b hb).2.2.1)
  have rk2 : ∀ b ∈ pre2, rk top < rk b := fun b hb => by
    obtain ⟨p, q, e⟩ := List.append_of_mem hb
    have hU := U2.tail p b (q ++ top :: post2) (by rw [e]; simp)
    exact rkTop _ _ hU (inL2 b hb).1 (inL2 b hb).2.1 top (by simp) (Ne.symm (inL2 b hb).2.2)
  -- the walks end
  have lt1 : ∀ q ∈ Q1, q < n := fun q a => by
    rcases W1.on q a with ⟨e1, _⟩ | ⟨_, b, _, e⟩
    · exact I.lt q e1
    · exact G.lt q b (M.adj _ _ e)
  have lt2 : ∀ q ∈ Q2, q < n := fun q a => by
    rcases W2.on q a with ⟨e1, _⟩ | ⟨_, b, _, e⟩
    · exact I.lt q e1
    · exact G.lt q b (M.adj _ _ e)
  have ql1 : Q1.length ≤ n := len_le_n W1.rw_.nodup lt1
  have ql2 : Q2.length ≤ n := len_le_n W2.rw_.nodup lt2
  have m1 := W1.rw_.mark k S.back [] w (by omega) fun _ _ => rfl
  have f2 : ∀ z ∈ Q2, setB w Q1 S.back z = S.back z := fun z hz => setB_out _ _ _ _ fun h => disj z h hz
  have m2 := W2.rw_.mark k (setB w Q1 S.back) ([] ++ Q1.map S.base) one (by omega) f2
  refine ⟨merge n top ([] ++ Q1.map S.base ++ Q2.map S.base) (setB one Q2 (setB w Q1 S.back)) S, ?_, ?_⟩
  · unfold Blo.shrink
    rw [hmeet]
    simp only [m1]
    rw [m2]
  generalize hbN : setB one Q2 (setB w Q1 S.back) = bkN
  have hwi : ([] ++ Q1.map S.base ++ Q2.map S.base : List Nat) = Q1.map S.base ++ Q2.map S.base := by simp
  rw [hwi]
  generalize hwie : Q1.map S.base ++ Q2.map S.base = wi
  have memwi : ∀ y, y ∈ wi ↔ ∃ q, (q ∈ Q1 ∨ q ∈ Q2) ∧ S.base q = y := fun y => by
    rw [← hwie, List.mem_append, List.mem_map, List.mem_map]
    constructor
    · rintro (⟨q, a, b⟩ | ⟨q, a, b⟩)
      · exact ⟨q, .inl a, b⟩
      · exact ⟨q, .inr a, b⟩
    · rintro ⟨q, a | a, b⟩
      · exact .inl ⟨q, a, b⟩
      · exact .inr ⟨q, a, b⟩
  have on : ∀ q, (q ∈ Q1 ∨ q ∈ Q2) → (S.even q = true ∧ (S.base q ∈ pre1 ∨ S.base q ∈ pre2)) ∨ (S.even q = false ∧ ∃ b, (b ∈ pre1 ∨ b ∈ pre2) ∧ mt q = some b) := fun q hq => by
    rcases hq with a | a
    · rcases W1.on q a with ⟨e1, e2⟩ | ⟨e1, b, e2, e3⟩
      · exact .inl ⟨e1, .inl e2⟩
      · exact .inr ⟨e1, b, .inl e2, e3⟩
    · rcases W2.on q a with ⟨e1, e2⟩ | ⟨e1, b, e2, e3⟩
      · exact .inl ⟨e1, .inr e2⟩
      · exact .inr ⟨e1, b, .inr e2, e3⟩
  have inL : ∀ b, (b ∈ pre1 ∨ b ∈ pre2) → S.even b = true ∧ S.base b = b ∧ b ≠ top ∧ rk top < rk b ∧ (b ∈ Q1 ∨ b ∈ Q2) ∧ ∀ o, mt b = some o → (o ∈ Q1 ∨ o ∈ Q2) := fun b hb => by
    rcases hb with a | a
    · exact ⟨(inL1 b a).1, (inL1 b a).2.1, (inL1 b a).2.2.1, rk1 b a, .inl (W1.has b a).1, fun o ho => .inl ((W1.has b a).2 o ho)⟩
    · exact ⟨(inL2 b a).1, (inL2 b a).2.1, (inL2 b a).2.2, rk2 b a, .inr (W2.has b a).1, fun o ho => .inr ((W2.has b a).2 o ho)⟩
  have mateQ : ∀ q, (q ∈ Q1 ∨ q ∈ Q2) → ∀ y, mt q = some y → (y ∈ Q1 ∨ y ∈ Q2) := fun q hq y hy => by
    rcases hq with a | a
    · exact .inl (W1.rw_.mate M.sym q a y hy)
    · exact .inr (W2.rw_.mate M.sym q a y hy)
  -- who is taken in
  have w1 : ∀ p, S.even p = true → S.base p ∈ wi → (S.base p ∈ pre1 ∨ S.base p ∈ pre2) := fun p hp hw => by
    obtain ⟨q, hq, e⟩ := (memwi _).mp hw
    rcases on q hq with ⟨_, b⟩ | ⟨a, _⟩
    · rw [← e]; exact b
    · exfalso
      have := I.odd0 q a
      rw [this] at e
      have h := I.bev p hp
      rw [← e, a] at h
      cases h
  have w2 : ∀ p, S.even p = false → S.base p ∈ wi → (p ∈ Q1 ∨ p ∈ Q2) := fun p hp hw => by
    obtain ⟨q, hq, e⟩ := (memwi _).mp hw
    rw [I.odd0 p hp] at e
    rcases on q hq with ⟨a, _⟩ | ⟨a, _⟩
    · exfalso
      have h := I.bev q a
      rw [e, hp] at h
      cases h
    · rw [I.odd0 q a] at e
      rw [← e]; exact hq
  have w3 : ∀ q, (q ∈ Q1 ∨ q ∈ Q2) → S.base q ∈ wi := fun q hq => (memwi _).mpr ⟨q, hq, rfl⟩
  have w4 : top ∉ wi := fun hw => by
    have := w1 top hset (by rw [hbt]; exact hw)
    rw [hbt] at this
    exact (inL top this).2.2.1 rfl
  -- the new bases
  have nb1 : ∀ v, S.base v ∈ wi → (if S.base v ∈ wi then top else S.base v) = top := fun v h => if_pos h
  have nb2 : ∀ v, S.base v ∉ wi → (if S.base v ∈ wi then top else S.base v) = S.base v := fun v h => if_neg h
  have nbt : ∀ v, S.base v = top → (if S.base v ∈ wi then top else S.base v) = top := fun v h => by rw [h, if_neg w4]
  have outQ : ∀ z, S.base z ∉ wi → bkN z = S.back z := fun z hz => by
    have a : z ∉ Q1 := fun h => hz (w3 z (.inl h))
    have b : z ∉ Q2 := fun h => hz (w3 z (.inr h))
    rw [← hbN, setB_out _ _ _ _ b, setB_out _ _ _ _ a]
  have evN : ∀ v, (S.even v || decide (S.base v ∈ wi)) = true ↔ S.even v = true ∨ S.base v ∈ wi := fun v => by simp
  have evF : ∀ v, (S.even v || decide (S.base v ∈ wi)) = false → S.even v = false ∧ S.base v ∉ wi := fun v h => by simpa using h
  -- ways within the ring of top
  have B1 : Bk S.back bkN w Q1 := (setB_bk w Q1 S.back W1.rw_.nodup fun _ _ => rfl).congr fun z hz => by rw [← hbN]; exact setB_out _ _ _ _ (disj z hz)
  have B2 : Bk S.back bkN one Q2 := by rw [← hbN]; exact setB_bk one Q2 _ W2.rw_.nodup f2
  have icTop : ∀ t, S.even t = true → S.base t = top → ∃ L, IC adj mt bkN (fun p => if S.base p ∈ wi then top else S.base p) top t L ∧ ∀ z ∈ L, S.base z = top := fun t ht hb => by
    obtain ⟨L, hL⟩ := I.ic t ht
    rw [hb] at hL
    exact ⟨L, hL.keep top (fun z hz => outQ z (by rw [hz]; exact w4)) (fun z hz => nbt z hz) rfl, hL.mem hbt⟩
  obtain ⟨Lt1, ic1, lt1'⟩ := icTop t1 W1.ev W1.bt
  obtain ⟨Lt2, ic2, lt2'⟩ := icTop t2 W2.ev W2.bt
  have offT : ∀ q, (q ∈ Q1 ∨ q ∈ Q2) → S.base q ≠ top := fun q hq e => w4 (by rw [← e]; exact w3 q hq)
  have bsQ1 : ∀ z ∈ Q1, (if S.base z ∈ wi then top else S.base z) = top := fun z hz => nb1 z (w3 z (.inl hz))
  have bsQ2 : ∀ z ∈ Q2, (if S.base z ∈ wi then top else S.base z) = top := fun z hz => nb1 z (w3 z (.inr hz))
  have F1 : IC adj mt bkN (fun p => if S.base p ∈ wi then top else S.base p) top one (Q1 ++ Lt1) := W1.rw_.fwd w B1 bsQ1 Lt1 ic1 fun z hz hm => offT z (.inl hz) (lt1' z hm)
  have F2 : IC adj mt bkN (fun p => if S.base p ∈ wi then top else S.base p) top w (Q2 ++ Lt2) := W2.rw_.fwd one B2 bsQ2 Lt2 ic2 fun z hz hm => offT z (.inr hz) (lt2' z hm)
  have onRing : ∀ z, (z ∈ Q1 ∨ z ∈ Q2) → ∃ L, IC adj mt bkN (fun p => if S.base p ∈ wi then top else S.base p) top z L ∧ ∀ y ∈ L, (y ∈ Q1 ∨ y ∈ Q2) ∨ S.base y = top := fun z hz => by
    rcases hz with hz | hz
    · obtain ⟨L, a, b⟩ := W1.rw_.ring M.sym G.sym w (Q2 ++ Lt2) B1 bsQ1 Lt1 ic1 (fun z hz hm => offT z (.inl hz) (lt1' z hm)) ha F2 (fun z hz hm => by
        rcases List.mem_append.mp hm with e | e
        · exact disj z hz e
        · exact offT z (.inl hz) (lt2' z e)) z hz
      refine ⟨L, a, fun y hy => ?_⟩
      rcases b y hy with e | e | e
      · exact .inl (.inl e)
      · rcases List.mem_append.mp e with e | e
        · exact .inl (.inr e)
        · exact .inr (lt2' y e)
      · exact .inr (lt1' y e)
    · obtain ⟨L, a, b⟩ := W2.rw_.ring M.sym G.sym one (Q1 ++ Lt1) B2 bsQ2 Lt2 ic2 (fun z hz hm => offT z (.inr hz) (lt2' z hm)) (G.sym _ _ ha) F1 (fun z hz hm => by
        rcases List.mem_append.mp hm with e | e
        · exact disj z e hz
        · exact offT z (.inr hz) (lt1' z e)) z hz
      refine ⟨L, a, fun y hy => ?_⟩
      rcases b y hy with e | e | e
      · exact .inl (.inr e)
      · rcases List.mem_append.mp e with e | e
        · exact .inl (.inl e)
        · exact .inr (lt1' y e)
      · exact .inr (lt2' y e)
  have inRing : ∀ b v L, S.base b = b → (b ∈ Q1 ∨ b ∈ Q2) → IC adj mt S.back S.base b v L → ∃ L', IC adj mt bkN (fun p => if S.base p ∈ wi then top else S.base p) top v L' ∧ ∀ y ∈ L', y ∈ L ∨ (y ∈ Q1 ∨ y ∈ Q2) ∨ S.base y = top := by
    intro b v L hb hq h
    have hbw := w3 b hq
    rw [hb] at hbw
    induction h with
    | nil =>
      obtain ⟨L', a, c⟩ := onRing b hq
      exact ⟨L', a, fun y hy => .inr (c y hy)⟩
    | @cons v m x L a1 a2 a3 a4 a5 a6 a7 a8 ih =>
      by_cases hv : v ∈ Q1 ∨ v ∈ Q2
      · obtain ⟨L', a, c⟩ := onRing v hv
        exact ⟨L', a, fun y hy => .inr (c y hy)⟩
      · have hm : ¬ (m ∈ Q1 ∨ m ∈ Q2) := fun h => hv (mateQ m h v (M.sym _ _ a1))
        obtain ⟨L', a, c⟩ := ih
        have nT : b ≠ top := fun e => w4 (e ▸ hbw)
        refine ⟨v :: m :: L', .cons a1 ?_ (nb1 v (by rw [a3]; exact hbw)) (nb1 m (by rw [a4]; exact hbw)) a5 ?_ ?_ a, fun y hy => ?_⟩
        · rw [← hbN, setB_out _ _ _ _ fun h => hm (.inr h), setB_out _ _ _ _ fun h => hm (.inl h)]
          exact a2
        · intro h
          rcases c v h with e | e | e
          · exact a6 e
          · exact hv e
          · exact nT (by rw [← a3]; exact e)
        · intro h
          rcases c m h with e | e | e
          · exact a7 e
          · exact hm e
          · exact nT (by rw [← a4]; exact e)
        · rcases List.mem_cons.mp hy with e | hy
          · exact .inl (by simp [e])
          · rcases List.mem_cons.mp hy with e | hy
            · exact .inl (by simp [e])
            · rcases c y hy with e | e | e
              · exact .inl (by simp [e])
              · exact .inr (.inl e)
              · exact .inr (.inr e)
  have oddOut : ∀ o b, S.even o = false → mt o = some b → S.even b = true → S.base b = b → (S.base o ∉ wi) → S.base b ∉ wi := fun o b ho hm hb hbb hnw hw => by
    have := w1 b hb hw
    rw [hbb] at this
    exact hnw (w3 o ((inL b this).2.2.2.2.2 o (M.sym _ _ hm)))
  refine ⟨⟨?_, ?_, ?_, ?_, ?_, ?_, ?_, ?_, ?_, ?_⟩, ⟨?_, ?_, ?_, ?_⟩, ?_⟩
  · exact (evN r).mpr (.inl I.evr)
  · intro v h
    rcases (evN v).mp h with e | e
    · exact I.lt v e
    · cases hv : S.even v with
      | true => exact I.lt v hv
      | false =>
        rcases w2 v hv e with q | q
        · exact lt1 v q
        · exact lt2 v q
  · show (S.left ++ (List.range n).filter fun p => decide (S.base p ∈ wi) && !S.even p).Nodup
    rw [List.nodup_append]
    refine ⟨I.nd, List.nodup_range.filter _, fun a ha b hb e => ?_⟩
    have h := (List.mem_filter.mp hb).2
    rw [← e] at h
    have := (I.mem a).mp ha
    simp [this] at h
  · intro v
    show v ∈ S.left ++ (List.range n).filter (fun p => decide (S.base p ∈ wi) && !S.even p) ↔ (S.even v || decide (S.base v ∈ wi)) = true
    rw [List.mem_append, I.mem, List.mem_filter, List.mem_range, evN]
    constructor
    · rintro (e | ⟨_, e⟩)
      · exact .inl e
      · simp at e
        exact .inr e.1
    · rintro (e | e)
      · exact .inl e
      · cases hv : S.even v with
        | true => exact .inl rfl
        | false =>
          refine .inr ⟨?_, by simp [e]⟩
          rcases w2 v hv e with q | q
          · exact lt1 v q
          · exact lt2 v q
  · intro v h
    obtain ⟨e1, e2⟩ := evF v h
    show (if S.base v ∈ wi then top else S.base v) = v
    rw [nb2 v e2]
    exact I.odd0 v e1
  · intro v h
    show (S.even (if S.base v ∈ wi then top else S.base v) || decide (S.base (if S.base v ∈ wi then top else S.base v) ∈ wi)) = true
    by_cases e : S.base v ∈ wi
    · rw [nb1 v e]
      exact (evN top).mpr (.inl hset)
    · rw [nb2 v e]
      rcases (evN v).mp h with q | q
      · exact (evN _).mpr (.inl (I.bev v q))
      · exact absurd q e
  · intro v
    show (if S.base (if S.base v ∈ wi then top else S.base v) ∈ wi then top else S.base (if S.base v ∈ wi then top else S.base v)) = (if S.base v ∈ wi then top else S.base v)
    by_cases e : S.base v ∈ wi
    · rw [nb1 v e, nbt top hbt]
    · rw [nb2 v e, I.bb v, if_neg e]
  · intro b h hb hnr
    have hb : (if S.base b ∈ wi then top else S.base b) = b := hb
    by_cases e : S.base b ∈ wi
    · rw [nb1 b e] at hb
      rw [← hb, hbt] at e
      exact absurd e w4
    · rw [nb2 b e] at hb
      have heb : S.even b = true := by
        rcases (evN b).mp h with q | q
        · exact q
        · exact absurd q e
      obtain ⟨o, x, q1, q2, q3, q4, q5, q6⟩ := I.up b heb hb hnr
      have how : S.base o ∉ wi := fun hw => by
        rcases on o (w2 o q2 hw) with ⟨a, _⟩ | ⟨_, b', hb', hm⟩
        · rw [q2] at a; cases a
        · rw [M.sym _ _ q1] at hm
          cases hm
          exact e (w3 b (inL b hb').2.2.2.2.1)
      refine ⟨o, x, q1, ?_, ?_, (evN x).mpr (.inl q4), q5, ?_⟩
      · show (S.even o || decide (S.base o ∈ wi)) = false
        simp [q2, how]
      · show bkN o = some x
        rw [outQ o how]; exact q3
      · show rk (if S.base x ∈ wi then top else S.base x) < rk b
        by_cases ex : S.base x ∈ wi
        · rw [nb1 x ex]
          have := (inL _ (w1 x q4 ex)).2.2.2.1
          omega
        · rw [nb2 x ex]; exact q6
  · intro o x h hx
    obtain ⟨e1, e2⟩ := evF o h
    have hx : bkN o = some x := hx
    rw [outQ o e2] at hx
    obtain ⟨b, z1, z2, z3⟩ := I.odd o x e1 hx
    refine ⟨b, z1, (evN b).mpr (.inl z2), ?_⟩
    show (if S.base b ∈ wi then top else S.base b) = b
    rw [nb2 b (oddOut o b e1 z1 z2 z3 e2)]
    exact z3
  · intro v h
    show ∃ L, IC adj mt bkN (fun p => if S.base p ∈ wi then top else S.base p) (if S.base v ∈ wi then top else S.base v) v L
    by_cases e : S.base v ∈ wi
    · rw [nb1 v e]
      by_cases hq : v ∈ Q1 ∨ v ∈ Q2
      · obtain ⟨L, a, _⟩ := onRing v hq
        exact ⟨L, a⟩
      · have hev : S.even v = true := by
          cases hv : S.even v with
          | true => rfl
          | false => exact absurd (w2 v hv e) hq
        obtain ⟨L, hL⟩ := I.ic v hev
        obtain ⟨L', a, _⟩ := inRing (S.base v) v L (I.bb v) (inL _ (w1 v hev e)).2.2.2.2.1 hL
        exact ⟨L', a⟩
    · rw [nb2 v e]
      have hev : S.even v = true := by
        rcases (evN v).mp h with q | q
        · exact q
        · exact absurd q e
      obtain ⟨L, hL⟩ := I.ic v hev
      exact ⟨L, hL.keep (S.base v) (fun z hz => outQ z (by rw [hz]; exact e)) (fun z hz => by rw [hz, if_neg e]) rfl⟩
  · intro u v e
    show (if S.base u ∈ wi then top else S.base u) = (if S.base v ∈ wi then top else S.base v)
    rw [e]
  · exact fun v e => (evN v).mpr (.inl e)
  · intro v e
    show bkN v ≠ none
    rw [← hbN]
    exact setB_some _ _ _ _ (setB_some _ _ _ _ e)
  · exact ⟨_, rfl⟩
  · have a : ∀ v t Q, RW adj mt S.back S.base top v Q t → (∀ z ∈ Q, z ∈ Q1 ∨ z ∈ Q2) → (if S.base v ∈ wi then top else S.base v) = top := by
      intro v t Q hw hin
      cases hw with
      | nil h => exact nbt v h
      | cons => exact nb1 v (w3 v (hin v (by simp)))
    show (if S.base one ∈ wi then top else S.base one) = (if S.base w ∈ wi then top else S.base w)
    rw [a one t1 Q1 W1.rw_ fun z hz => .inl hz, a w t2 Q2 W2.rw_ fun z hz => .inr hz]
end
end Blo
set_option autoImplicit false
namespace Blo

section
variable {n : Nat} {adj : Nat → Nat → Prop} {mt : Nat → Option Nat} {r : Nat} {S : St} {rk : Nat → Nat}

/-- a pair that has been looked at from z -/
def Seen (mt : Nat → Option Nat) (S : St) (D : List Nat) (z w : Nat) : Prop :=
  S.base z = S.base w ∨ mt z = some w ∨ (S.even w = false ∧ S.back w ≠ none) ∨ (S.even w = true ∧ w ∉ D)
theorem Seen.ext {S S' : St} {D : List Nat} {z w : Nat} (e : Ext S S') (hD : ∀ d ∈ D, S.even d = true) (h : Seen mt S D z w) : Seen mt S' D z w := by
  rcases h with h | h | ⟨h1, h2⟩ | ⟨h1, h2⟩
  · exact .inl (e.beq _ _ h)
  · exact .inr (.inl h)
  · cases q : S'.even w with
    | false => exact .inr (.inr (.inl ⟨q, e.bk w h2⟩))
    | true =>
      refine .inr (.inr (.inr ⟨q, fun hm => ?_⟩))
      rw [hD w hm] at h1
      cases h1
  · exact .inr (.inr (.inr ⟨e.ev w h1, h2⟩))

/-- what the search hands over when it meets somebody unserved -/
structure Found (n : Nat) (adj : Nat → Nat → Prop) (mt : Nat → Option Nat) (r : Nat) (S' : St) (w : Nat) : Prop where
  ex : ∃ S one rk, Inv n adj mt r S rk ∧ S.even one = true ∧ adj one w ∧ mt w = none ∧ S.even w = false ∧ S' = { S with back := put S.back w (some one) }

theorem scan_ok (G : Gr n adj) (M : Mat n adj mt) (hr : mt r = none) {k one : Nat} (hk : n < k) (D : List Nat) : ∀ (ws : List Nat) (S : St) (rk : Nat → Nat), Inv n adj mt r S rk → S.even one = true → (∀ w ∈ ws, adj one w) → (∀ d ∈ D, S.even d = true) →
    ∃ S' f, scan n mt r k one ws S = some (S', f) ∧ ((f = none ∧ (∃ rk', Inv n adj mt r S' rk') ∧ Ext S S' ∧ ∀ w ∈ ws, Seen mt S' D one w) ∨ ∃ w, f = some w ∧ w ∈ ws ∧ Found n adj mt r S' w) := by
  intro ws
  induction ws with
  | nil =>
    intro S rk I h1 _ _
    exact ⟨S, none, rfl, .inl ⟨rfl, ⟨rk, I⟩, Ext.refl S, fun w hw => nomatch hw⟩⟩
  | cons w ws ih =>
    intro S rk I h1 ha hD
    -- a step to S1 that has looked at w
    have go : ∀ S1 rk1, Inv n adj mt r S1 rk1 → Ext S S1 → Seen mt S1 D one w → scan n mt r k one (w :: ws) S = scan n mt r k one ws S1 →
        ∃ S' f, scan n mt r k one (w :: ws) S = some (S', f) ∧ ((f = none ∧ (∃ rk', Inv n adj mt r S' rk') ∧ Ext S S' ∧ ∀ y ∈ w :: ws, Seen mt S' D one y) ∨ ∃ y, f = some y ∧ y ∈ w :: ws ∧ Found n adj mt r S' y) := by
      intro S1 rk1 I1 e1 hs he
      have hD1 : ∀ d ∈ D, S1.even d = true := fun d hd => e1.ev d (hD d hd)
      obtain ⟨S', f, q, h⟩ := ih S1 rk1 I1 (e1.ev one h1) (fun y hy => ha y (List.mem_cons_of_mem _ hy)) hD1
      refine ⟨S', f, he.trans q, ?_⟩
      rcases h with ⟨z1, z2, z3, z4⟩ | ⟨y, z1, z2, z3⟩
      · refine .inl ⟨z1, z2, e1.trans z3, fun y hy => ?_⟩
        rcases List.mem_cons.mp hy with rfl | hy
        · exact hs.ext z3 hD1
        · exact z4 y hy
      · exact .inr ⟨y, z1, List.mem_cons_of_mem _ z2, z3⟩
    have haw : adj one w := ha w List.mem_cons_self
    by_cases c1 : S.base one = S.base w ∨ mt one = some w
    · refine go S rk I (Ext.refl S) ?_ ?_
      · rcases c1 with c | c
        · exact .inl c
        · exact .inr (.inl c)
      · rw [scan, if_pos c1]
    · cases c2 : S.even w with
      | true =>
        obtain ⟨S1, q1, q2, q3, q4⟩ := I.shrink G M hr hk h1 c2 haw
        refine go S1 rk q2 q3 (.inl q4) ?_
        rw [scan, if_neg c1, if_pos c2, q1]
      | false =>
        have c2' : ¬ S.even w = true := by rw [c2]; exact Bool.false_ne_true
        cases c3 : mt w with
        | none =>
          refine ⟨{ S with back := put S.back w (some one) }, some w, ?_, .inr ⟨w, rfl, List.mem_cons_self, ⟨S, one, rk, I, h1, haw, c3, c2, rfl⟩⟩⟩
          rw [scan, if_neg c1, if_neg c2', c3]
        | some m =>
          by_cases c4 : S.back w = none
          · obtain ⟨em, I1⟩ := I.grow G M hr h1 c2 haw c4 c3
            refine go _ _ I1 ⟨fun _ _ e => e, fun v e => ?_, fun v e => ?_, ⟨[m], rfl⟩⟩ ?_ ?_
            · show put S.even m true v = true
              by_cases q : v = m
              · rw [q, put_same]
              · rw [put_ne _ _ q]; exact e
            · show put S.back w (some one) v ≠ none
              by_cases q : v = w
              · rw [q, put_same]; exact fun z => nomatch z
              · rw [put_ne _ _ q]; exact e
            · refine .inr (.inr (.inl ⟨?_, ?_⟩))
              · show put S.even m true w = false
                rw [put_ne _ _ fun e => G.irr w (by have := M.adj w m c3; rw [← e] at this; exact this)]
                exact c2
              · show put S.back w (some one) w ≠ none
                rw [put_same]; exact fun z => nomatch z
            · rw [scan, if_neg c1, if_neg c2', c3]
              simp only [if_pos c4]
          · refine go S rk I (Ext.refl S) (.inr (.inr (.inl ⟨c2, c4⟩))) ?_
            rw [scan, if_neg c1, if_neg c2', c3]
            simp only [if_neg c4]

/-- nothing more is to be found from the root -/
def Hung (adj : Nat → Nat → Prop) (S : St) : Prop := ∀ v w, S.even v = true → adj v w → S.base v = S.base w ∨ (S.even w = false ∧ S.back w ≠ none)

theorem run_ok (G : Gr n adj) (M : Mat n adj mt) (hr : mt r = none) {k : Nat} (hk : n < k) {near : Nat → List Nat} (hnear : ∀ u w, w ∈ near u ↔ adj u w) : ∀ (f i : Nat) (S : St) (rk : Nat → Nat), n < f + i → i ≤ S.left.length → Inv n adj mt r S rk →
    (∀ z ∈ S.left.take i, ∀ w, adj z w → Seen mt S (S.left.take i) z w) →
    ∃ S' g, runLoop n mt r k near f i S = some (S', g) ∧ ((g = none ∧ (∃ rk', Inv n adj mt r S' rk') ∧ Hung adj S') ∨ ∃ w, g = some w ∧ Found n adj mt r S' w) := by
  intro f
  induction f with
  | zero =>
    intro i S rk hf hi I _
    have := len_le_n I.nd fun z hz => I.lt z ((I.mem z).mp hz)
    omega
  | succ f ih =>
    intro i S rk hf hi I hseen
    cases hg : S.left[i]? with
    | none =>
      refine ⟨S, none, by rw [runLoop, hg], .inl ⟨rfl, ⟨rk, I⟩, fun v w hv ha => ?_⟩⟩
      have hil : S.left.length ≤ i := List.getElem?_eq_none_iff.mp hg
      rw [List.take_of_length_le hil] at hseen
      rcases hseen v ((I.mem v).mpr hv) w ha with h | h | h | ⟨h1, h2⟩
      · exact .inl h
      · by_cases hb : S.base v = v
        · have hvr : v ≠ r := fun e => by rw [e, hr] at h; cases h
          obtain ⟨o, x, q1, q2, q3, _⟩ := I.up v hv hb hvr
          rw [h] at q1
          cases q1
          exact .inr ⟨q2, by rw [q3]; exact fun z => nomatch z⟩
        · exact .inl (I.mate hv hb h).1.symm
      · exact .inr h
      · exact absurd ((I.mem w).mpr h1) h2
    | some one =>
      obtain ⟨hlt, hget⟩ := List.getElem?_eq_some_iff.mp hg
      have hone : one ∈ S.left := hget ▸ List.getElem_mem hlt
      have h1 : S.even one = true := (I.mem one).mp hone
      have htake : S.left.take (i + 1) = S.left.take i ++ [one] := by rw [List.take_add_one, hg]; rfl
      have hD : ∀ d ∈ S.left.take (i + 1), S.even d = true := fun d hd => (I.mem d).mp (List.mem_of_mem_take hd)
      obtain ⟨S', g, q1, q2⟩ := scan_ok G M hr hk (S.left.take (i + 1)) (near one) S rk I h1 (fun w hw => (hnear one w).mp hw) hD
      rcases q2 with ⟨rfl, ⟨rk', I'⟩, e, hs⟩ | ⟨w, rfl, _, hF⟩
      · obtain ⟨T, hT⟩ := e.left
        have htk : S'.left.take (i + 1) = S.left.take (i + 1) := by
          rw [hT, List.take_append_of_le_length (by omega)]
        have hlen : i + 1 ≤ S'.left.length := by rw [hT, List.length_append]; omega
        obtain ⟨S2, g2, z1, z2⟩ := ih (i + 1) S' rk' (by omega) hlen I' (by
          rw [htk]
          intro z hz w ha
          have hz' := hz
          rw [htake] at hz
          rcases List.mem_append.mp hz with hz | hz
          · -- z was done before
            have old : Seen mt S (S.left.take i) z w := hseen z hz w ha
            have hDi : ∀ d ∈ S.left.take i, S.even d = true := fun d hd => (I.mem d).mp (List.mem_of_mem_take hd)
            rcases old.ext e hDi with h | h | h | ⟨h2, h3⟩
            · exact .inl h
            · exact .inr (.inl h)
            · exact .inr (.inr (.inl h))
            · by_cases hw : w = one
              · subst hw
                rcases hs z ((hnear w z).mpr (G.sym _ _ ha)) with h | h | ⟨h, _⟩ | ⟨_, h⟩
                · exact .inl h.symm
                · exact .inr (.inl (M.sym _ _ h))
                · rw [e.ev z (hD z hz')] at h
                  cases h
                · exact absurd hz' h
              · refine .inr (.inr (.inr ⟨h2, fun hm => ?_⟩))
                rw [htake] at hm
                rcases List.mem_append.mp hm with hm | hm
                · exact h3 hm
                · exact hw (List.mem_singleton.mp hm)
          · rw [List.mem_singleton.mp hz] at ha ⊢
            exact hs w ((hnear one w).mpr ha))
        exact ⟨S2, g2, by rw [runLoop, hg]; simp only [q1]; exact z1, z2⟩
      · exact ⟨S', some w, by rw [runLoop, hg]; simp only [q1], .inr ⟨w, rfl, hF⟩⟩

theorem search_ok (G : Gr n adj) (M : Mat n adj mt) (hr : mt r = none) (hrn : r < n) {k : Nat} (hk : n < k) {near : Nat → List Nat} (hnear : ∀ u w, w ∈ near u ↔ adj u w) :
    ∃ S' g, runLoop n mt r k near (n + 1) 0 (start r) = some (S', g) ∧ ((g = none ∧ (∃ rk', Inv n adj mt r S' rk') ∧ Hung adj S') ∨ ∃ w, g = some w ∧ Found n adj mt r S' w) :=
  run_ok G M hr hk hnear (n + 1) 0 (start r) _ (by omega) (Nat.zero_le _) (Inv.start hrn) fun z hz => nomatch hz

/-! ### the way back -/
inductive FC (adj : Nat → Nat → Prop) (mt bk : Nat → Option Nat) (r : Nat) : Nat → List Nat → Prop
  | nil : FC adj mt bk r r [r]
  | cons {v m x : Nat} {L : List Nat} : mt v = some m → bk m = some x → adj m x → v ∉ L → m ∉ L → FC adj mt bk r x L → FC adj mt bk r v (v :: m :: L)
theorem FC.head {bk : Nat → Option Nat} {v : Nat} {L : List Nat} (h : FC adj mt bk r v L) : ∃ T, L = v :: T := by
  cases h with
  | nil => exact ⟨_, rfl⟩
  | cons => exact ⟨_, rfl⟩
theorem FC.last {bk : Nat → Option Nat} {v : Nat} {L : List Nat} (h : FC adj mt bk r v L) : ∃ T, L = T ++ [r] := by
  induction h with
  | nil => exact ⟨[], rfl⟩
  | cons _ _ _ _ _ _ ih =>
    obtain ⟨T, h⟩ := ih
    exact ⟨_ :: _ :: T, by rw [h]; rfl⟩
theorem FC.way {bk : Nat → Option Nat} {v : Nat} {L : List Nat} (hr : mt r = none) (h : FC adj mt bk r v L) : ∀ (k : Nat) (acc : List Nat), L.length ≤ k → wayLoop mt bk r k acc v = some (acc ++ L.tail) := by
  induction h with
  | nil =>
    intro k acc hk
    cases k with
    | zero => simp at hk
    | succ k => simp [wayLoop]
  | @cons v m x L h1 h2 h3 h4 h5 h6 ih =>
    intro k acc hk
    cases k with
    | zero => simp at hk
    | succ k =>
      simp only [List.length_cons] at hk
      have hvr : v ≠ r := fun e => by rw [e, hr] at h1; cases h1
      obtain ⟨T, rfl⟩ := h6.head
      simp only [wayLoop, if_neg hvr, h1, h2]
      rw [ih k _ (by omega)]
      simp
theorem FC.congr {bk bk' : Nat → Option Nat} {v : Nat} {L : List Nat} (hs : ∀ u v, mt u = some v → mt v = some u) (he : ∀ z, mt z ≠ none → bk' z = bk z) (h : FC adj mt bk r v L) : FC adj mt bk' r v L := by
  induction h with
  | nil => exact .nil
  | cons h1 h2 h3 h4 h5 _ ih => exact .cons h1 (by rw [he _ (by rw [hs _ _ h1]; exact fun z => nomatch z)]; exact h2) h3 h4 h5 ih
theorem FC.mates {bk : Nat → Option Nat} {v : Nat} {L : List Nat} (hs : ∀ u v, mt u = some v → mt v = some u) (h : FC adj mt bk r v L) : ∀ z ∈ L, z = r ∨ mt z ≠ none := by
  induction h with
  | nil => intro z hz; exact .inl (List.mem_singleton.mp hz)
  | cons h1 _ _ _ _ _ ih =>
    intro z hz
    rcases List.mem_cons.mp hz with rfl | hz
    · rw [h1]; exact .inr fun z => nomatch z
    · rcases List.mem_cons.mp hz with rfl | hz
      · rw [hs _ _ h1]; exact .inr fun z => nomatch z
      · exact ih z hz
theorem FC.nodup {bk : Nat → Option Nat} {v : Nat} {L : List Nat} (hirr : ∀ z, mt z ≠ some z) (h : FC adj mt bk r v L) : L.Nodup := by
  induction h with
  | nil => simp
  | @cons v m x L h1 _ _ h4 h5 _ ih =>
    refine List.nodup_cons.mpr ⟨fun hm => ?_, List.nodup_cons.mpr ⟨h5, ih⟩⟩
    rcases List.mem_cons.mp hm with e | e
    · rw [← e] at h1; exact hirr v h1
    · exact h4 e

theorem IC.full {bk : Nat → Option Nat} {bs : Nat → Nat} {b v : Nat} {L : List Nat} (h : IC adj mt bk bs b v L) : (b = r → FC adj mt bk r v L) ∧
    ∀ {o x : Nat} {L1 : List Nat}, mt b = some o → bk o = some x → adj o x → (∀ z ∈ L, z ∉ L1) → o ∉ L1 → (∀ z ∈ L, z ≠ o) → FC adj mt bk r x L1 → FC adj mt bk r v (L ++ o :: L1) := by
  induction h with
  | nil =>
    refine ⟨fun e => by rw [e]; exact .nil, fun h1 h2 h3 h4 h5 h6 h7 => ?_⟩
    exact .cons h1 h2 h3 (h4 b (by simp)) h5 h7
  | @cons v m y L a1 a2 a3 a4 a5 a6 a7 a8 ih =>
    refine ⟨fun e => .cons a1 a2 a5 a6 a7 (ih.1 e), fun h1 h2 h3 h4 h5 h6 h7 => ?_⟩
    refine .cons a1 a2 a5 ?_ ?_ (ih.2 h1 h2 h3 (fun z hz => h4 z (by simp [hz])) h5 (fun z hz => h6 z (by simp [hz])) h7)
    · intro hm
      rcases List.mem_append.mp hm with e | e
      · exact a6 e
      · rcases List.mem_cons.mp e with e | e
        · exact h6 v (by simp) e
        · exact h4 v (by simp) e
    · intro hm
      rcases List.mem_append.mp hm with e | e
      · exact a7 e
      · rcases List.mem_cons.mp e with e | e
        · exact h6 m (by simp) e
        · exact h4 m (by simp) e

theorem Inv.full (M : Mat n adj mt) (I : Inv n adj mt r S rk) : ∀ (k v : Nat), rk (S.base v) ≤ k → S.even v = true →
    ∃ L, FC adj mt S.back r v L ∧ ∀ z ∈ L, (S.even z = true ∧ rk (S.base z) ≤ rk (S.base v)) ∨ (S.even z = false ∧ ∃ b, mt z = some b ∧ rk b ≤ rk (S.base v)) := by
  have step : ∀ v, S.even v = true → S.base v ≠ r → (∀ x, S.even x = true → rk (S.base x) < rk (S.base v) → ∃ L, FC adj mt S.back r x L ∧ ∀ z ∈ L, (S.even z = true ∧ rk (S.base z) ≤ rk (S.base x)) ∨ (S.even z = false ∧ ∃ b, mt z = some b ∧ rk b ≤ rk (S.base x))) →
      ∃ L, FC adj mt S.back r v L ∧ ∀ z ∈ L, (S.even z = true ∧ rk (S.base z) ≤ rk (S.base v)) ∨ (S.even z = false ∧ ∃ b, mt z = some b ∧ rk b ≤ rk (S.base v)) := by
    intro v hv hb h
    obtain ⟨o, x, q1, q2, q3, q4, q5, q6⟩ := I.up (S.base v) (I.bev v hv) (I.bb v) hb
    obtain ⟨L1, f1, f2⟩ := h x q4 q6
    obtain ⟨L, hL⟩ := I.ic v hv
    have hLb := hL.mem (I.bb v)
    have hLe := I.icEven (I.bb v) (I.bev v hv) hL
    refine ⟨L ++ o :: L1, hL.full.2 q1 q3 q5 (fun z hz hm => ?_) (fun hm => ?_) (fun z hz e => ?_) f1, fun z hz => ?_⟩
    · rcases f2 z hm with ⟨_, b⟩ | ⟨a, _⟩
      · rw [hLb z hz] at b; omega
      · rw [hLe z hz] at a; cases a
    · rcases f2 o hm with ⟨a, _⟩ | ⟨_, b, c, d⟩
      · rw [q2] at a; cases a
      · rw [M.sym _ _ q1] at c
        cases c
        omega
    · have := hLe z hz
      rw [e, q2] at this
      cases this
    · rcases List.mem_append.mp hz with e | e
      · exact .inl ⟨hLe z e, by rw [hLb z e]; exact Nat.le_refl _⟩
      · rcases List.mem_cons.mp e with rfl | e
        · exact .inr ⟨q2, _, M.sym _ _ q1, Nat.le_refl _⟩
        · rcases f2 z e with ⟨a, b⟩ | ⟨a, b, c, d⟩
          · exact .inl ⟨a, by omega⟩
          · exact .inr ⟨a, b, c, by omega⟩
  have base : ∀ v, S.even v = true → S.base v = r → ∃ L, FC adj mt S.back r v L ∧ ∀ z ∈ L, (S.even z = true ∧ rk (S.base z) ≤ rk (S.base v)) ∨ (S.even z = false ∧ ∃ b, mt z = some b ∧ rk b ≤ rk (S.base v)) := by
    intro v hv hb
    obtain ⟨L, hL⟩ := I.ic v hv
    exact ⟨L, hL.full.1 hb, fun z hz => .inl ⟨I.icEven (I.bb v) (I.bev v hv) hL z hz, by rw [hL.mem (I.bb v) z hz]; exact Nat.le_refl _⟩⟩
  intro k
  induction k with
  | zero =>
    intro v hk hv
    by_cases hb : S.base v = r
    · exact base v hv hb
    · exact step v hv hb fun x _ h => by omega
  | succ k ih =>
    intro v hk hv
    by_cases hb : S.base v = r
    · exact base v hv hb
    · exact step v hv hb fun x hx h => ih x (by omega) hx

/-- who is found: an even way to somebody next to him -/
theorem Found.way (G : Gr n adj) (M : Mat n adj mt) (hr : mt r = none) {S' : St} {w : Nat} (F : Found n adj mt r S' w) {k : Nat} (hk : n ≤ k) :
    ∃ one L bk, S'.back w = some one ∧ FC adj mt bk r one L ∧ wayLoop mt S'.back r k [one] one = some L ∧ adj one w ∧ mt w = none ∧ w ∉ L ∧ L.Nodup ∧ ∀ z ∈ L, z < n := by
  obtain ⟨S, one, rk, I, h1, h2, h3, h4, rfl⟩ := F.ex
  obtain ⟨L, f1, f2⟩ := I.full M _ one (Nat.le_refl _) h1
  have hirr : ∀ z, mt z ≠ some z := fun z e => G.irr z (M.adj _ _ e)
  have hnd := f1.nodup hirr
  have hlt : ∀ z ∈ L, z < n := fun z hz => by
    rcases f2 z hz with ⟨a, _⟩ | ⟨_, b, c, _⟩
    · exact I.lt z a
    · exact G.lt z b (M.adj _ _ c)
  have f1' : FC adj mt (put S.back w (some one)) r one L := f1.congr M.sym fun z hz => put_ne _ _ fun e => hz (by rw [e, h3])
  refine ⟨one, L, _, put_same _ _ _, f1', ?_, h2, h3, fun hm => ?_, hnd, hlt⟩
  · obtain ⟨T, rfl⟩ := f1'.head
    exact f1'.way hr k [one] (Nat.le_trans (len_le_n hnd hlt) hk)
  · rcases f2 w hm with ⟨a, _⟩ | ⟨_, b, c, _⟩
    · rw [h4] at a; cases a
    · rw [h3] at c; cases c
end
end Blo
set_option autoImplicit false
namespace Blo

theorem pigeon {R : Nat → Nat → Prop} (inj : ∀ x x' y, R x y → R x' y → x = x') : ∀ {l l' : List Nat}, l.Nodup → (∀ x ∈ l, ∃ y ∈ l', R x y) → l.length ≤ l'.length := by
  intro l
  induction l with
  | nil => intro l' _ _; exact Nat.zero_le _
  | cons a l ih =>
    intro l' hn h
    obtain ⟨h1, h2⟩ := List.nodup_cons.mp hn
    obtain ⟨y, hy, hr⟩ := h a List.mem_cons_self
    have h3 : l.length ≤ (l'.erase y).length := ih h2 fun x hx => by
      obtain ⟨z, hz, hzr⟩ := h x (List.mem_cons_of_mem _ hx)
      have hzy : z ≠ y := fun e => h1 (by rw [inj a x y hr (e ▸ hzr)]; exact hx)
      exact ⟨z, (List.mem_erase_of_ne hzy).mpr hz, hzr⟩
    rw [List.length_erase_of_mem hy] at h3
    have : 0 < l'.length := List.length_pos_of_mem hy
    simp only [List.length_cons]
    omega

theorem invol_even (f : Nat → Nat) : ∀ (k : Nat) (l : List Nat), l.length ≤ k → l.Nodup → (∀ x ∈ l, f x ∈ l ∧ f (f x) = x ∧ f x ≠ x) → l.length % 2 = 0 := by
  intro k
  induction k with
  | zero =>
    intro l hk _ _
    have : l.length = 0 := by omega
    rw [this]
  | succ k ih =>
    intro l hk hn h
    cases l with
    | nil => rfl
    | cons a t =>
      obtain ⟨h1, h2⟩ := List.nodup_cons.mp hn
      obtain ⟨p1, p2, p3⟩ := h a List.mem_cons_self
      have hb : f a ∈ t := by
        rcases List.mem_cons.mp p1 with e | e
        · exact absurd e p3
        · exact e
      have hlen : (t.erase (f a)).length = t.length - 1 := List.length_erase_of_mem hb
      have hpos : 0 < t.length := List.length_pos_of_mem hb
      simp only [List.length_cons] at hk ⊢
      have := ih (t.erase (f a)) (by omega) (h2.erase _) fun x hx => by
        have hxt : x ∈ t := List.mem_of_mem_erase hx
        have hxb : x ≠ f a := fun e => by
          rw [e] at hx
          exact (List.Nodup.not_mem_erase h2) hx
        have hxa : x ≠ a := fun e => h1 (e ▸ hxt)
        obtain ⟨q1, q2, q3⟩ := h x (List.mem_cons_of_mem _ hxt)
        refine ⟨?_, q2, q3⟩
        have n1 : f x ≠ a := fun e => hxb (by rw [← q2, e])
        have n2 : f x ≠ f a := fun e => hxa (by rw [← q2, e, p2])
        rcases List.mem_cons.mp q1 with e | e
        · exact absurd e n1
        · exact (List.mem_erase_of_ne n2).mpr e
      rw [hlen] at this
      omega

section
variable {n : Nat} {adj : Nat → Nat → Prop} {mt nt : Nat → Option Nat} {r : Nat} {S : St} {rk : Nat → Nat}

/-- where the search hangs, nobody can serve all of it -/
theorem barrier (G : Gr n adj) (M : Mat n adj mt) (N : Mat n adj nt) (hr : mt r = none) (I : Inv n adj mt r S rk) (Hg : Hung adj S) (hN : ∀ v, S.even v = true → nt v ≠ none) : False := by
  -- each ring hands somebody to an odd one
  have out : ∀ b, S.even b = true → S.base b = b → ∃ v o, S.even v = true ∧ S.base v = b ∧ nt v = some o ∧ S.even o = false ∧ S.back o ≠ none := by
    intro b he hb
    by_cases hex : ∃ v o, S.even v = true ∧ S.base v = b ∧ nt v = some o ∧ S.even o = false ∧ S.back o ≠ none
    · exact hex
    · exfalso
      have inn : ∀ v, S.even v = true → S.base v = b → ∃ o, nt v = some o ∧ S.base o = b ∧ S.even o = true := fun v hv hvb => by
        cases e : nt v with
        | none => exact absurd e (hN v hv)
        | some o =>
          rcases Hg v o hv (N.adj _ _ e) with q | ⟨q1, q2⟩
          · refine ⟨o, rfl, q ▸ hvb, ?_⟩
            cases ho : S.even o with
            | true => rfl
            | false =>
              have := I.odd0 o ho
              rw [← q, hvb] at this
              rw [← this, he] at ho
              cases ho
          · exact absurd ⟨v, o, hv, hvb, e, q1, q2⟩ hex
      let C := (List.range n).filter fun v => S.even v && decide (S.base v = b)
      have hC : C.Nodup := List.nodup_range.filter _
      have memC : ∀ v, v ∈ C ↔ S.even v = true ∧ S.base v = b := fun v => by
        show v ∈ (List.range n).filter _ ↔ _
        rw [List.mem_filter, List.mem_range]
        constructor
        · rintro ⟨_, h⟩
          simpa using h
        · intro h
          exact ⟨I.lt v h.1, by simpa using h⟩
      have e1 : C.length % 2 = 0 := by
        refine invol_even (fun v => (nt v).getD 0) _ C (Nat.le_refl _) hC fun v hv => ?_
        obtain ⟨hv1, hv2⟩ := (memC v).mp hv
        obtain ⟨o, q1, q2, q3⟩ := inn v hv1 hv2
        simp only [q1, Option.getD_some]
        refine ⟨(memC o).mpr ⟨q3, q2⟩, by rw [N.sym _ _ q1]; rfl, fun e => ?_⟩
        rw [e] at q1
        exact G.irr v (N.adj _ _ q1)
      have hbC : b ∈ C := (memC b).mpr ⟨he, hb⟩
      have e2 : (C.erase b).length % 2 = 0 := by
        refine invol_even (fun v => (mt v).getD 0) _ (C.erase b) (Nat.le_refl _) (hC.erase b) fun v hv => ?_
        have hvC := List.mem_of_mem_erase hv
        have hvb : v ≠ b := fun e => by rw [e] at hv; exact List.Nodup.not_mem_erase hC hv
        obtain ⟨hv1, hv2⟩ := (memC v).mp hvC
        have hne : S.base v ≠ v := by rw [hv2]; exact Ne.symm hvb
        obtain ⟨m, hm⟩ := I.has hv1 hne
        obtain ⟨z1, z2, z3⟩ := I.mate hv1 hne hm
        rw [hv2] at z1 z3
        simp only [hm, Option.getD_some]
        refine ⟨(List.mem_erase_of_ne z3).mpr ((memC m).mpr ⟨z2, z1⟩), by rw [M.sym _ _ hm]; rfl, fun e => ?_⟩
        rw [e] at hm
        exact G.irr v (M.adj _ _ hm)
      rw [List.length_erase_of_mem hbC] at e2
      have := List.length_pos_of_mem hbC
      omega
  let Bs := (List.range n).filter fun v => S.even v && decide (S.base v = v)
  let O := (List.range n).filter fun v => !S.even v && (S.back v).isSome
  have memB : ∀ v, v ∈ Bs ↔ S.even v = true ∧ S.base v = v := fun v => by
    show v ∈ (List.range n).filter _ ↔ _
    rw [List.mem_filter, List.mem_range]
    constructor
    · rintro ⟨_, h⟩
      simpa using h
    · intro h
      exact ⟨I.lt v h.1, by simpa using h⟩
  have memO : ∀ v, v ∈ O → S.even v = false ∧ S.back v ≠ none := fun v h => by
    have := (List.mem_filter.mp h).2
    simp at this
    refine ⟨this.1, fun e => ?_⟩
    rw [e] at this
    exact absurd this.2 (by simp)
  have memO' : ∀ v, S.even v = false → S.back v ≠ none → v ∈ O := fun v h1 h2 => by
    cases hb : S.back v with
    | none => exact absurd hb h2
    | some x =>
      obtain ⟨b, q1, _⟩ := I.odd v x h1 hb
      refine List.mem_filter.mpr ⟨List.mem_range.mpr (G.lt v b (M.adj _ _ q1)), ?_⟩
      simp [h1, hb]
  have hrB : r ∈ Bs := (memB r).mpr ⟨I.evr, I.root hr⟩
  have nB : Bs.Nodup := List.nodup_range.filter _
  have nO : O.Nodup := List.nodup_range.filter _
  have l1 : Bs.length ≤ O.length := pigeon (R := fun b o => ∃ v, S.base v = b ∧ nt v = some o) (fun x x' y ⟨v, a, c⟩ ⟨v', a', c'⟩ => by
      have := N.sym _ _ c
      rw [N.sym _ _ c'] at this
      cases this
      rw [← a, ← a']) nB fun b hb => by
    obtain ⟨h1, h2⟩ := (memB b).mp hb
    obtain ⟨v, o, q1, q2, q3, q4, q5⟩ := out b h1 h2
    exact ⟨o, memO' o q4 q5, v, q2, q3⟩
  have l2 : O.length ≤ (Bs.erase r).length := pigeon (R := fun o b => mt o = some b) (fun x x' y a c => by
      have := M.sym _ _ a
      rw [M.sym _ _ c] at this
      cases this
      rfl) nO fun o ho => by
    obtain ⟨h1, h2⟩ := memO o ho
    cases hb : S.back o with
    | none => exact absurd hb h2
    | some x =>
      obtain ⟨b, q1, q2, q3⟩ := I.odd o x h1 hb
      have hbr : b ≠ r := fun e => by
        have := M.sym _ _ q1
        rw [e, hr] at this
        cases this
      exact ⟨b, (List.mem_erase_of_ne hbr).mpr ((memB b).mpr ⟨q2, q3⟩), q1⟩
  rw [List.length_erase_of_mem hrB] at l2
  have := List.length_pos_of_mem hrB
  omega

/-! ### who may be served besides -/
def cov (n : Nat) (nt : Nat → Option Nat) : List Nat := (List.range n).filter fun v => (nt v).isSome
theorem mem_cov {v : Nat} : v ∈ cov n nt ↔ v < n ∧ nt v ≠ none := by
  unfold cov
  rw [List.mem_filter, List.mem_range, Option.isSome_iff_ne_none]
def common (n : Nat) (mt nt : Nat → Option Nat) : List Nat := (List.range n).filter fun v => (mt v).isSome && decide (nt v = mt v)
theorem mem_common {v : Nat} : v ∈ common n mt nt ↔ v < n ∧ mt v ≠ none ∧ nt v = mt v := by
  unfold common
  rw [List.mem_filter, List.mem_range]
  simp [Option.isSome_iff_ne_none]

theorem swap (G : Gr n adj) (M : Mat n adj mt) (N : Mat n adj nt) {v w : Nat} (hv : mt v = some w) (hn : nt v = none) :
    ∃ nt', Mat n adj nt' ∧ (cov n nt).length ≤ (cov n nt').length ∧ (common n mt nt).length < (common n mt nt').length := by
  have hw : mt w = some v := M.sym _ _ hv
  have hvw : v ≠ w := fun e => G.irr v (by have := M.adj _ _ hv; rw [← e] at this; exact this)
  have av : adj v w := M.adj _ _ hv
  have hvn : v < n := G.lt v w av
  have hwn : w < n := G.lt w v (G.sym _ _ av)
  -- the new one: w's other is left, v and w make a pair
  let f : Nat → Option Nat := fun u => if u = v then some w else if u = w then some v else if nt w = some u then none else nt u
  have fv : f v = some w := by simp [f]
  have fw : f w = some v := by simp [f, Ne.symm hvw]
  have fo : ∀ u, u ≠ v → u ≠ w → nt w ≠ some u → f u = nt u := fun u a b c => by simp [f, a, b, c]
  have fn : ∀ u, u ≠ v → u ≠ w → nt w = some u → f u = none := fun u a b c => by simp [f, a, b, c]
  have back : ∀ a b, f a = some b → (a = v ∧ b = w) ∨ (a = w ∧ b = v) ∨ (a ≠ v ∧ a ≠ w ∧ b ≠ v ∧ b ≠ w ∧ nt w ≠ some a ∧ nt w ≠ some b ∧ nt a = some b) := by
    intro a b h
    by_cases e1 : a = v
    · rw [e1, fv] at h; cases h; exact .inl ⟨e1, rfl⟩
    · by_cases e2 : a = w
      · rw [e2, fw] at h; cases h; exact .inr (.inl ⟨e2, rfl⟩)
      · by_cases e3 : nt w = some a
        · rw [fn a e1 e2 e3] at h; cases h
        · rw [fo a e1 e2 e3] at h
          have hb := N.sym _ _ h
          refine .inr (.inr ⟨e1, e2, fun q => ?_, fun q => ?_, e3, fun q => ?_, h⟩)
          · rw [q, hn] at hb; cases hb
          · rw [q] at hb; exact e3 hb
          · have := N.sym _ _ q
            rw [hb] at this
            cases this
            exact e2 rfl
  refine ⟨f, ⟨fun a b h => ?_, fun a b h => ?_⟩, ?_, ?_⟩
  · rcases back a b h with ⟨e1, e2⟩ | ⟨e1, e2⟩ | ⟨e1, e2, e3, e4, e5, e6, e7⟩
    · rw [e1, e2]; exact fw
    · rw [e1, e2]; exact fv
    · rw [fo b e3 e4 e6]; exact N.sym _ _ e7
  · rcases back a b h with ⟨e1, e2⟩ | ⟨e1, e2⟩ | ⟨e1, e2, e3, e4, e5, e6, e7⟩
    · rw [e1, e2]; exact av
    · rw [e1, e2]; exact G.sym _ _ av
    · exact N.adj _ _ e7
  · refine pigeon (R := fun u u' => (nt w = some u ∧ u' = v) ∨ (nt w ≠ some u ∧ u' = u ∧ u ≠ v)) ?_ (List.nodup_range.filter _) fun u hu => ?_
    · rintro x x' y (⟨a1, a2⟩ | ⟨a1, a2, a3⟩) (⟨b1, b2⟩ | ⟨b1, b2, b3⟩)
      · rw [a1] at b1; cases b1; rfl
      · exact absurd (b2.symm.trans a2) b3
      · exact absurd (a2.symm.trans b2) a3
      · rw [← a2, ← b2]
    · obtain ⟨h1, h2⟩ := mem_cov.mp hu
      have huv : u ≠ v := fun e => h2 (by rw [e]; exact hn)
      by_cases e : nt w = some u
      · exact ⟨v, mem_cov.mpr ⟨hvn, by rw [fv]; exact fun z => nomatch z⟩, .inl ⟨e, rfl⟩⟩
      · refine ⟨u, mem_cov.mpr ⟨h1, ?_⟩, .inr ⟨e, rfl, huv⟩⟩
        by_cases q : u = w
        · rw [q, fw]; exact fun z => nomatch z
        · rw [fo u huv q e]; exact h2
  · have hin : ∀ u ∈ v :: common n mt nt, u ∈ common n mt f := fun u hu => by
      rcases List.mem_cons.mp hu with rfl | hu
      · exact mem_common.mpr ⟨hvn, by rw [hv]; exact (fun z => nomatch z), by rw [fv, hv]⟩
      · obtain ⟨h1, h2, h3⟩ := mem_common.mp hu
        have e1 : u ≠ v := fun e => by rw [e, hn, hv] at h3; cases h3
        by_cases e2 : u = w
        · rw [e2]; exact mem_common.mpr ⟨hwn, by rw [hw]; exact (fun z => nomatch z), by rw [fw, hw]⟩
        · refine mem_common.mpr ⟨h1, h2, ?_⟩
          rw [fo u e1 e2, h3]
          intro e
          have h4 := N.sym _ _ e
          rw [h3] at h4
          have := M.sym _ _ h4
          rw [hw] at this
          cases this
          exact e1 rfl
    have hnd : (v :: common n mt nt).Nodup := List.nodup_cons.mpr ⟨fun h => (by
      obtain ⟨_, _, h3⟩ := mem_common.mp h
      rw [hn, hv] at h3; cases h3), List.nodup_range.filter _⟩
    have := len_le_of_sub hnd hin
    simp only [List.length_cons] at this
    omega

theorem berge (G : Gr n adj) (M : Mat n adj mt) : ∀ (k : Nat) (nt : Nat → Option Nat), n - (common n mt nt).length ≤ k → Mat n adj nt → (cov n mt).length < (cov n nt).length →
    ∃ nt', Mat n adj nt' ∧ (cov n mt).length < (cov n nt').length ∧ ∀ v, mt v ≠ none → nt' v ≠ none := by
  intro k
  induction k with
  | zero =>
    intro nt hk N hc
    by_cases h : ∃ v, mt v ≠ none ∧ nt v = none
    · obtain ⟨v, h1, h2⟩ := h
      exfalso
      cases e : mt v with
      | none => exact h1 e
      | some w =>
        obtain ⟨nt', _, _, q⟩ := swap G M N e h2
        have := len_le_n (l := common n mt nt') (n := n) (List.nodup_range.filter _) fun x hx => (mem_common.mp hx).1
        omega
    · exact ⟨nt, N, hc, fun v hv e => h ⟨v, hv, e⟩⟩
  | succ k ih =>
    intro nt hk N hc
    by_cases h : ∃ v, mt v ≠ none ∧ nt v = none
    · obtain ⟨v, h1, h2⟩ := h
      cases e : mt v with
      | none => exact absurd e h1
      | some w =>
        obtain ⟨nt', a, b, q⟩ := swap G M N e h2
        exact ih nt' (by omega) a (by omega)
    · exact ⟨nt, N, hc, fun v hv e => h ⟨v, hv, e⟩⟩

/-- where the search hangs from everybody unserved, the plan is a largest one -/
theorem largest (G : Gr n adj) (M : Mat n adj mt) (H : ∀ r, r < n → mt r = none → ∃ S rk, Inv n adj mt r S rk ∧ Hung adj S) (N : Mat n adj nt) : (cov n nt).length ≤ (cov n mt).length := by
  by_cases hc : (cov n mt).length < (cov n nt).length
  · exfalso
    obtain ⟨nt', N', c', hs⟩ := berge G M _ nt (Nat.le_refl _) N hc
    by_cases h : ∃ r, r < n ∧ nt' r ≠ none ∧ mt r = none
    · obtain ⟨r, h1, h2, h3⟩ := h
      obtain ⟨S, rk, I, Hg⟩ := H r h1 h3
      refine barrier G M N' h3 I Hg fun v hv => ?_
      by_cases e : v = r
      · rw [e]; exact h2
      · refine hs v ?_
        by_cases hb : S.base v = v
        · obtain ⟨o, _, q, _⟩ := I.up v hv hb e
          rw [q]; exact fun z => nomatch z
        · obtain ⟨m, hm⟩ := I.has hv hb
          rw [hm]; exact fun z => nomatch z
    · have := len_le_of_sub (l := cov n nt') (l' := cov n mt) (List.nodup_range.filter _) fun v hv => by
        obtain ⟨a, b⟩ := mem_cov.mp hv
        exact mem_cov.mpr ⟨a, fun e => h ⟨v, a, b, e⟩⟩
      omega
  · omega
end
end Blo
set_option autoImplicit false
namespace Blo

abbrev Pr := Nat × Nat
def ord (a b : Nat) : Pr := (min a b, max a b)
theorem ord_comm (a b : Nat) : ord a b = ord b a := by unfold ord; rw [Nat.min_comm, Nat.max_comm]
def Lx (e f : Pr) : Prop := e.1 < f.1 ∨ (e.1 = f.1 ∧ e.2 < f.2)
structure WebOk (n : Nat) (ps : List Pr) : Prop where
  up : ps.Pairwise Lx
  lt : ∀ e ∈ ps, e.1 < e.2 ∧ e.2 < n
def Apart (e f : Pr) : Prop := e.1 ≠ f.1 ∧ e.1 ≠ f.2 ∧ e.2 ≠ f.1 ∧ e.2 ≠ f.2
def IsPlan (ps p : List Pr) : Prop := p.Sublist ps ∧ p.Pairwise Apart
def adjOf (ps : List Pr) (u v : Nat) : Prop := (u, v) ∈ ps ∨ (v, u) ∈ ps
def nearOf (ps : List Pr) (u : Nat) : List Nat := (ps.filter fun e => decide (u = e.1) || decide (u = e.2)).map fun e => if e.2 = u then e.1 else e.2
def matesFrom (p : List Pr) (f : Nat → Option Nat) : Nat → Option Nat := p.foldl (fun f e => put (put f e.1 (some e.2)) e.2 (some e.1)) f
def matesOf (p : List Pr) : Nat → Option Nat := matesFrom p fun _ => none
def servedL (p : List Pr) : List Nat := p.flatMap fun e => [e.1, e.2]
def stepsL : List Nat → List Pr
  | a :: b :: t => ord a b :: stepsL (b :: t)
  | _ => []
def turnM (ps p : List Pr) (path : List Nat) : List Pr := ps.filter fun e => decide (e ∈ p) != decide (e ∈ stepsL path)

theorem len_le_of_subP {l l' : List Pr} (hn : l.Nodup) (hs : ∀ x ∈ l, x ∈ l') : l.length ≤ l'.length := by
  induction l generalizing l' with
  | nil => exact Nat.zero_le _
  | cons a l ih =>
    obtain ⟨h1, h2⟩ := List.nodup_cons.mp hn
    have ha := hs a List.mem_cons_self
    have h3 : l.length ≤ (l'.erase a).length := ih h2 fun x hx => by
      have hxa : x ≠ a := fun e => h1 (e ▸ hx)
      exact (List.mem_erase_of_ne hxa).mpr (hs x (List.mem_cons_of_mem _ hx))
    rw [List.length_erase_of_mem ha] at h3
    have : 0 < l'.length := List.length_pos_of_mem ha
    simp only [List.length_cons]
    omega
theorem len_eqP {l l' : List Pr} (h1 : l.Nodup) (h2 : l'.Nodup) (h : ∀ x, x ∈ l ↔ x ∈ l') : l.length = l'.length :=
  Nat.le_antisymm (len_le_of_subP h1 fun x => (h x).mp) (len_le_of_subP h2 fun x => (h x).mpr)
theorem len_eqN {l l' : List Nat} (h1 : l.Nodup) (h2 : l'.Nodup) (h : ∀ x, x ∈ l ↔ x ∈ l') : l.length = l'.length :=
  Nat.le_antisymm (len_le_of_sub h1 fun x => (h x).mp) (len_le_of_sub h2 fun x => (h x).mpr)

theorem split_len (B : List Pr) : ∀ p : List Pr, p.length = (p.filter (fun e => decide (e ∈ B))).length + (p.filter (fun e => decide (e ∉ B))).length
  | [] => rfl
  | e :: p => by
    have ih := split_len B p
    by_cases h : e ∈ B
    · rw [List.filter_cons_of_pos (by simpa using h), List.filter_cons_of_neg (by simpa using h)]
      simp only [List.length_cons]
      omega
    · rw [List.filter_cons_of_neg (by simpa using h), List.filter_cons_of_pos (by simpa using h)]
      simp only [List.length_cons]
      omega

section
variable {n : Nat} {ps p q : List Pr}
theorem WebOk.nodup (W : WebOk n ps) : ps.Nodup := W.up.imp fun {a b} h e => by
  subst e
  rcases h with h | ⟨_, h⟩ <;> omega
theorem WebOk.gr (W : WebOk n ps) : Gr n (adjOf ps) where
  sym := fun u v h => h.symm
  irr := fun u h => by
    rcases h with h | h
    · have := (W.lt _ h).1; simp at this
    · have := (W.lt _ h).1; simp at this
  lt := fun u v h => by
    rcases h with h | h
    · have h1 := (W.lt _ h).1; have h2 := (W.lt _ h).2; simp at h1 h2; omega
    · have h2 := (W.lt _ h).2; simpa using h2
theorem mem_near {u w : Nat} (W : WebOk n ps) : w ∈ nearOf ps u ↔ adjOf ps u w := by
  unfold nearOf adjOf
  rw [List.mem_map]
  constructor
  · rintro ⟨⟨a, b⟩, h1, h2⟩
    obtain ⟨h3, h4⟩ := List.mem_filter.mp h1
    simp only [Bool.or_eq_true, decide_eq_true_eq] at h4
    simp only at h2
    by_cases e : b = u
    · rw [if_pos e] at h2
      rw [← h2, ← e]; exact .inr h3
    · rw [if_neg e] at h2
      rcases h4 with h4 | h4
      · rw [← h2, h4]; exact .inl h3
      · exact absurd h4.symm e
  · rintro (h | h)
    · refine ⟨(u, w), List.mem_filter.mpr ⟨h, by simp⟩, ?_⟩
      have := (W.lt _ h).1
      simp only at this ⊢
      rw [if_neg (by omega)]
    · exact ⟨(w, u), List.mem_filter.mpr ⟨h, by simp⟩, by simp⟩

theorem matesFrom_out : ∀ (p : List Pr) (f : Nat → Option Nat) (a : Nat), (∀ e ∈ p, a ≠ e.1 ∧ a ≠ e.2) → matesFrom p f a = f a
  | [], f, a, _ => rfl
  | e :: p, f, a, h => by
    obtain ⟨h1, h2⟩ := h e List.mem_cons_self
    show matesFrom p (put (put f e.1 (some e.2)) e.2 (some e.1)) a = f a
    rw [matesFrom_out p _ a fun e' he => h e' (List.mem_cons_of_mem _ he), put_ne _ _ h2, put_ne _ _ h1]
theorem matesFrom_in : ∀ (p : List Pr) (f : Nat → Option Nat), p.Pairwise Apart → (∀ e ∈ p, e.1 < e.2) → ∀ e ∈ p, matesFrom p f e.1 = some e.2 ∧ matesFrom p f e.2 = some e.1
  | [], _, _, _, e, h => nomatch h
  | e :: p, f, hp, hl, g, hg => by
    obtain ⟨h1, h2⟩ := List.pairwise_cons.mp hp
    rcases List.mem_cons.mp hg with rfl | hg
    · have hlt := hl g List.mem_cons_self
      have o1 : ∀ e' ∈ p, g.1 ≠ e'.1 ∧ g.1 ≠ e'.2 := fun e' he => ⟨(h1 e' he).1, (h1 e' he).2.1⟩
      have o2 : ∀ e' ∈ p, g.2 ≠ e'.1 ∧ g.2 ≠ e'.2 := fun e' he => ⟨(h1 e' he).2.2.1, (h1 e' he).2.2.2⟩
      refine ⟨?_, ?_⟩
      · show matesFrom p (put (put f g.1 (some g.2)) g.2 (some g.1)) g.1 = _
        rw [matesFrom_out p _ _ o1, put_ne _ _ (by omega), put_same]
      · show matesFrom p (put (put f g.1 (some g.2)) g.2 (some g.1)) g.2 = _
        rw [matesFrom_out p _ _ o2, put_same]
    · exact matesFrom_in p _ h2 (fun e' he => hl e' (List.mem_cons_of_mem _ he)) g hg
theorem mates_iff (W : WebOk n ps) (P : IsPlan ps p) {a b : Nat} : matesOf p a = some b ↔ (a, b) ∈ p ∨ (b, a) ∈ p := by
  have hl : ∀ e ∈ p, e.1 < e.2 := fun e he => (W.lt e (P.1.subset he)).1
  constructor
  · intro h
    by_cases ho : ∀ e ∈ p, a ≠ e.1 ∧ a ≠ e.2
    · rw [matesOf, matesFrom_out p _ a ho] at h
      cases h
    · have : ∃ e ∈ p, a = e.1 ∨ a = e.2 := Classical.byContradiction fun hn => ho fun e he => ⟨fun q => hn ⟨e, he, .inl q⟩, fun q => hn ⟨e, he, .inr q⟩⟩
      obtain ⟨e, he, q⟩ := this
      obtain ⟨m1, m2⟩ := matesFrom_in p (fun _ => none) P.2 hl e he
      rcases q with q | q
      · rw [matesOf, q, m1] at h
        cases h
        rw [q]; exact .inl he
      · rw [matesOf, q, m2] at h
        cases h
        rw [q]; exact .inr he
  · rintro (h | h)
    · exact (matesFrom_in p (fun _ => none) P.2 hl _ h).1
    · exact (matesFrom_in p (fun _ => none) P.2 hl _ h).2
theorem mates_mat (W : WebOk n ps) (P : IsPlan ps p) : Mat n (adjOf ps) (matesOf p) where
  sym := fun u v h => (mates_iff W P).mpr ((mates_iff W P).mp h).symm
  adj := fun u v h => by
    rcases (mates_iff W P).mp h with h | h
    · exact .inl (P.1.subset h)
    · exact .inr (P.1.subset h)
theorem mem_served {z : Nat} : z ∈ servedL p ↔ ∃ e ∈ p, z = e.1 ∨ z = e.2 := by
  unfold servedL
  rw [List.mem_flatMap]
  constructor
  · rintro ⟨e, h1, h2⟩
    refine ⟨e, h1, ?_⟩
    simpa using h2
  · rintro ⟨e, h1, h2⟩
    exact ⟨e, h1, by simpa using h2⟩
theorem served_iff (W : WebOk n ps) (P : IsPlan ps p) {z : Nat} : z ∈ servedL p ↔ matesOf p z ≠ none := by
  rw [mem_served]
  constructor
  · rintro ⟨⟨a, b⟩, h, e | e⟩
    · simp only at e
      rw [(mates_iff W P (a := z) (b := b)).mpr (.inl (e ▸ h))]; exact fun z => nomatch z
    · simp only at e
      rw [(mates_iff W P (a := z) (b := a)).mpr (.inr (e ▸ h))]; exact fun z => nomatch z
  · intro h
    cases e : matesOf p z with
    | none => exact absurd e h
    | some b =>
      rcases (mates_iff W P).mp e with q | q
      · exact ⟨_, q, .inl rfl⟩
      · exact ⟨_, q, .inr rfl⟩
theorem served_len : ∀ p : List Pr, (servedL p).length = 2 * p.length
  | [] => rfl
  | e :: p => by
    show (e.1 :: e.2 :: servedL p).length = 2 * (p.length + 1)
    simp only [List.length_cons, served_len p]
    omega
theorem served_nodup : ∀ p : List Pr, p.Pairwise Apart → (∀ e ∈ p, e.1 < e.2) → (servedL p).Nodup
  | [], _, _ => List.nodup_nil
  | e :: p, hp, hl => by
    obtain ⟨h1, h2⟩ := List.pairwise_cons.mp hp
    have ih := served_nodup p h2 fun e' he => hl e' (List.mem_cons_of_mem _ he)
    have hlt := hl e List.mem_cons_self
    show (e.1 :: e.2 :: servedL p).Nodup
    refine List.nodup_cons.mpr ⟨fun hm => ?_, List.nodup_cons.mpr ⟨fun hm => ?_, ih⟩⟩
    · rcases List.mem_cons.mp hm with q | q
      · omega
      · obtain ⟨e', he, q | q⟩ := mem_served.mp q
        · exact (h1 e' he).1 q
        · exact (h1 e' he).2.1 q
    · obtain ⟨e', he, q | q⟩ := mem_served.mp hm
      · exact (h1 e' he).2.2.1 q
      · exact (h1 e' he).2.2.2 q
theorem cov_len (W : WebOk n ps) (P : IsPlan ps p) : (cov n (matesOf p)).length = 2 * p.length := by
  rw [← served_len]
  have hl : ∀ e ∈ p, e.1 < e.2 := fun e he => (W.lt e (P.1.subset he)).1
  refine len_eqN (List.nodup_range.filter _) (served_nodup p P.2 hl) fun x => ?_
  rw [mem_cov, served_iff W P]
  constructor
  · exact fun h => h.2
  · intro h
    refine ⟨?_, h⟩
    cases e : matesOf p x with
    | none => exact absurd e h
    | some b => exact W.gr.lt x b ((mates_mat W P).adj _ _ e)
theorem plan_len (W : WebOk n ps) (P : IsPlan ps p) : 2 * p.length ≤ n := by
  rw [← cov_len W P]
  exact len_le_n (List.nodup_range.filter _) fun x hx => (mem_cov.mp hx).1
theorem plan_nodup (W : WebOk n ps) (P : IsPlan ps p) : p.Nodup := W.nodup.sublist P.1

/-! ### pairs along a path -/
def altA : List Nat → List Pr
  | a :: b :: t => ord a b :: altA t
  | _ => []
theorem altA_len : ∀ l : List Nat, (altA l).length = l.length / 2
  | [] => rfl
  | [_] => by simp [altA]
  | a :: b :: t => by
    simp only [altA, List.length_cons, altA_len t]
    omega
theorem mem_steps : ∀ (l : List Nat) (e : Pr), e ∈ stepsL l ↔ e ∈ altA l ∨ e ∈ altA l.tail
  | [], e => by simp [stepsL, altA]
  | [_], e => by simp [stepsL, altA]
  | a :: b :: t, e => by
    have ih := mem_steps (b :: t) e
    show e ∈ ord a b :: stepsL (b :: t) ↔ e ∈ ord a b :: altA t ∨ e ∈ altA (b :: t)
    rw [List.mem_cons, List.mem_cons, ih]
    show e = ord a b ∨ e ∈ altA (b :: t) ∨ e ∈ altA t ↔ _
    constructor
    · rintro (h | h | h)
      · exact .inl (.inl h)
      · exact .inr h
      · exact .inl (.inr h)
    · rintro ((h | h) | h)
      · exact .inl h
      · exact .inr (.inr h)
      · exact .inr (.inl h)
theorem steps_snoc : ∀ (l : List Nat) (a b : Nat), stepsL (l ++ [a, b]) = stepsL (l ++ [a]) ++ [ord a b]
  | [], a, b => rfl
  | [c], a, b => rfl
  | c :: d :: l, a, b => by
    show ord c d :: stepsL (d :: l ++ [a, b]) = ord c d :: (stepsL (d :: l ++ [a]) ++ [ord a b])
    rw [steps_snoc (d :: l) a b]
theorem steps_rev : ∀ l : List Nat, stepsL l.reverse = (stepsL l).reverse
  | [] => rfl
  | [_] => rfl
  | a :: b :: t => by
    have ih := steps_rev (b :: t)
    simp only [List.reverse_cons] at ih
    simp only [stepsL, List.reverse_cons, List.append_assoc, List.cons_append, List.nil_append]
    rw [steps_snoc, ih, ord_comm b a]
theorem steps_len : ∀ l : List Nat, (stepsL l).length = l.length - 1
  | [] => rfl
  | [_] => rfl
  | a :: b :: t => by
    simp only [stepsL, List.length_cons]
    rw [steps_len (b :: t)]
    simp
theorem altA_in : ∀ (l : List Nat) (e : Pr), e ∈ altA l → e.1 ∈ l ∧ e.2 ∈ l
  | [], e, h => nomatch h
  | [_], e, h => nomatch h
  | a :: b :: t, e, h => by
    rcases List.mem_cons.mp h with rfl | h
    · unfold ord
      simp only [Nat.min_def, Nat.max_def]
      split <;> simp
    · have := altA_in t e h
      exact ⟨by simp [this.1], by simp [this.2]⟩
theorem altA_apart : ∀ l : List Nat, l.Nodup → (altA l).Pairwise Apart
  | [], _ => List.Pairwise.nil
  | [_], _ => List.Pairwise.nil
  | a :: b :: t, h => by
    obtain ⟨h1, h2⟩ := List.nodup_cons.mp h
    obtain ⟨h3, h4⟩ := List.nodup_cons.mp h2
    refine List.pairwise_cons.mpr ⟨fun e he => ?_, altA_apart t h4⟩
    obtain ⟨i1, i2⟩ := altA_in t e he
    have ha : ∀ x ∈ t, a ≠ x := fun x hx q => h1 (by rw [q]; simp [hx])
    have hb : ∀ x ∈ t, b ≠ x := fun x hx q => h3 (by rw [q]; exact hx)
    have hmm : ∀ x ∈ t, (ord a b).1 ≠ x ∧ (ord a b).2 ≠ x := fun x hx => by
      unfold ord
      simp only [Nat.min_def, Nat.max_def]
      split
      · exact ⟨ha x hx, hb x hx⟩
      · exact ⟨hb x hx, ha x hx⟩
    exact ⟨(hmm _ i1).1, (hmm _ i2).1, (hmm _ i1).2, (hmm _ i2).2⟩
theorem altA_cover : ∀ l : List Nat, l.length % 2 = 0 → ∀ z ∈ l, ∃ e ∈ altA l, z = e.1 ∨ z = e.2
  | [], _, z, h => nomatch h
  | [a], h, _, _ => by simp at h
  | a :: b :: t, h, z, hz => by
    have ht : t.length % 2 = 0 := by simp only [List.length_cons] at h; omega
    have hab : z = a ∨ z = b → z = (ord a b).1 ∨ z = (ord a b).2 := by
      unfold ord
      simp only [Nat.min_def, Nat.max_def]
      split
      · exact id
      · exact Or.symm
    rcases List.mem_cons.mp hz with e | hz
    · exact ⟨ord a b, by simp [altA], hab (.inl e)⟩
    · rcases List.mem_cons.mp hz with e | hz
      · exact ⟨ord a b, by simp [altA], hab (.inr e)⟩
      · obtain ⟨e, he, q⟩ := altA_cover t ht z hz
        exact ⟨e, by simp [altA, he], q⟩
theorem ord_mem (W : WebOk n ps) (P : IsPlan ps p) {a b : Nat} : ord a b ∈ p ↔ matesOf p a = some b := by
  rw [mates_iff W P]
  have hl : ∀ e ∈ p, e.1 < e.2 := fun e he => (W.lt e (P.1.subset he)).1
  unfold ord
  simp only [Nat.min_def, Nat.max_def]
  constructor
  · split
    · exact .inl
    · exact .inr
  · rintro (h | h)
    · have := hl _ h
      simp only at this
      rw [if_pos (by omega), if_pos (by omega)]
      exact h
    · have := hl _ h
      simp only at this
      rw [if_neg (by omega), if_neg (by omega)]
      exact h
theorem ord_mem_web (W : WebOk n ps) {a b : Nat} : ord a b ∈ ps ↔ adjOf ps a b := by
  unfold ord adjOf
  simp only [Nat.min_def, Nat.max_def]
  constructor
  · split
    · exact .inl
    · exact .inr
  · rintro (h | h)
    · have := (W.lt _ h).1
      simp only at this
      rw [if_pos (by omega), if_pos (by omega)]
      exact h
    · have := (W.lt _ h).1
      simp only at this
      rw [if_neg (by omega), if_neg (by omega)]
      exact h

section
variable {bk : Nat → Option Nat} {r v : Nat} {L : List Nat}
theorem FC.odd (h : FC (adjOf ps) (matesOf p) bk r v L) : L.length % 2 = 1 := by
  induction h with
  | nil => rfl
  | cons _ _ _ _ _ _ ih => simp only [List.length_cons]; omega
/-- the pairs of the way by turns: not of the plan, of the plan, .. -/
theorem FC.alt (W : WebOk n ps) (P : IsPlan ps p) (h : FC (adjOf ps) (matesOf p) bk r v L) : ∀ w, adjOf ps v w → matesOf p w ≠ some v → ∀ (i : Nat) (e : Pr), (stepsL (w :: L))[i]? = some e → e ∈ ps ∧ (e ∈ p ↔ i % 2 = 1) := by
  induction h with
  | nil =>
    intro w ha hm i e he
    match i, he with
    | 0, he =>
      have e1 : ord w r = e := Option.some.inj he
      rw [← e1]
      refine ⟨(ord_mem_web W).mpr ha.symm, fun h => ?_, fun h => by simp at h⟩
      exact absurd ((ord_mem W P).mp h) hm
  | @cons v m x L h1 h2 h3 h4 h5 h6 ih =>
    intro w ha hm i e he
    obtain ⟨T, rfl⟩ := h6.head
    match i, he with
    | 0, he =>
      have e1 : ord w v = e := Option.some.inj he
      rw [← e1]
      refine ⟨(ord_mem_web W).mpr ha.symm, fun h => ?_, fun h => by simp at h⟩
      exact absurd ((ord_mem W P).mp h) hm
    | 1, he =>
      have e1 : ord v m = e := Option.some.inj he
      rw [← e1]
      have := (ord_mem W P).mpr h1
      exact ⟨P.1.subset this, fun _ => rfl, fun _ => this⟩
    | i + 2, he =>
      have h7 : matesOf p m ≠ some x := fun q => by
        have := (mates_mat W P).sym _ _ h1
        rw [q] at this
        cases this
        exact h4 (by simp)
      obtain ⟨z1, z2⟩ := ih m h3.symm h7 i e he
      exact ⟨z1, z2.trans ⟨fun h => by omega, fun h => by omega⟩⟩
theorem FC.altB (W : WebOk n ps) (P : IsPlan ps p) (h : FC (adjOf ps) (matesOf p) bk r v L) : ∀ e ∈ altA L, e ∈ p := by
  induction h with
  | nil => intro e he; nomatch he
  | @cons v m x L h1 h2 h3 h4 h5 h6 ih =>
    intro e he
    rcases List.mem_cons.mp he with rfl | he
    · exact (ord_mem W P).mpr h1
    · exact ih e he
theorem FC.altNew (W : WebOk n ps) (P : IsPlan ps p) (h : FC (adjOf ps) (matesOf p) bk r v L) : ∀ w, adjOf ps v w → matesOf p w ≠ some v → ∀ e ∈ altA (w :: L), e ∈ ps ∧ e ∉ p := by
  induction h with
  | nil =>
    intro w ha hm e he
    have e1 : e = ord w r := by simpa [altA] using he
    rw [e1]
    exact ⟨(ord_mem_web W).mpr ha.symm, fun h => hm ((ord_mem W P).mp h)⟩
  | @cons v m x L h1 h2 h3 h4 h5 h6 ih =>
    intro w ha hm e he
    rcases List.mem_cons.mp he with rfl | he
    · exact ⟨(ord_mem_web W).mpr ha.symm, fun h => hm ((ord_mem W P).mp h)⟩
    · obtain ⟨T, rfl⟩ := h6.head
      have h7 : matesOf p m ≠ some x := fun q => by
        have := (mates_mat W P).sym _ _ h1
        rw [q] at this
        cases this
        exact h4 (by simp)
      exact ih m h3.symm h7 e he
theorem FC.inB (h : FC (adjOf ps) (matesOf p) bk r v L) (hs : ∀ u v, matesOf p u = some v → matesOf p v = some u) : ∀ z ∈ L, ∀ y, matesOf p z = some y → z = r ∨ ord z y ∈ altA L := by
  induction h with
  | nil => intro z hz y _; exact .inl (List.mem_singleton.mp hz)
  | @cons v m x L h1 h2 h3 h4 h5 h6 ih =>
    intro z hz y hy
    rcases List.mem_cons.mp hz with rfl | hz
    · rw [h1] at hy; cases hy
      exact .inr (by simp [altA])
    · rcases List.mem_cons.mp hz with rfl | hz
      · rw [hs _ _ h1] at hy; cases hy
        exact .inr (by rw [ord_comm]; simp [altA])
      · rcases ih z hz y hy with e | e
        · exact .inl e
        · exact .inr (by simp [altA, e])

/-- turned by a way between two unserved ones -/
theorem aug (W : WebOk n ps) (P : IsPlan ps p) (h : FC (adjOf ps) (matesOf p) bk r v L) {w : Nat} (hr : matesOf p r = none) (ha : adjOf ps v w) (hw : matesOf p w = none) (hwL : w ∉ L) (hL : L.Nodup) :
    IsPlan ps (turnM ps p (L.reverse ++ [w])) ∧ (turnM ps p (L.reverse ++ [w])).length = p.length + 1 ∧ ∀ z ∈ servedL p, z ∈ servedL (turnM ps p (L.reverse ++ [w])) := by
  have M := mates_mat W P
  have hrev : L.reverse ++ [w] = (w :: L).reverse := by simp
  have hst : ∀ e, e ∈ stepsL (L.reverse ++ [w]) ↔ e ∈ altA (w :: L) ∨ e ∈ altA L := fun e => by
    rw [hrev, steps_rev, List.mem_reverse, mem_steps]
    rfl
  have hwv : matesOf p w ≠ some v := by rw [hw]; exact fun z => nomatch z
  have hA := h.altNew W P w ha hwv
  have hB := h.altB W P
  have hRn : (w :: L).Nodup := List.nodup_cons.mpr ⟨hwL, hL⟩
  have hodd := h.odd
  -- who is in the new plan
  have hq : ∀ e, e ∈ turnM ps p (L.reverse ++ [w]) ↔ (e ∈ p ∧ e ∉ altA L) ∨ e ∈ altA (w :: L) := fun e => by
    unfold turnM
    rw [List.mem_filter]
    have hs := hst e
    constructor
    · rintro ⟨h1, h2⟩
      simp only [bne_iff_ne, ne_eq, decide_eq_decide] at h2
      by_cases ep : e ∈ p
      · refine .inl ⟨ep, fun q => h2 ⟨fun _ => hs.mpr (.inr q), fun _ => ep⟩⟩
      · by_cases es : e ∈ stepsL (L.reverse ++ [w])
        · rcases hs.mp es with q | q
          · exact .inr q
          · exact absurd (hB e q) ep
        · exact absurd ⟨fun z => absurd z ep, fun z => absurd z es⟩ h2
    · rintro (⟨h1, h2⟩ | h1)
      · refine ⟨P.1.subset h1, ?_⟩
        simp only [bne_iff_ne, ne_eq, decide_eq_decide]
        intro z
        rcases hs.mp (z.mp h1) with q | q
        · exact (hA e q).2 h1
        · exact h2 q
      · refine ⟨(hA e h1).1, ?_⟩
        simp only [bne_iff_ne, ne_eq, decide_eq_decide]
        intro z
        exact (hA e h1).2 (z.mpr (hs.mpr (.inl h1)))
  have hqn : (turnM ps p (L.reverse ++ [w])).Nodup := W.nodup.filter _
  have hpn := plan_nodup W P
  have hBn : (altA L).Nodup := (altA_apart L hL).imp fun {a b} h e => h.1 (by rw [e])
  have hAn : (altA (w :: L)).Nodup := (altA_apart (w :: L) hRn).imp fun {a b} h e => h.1 (by rw [e])
  -- pairs that stay are off the way
  have off : ∀ e ∈ p, e ∉ altA L → ∀ z ∈ w :: L, z ≠ e.1 ∧ z ≠ e.2 := fun e he hn z hz => by
    obtain ⟨a, b⟩ := e
    have m1 : matesOf p a = some b := (mates_iff W P).mpr (.inl he)
    have m2 : matesOf p b = some a := (mates_iff W P).mpr (.inr he)
    have key : ∀ c d, matesOf p c = some d → ord c d = (a, b) → z ≠ c := fun c d hc ho e => by
      subst e
      rcases List.mem_cons.mp hz with e | hz
      · rw [e, hw] at hc; cases hc
      · rcases h.inB M.sym z hz d hc with e | e
        · rw [e, hr] at hc; cases hc
        · rw [ho] at e; exact hn e
    have hlt := (W.lt _ (P.1.subset he)).1
    simp only at hlt
    have o1 : ord a b = (a, b) := by unfold ord; rw [Nat.min_eq_left (by omega), Nat.max_eq_right (by omega)]
    exact ⟨key a b m1 o1, key b a m2 (by rw [ord_comm]; exact o1)⟩
  refine ⟨⟨List.filter_sublist, ?_⟩, ?_, ?_⟩
  · -- apart
    have apP : ∀ e ∈ p, ∀ f ∈ p, e ≠ f → Apart e f := fun e he f hf hne => by
      have key : ∀ c d, (c = e.1 ∧ d = e.2 ∨ c = e.2 ∧ d = e.1) → c ≠ f.1 ∧ c ≠ f.2 := fun c d hcd => by
        obtain ⟨f1, f2⟩ := f
        obtain ⟨e1, e2⟩ := e
        have hle := (W.lt _ (P.1.subset he)).1
        have hlf := (W.lt _ (P.1.subset hf)).1
        simp only at hcd hle hlf ⊢
        have mf1 : matesOf p f1 = some f2 := (mates_iff W P).mpr (.inl hf)
        have mf2 : matesOf p f2 = some f1 := (mates_iff W P).mpr (.inr hf)
        have me : matesOf p c = some d := by
          rcases hcd with ⟨a, b⟩ | ⟨a, b⟩
          · rw [a, b]; exact (mates_iff W P).mpr (.inl he)
          · rw [a, b]; exact (mates_iff W P).mpr (.inr he)
        refine ⟨fun q => ?_, fun q => ?_⟩
        · rw [q, mf1] at me
          cases me
          rcases hcd with ⟨a, b⟩ | ⟨a, b⟩
          · exact hne (by rw [← a, ← b, q])
          · omega
        · rw [q, mf2] at me
          cases me
          rcases hcd with ⟨a, b⟩ | ⟨a, b⟩
          · omega
          · exact hne (by rw [← a, ← b, q])
      exact ⟨(key e.1 e.2 (.inl ⟨rfl, rfl⟩)).1, (key e.1 e.2 (.inl ⟨rfl, rfl⟩)).2, (key e.2 e.1 (.inr ⟨rfl, rfl⟩)).1, (key e.2 e.1 (.inr ⟨rfl, rfl⟩)).2⟩
    have apA : ∀ e ∈ altA (w :: L), ∀ f ∈ altA (w :: L), e ≠ f → Apart e f := by
      have symA : ∀ {e f : Pr}, Apart e f → Apart f e := fun h => ⟨Ne.symm h.1, Ne.symm h.2.2.1, Ne.symm h.2.1, Ne.symm h.2.2.2⟩
      have gen : ∀ l : List Pr, l.Pairwise Apart → ∀ e ∈ l, ∀ f ∈ l, e ≠ f → Apart e f := by
        intro l
        induction l with
        | nil => intro _ e he; nomatch he
        | cons a l ih =>
          intro hp e he f hf hne
          obtain ⟨h1, h2⟩ := List.pairwise_cons.mp hp
          rcases List.mem_cons.mp he with e1 | he
          · rcases List.mem_cons.mp hf with f1 | hf
            · exact absurd (e1.trans f1.symm) hne
            · rw [e1]; exact h1 f hf
          · rcases List.mem_cons.mp hf with f1 | hf
            · rw [f1]; exact symA (h1 e he)
            · exact ih h2 e he f hf hne
      exact gen _ (altA_apart _ hRn)
    have all : ∀ e ∈ turnM ps p (L.reverse ++ [w]), ∀ f ∈ turnM ps p (L.reverse ++ [w]), e ≠ f → Apart e f := fun e he f hf hne => by
      rcases (hq e).mp he with ⟨a1, a2⟩ | a1
      · rcases (hq f).mp hf with ⟨b1, b2⟩ | b1
        · exact apP e a1 f b1 hne
        · obtain ⟨i1, i2⟩ := altA_in _ _ b1
          have x1 := off e a1 a2 _ i1
          have x2 := off e a1 a2 _ i2
          exact ⟨Ne.symm x1.1, Ne.symm x2.1, Ne.symm x1.2, Ne.symm x2.2⟩
      · rcases (hq f).mp hf with ⟨b1, b2⟩ | b1
        · obtain ⟨i1, i2⟩ := altA_in _ _ a1
          have x1 := off f b1 b2 _ i1
          have x2 := off f b1 b2 _ i2
          exact ⟨x1.1, x1.2, x2.1, x2.2⟩
        · exact apA e a1 f b1 hne
    exact hqn.imp_of_mem fun {a b} ha hb hne => all a ha b hb hne
  · -- one more
    have e1 : (turnM ps p (L.reverse ++ [w])).length = (p.filter (fun e => decide (e ∉ altA L)) ++ altA (w :: L)).length := by
      refine len_eqP hqn ?_ fun x => ?_
      · rw [List.nodup_append]
        refine ⟨hpn.filter _, hAn, fun a ha b hb e => ?_⟩
        rw [e] at ha
        exact (hA b hb).2 (List.mem_filter.mp ha).1
      · rw [hq, List.mem_append, List.mem_filter]
        simp
    have e2 : (p.filter (fun e => decide (e ∈ altA L))).length = (altA L).length := by
      refine len_eqP (hpn.filter _) hBn fun x => ?_
      rw [List.mem_filter]
      constructor
      · exact fun h => by simpa using h.2
      · exact fun h => ⟨hB x h, by simpa using h⟩
    have e3 : p.length = (p.filter (fun e => decide (e ∈ altA L))).length + (p.filter (fun e => decide (e ∉ altA L))).length := by
      exact split_len (altA L) p
    rw [e1, List.length_append, altA_len]
    rw [e2, altA_len] at e3
    simp only [List.length_cons]
    omega
  · intro z hz
    obtain ⟨e, he, hze⟩ := mem_served.mp hz
    by_cases hin : e ∈ altA L
    · have hzL : z ∈ w :: L := by
        obtain ⟨i1, i2⟩ := altA_in _ _ hin
        rcases hze with q | q
        · rw [q]; exact List.mem_cons_of_mem _ i1
        · rw [q]; exact List.mem_cons_of_mem _ i2
      obtain ⟨f, hf, hzf⟩ := altA_cover (w :: L) (by simp only [List.length_cons]; omega) z hzL
      exact mem_served.mpr ⟨f, (hq f).mpr (.inr hf), hzf⟩
    · exact mem_served.mpr ⟨e, (hq e).mpr (.inl ⟨he, hin⟩), hze⟩
end
end
end Blo
set_option autoImplicit false
namespace Blo

/-- a way that may be turned -/
structure PathOk (n : Nat) (ps p : List Pr) (path : List Nat) : Prop where
  nd : path.Nodup
  lt : ∀ z ∈ path, z < n
  len : path.length % 2 = 0
  two : 2 ≤ path.length
  alt : ∀ (i : Nat) (e : Pr), (stepsL path)[i]? = some e → e ∈ ps ∧ (e ∈ p ↔ i % 2 = 1)
  fst : ∀ z, path.head? = some z → z ∉ servedL p
  lst : ∀ z, path.getLast? = some z → z ∉ servedL p

def tryRoot (n : Nat) (ps p : List Pr) (r : Nat) : Option (St × Option Nat) := runLoop n (matesOf p) r (n + 1) (nearOf ps) (n + 1) 0 (start r)
def tryRoots (n : Nat) (ps p : List Pr) : List Nat → Option (Option (List Pr))
  | [] => some none
  | r :: rs => match tryRoot n ps p r with
    | none => none
    | some (_, none) => tryRoots n ps p rs
    | some (S, some w) => match S.back w with
      | none => none
      | some one => match wayLoop (matesOf p) S.back r (n + 1) [one] one with
        | none => none
        | some L => some (some (turnM ps p (L.reverse ++ [w])))
def rootsOf (n : Nat) (p : List Pr) : List Nat := (List.range n).filter fun v => decide (v ∉ servedL p)
def grownM (n : Nat) (ps p : List Pr) : Option (Option (List Pr)) := tryRoots n ps p (rootsOf n p)
def growAll (n : Nat) (ps : List Pr) : Nat → List Pr → Option (List Pr)
  | 0, _ => none
  | k + 1, p => match grownM n ps p with
    | none => none
    | some none => some p
    | some (some q) => growAll n ps k q
def largestM (n : Nat) (ps : List Pr) : Option (List Pr) := growAll n ps (n + 1) []
def clash (e o : Pr) : Bool := decide (o.1 = e.1) || decide (o.1 = e.2) || (decide (o.2 = e.1) || decide (o.2 = e.2))
def morePlans (fd : List (List Pr)) (e : Pr) : List (List Pr) := fd ++ (fd.filter fun pl => (pl.filter (clash e)).isEmpty).map (· ++ [e])
def plansM (ps : List Pr) : List (List Pr) := ps.foldl morePlans [[]]

section
variable {n : Nat} {ps p q : List Pr}
theorem try_ok (W : WebOk n ps) (P : IsPlan ps p) {r : Nat} (hrn : r < n) (hr : r ∉ servedL p) : ∃ S g, tryRoot n ps p r = some (S, g) ∧
    ((g = none ∧ ∃ rk, Inv n (adjOf ps) (matesOf p) r S rk ∧ Hung (adjOf ps) S) ∨ ∃ w one L, g = some w ∧ S.back w = some one ∧ wayLoop (matesOf p) S.back r (n + 1) [one] one = some L ∧ w < n ∧ one < n ∧ PathOk n ps p (L.reverse ++ [w]) ∧
      IsPlan ps (turnM ps p (L.reverse ++ [w])) ∧ (turnM ps p (L.reverse ++ [w])).length = p.length + 1 ∧ ∀ z ∈ servedL p, z ∈ servedL (turnM ps p (L.reverse ++ [w]))) := by
  have M := mates_mat W P
  have hr' : matesOf p r = none := Classical.byContradiction fun h => hr ((served_iff W P).mpr h)
  obtain ⟨S, g, h1, h2⟩ := search_ok W.gr M hr' hrn (k := n + 1) (by omega) fun u w => mem_near W
  refine ⟨S, g, h1, ?_⟩
  rcases h2 with ⟨rfl, ⟨rk, I⟩, Hg⟩ | ⟨w, rfl, F⟩
  · exact .inl ⟨rfl, rk, I, Hg⟩
  · obtain ⟨one, L, bk, q1, q2, q3, q4, q5, q6, q7, q8⟩ := F.way W.gr M hr' (k := n + 1) (by omega)
    obtain ⟨a1, a2, a3⟩ := aug W P q2 hr' q4 q5 q6 q7
    have hwn : w < n := W.gr.lt w one (W.gr.sym _ _ q4)
    have hone : one < n := W.gr.lt one w q4
    have hrev : L.reverse ++ [w] = (w :: L).reverse := by simp
    have hodd := q2.odd
    have hL : 1 ≤ L.length := by omega
    refine .inr ⟨w, one, L, rfl, q1, q3, hwn, hone, ⟨?_, ?_, ?_, ?_, ?_, ?_, ?_⟩, a1, a2, a3⟩
    · rw [hrev, (List.reverse_perm _).nodup_iff]; exact List.nodup_cons.mpr ⟨q6, q7⟩
    · intro z hz
      rw [hrev, List.mem_reverse] at hz
      rcases List.mem_cons.mp hz with rfl | hz
      · exact hwn
      · exact q8 z hz
    · rw [hrev, List.length_reverse, List.length_cons]; omega
    · rw [hrev, List.length_reverse, List.length_cons]; omega
    · intro i e he
      rw [hrev, steps_rev] at he
      have hi : i < (stepsL (w :: L)).length := by
        have := (List.getElem?_eq_some_iff.mp he).1
        rwa [List.length_reverse] at this
      rw [List.getElem?_reverse hi] at he
      obtain ⟨z1, z2⟩ := q2.alt W P w q4 (by rw [q5]; exact fun z => nomatch z) _ e he
      refine ⟨z1, z2.trans ?_⟩
      rw [steps_len] at hi ⊢
      simp only [List.length_cons] at hi ⊢
      constructor <;> intro h <;> omega
    · intro z hz
      rw [hrev, List.head?_reverse] at hz
      obtain ⟨T, hT⟩ := q2.last
      rw [hT, ← List.cons_append, List.getLast?_append] at hz
      simp at hz
      rw [← hz]; exact hr
    · intro z hz
      simp at hz
      rw [← hz]
      exact fun h => (served_iff W P).mp h q5

theorem roots_ok (W : WebOk n ps) (P : IsPlan ps p) : ∀ rs : List Nat, (∀ r ∈ rs, r < n ∧ r ∉ servedL p) → ∃ g, tryRoots n ps p rs = some g ∧
    ((g = none ∧ ∀ r ∈ rs, ∃ S rk, Inv n (adjOf ps) (matesOf p) r S rk ∧ Hung (adjOf ps) S) ∨ ∃ q, g = some q ∧ IsPlan ps q ∧ q.length = p.length + 1 ∧ ∀ z ∈ servedL p, z ∈ servedL q) := by
  intro rs
  induction rs with
  | nil => intro _; exact ⟨none, rfl, .inl ⟨rfl, fun r h => nomatch h⟩⟩
  | cons r rs ih =>
    intro h
    obtain ⟨S, g, h1, h2⟩ := try_ok W P (h r List.mem_cons_self).1 (h r List.mem_cons_self).2
    rcases h2 with ⟨rfl, rk, I, Hg⟩ | ⟨w, one, L, rfl, q1, q2, _, _, _, a1, a2, a3⟩
    · obtain ⟨g, z1, z2⟩ := ih fun r' hr' => h r' (List.mem_cons_of_mem _ hr')
      refine ⟨g, by rw [tryRoots, h1]; exact z1, ?_⟩
      rcases z2 with ⟨e, z2⟩ | z2
      · refine .inl ⟨e, fun r' hr' => ?_⟩
        rcases List.mem_cons.mp hr' with rfl | hr'
        · exact ⟨S, rk, I, Hg⟩
        · exact z2 r' hr'
      · exact .inr z2
    · exact ⟨some _, by rw [tryRoots, h1]; simp only [q1, q2], .inr ⟨_, rfl, a1, a2, a3⟩⟩
theorem mem_roots {r : Nat} : r ∈ rootsOf n p ↔ r < n ∧ r ∉ servedL p := by
  unfold rootsOf
  rw [List.mem_filter, List.mem_range]
  simp
/-- what growing gives -/
theorem grown_ok (W : WebOk n ps) (P : IsPlan ps p) : ∃ g, grownM n ps p = some g ∧
    ((g = none ∧ ∀ q, IsPlan ps q → q.length ≤ p.length) ∨ ∃ q, g = some q ∧ IsPlan ps q ∧ q.length = p.length + 1 ∧ ∀ z ∈ servedL p, z ∈ servedL q) := by
  obtain ⟨g, h1, h2⟩ := roots_ok W P (rootsOf n p) fun r hr => mem_roots.mp hr
  refine ⟨g, h1, ?_⟩
  rcases h2 with ⟨e, h2⟩ | h2
  · refine .inl ⟨e, fun q Q => ?_⟩
    have := Blo.largest W.gr (mates_mat W P) (fun r hr hm => h2 r (mem_roots.mpr ⟨hr, fun h => (served_iff W P).mp h hm⟩)) (mates_mat W Q)
    rw [cov_len W P, cov_len W Q] at this
    omega
  · exact .inr h2
theorem growAll_ok (W : WebOk n ps) : ∀ (k : Nat) (p : List Pr), n < 2 * p.length + k → IsPlan ps p → ∃ b, growAll n ps k p = some b ∧ IsPlan ps b ∧ ∀ q, IsPlan ps q → q.length ≤ b.length := by
  intro k
  induction k with
  | zero =>
    intro p hk P
    have := plan_len W P
    omega
  | succ k ih =>
    intro p hk P
    obtain ⟨g, h1, h2⟩ := grown_ok W P
    rcases h2 with ⟨rfl, h2⟩ | ⟨q, rfl, Q, hl, _⟩
    · exact ⟨p, by rw [growAll, h1], P, h2⟩
    · obtain ⟨b, z1, z2⟩ := ih q (by omega) Q
      exact ⟨b, by rw [growAll, h1]; exact z1, z2⟩
theorem plan_nil : IsPlan ps [] := ⟨List.nil_sublist _, List.Pairwise.nil⟩
theorem largest_ok (W : WebOk n ps) : ∃ b, largestM n ps = some b ∧ IsPlan ps b ∧ ∀ q, IsPlan ps q → q.length ≤ b.length := growAll_ok W (n + 1) [] (by simp) plan_nil

theorem clash_apart {e o : Pr} : clash e o = false ↔ Apart o e := by
  unfold clash Apart
  simp
  constructor
  · rintro ⟨⟨a, b⟩, c, d⟩; exact ⟨a, b, c, d⟩
  · rintro ⟨a, b, c, d⟩; exact ⟨⟨a, b⟩, c, d⟩
theorem noClash {e : Pr} {pl : List Pr} : (pl.filter (clash e)).isEmpty = true ↔ ∀ o ∈ pl, Apart o e := by
  rw [List.isEmpty_iff, List.filter_eq_nil_iff]
  constructor
  · intro h o ho
    exact clash_apart.mp (by simpa using h o ho)
  · intro h o ho
    rw [clash_apart.mpr (h o ho)]
    exact Bool.false_ne_true
theorem mem_more {pre : List Pr} {fd : List (List Pr)} {e : Pr} (h : ∀ p, p ∈ fd ↔ IsPlan pre p) : ∀ p, p ∈ morePlans fd e ↔ IsPlan (pre ++ [e]) p := by
  intro p
  unfold morePlans
  rw [List.mem_append, h, List.mem_map]
  constructor
  · rintro (h1 | ⟨q, h1, rfl⟩)
    · exact ⟨h1.1.trans (List.sublist_append_left _ _), h1.2⟩
    · obtain ⟨h2, h3⟩ := List.mem_filter.mp h1
      have Q := (h q).mp h2
      refine ⟨Q.1.append (List.Sublist.refl _), ?_⟩
      rw [List.pairwise_append]
      exact ⟨Q.2, List.pairwise_singleton _ _, fun a ha b hb => by
        rw [List.mem_singleton.mp hb]
        exact noClash.mp h3 a ha⟩
  · rintro ⟨h1, h2⟩
    obtain ⟨l1, l2, rfl, h3, h4⟩ := List.sublist_append_iff.mp h1
    rw [List.pairwise_append] at h2
    have : l2 = [] ∨ l2 = [e] := by
      cases h4 with
      | cons _ h4 => exact .inl (List.sublist_nil.mp h4)
      | cons_cons _ h4 => rw [List.sublist_nil.mp h4]; exact .inr rfl
    rcases this with rfl | rfl
    · rw [List.append_nil]; exact .inl ⟨h3, h2.1⟩
    · exact .inr ⟨l1, List.mem_filter.mpr ⟨(h l1).mpr ⟨h3, h2.1⟩, noClash.mpr fun o ho => h2.2.2 o ho e (by simp)⟩, rfl⟩
theorem mem_plans_from : ∀ (ps pre : List Pr) (fd : List (List Pr)), (∀ p, p ∈ fd ↔ IsPlan pre p) → ∀ p, p ∈ ps.foldl morePlans fd ↔ IsPlan (pre ++ ps) p
  | [], pre, fd, h, p => by rw [List.append_nil]; exact h p
  | e :: ps, pre, fd, h, p => by
    have := mem_plans_from ps (pre ++ [e]) (morePlans fd e) (mem_more h) p
    rw [List.append_assoc] at this
    exact this
theorem mem_plans : p ∈ plansM ps ↔ IsPlan ps p := by
  refine mem_plans_from ps [] [[]] (fun p => ?_) p
  constructor
  · intro h
    rw [List.mem_singleton.mp h]
    exact plan_nil
  · intro h
    rw [List.sublist_nil.mp h.1]
    simp
theorem plans_len : ∀ (ps : List Pr) (fd : List (List Pr)), (ps.foldl morePlans fd).length ≤ 2 ^ ps.length * fd.length
  | [], fd => by simp
  | e :: ps, fd => by
    have h1 := plans_len ps (morePlans fd e)
    have h2 : (morePlans fd e).length ≤ 2 * fd.length := by
      unfold morePlans
      rw [List.length_append, List.length_map]
      have := List.length_filter_le (fun pl : List Pr => (pl.filter (clash e)).isEmpty) fd
      omega
    show (ps.foldl morePlans (morePlans fd e)).length ≤ _
    rw [List.length_cons, Nat.pow_succ, Nat.mul_assoc]
    exact Nat.le_trans h1 (Nat.mul_le_mul_left _ h2)
end
end Blo
set_option autoImplicit true
set_option Elab.async false
set_option linter.all false
set_option maxRecDepth 100000
set_option maxHeartbeats 4000000
namespace G
open PySem PySem.Spec PyProof.Rows L2
/-! ### the text by places -/
def topS (i : Nat) : Stmt := PySem.Challenge.pw_givesifgets_k15_whole_plans_grown.main.body.getD i (.Pass ⟨0, 0, 0, 0⟩)
end G
set_option Elab.async false
set_option linter.all false
set_option maxRecDepth 100000
set_option maxHeartbeats 4000000
namespace G
open PySem PySem.Spec PyProof.Rows L2
section
variable {X : Cx}

/-! ### x in t, t a tuple of data -/
def rInT (K : PySem.W.Frag) : R2 := fun x y H Q => ∃ d ds, Dp K H x d ∧ Dp K H y (.tuple ds) ∧ SeqAt.shaped d = true ∧ SeqAt.shaped (.tuple ds) = true ∧
  Q (.bl (ds.any fun z => PyData.eqv z d)) H
def rNotInT (K : PySem.W.Frag) : R2 := fun x y H Q => ∃ d ds, Dp K H x d ∧ Dp K H y (.tuple ds) ∧ SeqAt.shaped d = true ∧ SeqAt.shaped (.tuple ds) = true ∧
  Q (.bl (!ds.any fun z => PyData.eqv z d)) H
theorem op_inT (hu : X.A.units + 65 < cLine) : OpR X (compareOp .In) (rInT X.K) := by
  rintro pins s σ H x y v u Q I rx ry ⟨d, ds, hd, he, sd, se, q⟩
  obtain ⟨_, r1⟩ := Dp.reads I d x v hd rx
  obtain ⟨_, r2⟩ := Dp.reads I (.tuple ds) y u he ry
  have a1 := SeqAt.canLay_of_shaped se
  have a2 := SeqAt.canLay_of_shaped sd
  exact SeqAt.in_tuple_reads r2 r1 a1 a2 (room_in_shaped sd hu) ⟨.bl _, H, I, rfl, q⟩
theorem op_notInT (hu : X.A.units + 65 < cLine) : OpR X (compareOp .NotIn) (rNotInT X.K) := by
  rintro pins s σ H x y v u Q I rx ry ⟨d, ds, hd, he, sd, se, q⟩
  obtain ⟨_, r1⟩ := Dp.reads I d x v hd rx
  obtain ⟨_, r2⟩ := Dp.reads I (.tuple ds) y u he ry
  have a1 := SeqAt.canLay_of_shaped se
  have a2 := SeqAt.canLay_of_shaped sd
  exact SeqAt.notIn_tuple_reads r2 r1 a1 a2 (room_in_shaped sd hu) ⟨.bl _, H, I, rfl, q⟩

/-! ### repr of data, where nothing is being shown -/
def rRepr (K : PySem.W.Frag) : List V → Hp → VK → Prop := fun vs H Q => (vs = [.non] ∧ Q (.str "None") H) ∨
  ∃ a d, vs = [.ref a] ∧ Dp K H (.ref a) d ∧ d.showable = true ∧ d.hasDict = false ∧ d.depth ≤ 64 ∧ d.shown.length ≤ sizeLine ∧ Q (.str d.shown) H
theorem cr_repr (hg : X.A.guards = some []) (hu : X.A.units + 70 < cLine) : CallR X (.builtin "repr") (rRepr X.K) := by
  intro pins s σ H vs us Q I r h
  rcases h with ⟨rfl, q⟩ | ⟨a, d, rfl, hd, h1, h2, h3, h4, q⟩
  · obtain ⟨u, rfl, e⟩ := vals1 r
    cases e
    exact PySem.P.repr_of_none ⟨.str _, H, I.tok _, ⟨_, rfl⟩, q⟩
  · obtain ⟨u, rfl, e⟩ := vals1 r
    obtain ⟨as, rd⟩ := Dp.reads I d _ u hd e
    cases e
    refine repr_of_reads' rd h1 (PyData.noDict_hsm h2) hg (by omega) (fun _ _ e => e) (fun h' u tk hk => ?_) h4
    exact ⟨.str _, H, I.kept hk, ⟨_, rfl⟩, q⟩

/-! ### f(k = v, ..) -/
theorem pe_callK0 {CX : CXT} {k : Nat} {f : Addr} {fd : FuncData} {ps ks : List Str} {sp : Sp} {E : XK} {x : Str} {p pos : Pos} {kws : List Keyword} {tk : TA} {g : List Value → List Value → List Value} {gV : List V → List V → List V}
    (F : FnOk X.prog X.w X.K X.mg X.base CX k f fd ps sp) (hr : Room k X.A) (hg : Gl X x) (hm : X.mg x = some (.ref f)) (hk : PySem.W.keepIn X.K (.ref f) = true)
    (hb : KBinds X.K fd ps ks g gV) (hx : Passes CX X E) (hkw : PK X kws tk)
    (hall : (backToKw pos (keywordEach kws X.env)).all (·.1.isSome) = true := by rfl)
    (hks : (backToKw pos (keywordEach kws X.env)).filterMap (·.1) = ks := by rfl)
    (hdb : (x == ("__debug__" : Str)) = false := by decide)
    (hpl : ((backTo pos (starEach [] X.env)).any (·.1) || (backToKw pos (keywordEach kws X.env)).any (·.1.isNone)) = false := by rfl) :
    PE X (.Call (.Name x p) [] kws pos) (tCallK sp gV E tNil tk) := by
  constructor
  intro pins s σ H Q I h
  refine wpAny_Call_Name_kw ?_
  refine ld_glob I hg hm ?_ hdb
  refine PySem.W.callWith_KW0 (h₀ := X.base) I.ok.mod.kin hk hall ?_ hpl
  refine thn (hkw.run pos pins s σ H _ I h) ?_
  rintro ws s2 ⟨zs, H2, I2, rz, q2⟩
  refine ⟨I2.kIn, ?_⟩
  rw [hks]
  exact run_fnk (us := []) (vs := []) F hr hb hx I2 .nil rz q2

/-! ### min(t), max(t), t a tuple of two ints -/
def rMinT (K : PySem.W.Frag) : List V → Hp → VK → Prop := fun vs H Q => ∃ (a : Addr) (i j : Int), vs = [.ref a] ∧ SqT K H a [.int i, .int j] ∧ Q (.int (if j < i then j else i)) H
def rMaxT (K : PySem.W.Frag) : List V → Hp → VK → Prop := fun vs H Q => ∃ (a : Addr) (i j : Int), vs = [.ref a] ∧ SqT K H a [.int i, .int j] ∧ Q (.int (if i < j then j else i)) H
theorem dp_pair {K : PySem.W.Frag} {H : Hp} {a : Addr} {i j : Int} (h : SqT K H a [.int i, .int j]) : Dp K H (.ref a) (.tuple [.int i, .int j]) :=
  .tup h (.cons (.int i) (.cons (.int j) .nil))
theorem alike_two (i j : Int) : PySem.W.AlikeAll [.int i, .int j] := by
  refine ⟨fun x hx y hy => ?_, fun x hx => ?_⟩
  · simp only [List.mem_cons, List.not_mem_nil, or_false] at hx hy
    rcases hx with rfl | rfl <;> rcases hy with rfl | rfl <;> rfl
  · simp only [List.mem_cons, List.not_mem_nil, or_false] at hx
    rcases hx with rfl | rfl <;> exact fun e => nomatch e
theorem cr_minT (hc : X.calm = true) (hu : X.A.units + 70 < cLine) : CallR X (.builtin "min") (rMinT X.K) := by
  rintro pins s σ H vs us Q I r ⟨a, i, j, rfl, h, q⟩
  obtain ⟨u, rfl, e⟩ := vals1 r
  cases e
  obtain ⟨its, rv, ht, _⟩ := I.tuple h
  obtain ⟨as, hr⟩ := Dp.readsAll I [.int i, .int j] _ its (.cons (.int i) (.cons (.int j) .nil)) rv
  refine PySem.W.min_tuple_data (I.ok.hd hc) ht hr (alike_two i j) (by show X.A.units + 1 + 0 < cLine; omega) fun k v h' tk bs hv hR hk => ?_
  have e1 : PySem.W.minD (.int i) [.int j] = .int (if j < i then j else i) := by
    refine (PySem.W.minD_ints i [j]).trans (congrArg PyData.int ?_)
    show min i j = _
    split <;> omega
  rw [e1] at hR
  cases hR with
  | int _ t => exact ⟨.int _, H, I.kept hk, ⟨_, rfl⟩, q⟩
theorem cr_maxT (hc : X.calm = true) (hu : X.A.units + 70 < cLine) : CallR X (.builtin "max") (rMaxT X.K) := by
  rintro pins s σ H vs us Q I r ⟨a, i, j, rfl, h, q⟩
  obtain ⟨u, rfl, e⟩ := vals1 r
  cases e
  obtain ⟨its, rv, ht, _⟩ := I.tuple h
  obtain ⟨as, hr⟩ := Dp.readsAll I [.int i, .int j] _ its (.cons (.int i) (.cons (.int j) .nil)) rv
  refine PySem.W.max_tuple_data (I.ok.hd hc) ht hr (alike_two i j) (by show X.A.units + 1 + 0 < cLine; omega) fun k v h' tk bs hv hR hk => ?_
  have e1 : PySem.W.maxD (.int i) [.int j] = .int (if i < j then j else i) := by
    refine (PySem.W.maxD_ints i [j]).trans (congrArg PyData.int ?_)
    show max i j = _
    split <;> omega
  rw [e1] at hR
  cases hR with
  | int _ t => exact ⟨.int _, H, I.kept hk, ⟨_, rfl⟩, q⟩

/-! ### len(set(t)), t a tuple of unlike ints -/
def tLenSetT (K : PySem.W.Frag) (ta : TE) : TE := fun σ H Q => ta σ H fun x H1 => ∃ (l : Addr) (ns : List Int), x = .ref l ∧ SqT K H1 l (ns.map V.int) ∧ ns.Nodup ∧ ns.length ≤ 1000 ∧ Q (.int (ns.length : Nat)) H1
theorem pe_lenSetT {a : Expr} {ta : TE} {p p2 q pos : Pos} (hg : Gl X "len") (hm : X.mg "len" = none) (hg2 : Gl X "set") (hm2 : X.mg "set" = none) (ha : PE X a ta)
    (hc : X.calm = true := by rfl) (na : starEach [a] X.env = (false, eval a X.env) :: starEach [] X.env := by rfl) : PE X (.Call (.Name "len" p) [.Call (.Name "set" p2) [a] [] q] [] pos) (tLenSetT X.K ta) := by
  constructor
  intro pins s σ H Q I h
  refine Call_ (ld_blt I hg hm boot_len (callWith_builtin1 (args_cons ?_ rfl) rfl rfl))
  refine Call_ (ld_blt I hg2 hm2 boot_set (callWith_type1 (args_cons ?_ na) na rfl))
  refine thn (ha.run pins s σ H _ I h) ?_
  rintro v s1 ⟨x, H1, I1, r1, l, ns, rfl, hq, hnd, hl, q1⟩
  refine args_nil ?_
  cases r1
  obtain ⟨its, rv, pt, hz⟩ := I1.tuple hq
  have hi : IntsAre its.toArray.toList ns := ints_of_vals rv
  refine call_set_tupI ns (I1.ok.hd hc) (show s1.heap.IsTuple l its.toArray from pt) hi (by unfold scanBound; omega) fun h' tk c R hcn hk => args_nil ?_
  obtain ⟨o, es, ep, t, ho, hex, hd, _, nd, hm3, hb, hf, hn, _, _⟩ := R
  have hp : (es.toList.map keyOf).Perm ns := (List.perm_ext_iff_of_nodup nd hnd).mpr fun k => by
    rw [← hm3 k]
    simp
  have hsz : es.size = ns.length := by
    have := hp.length_eq
    rwa [List.length_map, Array.length_toList] at this
  have I2 : Inv X pins σ H1 { s1 with heap := h', toks := tk } := I1.kept hk
  exact call_len_set ho hex hd hf (by rw [hsz]; omega) ⟨.int ns.length, H1, I2.tok _, ⟨_, by rw [hsz]⟩, q1⟩
end
end G
set_option Elab.async false
set_option linter.all false
set_option maxRecDepth 100000
set_option maxHeartbeats 4000000
/-! zip of two tuples walked by ONE name: the tuple given out is still held at the next turn, or it is not. -/
namespace G
open PySem PySem.Spec PyProof.Rows L2
open PySem.Sem (wp)
abbrev ZAt (h : Heap) (z TI TO : Addr) (v0 : Value) (b1 : Bool) : Prop :=
  h.get? z = some { cls := .type "zip", dict := none, data := .fields #[v0, .bool b1, .bool false, .ref TI, .ref TO], slots := #[] }
/-- the tuple that was given out is nowhere any more (or none was) -/
def Gone (h : Heap) (v0 : Value) : Prop := v0 = .none ∨ ∃ T : Addr, v0 = rawInt T ∧ h.get? T = none
/-- it still stands -/
def Held (h : Heap) (v0 : Value) : Prop := ∃ (T : Addr) (o : Obj), v0 = rawInt T ∧ h.get? T = some o

section
variable {prog : Program} {w : World} {A : Around} {E : Value → Shared → Prop} {s : Shared} {z TI TO i1 i2 l1 l2 : Addr} {k1 k2 : Nat} {xs ys : Array Value} {x y c1 c2 v0 : Value} {b1 : Bool}

theorem z_alive {a : Addr} {Q : Option Obj → Shared → Prop} (h : Q (s.heap.get? a) s) : wpAny (model prog w) A (loadIfAlive a) Q E s := fun _ _ _ => h
theorem z_free {Q : Bool → Shared → Prop} (hz : ZAt s.heap z TI TO v0 b1) (g : Gone s.heap v0) (h : Q true s) :
    wpAny (model prog w) A (Builtin.SmallTypes.ownedTupleIsFree (.ref z)) Q E s := by
  rcases g with rfl | ⟨T, rfl, hT⟩
  · exact wpAny_bind (wpAny_field hz rfl (x := .none) rfl (wpAny_pure h))
  · refine wpAny_bind (wpAny_field hz rfl (x := rawInt T) rfl ?_)
    show wpAny _ _ (loadIfAlive ((T : Int).toNat) >>= _) _ _ _
    rw [Int.toNat_natCast]
    refine wpAny_bind (z_alive ?_)
    rw [hT]
    exact wpAny_pure h
theorem z_held {Q : Bool → Shared → Prop} (hz : ZAt s.heap z TI TO v0 b1) (g : Held s.heap v0)
    (h : ∀ h', ZAt h' z TI TO v0 true → Heap.SameBut z s.heap h' → Q false { s with heap := h' }) :
    wpAny (model prog w) A (Builtin.SmallTypes.ownedTupleIsFree (.ref z)) Q E s := by
  obtain ⟨T, o, rfl, hT⟩ := g
  exact wpAny_tupleHeld_zip hz hT h

/-- what a turn leaves -/
structure Zout (h h' : Heap) (z TI TO i1 i2 l1 l2 : Addr) (k1 k2 : Nat) (x y : Value) : Prop where
  at_ : ∃ v b, ZAt h' z TI TO v b ∧ ∃ T : Addr, v = rawInt T
  to_ : ∃ c1 c2, IsPair h' TO c1 c2
  it1 : h'.IsTupleIter i1 l1 (k1 + 1)
  it2 : h'.IsTupleIter i2 l2 (k2 + 1)
  new : IsPair h' h.objs.size x y
  keep : ∀ c o, c ≠ z → c ≠ TO → c ≠ i1 → c ≠ i2 → h.get? c = some o → h'.get? c = some o

theorem z_item (D : ZipApart z TI TO i1 i2 l1 l2) (hz : ZAt s.heap z TI TO v0 b1) (g : Gone s.heap v0 ∨ Held s.heap v0)
    (hTI : IsPair s.heap TI (.ref i1) (.ref i2)) (hTO : IsPair s.heap TO c1 c2) (h1 : s.heap.IsTupleIter i1 l1 k1) (h2 : s.heap.IsTupleIter i2 l2 k2)
    (hl1 : s.heap.IsTuple l1 xs) (hl2 : s.heap.IsTuple l2 ys) (hx : xs[k1]? = some x) (hy : ys[k2]? = some y) {Q : Value → Shared → Prop}
    (hQ : ∀ h', Zout s.heap h' z TI TO i1 i2 l1 l2 k1 k2 x y → Q (.ref s.heap.objs.size) { s with heap := h' }) :
    wpAny (model prog w) A (Builtin.«zip.__next__» ⟨[.ref z], []⟩) (fun fin s' => ∃ v, fin = .done (.ret v) ∧ Q v s') E s := by
  refine wpAny_bind (m := field (.ref z) 2) (wpAny_field hz rfl (x := .bool false) rfl ?_)
  refine wpAny_bind (m := field (.ref z) 3) (wpAny_field hz rfl (x := .ref TI) rfl (wpAny_bind (wpAny_seqItems hTI rfl ?_)))
  refine wpAny_bind (m := Builtin.SmallTypes.ownedTupleIsFree (.ref z)) ?_
  rcases g with g | g
  · -- the tuple is used again
    refine z_free hz g ?_
    simp only [if_true]
    refine wpAny_bind (wpAny_rule (wpAny_bind (wpAny_field hz rfl (x := .ref TO) rfl ?_)))
    refine wpAny_bind (wpAny_setField_rec hz (by simp) fun ha za sa => ?_)
    have za : ZAt ha z TI TO .ellipsis b1 := za
    refine wpAny_bind ?_
    simp only [List.zipIdx_cons, List.zipIdx_nil, List.forIn_cons, List.forIn_nil]
    refine wpAny_bind (wpAny_bind (wpAny_onRaise ?_))
    refine wpAny_bind (m := Builtin.SmallTypes.nextOf (.ref i1)) ?_
    refine RZ.nextOf_tuple_item (s := { s with heap := ha }) (h1.extBut sa.extBut D.i1z) (hl1.extBut sa.extBut D.l1z) hx fun hb n1 sb => wpAny_pure ?_
    have tb : IsPair hb TO c1 c2 := sb.extBut _ _ D.TOi1 (sa.extBut _ _ D.TOz hTO)
    refine wpAny_bind (wpAny_seqItems tb rfl (wpAny_bind (wpAny_updateSeq_pair tb fun hc tc sc => ?_)))
    have tc : IsPair hc TO x c2 := tc
    refine wpAny_bind (wpAny_letGo (wpAny_pure (wpAny_bind (wpAny_bind (wpAny_onRaise ?_)))))
    refine wpAny_bind (m := Builtin.SmallTypes.nextOf (.ref i2)) ?_
    have n2 : hc.IsTupleIter i2 l2 k2 := ((h2.extBut sa.extBut D.i2z).extBut sb.extBut D.i12.symm).extBut sc.extBut D.TOi2.symm
    have m2 : hc.IsTuple l2 ys := ((hl2.extBut sa.extBut D.l2z).extBut sb.extBut D.l2i1).extBut sc.extBut D.l2TO
    refine RZ.nextOf_tuple_item (s := { s with heap := hc }) n2 m2 hy fun hd n2 sd => wpAny_pure ?_
    have td : IsPair hd TO x c2 := sd.extBut _ _ D.TOi2 tc
    refine wpAny_bind (wpAny_seqItems td rfl (wpAny_bind (wpAny_updateSeq_pair td fun he te se => ?_)))
    have te : IsPair he TO x y := te
    refine wpAny_bind (wpAny_letGo (wpAny_pure (wpAny_pure ?_)))
    refine wpAny_bind (wpAny_seqItems te rfl (wpAny_bind (wpAny_newTuple ?_)))
    have size : he.objs.size = s.heap.objs.size := by rw [se.1, sd.1, sc.1, sb.1, sa.1]
    have ze : ZAt he z TI TO .ellipsis b1 :=
      se.extBut _ _ D.TOz.symm (sd.extBut _ _ D.i2z.symm (sc.extBut _ _ D.TOz.symm (sb.extBut _ _ D.i1z.symm za)))
    have ke : ∀ c o, c ≠ z → c ≠ TO → c ≠ i1 → c ≠ i2 → s.heap.get? c = some o → he.get? c = some o := fun c o a1 a2 a3 a4 e =>
      se.extBut _ _ a2 (sd.extBut _ _ a4 (sc.extBut _ _ a2 (sb.extBut _ _ a3 (sa.extBut _ _ a1 e))))
    have p1 : he.IsTupleIter i1 l1 (k1 + 1) := ((n1.extBut sc.extBut D.TOi1.symm).extBut sd.extBut D.i12).extBut se.extBut D.TOi1.symm
    have p2 : he.IsTupleIter i2 l2 (k2 + 1) := n2.extBut se.extBut D.TOi2.symm
    have zlt : z < he.objs.size := Heap.lt_size ze
    refine wpAny_bind (m := Builtin.SmallTypes.ownedTupleHandOut (.ref z) (.ref he.objs.size)) ?_
    unfold Builtin.SmallTypes.ownedTupleHandOut
    have zf : ZAt (he.push { cls := .type "tuple", data := .seq #[x, y] }) z TI TO .ellipsis b1 := Heap.get?_push_of_some _ ze
    refine wpAny_bind (wpAny_setField_rec zf (by simp) fun hg zg sg => ?_)
    have zg : ZAt hg z TI TO (rawInt he.objs.size) b1 := zg
    refine wpAny_setField_rec zg (by simp) fun hh zh sh => ?_
    have zh : ZAt hh z TI TO (rawInt he.objs.size) false := zh
    have up : ∀ c o, c ≠ z → he.get? c = some o → hh.get? c = some o := fun c o a e => sh.extBut _ _ a (sg.extBut _ _ a (Heap.get?_push_of_some _ e))
    have new : IsPair hh he.objs.size x y := sh.extBut _ _ (Nat.ne_of_gt zlt) (sg.extBut _ _ (Nat.ne_of_gt zlt) (Heap.get?_push_size _ rfl))
    refine wpAny_pure ⟨.ref he.objs.size, rfl, ?_⟩
    rw [size] at new ⊢
    exact hQ hh ⟨⟨_, _, zh, _, rfl⟩, ⟨_, _, up _ _ D.TOz te⟩, p1.at fun o e => up _ o D.i1z e, p2.at fun o e => up _ o D.i2z e, new,
      fun c o a1 a2 a3 a4 e => up c o a1 (ke c o a1 a2 a3 a4 e)⟩
  · -- a new one
    refine z_held hz g fun ha za sa => ?_
    simp only [Bool.false_eq_true, if_false]
    refine wpAny_bind ?_
    rw [← Array.forIn_toList]
    simp only [List.forIn_cons, List.forIn_nil]
    refine wpAny_bind (wpAny_bind (wpAny_holding ?_))
    refine wpAny_bind (m := Builtin.SmallTypes.nextOf (.ref i1)) ?_
    refine RZ.nextOf_tuple_item (s := { s with heap := ha }) (h1.extBut sa.extBut D.i1z) (hl1.extBut sa.extBut D.l1z) hx fun hb n1 sb => wpAny_pure ?_
    refine wpAny_pure (wpAny_bind (wpAny_bind (wpAny_holding ?_)))
    refine wpAny_bind (m := Builtin.SmallTypes.nextOf (.ref i2)) ?_
    have n2 : hb.IsTupleIter i2 l2 k2 := (h2.extBut sa.extBut D.i2z).extBut sb.extBut D.i12.symm
    have m2 : hb.IsTuple l2 ys := (hl2.extBut sa.extBut D.l2z).extBut sb.extBut D.l2i1
    refine RZ.nextOf_tuple_item (s := { s with heap := hb }) n2 m2 hy fun hc n2 sc => wpAny_pure ?_
    refine wpAny_pure (wpAny_pure ?_)
    refine wpAny_bind (m := newTuple [x, y]) (wpAny_newTuple ?_)
    have size : hc.objs.size = s.heap.objs.size := by rw [sc.1, sb.1, sa.1]
    have zc : ZAt hc z TI TO v0 true := sc.extBut _ _ D.i2z.symm (sb.extBut _ _ D.i1z.symm za)
    have kc : ∀ c o, c ≠ z → c ≠ i1 → c ≠ i2 → s.heap.get? c = some o → hc.get? c = some o := fun c o a1 a3 a4 e =>
      sc.extBut _ _ a4 (sb.extBut _ _ a3 (sa.extBut _ _ a1 e))
    have p1 : hc.IsTupleIter i1 l1 (k1 + 1) := n1.extBut sc.extBut D.i12
    obtain ⟨T, _, rfl, _⟩ := g
    refine wpAny_pure ⟨.ref hc.objs.size, rfl, ?_⟩
    have new : IsPair (hc.push { cls := .type "tuple", data := .seq #[x, y] }) hc.objs.size x y := Heap.get?_push_size _ rfl
    rw [size] at new ⊢
    exact hQ _ ⟨⟨_, _, Heap.get?_push_of_some _ zc, _, rfl⟩, ⟨_, _, Heap.get?_push_of_some _ (kc _ _ D.TOz D.TOi1 D.TOi2 hTO)⟩, p1.at fun o e => Heap.get?_push_of_some _ e,
      n2.at fun o e => Heap.get?_push_of_some _ e, new, fun c o a1 _ a3 a4 e => Heap.get?_push_of_some _ (kc c o a1 a3 a4 e)⟩

theorem z_end (hd : A.handled = none) (D : ZipApart z TI TO i1 i2 l1 l2) (hz : ZAt s.heap z TI TO v0 b1) (g : Gone s.heap v0 ∨ Held s.heap v0)
    (hTI : IsPair s.heap TI (.ref i1) (.ref i2)) (hTO : IsPair s.heap TO c1 c2) (h1 : s.heap.IsTupleIter i1 l1 k1) (h2 : s.heap.IsTupleIter i2 l2 k2)
    (hl1 : s.heap.IsTuple l1 xs) (hl2 : s.heap.IsTuple l2 ys) (hend : xs[k1]? = none ∨ ys[k2]? = none) {Q : Fin → Shared → Prop}
    (hE : ∀ h' e, (∀ c o, c ≠ z → c ≠ TO → c ≠ i1 → c ≠ i2 → s.heap.get? c = some o → h'.get? c = some o) → (∃ o, h'.get? e = some o ∧ o.cls = .type "StopIteration") → E (.ref e) { s with heap := h' }) :
    wpAny (model prog w) A (Builtin.«zip.__next__» ⟨[.ref z], []⟩) Q E s := by
  refine wpAny_bind (m := field (.ref z) 2) (wpAny_field hz rfl (x := .bool false) rfl ?_)
  refine wpAny_bind (m := field (.ref z) 3) (wpAny_field hz rfl (x := .ref TI) rfl (wpAny_bind (wpAny_seqItems hTI rfl ?_)))
  refine wpAny_bind (m := Builtin.SmallTypes.ownedTupleIsFree (.ref z)) ?_
  rcases g with g | g
  · refine z_free hz g ?_
    simp only [if_true]
    refine wpAny_bind (wpAny_rule (wpAny_bind (wpAny_field hz rfl (x := .ref TO) rfl ?_)))
    refine wpAny_bind (wpAny_setField_rec hz (by simp) fun ha za sa => ?_)
    have za : ZAt ha z TI TO .ellipsis b1 := za
    refine wpAny_bind ?_
    simp only [List.zipIdx_cons, List.zipIdx_nil, List.forIn_cons, List.forIn_nil]
    refine wpAny_bind (wpAny_bind (wpAny_onRaise ?_))
    refine wpAny_bind (m := Builtin.SmallTypes.nextOf (.ref i1)) ?_
    cases hx : xs[k1]? with
    | none =>
      refine RZ.nextOf_tuple_end (s := { s with heap := ha }) hd (h1.extBut sa.extBut D.i1z) (hl1.extBut sa.extBut D.l1z) hx fun hb e sb ⟨oe, oe1, oe2⟩ => ?_
      have zb : ZAt hb z TI TO .ellipsis b1 := sb _ _ D.i1z.symm za
      have ez : e ≠ z := fun q => by
        subst q
        rw [zb] at oe1
        cases oe1
        simp at oe2
      exact wpAny_setField_rec zb (by simp) fun hc _ sc => hE hc e (fun c o a1 _ a3 _ q => sc.extBut _ _ a1 (sb _ _ a3 (sa.extBut _ _ a1 q))) ⟨oe, sc.extBut _ _ ez oe1, oe2⟩
    | some x =>
      have hy : ys[k2]? = none := hend.resolve_left (by rw [hx]; exact fun q => nomatch q)
      refine RZ.nextOf_tuple_item (s := { s with heap := ha }) (h1.extBut sa.extBut D.i1z) (hl1.extBut sa.extBut D.l1z) hx fun hb n1 sb => wpAny_pure ?_
      have tb : IsPair hb TO c1 c2 := sb.extBut _ _ D.TOi1 (sa.extBut _ _ D.TOz hTO)
      refine wpAny_bind (wpAny_seqItems tb rfl (wpAny_bind (wpAny_updateSeq_pair tb fun hc tc sc => ?_)))
      refine wpAny_bind (wpAny_letGo (wpAny_pure (wpAny_bind (wpAny_bind (wpAny_onRaise ?_)))))
      refine wpAny_bind (m := Builtin.SmallTypes.nextOf (.ref i2)) ?_
      have n2 : hc.IsTupleIter i2 l2 k2 := ((h2.extBut sa.extBut D.i2z).extBut sb.extBut D.i12.symm).extBut sc.extBut D.TOi2.symm
      have m2 : hc.IsTuple l2 ys := ((hl2.extBut sa.extBut D.l2z).extBut sb.extBut D.l2i1).extBut sc.extBut D.l2TO
      refine RZ.nextOf_tuple_end (s := { s with heap := hc }) hd n2 m2 hy fun hf e sf ⟨oe, oe1, oe2⟩ => ?_
      have zf : ZAt hf z TI TO .ellipsis b1 := sf _ _ D.i2z.symm (sc.extBut _ _ D.TOz.symm (sb.extBut _ _ D.i1z.symm za))
      have ez : e ≠ z := fun q => by
        subst q
        rw [zf] at oe1
        cases oe1
        simp at oe2
      exact wpAny_setField_rec zf (by simp) fun hg _ sg => hE hg e (fun c o a1 a2 a3 a4 q => sg.extBut _ _ a1 (sf _ _ a4 (sc.extBut _ _ a2 (sb.extBut _ _ a3 (sa.extBut _ _ a1 q)))))
        ⟨oe, sg.extBut _ _ ez oe1, oe2⟩
  · refine z_held hz g fun ha za sa => ?_
    simp only [Bool.false_eq_true, if_false]
    refine wpAny_bind ?_
    rw [← Array.forIn_toList]
    simp only [List.forIn_cons, List.forIn_nil]
    refine wpAny_bind (wpAny_bind (wpAny_holding ?_))
    refine wpAny_bind (m := Builtin.SmallTypes.nextOf (.ref i1)) ?_
    cases hx : xs[k1]? with
    | none =>
      exact RZ.nextOf_tuple_end (s := { s with heap := ha }) hd (h1.extBut sa.extBut D.i1z) (hl1.extBut sa.extBut D.l1z) hx fun hb e sb he =>
        hE hb e (fun c o a1 _ a3 _ q => sb _ _ a3 (sa.extBut _ _ a1 q)) he
    | some x =>
      have hy : ys[k2]? = none := hend.resolve_left (by rw [hx]; exact fun q => nomatch q)
      refine RZ.nextOf_tuple_item (s := { s with heap := ha }) (h1.extBut sa.extBut D.i1z) (hl1.extBut sa.extBut D.l1z) hx fun hb n1 sb => wpAny_pure ?_
      refine wpAny_pure (wpAny_bind (wpAny_bind (wpAny_holding ?_)))
      refine wpAny_bind (m := Builtin.SmallTypes.nextOf (.ref i2)) ?_
      have n2 : hb.IsTupleIter i2 l2 k2 := (h2.extBut sa.extBut D.i2z).extBut sb.extBut D.i12.symm
      have m2 : hb.IsTuple l2 ys := (hl2.extBut sa.extBut D.l2z).extBut sb.extBut D.l2i1
      exact RZ.nextOf_tuple_end (s := { s with heap := hb }) hd n2 m2 hy fun hc e sc he =>
        hE hc e (fun c o a1 _ a3 a4 q => sc _ _ a4 (sb.extBut _ _ a3 (sa.extBut _ _ a1 q))) he

theorem z_nextItem (D : ZipApart z TI TO i1 i2 l1 l2) (hz : ZAt s.heap z TI TO v0 b1) (g : Gone s.heap v0 ∨ Held s.heap v0)
    (hTI : IsPair s.heap TI (.ref i1) (.ref i2)) (hTO : IsPair s.heap TO c1 c2) (h1 : s.heap.IsTupleIter i1 l1 k1) (h2 : s.heap.IsTupleIter i2 l2 k2)
    (hl1 : s.heap.IsTuple l1 xs) (hl2 : s.heap.IsTuple l2 ys) (hx : xs[k1]? = some x) (hy : ys[k2]? = some y) {Q : Option Value → Shared → Prop}
    (hQ : ∀ h', Zout s.heap h' z TI TO i1 i2 l1 l2 k1 k2 x y → Q (some (.ref s.heap.objs.size)) { s with heap := h' }) : wpAny (model prog w) A (pyNext (.ref z)) Q E s := by
  have ty : s.TypeIs (.ref z) "zip" := ⟨_, hz, rfl⟩
  unfold pyNext
  refine wpAny_bind (wpAny_attempt (wpAny_callSpecial?_slot (name := Str.ofString "__next__") ty F.slot_zip_next ?_))
  refine wpAny_call_entry F.slot_zip_next ty F.entry_zip_next ?_ (F.args_zip_next_1 _)
  exact z_item D hz g hTI hTO h1 h2 hl1 hl2 hx hy fun h' O => wpAny_pure (hQ h' O)
theorem z_nextEnd (hd : A.handled = none) (D : ZipApart z TI TO i1 i2 l1 l2) (hz : ZAt s.heap z TI TO v0 b1) (g : Gone s.heap v0 ∨ Held s.heap v0)
    (hTI : IsPair s.heap TI (.ref i1) (.ref i2)) (hTO : IsPair s.heap TO c1 c2) (h1 : s.heap.IsTupleIter i1 l1 k1) (h2 : s.heap.IsTupleIter i2 l2 k2)
    (hl1 : s.heap.IsTuple l1 xs) (hl2 : s.heap.IsTuple l2 ys) (hend : xs[k1]? = none ∨ ys[k2]? = none) {Q : Option Value → Shared → Prop}
    (hQ : ∀ h', (∀ c o, c ≠ z → c ≠ TO → c ≠ i1 → c ≠ i2 → s.heap.get? c = some o → h'.get? c = some o) → Q none { s with heap := h' }) : wpAny (model prog w) A (pyNext (.ref z)) Q E s := by
  have ty : s.TypeIs (.ref z) "zip" := ⟨_, hz, rfl⟩
  unfold pyNext
  refine wpAny_bind (wpAny_attempt (wpAny_callSpecial?_slot (name := Str.ofString "__next__") ty F.slot_zip_next ?_))
  refine wpAny_call_entry F.slot_zip_next ty F.entry_zip_next ?_ (F.args_zip_next_1 _)
  refine z_end (A := A.in1) hd D hz g hTI hTO h1 h2 hl1 hl2 hend fun h' e hk ⟨o, ho, hc⟩ => ?_
  exact wpAny_bind (wpAny_isInstance (T := "StopIteration") (b := true) ⟨o, ho, hc⟩ isSubtype_stop (wpAny_pure (hQ _ hk)))
end
end G
set_option Elab.async false
set_option linter.all false
set_option maxRecDepth 100000
set_option maxHeartbeats 4000000
namespace G
open PySem PySem.Spec PyProof.Rows L2
/-- the iterator between two turns -/
structure Zst (z TI TO i1 i2 a b : Addr) (i : Nat) (h : Heap) : Prop where
  z : ∃ v f, ZAt h z TI TO v f ∧ (v = .none ∨ ∃ T : Addr, v = rawInt T)
  ti : IsPair h TI (.ref i1) (.ref i2)
  to : ∃ x y, IsPair h TO x y
  h1 : h.IsTupleIter i1 a i
  h2 : h.IsTupleIter i2 b i
theorem gone_or_held (h : Heap) {v : Value} (e : v = .none ∨ ∃ T : Addr, v = rawInt T) : Gone h v ∨ Held h v := by
  rcases e with e | ⟨T, e⟩
  · exact .inl (.inl e)
  · cases q : h.get? T with
    | none => exact .inl (.inr ⟨T, e, q⟩)
    | some o => exact .inr ⟨T, o, e, q⟩
theorem turn_zip1 {P : Program} {w : World} {K : PySem.W.Frag} {nm : Str} {npos : Pos} {a b z TI TO i1 i2 : Addr} (D : ZipApart z TI TO i1 i2 a b) :
    Turn P w K (.Name nm npos) (RZ.ItzT K a b) [z, TI, TO, i1, i2] z (Zst z TI TO i1 i2 a b) where
  mem := List.mem_cons_self
  obj := fun i h st c hc => by
    obtain ⟨⟨v, f, hz, _⟩, ti, ⟨_, _, to⟩, ⟨o1, e1, _, d1⟩, ⟨o2, e2, _, d2⟩⟩ := st
    simp only [List.mem_cons, List.not_mem_nil, or_false] at hc
    rcases hc with rfl | rfl | rfl | rfl | rfl
    · exact ⟨_, hz, fun v q => nomatch q⟩
    · exact ⟨_, ti, fun v q => nomatch q⟩
    · exact ⟨_, to, fun v q => nomatch q⟩
    · exact ⟨o1, e1, fun v q => by rw [d1] at q; cases q⟩
    · exact ⟨o2, e2, fun v q => by rw [d2] at q; cases q⟩
  keep := fun i h h' st k => by
    obtain ⟨⟨v, f, hz, hv⟩, ti, ⟨_, _, to⟩, h1, h2⟩ := st
    exact ⟨⟨v, f, k z (by simp) _ hz, hv⟩, k TI (by simp) _ ti, ⟨_, _, k TO (by simp) _ to⟩, h1.at fun o q => k i1 (by simp) o q, h2.at fun o q => k i2 (by simp) o q⟩
  item := by
    rintro X rfl rfl rfl hc i pins s σ H E I hf ⟨⟨v, f, hz, hv⟩, ti, ⟨_, _, to⟩, h1, h2⟩ ⟨xs, ys, x, y, qx, qy, hx, hy⟩
    obtain ⟨its, rv, p, _⟩ := I.tuple qx
    obtain ⟨its2, rv2, p2, _⟩ := I.tuple qy
    obtain ⟨u, hu, ru⟩ := rv.get hx
    obtain ⟨u2, hu2, ru2⟩ := rv2.get hy
    have lt : ∀ c ∈ [z, TI, TO, i1, i2], c < s.heap.objs.size := fun c hc => by
      obtain ⟨_, e1, _⟩ := h1
      obtain ⟨_, e2, _⟩ := h2
      simp only [List.mem_cons, List.not_mem_nil, or_false] at hc
      rcases hc with rfl | rfl | rfl | rfl | rfl
      · exact Heap.lt_size hz
      · exact Heap.lt_size ti
      · exact Heap.lt_size to
      · exact Heap.lt_size e1
      · exact Heap.lt_size e2
    refine z_nextItem D hz (gone_or_held _ hv) ti to h1 h2 (show s.heap.IsTuple a its.toArray from p) (show s.heap.IsTuple b its2.toArray from p2) (x := u) (y := u2) (by simpa using hu) (by simpa using hu2) fun h' O => ?_
    obtain ⟨⟨v', f', hz', hv'⟩, to', n1, n2, new, kp⟩ := O
    refine ⟨_, rfl, wpAny_pure ⟨.ref s.heap.objs.size, upd H s.heap.objs.size (.tup [x, y]), ?_, rfl, ?_, ?_, fun c hc => ?_⟩⟩
    · have ob : ObjOk X.prog X.w (upd H s.heap.objs.size (.tup [x, y])) h' s.heap.objs.size (.tup [x, y]) :=
        ⟨by show 2 ≤ sizeLine; decide, [u, u2], .cons ru (.cons ru2 .nil), _, new, rfl, _, rfl⟩
      refine I.turnedNew (t' := s.toks) (ch := [z, TI, TO, i1, i2]) (fun c o hb q => kp c o ?_ ?_ ?_ ?_ q) hf (Nat.le_refl _) ob
      · exact fun e => hb (by simp [e])
      · exact fun e => hb (by simp [e])
      · exact fun e => hb (by simp [e])
      · exact fun e => hb (by simp [e])
    · exact ⟨_, x, y, rfl, I.hok.fresh (Nat.le_refl _), rfl, fun l hl => by rw [I.tuple_inj hl qx]; exact hx, fun l hl => by rw [I.tuple_inj hl qy]; exact hy⟩
    · exact ⟨⟨v', f', hz', .inr hv'⟩, kp TI _ D.TIz D.TITO D.TIi1 D.TIi2 ti, to', n1, n2⟩
    · rw [upd_ne (Nat.ne_of_lt (lt c hc))]
      exact (hf c hc).1
  done := by
    rintro X rfl rfl rfl hc i pins s σ H E I hf ⟨⟨v, f, hz, hv⟩, ti, ⟨_, _, to⟩, h1, h2⟩ ⟨xs, ys, qx, qy, hend⟩
    obtain ⟨its, rv, p, _⟩ := I.tuple qx
    obtain ⟨its2, rv2, p2, _⟩ := I.tuple qy
    have l1 := rv.length
    have l2 := rv2.length
    have he : its.toArray[i]? = none ∨ its2.toArray[i]? = none := by
      rcases hend with q | q
      · exact .inl (by simp; omega)
      · exact .inr (by simp; omega)
    refine z_nextEnd (I.ok.hd hc) D hz (gone_or_held _ hv) ti to h1 h2 (show s.heap.IsTuple a its.toArray from p) (show s.heap.IsTuple b its2.toArray from p2) he fun h' kp => ⟨rfl, ?_⟩
    refine I.turnedL (t' := s.toks) (ch := [z, TI, TO, i1, i2]) (fun c o hb q => kp c o ?_ ?_ ?_ ?_ q) hf
    · exact fun e => hb (by simp [e])
    · exact fun e => hb (by simp [e])
    · exact fun e => hb (by simp [e])
    · exact fun e => hb (by simp [e])
  self := fun A i s Q E st h => by
    obtain ⟨⟨v, f, hz, _⟩, _⟩ := st
    have ty : s.TypeIs (.ref z) "zip" := ⟨_, hz, rfl⟩
    refine wpAny_pyIter_slot ty PySem.F.slot_zip_iter ?_
    refine wpAny_call_entry PySem.F.slot_zip_iter ty PySem.F.entry_zip_iter ?_ (PySem.F.args_zip_iter_1 _)
    exact wpAny_pure (a := Fin.done (.ret (.ref z))) ⟨_, rfl, "zip", _, ty, PySem.F.slot_zip_next.lookup, h⟩

def iZip1 (K : PySem.W.Frag) (ta : TA) : TI := fun σ H R => ta σ H fun vs H1 => ∃ a b xs ys, vs = [.ref a, .ref b] ∧ SqT K H1 a xs ∧ SqT K H1 b ys ∧ R (RZ.ItzT K a b) H1
theorem pi_zip1 {X : Cx} {e e2 : Expr} {ta : TA} {p pos npos : Pos} {nm : Str} (hg : Gl X "zip") (hm : X.mg "zip" = none) (ha : PA X [e, e2] ta)
    (hs : starEach [e, e2] X.env = (false, eval e X.env) :: starEach [e2] X.env := by rfl) (hpl : (backTo pos (starEach [e2] X.env)).any (·.1) = false := by rfl) :
    PI X (.Name nm npos) (.Call (.Name "zip" p) [e, e2] [] pos) (iZip1 X.K ta) := by
  constructor
  intro pins s σ H R I h
  refine Call_ (ld_blt I hg hm PyProof.Rows.boot_zip (PyProof.Rows.callWith_type1 (thn (ha.run pos pins s σ H _ I h) ?_) hs hpl))
  rintro us s1 ⟨vs, H1, I1, r1, a, b, xs, ys, rfl, qx, qy, q⟩
  obtain ⟨u1, us2, rfl, e1, r2⟩ : ∃ u1 us2, us = u1 :: us2 ∧ RelV (.ref a) u1 ∧ Vals [.ref b] us2 := by
    cases r1 with
    | cons r rr => exact ⟨_, _, rfl, r, rr⟩
  obtain ⟨u2, rfl, e2⟩ := vals1 r2
  cases e1
  cases e2
  obtain ⟨its, _, p1, _⟩ := I1.tuple qx
  obtain ⟨its2, _, p2, _⟩ := I1.tuple qy
  obtain ⟨_, ho1, _⟩ := id p1
  obtain ⟨_, ho2, _⟩ := id p2
  refine RZ.call_zipT (show s1.heap.IsTuple a its.toArray from p1) (show s1.heap.IsTuple b its2.toArray from p2) fun h' hz ti to n1 n2 hsz hk => ?_
  refine wpAny_pyIter_zip hz ⟨s1.heap.objs.size + 4, _, _, _, H1, rfl, I1.kept (t' := s1.toks) hk, turn_zip1 (PySem.W.ktu_apart s1.heap.objs.size a b (Heap.lt_size ho1) (Heap.lt_size ho2)),
    ⟨⟨_, _, hz, .inl rfl⟩, ti, ⟨_, _, to⟩, n1, n2⟩, fun c hc => ?_, q⟩
  have hle : s1.heap.objs.size ≤ c := by
    simp only [List.mem_cons, List.not_mem_nil, or_false] at hc
    show (s1.heap.objs.size : Nat) ≤ c
    rcases hc with e | e | e | e | e <;> rw [e] <;> first | exact Nat.le_refl _ | exact Nat.le_add_right _ _
  exact I1.fpOk hle (I1.hok.fresh hle)

end G
set_option Elab.async false
set_option linter.all false
set_option maxRecDepth 100000
set_option maxHeartbeats 4000000
namespace G
open PySem PySem.Spec PyProof.Rows L2
open Blo (Pr)

/-! ### the built-in names that the text reads -/
structure Nm (mg : Str → Option Value) : Prop where
  isi : mg "isinstance" = none
  int : mg "int" = none
  bool : mg "bool" = none
  tuple : mg "tuple" = none
  str : mg "str" = none
  len : mg "len" = none
  all : mg "all" = none
  any : mg "any" = none
  set : mg "set" = none
  sorted : mg "sorted" = none
  range : mg "range" = none
  min : mg "min" = none
  max : mg "max" = none
  zip : mg "zip" = none
  list : mg "list" = none
  abs : mg "abs" = none
  repr : mg "repr" = none

/-! ### a def of the top -/
structure Df (K : PySem.W.Frag) (mg : Str → Option Value) (x : Str) (st : Stmt) (ps : List Str) : Prop where
  ex : ∃ f fd, Fun K x x st f fd ∧ mg x = some (.ref f) ∧ Binds K fd ps []
section
variable {P : Program} {w : World} {K : PySem.W.Frag} {mg : Str → Option Value} {base : Heap}
theorem cal_of {x : Str} {st : Stmt} {N ps : List Str} {k : Nat} {sp : Sp} (D : Df K mg x st ps) (S : FnScope N ps (defScope st)) (len : ∀ vs H Q E, sp vs H Q E → vs.length = ps.length)
    (hb : ∀ (f : Addr) (cdv : Value) (A : Around) (outer : List Env) (s : Shared) (H : Hp) (vs : List V) (Q : VK) (E : XK), Room k (A.deeper (envOfC x (defScope st) s.heap.objs.size f cdv)) → sp vs H Q E →
      ∃ t, PSs (cxOf CX0 P w K mg base N x (defScope st) f cdv A outer s H E).nox (defBody st) t ∧ t { nx := fun _ H' => Q .non H', rt := Q } (start N vs) H) : C8.Cal P w K mg base (k + 1) x sp [] := by
  obtain ⟨f, fd, F, hm, b⟩ := D.ex
  exact ⟨f, fd, ps, [], F.ok S len (hb f), hm, F.kp, b, .nil⟩
end

/-! ### heaps -/
section
variable {K : PySem.W.Frag} {H H' : Hp}
theorem rd_same (e : Same H H') {a : Addr} {u : HO} (h : Rd H a u) : Rd H' a u := by
  rcases h with h | ⟨o, h⟩
  · exact .inl (e _ _ h)
  · exact .inr ⟨o, e _ _ h⟩
theorem tup_same (e : Same H H') {a : Addr} {xs : List V} (h : SqT K H a xs) : SqT K H' a xs := by
  rcases h with h | h
  · exact .inl (rd_same e h)
  · exact .inr h
theorem same_upd {p : Addr} {o : HO} (h : H p = none) : Same H (upd H p o) := fun b x e => by
  rw [upd_ne (ne_of_none e h)]
  exact e
theorem size_le {n : Nat} (h : n ≤ 100000) : n ≤ sizeLine := Nat.le_trans h (by decide)
theorem size_lt {n : Nat} (h : n < 100000) : n < sizeLine := Nat.lt_of_lt_of_le h (by decide)

theorem tyInt (i : Int) : TyX K H (.int i) (.type "int") := .base (.int i)
theorem tyStr (x : Str) : TyX K H (.str x) (.type "str") := .base (.str x)
theorem tyTup {a : Addr} {xs : List V} (h : SqT K H a xs) : TyX K H (.ref a) (.type "tuple") := by
  rcases h with (h | ⟨o, h⟩) | ⟨o, is, n, e, hc, _⟩
  · exact .base (.tup h)
  · exact .fTuple h
  · exact .kTuple e hc

/-! ### data: pairs, plans, webs -/
theorem Paired.get {α β : Type} {F : α → β → Prop} : ∀ {l : List α} {m : List β}, Paired F l m → ∀ (i : Nat) (x : α), l[i]? = some x → ∃ y, m[i]? = some y ∧ F x y
  | _, _, .nil, i, x, h => by simp at h
  | _, _, .cons f t, 0, x, h => by
    cases h
    exact ⟨_, rfl, f⟩
  | _, _, .cons f t, i + 1, x, h => Paired.get t i x h
theorem Paired.app {α β : Type} {F : α → β → Prop} : ∀ {l l' : List α} {m m' : List β}, Paired F l m → Paired F l' m' → Paired F (l ++ l') (m ++ m')
  | _, _, _, _, .nil, h => h
  | _, _, _, _, .cons f t, h => .cons f (Paired.app t h)
def IV (l : List Nat) : List V := l.map fun (k : Nat) => V.int (k : Int)
def PairV (K : PySem.W.Frag) (H : Hp) (v : V) (e : Pr) : Prop := ∃ t, v = .ref t ∧ SqT K H t [.int (e.1 : Nat), .int (e.2 : Nat)]
abbrev PairsV (K : PySem.W.Frag) (H : Hp) (vs : List V) (p : List Pr) : Prop := Paired (PairV K H) vs p
def PlanV (K : PySem.W.Frag) (H : Hp) (v : V) (p : List Pr) : Prop := ∃ a vs, v = .ref a ∧ SqT K H a vs ∧ PairsV K H vs p
def WebV (K : PySem.W.Frag) (H : Hp) (v : V) (n : Nat) (ps : List Pr) : Prop := ∃ a b, v = .ref a ∧ SqT K H a [.int (n : Nat), .ref b] ∧ PlanV K H (.ref b) ps
theorem PairV.same {v : V} {e : Pr} (s : Same H H') (h : PairV K H v e) : PairV K H' v e := by
  obtain ⟨t, rfl, h⟩ := h
  exact ⟨t, rfl, tup_same s h⟩
theorem pairs_same {vs : List V} {p : List Pr} (s : Same H H') (h : PairsV K H vs p) : PairsV K H' vs p := Paired.mono (fun _ _ q => q.same s) h
theorem PlanV.same {v : V} {p : List Pr} (s : Same H H') (h : PlanV K H v p) : PlanV K H' v p := by
  obtain ⟨a, vs, rfl, h1, h2⟩ := h
  exact ⟨a, vs, rfl, tup_same s h1, pairs_same s h2⟩
theorem WebV.same {v : V} {n : Nat} {p : List Pr} (s : Same H H') (h : WebV K H v n p) : WebV K H' v n p := by
  obtain ⟨a, b, rfl, h1, h2⟩ := h
  exact ⟨a, b, rfl, tup_same s h1, h2.same s⟩

/-! ### as data -/
def prD (e : Pr) : PyData := .tuple [.int (e.1 : Nat), .int (e.2 : Nat)]
def planD (p : List Pr) : PyData := .tuple (p.map prD)
theorem PairV.dp {v : V} {e : Pr} (h : PairV K H v e) : Dp K H v (prD e) := by
  obtain ⟨t, rfl, h⟩ := h
  exact .tup h (.cons (.int _) (.cons (.int _) .nil))
theorem pairs_dp : ∀ {vs : List V} {p : List Pr}, PairsV K H vs p → DpAll K H vs (p.map prD)
  | _, _, .nil => .nil
  | _, _, .cons h t => .cons h.dp (pairs_dp t)
theorem PlanV.dp {v : V} {p : List Pr} (h : PlanV K H v p) : Dp K H v (planD p) := by
  obtain ⟨a, vs, rfl, h1, h2⟩ := h
  exact .tup h1 (pairs_dp h2)
theorem prD_lay (e : Pr) : (prD e).canLay0 = true := by simp [prD, PyData.canLay0, PyData.canLayAll0]
theorem prD_depth (e : Pr) : (prD e).depth = 1 := by simp [prD, PyData.depth, PyData.depthAll]
theorem prDs_lay : ∀ p : List Pr, PyData.canLayAll0 (p.map prD) = true
  | [] => by simp [PyData.canLayAll0]
  | z :: zs => by simp [PyData.canLayAll0, prD_lay z, prDs_lay zs]
theorem prDs_depth : ∀ p : List Pr, PyData.depthAll (p.map prD) ≤ 1
  | [] => by simp [PyData.depthAll]
  | z :: zs => by
    have h1 := prDs_depth zs
    have h2 := prD_depth z
    simp only [List.map_cons, PyData.depthAll]
    omega
theorem prD_shaped (e : Pr) : SeqAt.shaped (prD e) = true := by
  unfold SeqAt.shaped
  rw [prD_lay, prD_depth]
  rfl
theorem planD_lay (p : List Pr) : (planD p).canLay0 = true := by
  simp only [planD, PyData.canLay0]
  exact prDs_lay p
theorem planD_depth (p : List Pr) : (planD p).depth ≤ 2 := by
  have := prDs_depth p
  simp only [planD, PyData.depth]
  omega
theorem planD_shaped (p : List Pr) : SeqAt.shaped (planD p) = true := by
  unfold SeqAt.shaped
  rw [planD_lay, decide_eq_true (Nat.le_trans (planD_depth p) (by decide))]
  rfl
theorem listD_shaped (p : List Pr) : SeqAt.shaped (.list (p.map prD)) = true := by
  have h1 := prDs_depth p
  have h2 : PyData.depth (.list (p.map prD)) ≤ 64 := by
    simp only [PyData.depth]
    omega
  unfold SeqAt.shaped
  rw [decide_eq_true h2, Bool.and_true]
  simp only [PyData.canLay0]
  exact prDs_lay p
theorem prD_eqv (e f : Pr) : PyData.eqv (prD e) (prD f) = decide (e = f) := by
  obtain ⟨a, b⟩ := e
  obtain ⟨c, d⟩ := f
  have q : PyData.eqv (prD (a, b)) (prD (c, d)) = (((a : Int) == (c : Int)) && (((b : Int) == (d : Int)) && true)) := by simp only [prD, PyData.eqv, PyData.eqvAll]
  rw [q]
  by_cases h1 : a = c
  · by_cases h2 : b = d
    · subst h1 h2
      simp
    · have : ((b : Int) == (d : Int)) = false := beq_eq_false_iff_ne.mpr (by omega)
      rw [this, decide_eq_false (fun z => h2 (congrArg Prod.snd z))]
      simp
  · have : ((a : Int) == (c : Int)) = false := beq_eq_false_iff_ne.mpr (by omega)
    rw [this, decide_eq_false (fun z => h1 (congrArg Prod.fst z))]
    simp
theorem any_eqv (p : List Pr) (e : Pr) : ((p.map prD).any fun z => PyData.eqv z (prD e)) = decide (e ∈ p) := by
  rw [Bool.eq_iff_iff, List.any_eq_true, decide_eq_true_eq]
  constructor
  · rintro ⟨z, hz, h⟩
    obtain ⟨f, hf, rfl⟩ := List.mem_map.mp hz
    rw [prD_eqv, decide_eq_true_eq] at h
    rw [← h]
    exact hf
  · intro h
    exact ⟨prD e, List.mem_map.mpr ⟨e, h, rfl⟩, by rw [prD_eqv]; simp⟩

/-! ### ints in sequences -/
theorem inV_IV (l : List Nat) (k : Nat) : inV (.int (k : Int)) (IV l) = decide (k ∈ l) := by
  unfold inV IV
  rw [Bool.eq_iff_iff, List.any_eq_true, decide_eq_true_eq]
  constructor
  · rintro ⟨z, hz, h⟩
    obtain ⟨f, hf, rfl⟩ := List.mem_map.mp hz
    have : (f : Int) = (k : Int) := eq_of_beq (show ((f : Int) == (k : Int)) = true from h)
    have : f = k := by omega
    rw [← this]
    exact hf
  · intro h
    exact ⟨_, List.mem_map.mpr ⟨k, h, rfl⟩, by show ((k : Int) == (k : Int)) = true; simp⟩
theorem flat_IV (l : List Nat) : (IV l).all flatV = true := by
  unfold IV
  rw [List.all_eq_true]
  intro x hx
  obtain ⟨f, _, rfl⟩ := List.mem_map.mp hx
  rfl
theorem flat_ints (l : List Int) : (l.map V.int).all flatV = true := by
  rw [List.all_eq_true]
  intro x hx
  obtain ⟨f, _, rfl⟩ := List.mem_map.mp hx
  rfl
end

theorem yes {σ : L2.St} {H : Hp} {Q : Bool → Hp → Prop} (h : Q true H) : tYes σ H Q := h
theorem iteF' {A B : Prop} (c : Bool) (e : c = false) (h : B) : if c = true then A else B := by
  rw [e]
  exact iteF h
theorem iteT' {A B : Prop} (c : Bool) (e : c = true) (h : A) : if c = true then A else B := by
  rw [e]
  exact iteT h
/-! ### what a walk asks -/
theorem it_tup {K : PySem.W.Frag} {a : Addr} {xs : List V} {H1 : Hp} {Qd : Hp → Prop} {Body : (Hp → Prop) → V → Hp → Prop} (Pv : Nat → Hp → Prop) (h0 : Pv 0 H1) (hl : ∀ i H, i ≤ xs.length → Pv i H → SqT K H a xs)
    (hs : ∀ i x H, xs[i]? = some x → Pv i H → Body (Pv (i + 1)) x H) (hd : ∀ H, Pv xs.length H → Qd H) :
    ∃ W : Nat → Nat → Hp → Prop, (∃ m, W 0 m H1) ∧ ∀ i m H, W i m H →
      ((Itt K a).stop i H ∧ Qd H) ∨ ((Itt K a).go i H ∧ ∃ Nx : Hp → Prop, (∀ H', Nx H' → ∃ m', m' < m ∧ W (i + 1) m' H') ∧ ∀ x H', (Itt K a).yld i H x H' → Body Nx x H') := by
  refine ⟨fun i m H => m = xs.length - i ∧ i ≤ xs.length ∧ Pv i H, ⟨xs.length, by simp, Nat.zero_le _, h0⟩, ?_⟩
  rintro i m H ⟨rfl, hi, p⟩
  have q := hl i H hi p
  by_cases hlt : i < xs.length
  · refine .inr ⟨⟨xs, xs[i], q, by simp [hlt]⟩, Pv (i + 1), fun H' p' => ⟨xs.length - (i + 1), by omega, rfl, hlt, p'⟩, ?_⟩
    rintro x H' ⟨rfl, y⟩
    exact hs i x _ (y xs q) p
  · have e : i = xs.length := by omega
    subst e
    exact .inl ⟨⟨xs, q, Nat.le_refl _⟩, hd H p⟩
theorem it_list {K : PySem.W.Frag} {a : Addr} {xs : List V} {H1 : Hp} {Qd : Hp → Prop} {Body : (Hp → Prop) → V → Hp → Prop} (Pv : Nat → Hp → Prop) (h0 : Pv 0 H1) (hl : ∀ i H, i ≤ xs.length → Pv i H → SqL K H a xs)
    (hs : ∀ i x H, xs[i]? = some x → Pv i H → Body (Pv (i + 1)) x H) (hd : ∀ H, Pv xs.length H → Qd H) :
    ∃ W : Nat → Nat → Hp → Prop, (∃ m, W 0 m H1) ∧ ∀ i m H, W i m H →
      ((Itl K a).stop i H ∧ Qd H) ∨ ((Itl K a).go i H ∧ ∃ Nx : Hp → Prop, (∀ H', Nx H' → ∃ m', m' < m ∧ W (i + 1) m' H') ∧ ∀ x H', (Itl K a).yld i H x H' → Body Nx x H') := by
  refine ⟨fun i m H => m = xs.length - i ∧ i ≤ xs.length ∧ Pv i H, ⟨xs.length, by simp, Nat.zero_le _, h0⟩, ?_⟩
  rintro i m H ⟨rfl, hi, p⟩
  have q := hl i H hi p
  by_cases hlt : i < xs.length
  · refine .inr ⟨⟨xs, xs[i], q, by simp [hlt]⟩, Pv (i + 1), fun H' p' => ⟨xs.length - (i + 1), by omega, rfl, hlt, p'⟩, ?_⟩
    rintro x H' ⟨rfl, y⟩
    exact hs i x _ (y xs q) p
  · have e : i = xs.length := by omega
    subst e
    exact .inl ⟨⟨xs, q, Nat.le_refl _⟩, hd H p⟩
theorem it_range {lo : Int} {n : Nat} {H1 : Hp} {Qd : Hp → Prop} {Body : (Hp → Prop) → V → Hp → Prop} (Pv : Nat → Hp → Prop) (h0 : Pv 0 H1)
    (hs : ∀ i H, i < n → Pv i H → Body (Pv (i + 1)) (.int (lo + i)) H) (hd : ∀ H, Pv n H → Qd H) :
    ∃ W : Nat → Nat → Hp → Prop, (∃ m, W 0 m H1) ∧ ∀ i m H, W i m H →
      ((Itr lo n).stop i H ∧ Qd H) ∨ ((Itr lo n).go i H ∧ ∃ Nx : Hp → Prop, (∀ H', Nx H' → ∃ m', m' < m ∧ W (i + 1) m' H') ∧ ∀ x H', (Itr lo n).yld i H x H' → Body Nx x H') := by
  refine ⟨fun i m H => m = n - i ∧ i ≤ n ∧ Pv i H, ⟨n, by simp, Nat.zero_le _, h0⟩, ?_⟩
  rintro i m H ⟨rfl, hi, p⟩
  by_cases hlt : i < n
  · refine .inr ⟨hlt, Pv (i + 1), fun H' p' => ⟨n - (i + 1), by omega, rfl, hlt, p'⟩, ?_⟩
    rintro x H' ⟨rfl, rfl⟩
    exact hs i _ hlt p
  · have e : i = n := by omega
    subst e
    exact .inl ⟨Nat.le_refl _, hd H p⟩
end G
set_option Elab.async false
set_option linter.all false
set_option maxRecDepth 100000
set_option maxHeartbeats 4000000
namespace G
open PySem PySem.Spec PyProof.Rows L2
open Blo (Pr)

abbrev sIsInteger : Stmt := topS 2
abbrev sIsNumber : Stmt := topS 3
abbrev sIsIndex : Stmt := topS 4
abbrev sIsRowOf : Stmt := topS 5
abbrev sIsWordOf : Stmt := topS 6
abbrev sServed : Stmt := topS 8
abbrev sUnserved : Stmt := topS 9

section
variable {P : Program} {w : World} {K : PySem.W.Frag} {mg : Str → Option Value} {base : Heap}

theorem scIsInteger : FnScope ["value"] ["value"] (defScope sIsInteger) := ⟨rfl, rfl, rfl, by decide +kernel, rfl, by decide +kernel, by decide +kernel⟩
def spIsInteger : Sp := fun vs H Q _ => ∃ i : Int, vs = [.int i] ∧ Q (.bl true) H
theorem ok_isInteger (D : Df K mg "is_integer" sIsInteger ["value"]) (T : Nm mg) : C8.Cal P w K mg base 1 "is_integer" spIsInteger [] := by
  refine cal_of D scIsInteger (fun vs H Q E h => ?_) (fun f cdv A outer s H vs Q E hr h => ?_)
  · obtain ⟨i, rfl, _⟩ := h
    rfl
  · obtain ⟨i, rfl, q⟩ := h
    refine ⟨_, pss_one (ps_ret (pe_and (pe_callB call_isi (by rfl) T.isi (by decide +kernel) (pa_cons (pv 0) (pa_cons (pe_bltn (v := .ty "int") (by rfl) T.int (by decide +kernel) rfl) pa_nil)))
      (pe_one (pe_not (pe_callB call_isi (by rfl) T.isi (by decide +kernel) (pa_cons (pv 0) (pa_cons (pe_bltn (v := .ty "bool") (by rfl) T.bool (by decide +kernel) rfl) pa_nil))))))), ?_⟩
    refine ⟨_, rfl, _, _, _, _, true, rfl, .ty "int", tyInt i, kit_ty (by decide +kernel), true, rfl, ?_⟩
    refine iteT ⟨_, rfl, _, _, _, _, false, rfl, .ty "bool", tyInt i, kit_ty (by decide +kernel), false, rfl, q⟩

theorem scIsNumber : FnScope ["value"] ["value"] (defScope sIsNumber) := ⟨rfl, rfl, rfl, by decide +kernel, rfl, by decide +kernel, by decide +kernel⟩
def spIsNumber : Sp := fun vs H Q _ => ∃ i : Int, vs = [.int i] ∧ Q (.bl (decide (0 ≤ i))) H
theorem ok_isNumber (D : Df K mg "is_number" sIsNumber ["value"]) (C1 : C8.Cal P w K mg base 1 "is_integer" spIsInteger []) : C8.Cal P w K mg base 2 "is_number" spIsNumber [] := by
  refine cal_of D scIsNumber (fun vs H Q E h => ?_) (fun f cdv A outer s H vs Q E hr h => ?_)
  · obtain ⟨i, rfl, _⟩ := h
    rfl
  · obtain ⟨i, rfl, q⟩ := h
    refine ⟨_, pss_one (ps_ret (pe_and (C8.pe_c C1 hr (Nat.le_refl _) (by rfl) (pa_cons (pv 0) pa_nil)) (pe_one (pe_cmpR op_ge (pv 0) pe_int (nomark _))))), ?_⟩
    exact ⟨_, rfl, i, rfl, true, rfl, iteT ⟨_, rfl, _, _, rfl, rfl, q⟩⟩

theorem scIsIndex : FnScope ["value", "many"] ["value", "many"] (defScope sIsIndex) := ⟨rfl, rfl, rfl, by decide +kernel, rfl, by decide +kernel, by decide +kernel⟩
def spIsIndex : Sp := fun vs H Q _ => ∃ i m : Int, vs = [.int i, .int m] ∧ 0 ≤ i ∧ i < m ∧ Q (.bl true) H
theorem ok_isIndex (D : Df K mg "is_index" sIsIndex ["value", "many"]) (C1 : C8.Cal P w K mg base 2 "is_number" spIsNumber []) : C8.Cal P w K mg base 3 "is_index" spIsIndex [] := by
  refine cal_of D scIsIndex (fun vs H Q E h => ?_) (fun f cdv A outer s H vs Q E hr h => ?_)
  · obtain ⟨i, m, rfl, _⟩ := h
    rfl
  · obtain ⟨i, m, rfl, h0, h1, q⟩ := h
    refine ⟨_, pss_one (ps_ret (pe_and (C8.pe_c C1 hr (Nat.le_refl _) (by rfl) (pa_cons (pv 0) pa_nil)) (pe_one (pe_cmpR op_lt (pv 0) (pv 1) (nomark _))))), ?_⟩
    refine ⟨_, rfl, i, rfl, _, rfl, ?_⟩
    rw [decide_eq_true h0]
    refine iteT ⟨_, rfl, _, rfl, _, _, rfl, rfl, ?_⟩
    show Q (.bl (decide (i < m))) H
    rw [decide_eq_true h1]
    exact q

theorem scIsRowOf : FnScope ["value", "sizes"] ["value", "sizes"] (defScope sIsRowOf) := ⟨rfl, rfl, rfl, by decide +kernel, rfl, by decide +kernel, by decide +kernel⟩
def spIsRowOf (K : PySem.W.Frag) : Sp := fun vs H Q _ => ∃ (a t : Addr) (xs : List V) (ns : List Nat), vs = [.ref a, .ref t] ∧ SqT K H a xs ∧ SqT K H t (IV ns) ∧ Q (.bl (decide (xs.length ∈ ns))) H
theorem ok_isRowOf (D : Df K mg "is_row_of" sIsRowOf ["value", "sizes"]) (T : Nm mg) : C8.Cal P w K mg base 1 "is_row_of" (spIsRowOf K) [] := by
  refine cal_of D scIsRowOf (fun vs H Q E h => ?_) (fun f cdv A outer s H vs Q E hr h => ?_)
  · obtain ⟨a, t, xs, ns, rfl, _⟩ := h
    rfl
  · obtain ⟨a, t, xs, ns, rfl, h1, h2, q⟩ := h
    refine ⟨_, pss_one (ps_ret (pe_and (pe_callB call_isi (by rfl) T.isi (by decide +kernel) (pa_cons (pv 0) (pa_cons (pe_bltn (v := .ty "tuple") (by rfl) T.tuple (by decide +kernel) rfl) pa_nil)))
      (pe_one (pe_cmpR op_in_seq (pe_callB call_len_seq (by rfl) T.len PySem.boot_len (pa_cons (pv 0) pa_nil)) (pv 1) (by rfl))))), ?_⟩
    refine ⟨_, rfl, _, _, _, _, true, rfl, .ty "tuple", tyTup h1, kit_ty (by decide +kernel), true, rfl, ?_⟩
    refine iteT ⟨_, rfl, a, xs, rfl, .inr h1, _, rfl, t, IV ns, rfl, .inr h2, rfl, flat_IV ns, ?_⟩
    show Q (.bl (inV (.int ((xs.length : Nat) : Int)) (IV ns))) H
    rw [inV_IV]
    exact q

theorem scIsWordOf : FnScope ["value", "words"] ["value", "words"] (defScope sIsWordOf) := ⟨rfl, rfl, rfl, by decide +kernel, rfl, by decide +kernel, by decide +kernel⟩
def spIsWordOf (K : PySem.W.Frag) : Sp := fun vs H Q _ => ∃ (x : Str) (t : Addr) (xs : List Str), vs = [.str x, .ref t] ∧ SqT K H t (xs.map V.str) ∧ x ∈ xs ∧ Q (.bl true) H
theorem ok_isWordOf (D : Df K mg "is_word_of" sIsWordOf ["value", "words"]) (T : Nm mg) : C8.Cal P w K mg base 1 "is_word_of" (spIsWordOf K) [] := by
  refine cal_of D scIsWordOf (fun vs H Q E h => ?_) (fun f cdv A outer s H vs Q E hr h => ?_)
  · obtain ⟨x, t, xs, rfl, _⟩ := h
    rfl
  · obtain ⟨x, t, xs, rfl, h1, hx, q⟩ := h
    refine ⟨_, pss_one (ps_ret (pe_and (pe_callB call_isi (by rfl) T.isi (by decide +kernel) (pa_cons (pv 0) (pa_cons (pe_bltn (v := .ty "str") (by rfl) T.str (by decide +kernel) rfl) pa_nil)))
      (pe_one (pe_cmpR op_in_seq (pv 0) (pv 1) (by rfl))))), ?_⟩
    refine ⟨_, rfl, _, _, _, _, true, rfl, .ty "str", tyStr x, kit_ty (by decide +kernel), true, rfl, ?_⟩
    refine iteT ⟨_, rfl, _, rfl, t, _, rfl, .inr h1, rfl, ?_, ?_⟩
    · rw [List.all_eq_true]
      intro y hy
      obtain ⟨z, _, rfl⟩ := List.mem_map.mp hy
      rfl
    · have e : inV (.str x) (xs.map V.str) = true := List.any_eq_true.mpr ⟨_, List.mem_map.mpr ⟨x, hx, rfl⟩, by show (x == x) = true; simp⟩
      show Q (.bl (inV (.str x) (xs.map V.str))) H
      rw [e]
      exact q

/-! ### served, unserved -/
theorem scServed : FnScope ["plan", "pair", "person"] ["plan"] (defScope sServed) := ⟨rfl, rfl, rfl, by decide +kernel, rfl, by decide +kernel, by decide +kernel⟩
/-- some tuple of just the people served -/
def LotV (K : PySem.W.Frag) (H : Hp) (v : V) (p : List Pr) : Prop := ∃ (a : Addr) (l : List Nat), v = .ref a ∧ SqT K H a (IV l) ∧ ∀ z, z ∈ l ↔ z ∈ Blo.servedL p
def spServed (K : PySem.W.Frag) : Sp := fun vs H Q _ => ∃ v p, vs = [v] ∧ PlanV K H v p ∧ p.length ≤ 1000 ∧ ∀ v' H', Same H H' → LotV K H' v' p → Q v' H'
theorem ints_of_perm {l : List Nat} {ns : List Int} (h : ns.Perm (l.map fun (k : Nat) => (k : Int))) : ∃ m : List Nat, ns.map V.int = IV m ∧ m.Perm l := by
  have h0 : ∀ x ∈ ns, ((x.toNat : Nat) : Int) = x := fun x hx => by
    obtain ⟨k, _, rfl⟩ := List.mem_map.mp (h.mem_iff.mp hx)
    exact congrArg _ (Int.toNat_natCast k)
  refine ⟨ns.map Int.toNat, ?_, ?_⟩
  · unfold IV
    rw [List.map_map]
    exact List.map_congr_left fun x hx => congrArg V.int (h0 x hx).symm
  · have q := h.map Int.toNat
    rw [List.map_map] at q
    have e : l.map (Int.toNat ∘ fun (k : Nat) => (k : Int)) = l := (List.map_congr_left fun x _ => Int.toNat_natCast x).trans (List.map_id l)
    rwa [e] at q
theorem IV_append (a b : List Nat) : IV (a ++ b) = IV a ++ IV b := List.map_append
theorem IV_length (a : List Nat) : (IV a).length = a.length := List.length_map _
theorem served_take (p : List Pr) (i : Nat) {e : Pr} (h : p[i]? = some e) : Blo.servedL (p.take (i + 1)) = Blo.servedL (p.take i) ++ [e.1, e.2] := by
  unfold Blo.servedL
  rw [List.take_add_one, h, List.flatMap_append]
  rfl
theorem served_take_len (p : List Pr) (i : Nat) : (Blo.servedL (p.take i)).length ≤ 2 * p.length := by
  rw [Blo.served_len, List.length_take]
  omega
theorem ok_served (D : Df K mg "served" sServed ["plan"]) (T : Nm mg) : C8.Cal P w K mg base 1 "served" (spServed K) [] := by
  refine cal_of D scServed (fun vs H Q E h => ?_) (fun f cdv A outer s H vs Q E hr h => ?_)
  · obtain ⟨v, p, rfl, _⟩ := h
    rfl
  · obtain ⟨_, p, rfl, ⟨a, xs, rfl, hS, hP⟩, hlen, q⟩ := h
    have hl := hP.length
    refine ⟨_, pss_one (ps_ret (pe_callTy call_tuple_of (by rfl) T.tuple (by decide +kernel) (pa_cons (pe_callB cr_sortedI (by rfl) T.sorted (by decide +kernel)
      (pa_cons (pe_lc2 (own := [("pair", 1), ("person", 2)]) (vs1 := [2]) (wi1 := iTup K (tVar 1)) rfl scServed.nd (pi_tup (pv 0)) (blkOk_by (N := ["plan", "pair", "person"]) (sc := defScope sServed) (by decide +kernel)) (by decide)
        (fun _ _ _ _ _ => pg_name (i := 1) scServed.nd rfl (Or.inl rfl)) (fun _ _ _ _ _ => pts_nil) (fun _ _ _ _ _ => pi_tup (pv 1))
        (fun _ _ _ _ _ => pg_name (i := 2) scServed.nd rfl (Or.inl rfl)) (fun _ _ _ _ _ => pts_nil) (fun _ _ _ _ _ => pv 2)) pa_nil)) pa_nil))), ?_⟩
    refine ⟨_, rfl, a, rfl, ⟨xs, hS⟩, fun D hD => ?_⟩
    refine it_tup (K := K) (a := a) (xs := xs) (fun i H' => Same H H' ∧ H' D = some (.lst (IV (Blo.servedL (p.take i))))) ⟨same_upd hD, upd_same⟩ (fun i H' _ h => tup_same h.1 hS) (fun i x H1 hx h => ?_) (fun H1 h => ?_)
    · obtain ⟨e, he, t, rfl, ht⟩ := Paired.get hP i x hx
      obtain ⟨s1, h1⟩ := h
      refine ⟨rfl, yes (iteT ⟨_, rfl, t, rfl, ⟨_, tup_same s1 ht⟩, ?_⟩)⟩
      refine it_tup (K := K) (a := t) (xs := [.int (e.1 : Nat), .int (e.2 : Nat)]) (fun j H' => Same H H' ∧ H' D = some (.lst (IV (Blo.servedL (p.take i) ++ [e.1, e.2].take j)))) ⟨s1, by rw [h1]; simp⟩ (fun j H' _ h => tup_same h.1 ht) (fun j y H2 hy h => ?_) (fun H2 h => ?_)
      · obtain ⟨s2, h2⟩ := h
        have hy' : ∃ k : Nat, [e.1, e.2][j]? = some k ∧ y = .int (k : Nat) := by
          match j, hy with
          | 0, hy => exact ⟨e.1, rfl, (Option.some.inj hy).symm⟩
          | 1, hy => exact ⟨e.2, rfl, (Option.some.inj hy).symm⟩
        obtain ⟨k, hk, rfl⟩ := hy'
        refine ⟨rfl, yes (iteT ⟨_, rfl, _, h2, ?_, ?_, ?_⟩)⟩
        · have := served_take_len p i
          rw [IV_length, List.length_append, List.length_take]
          exact size_lt (by simp only [List.length_cons, List.length_nil]; omega)
        · intro b o hb
          rw [upd_ne (ne_of_none hb hD)]
          exact s2 b o hb
        · rw [upd_same, List.take_add_one, hk]
          simp only [IV_append, List.append_assoc]
          rfl
      · obtain ⟨s2, h2⟩ := h
        refine ⟨s2, ?_⟩
        rw [h2, served_take p i he]
        rfl
    · obtain ⟨s1, h1⟩ := h
      rw [hl, List.take_length] at h1
      refine ⟨D, (Blo.servedL p).map (fun (k : Nat) => (k : Int)), rfl, SqL.of (by rw [h1]; unfold IV; rw [List.map_map]; rfl), fun ns' t hp _ ht => ?_⟩
      obtain ⟨m, e1, e2⟩ := ints_of_perm hp
      have s2 := same_upd (o := .lst (ns'.map V.int)) ht
      refine ⟨t, ns'.map V.int, rfl, .inl ⟨SqL.of upd_same, fun u hu => ?_⟩⟩
      refine q _ _ (s1.trans (s2.trans (same_upd hu))) ⟨u, m, rfl, SqT.of (by rw [upd_same, e1]), fun z => e2.mem_iff⟩

theorem scUnserved : FnScope ["web", "plan", "known", "person"] ["web", "plan"] (defScope sUnserved) := ⟨rfl, rfl, rfl, by decide +kernel, rfl, by decide +kernel, by decide +kernel⟩
def spUnserved (K : PySem.W.Frag) : Sp := fun vs H Q _ => ∃ u v n ps p, vs = [u, v] ∧ WebV K H u n ps ∧ PlanV K H v p ∧ p.length ≤ 1000 ∧ n ≤ 1000 ∧
  ∀ (a : Addr) H', Same H H' → H' a = some (.tup (IV (Blo.rootsOf n p))) → Q (.ref a) H'
theorem roots_take (n : Nat) (p : List Pr) (i : Nat) (hi : i < n) : ((List.range n).take (i + 1)).filter (fun v => decide (v ∉ Blo.servedL p)) = ((List.range n).take i).filter (fun v => decide (v ∉ Blo.servedL p)) ++ if i ∈ Blo.servedL p then [] else [i] := by
  have e : (List.range n)[i]? = some i := by rw [List.getElem?_range hi]
  rw [List.take_add_one, e, List.filter_append]
  congr 1
  show [i].filter _ = _
  by_cases h : i ∈ Blo.servedL p
  · rw [if_pos h, List.filter_cons_of_neg (by simpa using h)]
    rfl
  · rw [if_neg h, List.filter_cons_of_pos (by simpa using h)]
    rfl
theorem ok_unserved (D : Df K mg "unserved" sUnserved ["web", "plan"]) (T : Nm mg) (C1 : C8.Cal P w K mg base 1 "served" (spServed K) []) : C8.Cal P w K mg base 2 "unserved" (spUnserved K) [] := by
  refine cal_of D scUnserved (fun vs H Q E h => ?_) (fun f cdv A outer s H vs Q E hr h => ?_)
  · obtain ⟨u, v, n, ps, p, rfl, _⟩ := h
    rfl
  · obtain ⟨_, v, n, ps, p, rfl, ⟨a, b, rfl, hS, hW⟩, hP, hlen, hn, q⟩ := h
    refine ⟨_, pss_cons (ps_set (i := 2) scUnserved.nd rfl (Or.inr rfl) (C8.pe_c C1 hr (Nat.le_refl _) (by rfl) (pa_cons (pv 1) pa_nil)))
      (pss_one (ps_ret (pe_callTy call_tuple_of (by rfl) T.tuple (by decide +kernel) (pa_cons (pe_lc (own := [("person", 3)]) (g := gName 3) (tt := _) rfl scUnserved.nd
        (pi_range1 rfl T.range (pa_cons (pe_ix ix_tup (pv 0) pe_int (fun _ _ => rfl)) pa_nil)) (blkOk_by (N := ["web", "plan", "known", "person"]) (sc := defScope sUnserved) (by decide +kernel))
        (fun _ _ _ _ _ => pg_name (i := 3) scUnserved.nd rfl (Or.inl rfl)) (fun _ _ _ _ _ => pts_one (pt_cmpR (r := rIn K true) op_notIn_seq (pv 3) (pv 2) (by rfl))) (fun _ _ _ _ _ => pv 3)) pa_nil)))), ?_⟩
    refine ⟨_, rfl, _, p, rfl, hP, hlen, fun v' H1 s1 ⟨l, m, e1, hL, hm⟩ => ?_⟩
    subst e1
    refine ⟨_, rfl, a, _, 0, _, rfl, rfl, tup_same s1 hS, rfl, n, rfl, by omega, by omega, fun D hD => ?_⟩
    refine it_range (lo := 0) (n := ((n : Nat) : Int).toNat) (fun i H' => Same H1 H' ∧ H' D = some (.lst (IV (((List.range n).take i).filter fun v => decide (v ∉ Blo.servedL p))))) ⟨same_upd hD, upd_same⟩ (fun i H2 hi h => ?_) (fun H2 h => ?_)
    · obtain ⟨s2, h2⟩ := h
      have hin : i < n := by simpa using hi
      refine ⟨rfl, _, rfl, _, rfl, l, IV m, rfl, .inr (tup_same s2 hL), rfl, flat_IV m, _, rfl, ?_⟩
      rw [show V.int (0 + ((i : Nat) : Int)) = V.int (i : Int) by rw [Int.zero_add], inV_IV]
      by_cases hmem : i ∈ m
      · refine iteF' _ (by simp [hmem]) ⟨s2, ?_⟩
        rw [h2, roots_take n p i hin, if_pos ((hm i).mp hmem), List.append_nil]
      · refine iteT' _ (by simp [hmem]) ⟨_, rfl, _, h2, ?_, fun b o hb => ?_, ?_⟩
        · have := List.length_filter_le (fun v => decide (v ∉ Blo.servedL p)) ((List.range n).take i)
          rw [List.length_take, List.length_range] at this
          rw [IV_length]
          exact size_lt (by omega)
        · rw [upd_ne (ne_of_none hb hD)]
          exact s2 b o hb
        · rw [upd_same, roots_take n p i hin, if_neg (fun z => hmem ((hm i).mpr z)), IV_append]
          rfl
    · obtain ⟨s2, h2⟩ := h
      rw [Int.toNat_natCast, List.take_of_length_le (by rw [List.length_range]; exact Nat.le_refl _)] at h2
      refine ⟨D, _, rfl, .inl ⟨SqL.of h2, fun u hu => ?_⟩⟩
      exact q u _ (s1.trans (s2.trans (same_upd hu))) upd_same
end
end G
set_option Elab.async false
set_option linter.all false
set_option maxRecDepth 100000
set_option maxHeartbeats 4000000
namespace G
open PySem PySem.Spec PyProof.Rows L2
open Blo (Pr)

abbrev sNeighbours : Stmt := topS 20
abbrev sNearOf : Stmt := topS 22

theorem filter_take {α : Type} (l : List α) (f : α → Bool) (i : Nat) {e : α} (h : l[i]? = some e) : (l.take (i + 1)).filter f = (l.take i).filter f ++ if f e = true then [e] else [] := by
  rw [List.take_add_one, h, List.filter_append]
  congr 1
  show [e].filter f = _
  by_cases c : f e = true
  · rw [if_pos c, List.filter_cons_of_pos c]
    rfl
  · rw [if_neg c, List.filter_cons_of_neg c]
    rfl
theorem filter_take_len {α : Type} (l : List α) (f : α → Bool) (i : Nat) : ((l.take i).filter f).length ≤ l.length := by
  have := List.length_filter_le f (l.take i)
  rw [List.length_take] at this
  omega
theorem V_int_inj (a b : Nat) : decide (V.int (a : Int) = V.int (b : Int)) = decide (a = b) := by
  rw [Bool.eq_iff_iff, decide_eq_true_eq, decide_eq_true_eq]
  constructor
  · intro h
    have := V.int.inj h
    omega
  · rintro rfl
    rfl

section
variable {P : Program} {w : World} {K : PySem.W.Frag} {mg : Str → Option Value} {base : Heap}

theorem scNeighbours : FnScope ["web", "person", "one", "other"] ["web", "person"] (defScope sNeighbours) := ⟨rfl, rfl, rfl, by decide +kernel, rfl, by decide +kernel, by decide +kernel⟩
def spNeighbours (K : PySem.W.Frag) : Sp := fun vs H Q _ => ∃ (u : V) (k n : Nat) (ps : List Pr), vs = [u, .int (k : Nat)] ∧ WebV K H u n ps ∧ ps.length ≤ 1000 ∧
  ∀ (a : Addr) H', Same H H' → H' a = some (.tup (IV (Blo.nearOf ps k))) → Q (.ref a) H'
theorem near_take (ps : List Pr) (k i : Nat) {e : Pr} (h : ps[i]? = some e) : Blo.nearOf (ps.take (i + 1)) k = Blo.nearOf (ps.take i) k ++ if (decide (k = e.1) || decide (k = e.2)) = true then [if e.2 = k then e.1 else e.2] else [] := by
  unfold Blo.nearOf
  rw [filter_take ps _ i h, List.map_append]
  congr 1
  by_cases c : (decide (k = e.1) || decide (k = e.2)) = true
  · rw [if_pos c, if_pos c]
    rfl
  · rw [if_neg c, if_neg c]
    rfl
theorem ok_neighbours (D : Df K mg "neighbours" sNeighbours ["web", "person"]) (T : Nm mg) : C8.Cal P w K mg base 1 "neighbours" (spNeighbours K) [] := by
  refine cal_of D scNeighbours (fun vs H Q E h => ?_) (fun f cdv A outer s H vs Q E hr h => ?_)
  · obtain ⟨u, k, n, ps, rfl, _⟩ := h
    rfl
  · obtain ⟨_, k, n, ps, rfl, ⟨a, b, rfl, hS, b', xs, e1, hB, hP⟩, hlen, q⟩ := h
    cases e1
    have hl := hP.length
    refine ⟨_, pss_one (ps_ret (pe_callTy call_tuple_of (by rfl) T.tuple (by decide +kernel) (pa_cons (pe_lc (own := [("one", 2), ("other", 3)]) rfl scNeighbours.nd
        (pi_tup (pe_ix ix_tup (pv 0) pe_int (fun _ _ => rfl))) (blkOk_by (N := ["web", "person", "one", "other"]) (sc := defScope sNeighbours) (by decide +kernel))
        (g := gTup K 2 (gCons (gName 2) (gCons (gName 3) gNil)))
        (fun _ _ _ _ _ => pg_tup rfl (pgs_cons (pg_name (i := 2) scNeighbours.nd rfl (Or.inl rfl)) (pgs_cons (pg_name (i := 3) scNeighbours.nd rfl (Or.inl rfl)) pgs_nil)))
        (fun _ _ _ _ _ => pts_one (pt_cmpR (r := rIn K false) op_in_seq (pv 1) (pe_tup (pa_cons (pv 2) (pa_cons (pv 3) pa_nil))) (by rfl)))
        (fun _ _ _ _ _ => pe_ifExp (pt_cmpR op_eq (pv 3) (pv 1) (nomark _)) (pv 2) (pv 3))) pa_nil))), ?_⟩
    refine ⟨_, rfl, a, _, 1, _, rfl, rfl, hS, rfl, b, rfl, ⟨xs, hB⟩, fun L hL => ?_⟩
    refine it_tup (K := K) (a := b) (xs := xs) (fun i H' => Same H H' ∧ H' L = some (.lst (IV (Blo.nearOf (ps.take i) k)))) ⟨same_upd hL, upd_same⟩ (fun i H' _ h => tup_same h.1 hB) (fun i x H1 hx h => ?_) (fun H1 h => ?_)
    · obtain ⟨e, he, t, rfl, ht⟩ := Paired.get hP i x hx
      obtain ⟨s1, h1⟩ := h
      refine ⟨t, _, rfl, tup_same s1 ht, rfl, _, _, rfl, _, _, rfl, rfl, rfl, ?_⟩
      refine ⟨_, rfl, _, rfl, _, rfl, by show 2 ≤ sizeLine; decide, fun U hU => ⟨U, IV [e.1, e.2], rfl, .inr (SqT.of upd_same), rfl, rfl, _, rfl, ?_⟩⟩
      have s2 := s1.trans (same_upd (o := .tup (IV [e.1, e.2])) hU)
      have h2 : upd H1 U (.tup (IV [e.1, e.2])) L = some (.lst (IV (Blo.nearOf (ps.take i) k))) := by rw [upd_ne (ne_of_none h1 hU)]; exact h1
      have hln : (IV (Blo.nearOf (ps.take i) k)).length < sizeLine := by
        have := filter_take_len ps (fun e => decide (k = e.1) || decide (k = e.2)) i
        rw [IV_length]
        unfold Blo.nearOf
        rw [List.length_map]
        exact size_lt (by omega)
      rw [show inV (V.int (k : Int)) (IV [e.1, e.2]) = decide (k ∈ [e.1, e.2]) from inV_IV _ _]
      have hc : decide (k ∈ [e.1, e.2]) = (decide (k = e.1) || decide (k = e.2)) := by
        rw [Bool.eq_iff_iff]
        simp
      by_cases c : (decide (k = e.1) || decide (k = e.2)) = true
      · refine iteT' _ (by simpa using hc.trans c) ⟨_, rfl, _, rfl, rfl, _, rfl, ?_⟩
        have fin : ∀ y : Nat, y = (if e.2 = k then e.1 else e.2) → ∃ acc, upd H1 U (.tup (IV [e.1, e.2])) L = some (.lst acc) ∧ acc.length < sizeLine ∧
            (Same H (upd (upd H1 U (.tup (IV [e.1, e.2]))) L (.lst (acc ++ [V.int (y : Int)]))) ∧ (upd (upd H1 U (.tup (IV [e.1, e.2]))) L (.lst (acc ++ [V.int (y : Int)]))) L = some (.lst (IV (Blo.nearOf (ps.take (i + 1)) k)))) := fun y hy => by
          refine ⟨_, h2, hln, fun b o hb => ?_, ?_⟩
          · rw [upd_ne (ne_of_none hb hL)]
            exact s2 b o hb
          · rw [upd_same, near_take ps k i he, if_pos c, IV_append, ← hy]
            rfl
        rw [V_int_inj]
        by_cases d : e.2 = k
        · refine iteT' _ (by simpa using d) ⟨_, rfl, fin e.1 (by rw [if_pos d])⟩
        · refine iteF' _ (by simpa using d) ⟨_, rfl, fin e.2 (by rw [if_neg d])⟩
      · refine iteF' _ (by simpa using (hc.trans (by simpa using c) : decide (k ∈ [e.1, e.2]) = false)) ⟨s2, ?_⟩
        refine h2.trans ?_
        rw [near_take ps k i he, if_neg c, List.append_nil]
    · obtain ⟨s1, h1⟩ := h
      rw [hl, List.take_length] at h1
      refine ⟨L, _, rfl, .inl ⟨SqL.of h1, fun u hu => ?_⟩⟩
      exact q u _ (s1.trans (same_upd hu)) upd_same

theorem scNearOf : FnScope ["web", "person"] ["web"] (defScope sNearOf) := ⟨rfl, rfl, rfl, by decide +kernel, rfl, by decide +kernel, by decide +kernel⟩
/-- a list: for each person the tuple of those near him -/
def NearV (K : PySem.W.Frag) (H : Hp) (L : Addr) (n : Nat) (ps : List Pr) : Prop := ∃ vs, SqL K H L vs ∧ Paired (fun v (k : Nat) => ∃ a, v = V.ref a ∧ SqT K H a (IV (Blo.nearOf ps k))) vs (List.range n)
theorem NearV.same {H H' : Hp} {L : Addr} {n : Nat} {ps : List Pr} (s : Same H H') (h : NearV K H L n ps) : NearV K H' L n ps := by
  obtain ⟨vs, h1, h2⟩ := h
  exact ⟨vs, s.seq h1, Paired.mono (fun _ _ ⟨a, e, q⟩ => ⟨a, e, tup_same s q⟩) h2⟩
def spNearOf (K : PySem.W.Frag) : Sp := fun vs H Q _ => ∃ (u : V) (n : Nat) (ps : List Pr), vs = [u] ∧ WebV K H u n ps ∧ ps.length ≤ 1000 ∧ n ≤ 1000 ∧
  ∀ (L : Addr) H', Same H H' → NearV K H' L n ps → Q (.ref L) H'
theorem ok_nearOf (D : Df K mg "near_of" sNearOf ["web"]) (T : Nm mg) (C1 : C8.Cal P w K mg base 1 "neighbours" (spNeighbours K) []) : C8.Cal P w K mg base 2 "near_of" (spNearOf K) [] := by
  refine cal_of D scNearOf (fun vs H Q E h => ?_) (fun f cdv A outer s H vs Q E hr h => ?_)
  · obtain ⟨u, n, ps, rfl, _⟩ := h
    rfl
  · obtain ⟨u, n, ps, rfl, hW, hlen, hn, q⟩ := h
    have hW0 := hW
    obtain ⟨a, b, rfl, hS, hB⟩ := hW
    refine ⟨_, pss_one (ps_ret (pe_lc (own := [("person", 1)]) (g := gName 1) (tt := tYes) rfl scNearOf.nd (pi_range1 rfl T.range (pa_cons (pe_ix ix_tup (pv 0) pe_int (fun _ _ => rfl)) pa_nil))
        (blkOk_by (N := ["web", "person"]) (sc := defScope sNearOf) (by decide +kernel)) (fun _ _ _ _ _ => pg_name (i := 1) scNearOf.nd rfl (Or.inl rfl)) (fun _ _ _ _ _ => pts_nil)
        (fun _ _ _ _ _ => C8.pe_c C1 hr (Nat.le_refl _) (by rfl) (pa_cons (pv 0) (pa_cons (pv 1) pa_nil))))), ?_⟩
    refine ⟨_, rfl, a, _, 0, _, rfl, rfl, hS, rfl, n, rfl, by omega, by omega, fun L hL => ?_⟩
    refine it_range (lo := 0) (n := ((n : Nat) : Int).toNat) (fun i H' => Same H H' ∧ ∃ vs, H' L = some (.lst vs) ∧ Paired (fun v (k : Nat) => ∃ a, v = V.ref a ∧ SqT K H' a (IV (Blo.nearOf ps k))) vs ((List.range n).take i))
      ⟨same_upd hL, [], upd_same, .nil⟩ (fun i H1 hi h => ?_) (fun H1 h => ?_)
    · obtain ⟨s1, vs, h1, hp⟩ := h
      have hin : i < n := by simpa using hi
      have e1 : V.int (0 + ((i : Nat) : Int)) = V.int (i : Int) := by rw [Int.zero_add]
      refine ⟨rfl, yes (iteT ⟨_, rfl, _, rfl, _, i, n, ps, by rw [e1]; rfl, hW0.same s1, hlen, fun t H2 s2 ht => ⟨vs, s2 _ _ h1, ?_, ?_, vs ++ [.ref t], upd_same, ?_⟩⟩)⟩
      · have := hp.length
        rw [List.length_take, List.length_range] at this
        exact size_lt (by omega)
      · intro x o hx
        rw [upd_ne (ne_of_none hx hL)]
        exact s2 _ _ (s1 _ _ hx)
      · have up : ∀ (x : Addr) ks, SqT K H2 x ks → SqT K (upd H2 L (.lst (vs ++ [.ref t]))) x ks := fun x ks h => by
          rcases h with (h | ⟨o, h⟩) | h
          · exact .inl (.inl (by rw [upd_ne (fun e => by rw [e, s2 _ _ h1] at h; cases h)]; exact h))
          · exact .inl (.inr ⟨o, by rw [upd_ne (fun e => by rw [e, s2 _ _ h1] at h; cases h)]; exact h⟩)
          · exact .inr h
        rw [List.take_add_one, List.getElem?_range hin]
        exact Paired.snoc (Paired.mono (fun _ _ ⟨x, e, z⟩ => ⟨x, e, up _ _ (tup_same s2 z)⟩) hp) ⟨t, rfl, up _ _ (SqT.of ht)⟩
    · obtain ⟨s1, vs, h1, hp⟩ := h
      rw [Int.toNat_natCast, List.take_of_length_le (by rw [List.length_range]; exact Nat.le_refl _)] at hp
      exact q L H1 s1 ⟨vs, SqL.of h1, hp⟩
end
end G
set_option Elab.async false
set_option linter.all false
set_option maxRecDepth 100000
set_option maxHeartbeats 4000000
namespace G
open PySem PySem.Spec PyProof.Rows L2
open Blo (Pr)

abbrev sStepsOf : Stmt := topS 15
abbrev sArePeople : Stmt := topS 16

/-! ### tuples stay where lists change -/
def Tk (K : PySem.W.Frag) (H H' : Hp) : Prop := ∀ x ks, SqT K H x ks → SqT K H' x ks
section
variable {K : PySem.W.Frag} {H H' H2 : Hp}
theorem Tk.of (e : Same H H') : Tk K H H' := fun _ _ => tup_same e
theorem Tk.trans (a : Tk K H H') (b : Tk K H' H2) : Tk K H H2 := fun x ks h => b x ks (a x ks h)
theorem Tk.lst {L : Addr} {ys zs : List V} (hL : H L = some (.lst ys)) : Tk K H (upd H L (.lst zs)) := fun x ks h => by
  rcases h with (h | ⟨o, h⟩) | h
  · exact .inl (.inl (by rw [upd_ne (fun e => by rw [e, hL] at h; cases h)]; exact h))
  · exact .inl (.inr ⟨o, by rw [upd_ne (fun e => by rw [e, hL] at h; cases h)]; exact h⟩)
  · exact .inr h
theorem PairV.tk {v : V} {e : Pr} (t : Tk K H H') (h : PairV K H v e) : PairV K H' v e := by
  obtain ⟨a, rfl, h⟩ := h
  exact ⟨a, rfl, t _ _ h⟩
theorem pairs_tk {vs : List V} {p : List Pr} (t : Tk K H H') (h : PairsV K H vs p) : PairsV K H' vs p := Paired.mono (fun _ _ q => q.tk t) h
theorem PlanV.tk {v : V} {p : List Pr} (t : Tk K H H') (h : PlanV K H v p) : PlanV K H' v p := by
  obtain ⟨a, vs, rfl, h1, h2⟩ := h
  exact ⟨a, vs, rfl, t _ _ h1, pairs_tk t h2⟩
theorem WebV.tk {v : V} {n : Nat} {p : List Pr} (t : Tk K H H') (h : WebV K H v n p) : WebV K H' v n p := by
  obtain ⟨a, b, rfl, h1, h2⟩ := h
  exact ⟨a, b, rfl, t _ _ h1, h2.tk t⟩
/-- a list that is new in H' may change -/
theorem Same.mut {L : Addr} {o : HO} (s : Same H H') (hL : H L = none) : Same H (upd H' L o) := fun b x e => by
  rw [upd_ne (ne_of_none e hL)]
  exact s _ _ e
end

theorem it_zip {K : PySem.W.Frag} {a b : Addr} {xs ys : List V} {H1 : Hp} {Qd : Hp → Prop} {Body : (Hp → Prop) → V → Hp → Prop} (Pv : Nat → Hp → Prop) (h0 : Pv 0 H1) (hl : ∀ i H, Pv i H → SqT K H a xs ∧ SqT K H b ys)
    (hs : ∀ i x y T H, xs[i]? = some x → ys[i]? = some y → Pv i H → H T = none → Body (Pv (i + 1)) (.ref T) (upd H T (.tup [x, y]))) (hd : ∀ H, Pv (min xs.length ys.length) H → Qd H) :
    ∃ W : Nat → Nat → Hp → Prop, (∃ m, W 0 m H1) ∧ ∀ i m H, W i m H →
      ((RZ.ItzT K a b).stop i H ∧ Qd H) ∨ ((RZ.ItzT K a b).go i H ∧ ∃ Nx : Hp → Prop, (∀ H', Nx H' → ∃ m', m' < m ∧ W (i + 1) m' H') ∧ ∀ x H', (RZ.ItzT K a b).yld i H x H' → Body Nx x H') := by
  refine ⟨fun i m H => m = min xs.length ys.length - i ∧ i ≤ min xs.length ys.length ∧ Pv i H, ⟨_, rfl, Nat.zero_le _, h0⟩, ?_⟩
  rintro i m H ⟨rfl, hi, p⟩
  obtain ⟨qx, qy⟩ := hl i H p
  by_cases hlt : i < min xs.length ys.length
  · have h1 : i < xs.length := by omega
    have h2 : i < ys.length := by omega
    refine .inr ⟨⟨xs, ys, xs[i], ys[i], qx, qy, by simp [h1], by simp [h2]⟩, Pv (i + 1), fun H' p' => ⟨min xs.length ys.length - (i + 1), by omega, rfl, by omega, p'⟩, ?_⟩
    rintro v H' ⟨T, x, y, rfl, hT, rfl, hx, hy⟩
    exact hs i x y T H (hx xs qx) (hy ys qy) p hT
  · have e : i = min xs.length ys.length := by omega
    refine .inl ⟨⟨xs, ys, qx, qy, by omega⟩, hd H (e ▸ p)⟩

theorem steps_take (path : List Nat) (i : Nat) {x y : Nat} (h1 : path[i]? = some x) (h2 : path[i + 1]? = some y) : (Blo.stepsL path)[i]? = some (Blo.ord x y) := by
  induction path generalizing i with
  | nil => simp at h1
  | cons a t ih =>
    cases t with
    | nil => simp at h2
    | cons b t =>
      cases i with
      | zero =>
        cases h1
        cases h2
        rfl
      | succ i => exact ih i h1 h2
theorem cut_from1 (xs : List V) : cutV xs (some 1) none = xs.drop 1 := by
  unfold cutV
  rw [show HT.sIx xs.length 0 (some 1) = min 1 xs.length from HT.sIx_nat xs.length 0 1, HT.sIx_none]
  cases xs with
  | nil => rfl
  | cons x r =>
    rw [show min 1 (x :: r).length = 1 by rw [List.length_cons]; omega]
    show List.take ((x :: r).length - 1) r = r
    rw [List.length_cons, Nat.add_sub_cancel]
    exact List.take_length

section
variable {P : Program} {w : World} {K : PySem.W.Frag} {mg : Str → Option Value} {base : Heap}

theorem scStepsOf : FnScope ["turn", "people", "later", "pair"] ["turn"] (defScope sStepsOf) := ⟨rfl, rfl, rfl, by decide +kernel, rfl, by decide +kernel, by decide +kernel⟩
def spStepsOf (K : PySem.W.Frag) : Sp := fun vs H Q _ => ∃ (t a : Addr) (path : List Nat), vs = [.ref t] ∧ SqT K H t [.str "way", .ref a] ∧ SqT K H a (IV path) ∧ 2 ≤ path.length ∧ path.length ≤ 1000 ∧
  ∀ (L : Addr) xs H', Same H H' → H' L = some (.lst xs) → PairsV K H' xs (Blo.stepsL path) → Q (.ref L) H'
theorem ok_stepsOf (D : Df K mg "steps_of" sStepsOf ["turn"]) (T : Nm mg) : C8.Cal P w K mg base 1 "steps_of" (spStepsOf K) [] := by
  refine cal_of D scStepsOf (fun vs H Q E h => ?_) (fun f cdv A outer s H vs Q E hr h => ?_)
  · obtain ⟨t, a, path, rfl, _⟩ := h
    rfl
  · obtain ⟨t, a, path, rfl, ht, ha, h2, hn, q⟩ := h
    have hu : A.units + 3 + 70 < cLine := by
      have := hr.un
      have e : (A.deeper (envOfC "steps_of" (defScope sStepsOf) s.heap.objs.size f cdv)).units = A.units + 3 := rfl
      omega
    refine ⟨_, pss_cons (ps_set (i := 1) scStepsOf.nd rfl (Or.inl rfl) (pe_ix ix_tup (pv 0) pe_int (fun _ _ => rfl)))
      (pss_cons (ps_set (i := 2) scStepsOf.nd rfl (Or.inl rfl) (pe_op op_catA (pe_slice sl_tupA (pv 1) (po_some pe_int) po_none)
          (pe_ifExp (pt_cmpR op_eq (pe_ix ix_tup (pv 0) pe_int (fun _ _ => rfl)) pe_str (nomark _)) (pe_slice sl_tupA (pv 1) po_none (po_some pe_int)) (pe_tup pa_nil))))
      (pss_one (ps_ret (pe_lc (own := [("pair", 3)]) (g := gName 3) (tt := tYes) rfl scStepsOf.nd (pi_zip1 (by rfl) T.zip (pa_cons (pv 1) (pa_cons (pv 2) pa_nil)))
        (blkOk_by (N := ["turn", "people", "later", "pair"]) (sc := defScope sStepsOf) (by decide +kernel)) (fun _ _ _ _ _ => pg_name (i := 3) scStepsOf.nd rfl (Or.inl rfl)) (fun _ _ _ _ _ => pts_nil)
        (te := tTup (tCons (tCB (rMinT K) (tCons (tVar 3) tNil)) (tCons (tCB (rMaxT K) (tCons (tVar 3) tNil)) tNil)))
        (fun _ _ _ _ _ => pe_tup (pa_cons (pe_callB (cr_minT rfl hu) (by rfl) T.min (by decide +kernel) (pa_cons (pv 3) pa_nil)) (pa_cons (pe_callB (cr_maxT rfl hu) (by rfl) T.max (by decide +kernel) (pa_cons (pv 3) pa_nil)) pa_nil))))))), ?_⟩
    -- people
    refine ⟨_, rfl, t, _, 1, _, rfl, rfl, ht, rfl, ?_⟩
    -- later
    refine ⟨_, rfl, 1, rfl, a, _, rfl, ha, fun hw => ?_, fun _ u hu => ?_⟩
    · exfalso
      have e := hw.1
      rw [show HT.sIx (IV path).length 0 (some 1) = min 1 (IV path).length from HT.sIx_nat _ 0 1, IV_length] at e
      omega
    rw [cut_from1]
    have s1 := same_upd (o := .tup ((IV path).drop 1)) hu
    have h1 : upd H u (.tup ((IV path).drop 1)) u = some (.tup ((IV path).drop 1)) := upd_same
    generalize upd H u (.tup ((IV path).drop 1)) = H1 at s1 h1 ⊢
    refine ⟨_, rfl, t, _, 0, _, rfl, rfl, tup_same s1 ht, rfl, rfl, _, rfl, ?_⟩
    refine iteF' _ (by decide) ⟨Nat.zero_le _, fun e he => ?_⟩
    have s2 := same_upd (o := .tup []) he
    have h2' : upd H1 e (.tup []) e = some (.tup []) := upd_same
    generalize upd H1 e (.tup []) = H2 at s2 h2' ⊢
    have hne : (IV path).drop 1 ≠ [] := by
      intro e
      have := congrArg List.length e
      rw [List.length_drop, IV_length] at this
      simp at this
      omega
    have s02 := s1.trans s2
    refine ⟨u, e, _, _, rfl, rfl, SqT.of (s2 _ _ h1), SqT.of h2', ?_, fun e => absurd e hne, fun _ _ => ?_, fun _ e => absurd rfl e⟩
    · rw [List.length_drop, IV_length]
      exact size_le (by simp only [List.length_nil]; omega)
    -- the pairs
    refine ⟨_, rfl, _, rfl, a, u, IV path, _, rfl, tup_same s02 ha, SqT.of (s2 _ _ h1), fun L hL => ?_⟩
    refine it_zip (xs := IV path) (ys := (IV path).drop 1) (fun i H' => Same H2 H' ∧ ∃ xs, H' L = some (.lst xs) ∧ PairsV K H' xs ((Blo.stepsL path).take i)) ⟨same_upd hL, [], upd_same, .nil⟩
      (fun i H' h => ⟨tup_same (s02.trans h.1) ha, SqT.of (h.1 _ _ (s2 _ _ h1))⟩) (fun i x y U H3 hx hy h hU => ?_) (fun H3 h => ?_)
    · obtain ⟨s3, xs, h3, hp⟩ := h
      obtain ⟨k, hk, rfl⟩ : ∃ k : Nat, path[i]? = some k ∧ x = V.int (k : Int) := by
        unfold IV at hx
        rw [List.getElem?_map] at hx
        cases e : path[i]? with
        | none => rw [e] at hx; cases hx
        | some k => rw [e] at hx; exact ⟨k, rfl, (Option.some.inj hx).symm⟩
      obtain ⟨m, hm, rfl⟩ : ∃ m : Nat, path[i + 1]? = some m ∧ y = V.int (m : Int) := by
        unfold IV at hy
        rw [List.getElem?_drop, List.getElem?_map, Nat.add_comm] at hy
        cases e : path[i + 1]? with
        | none => rw [e] at hy; cases hy
        | some k => rw [e] at hy; exact ⟨k, rfl, (Option.some.inj hy).symm⟩
      have s4 := s3.trans (same_upd (o := .tup [.int (k : Int), .int (m : Int)]) hU)
      have h4 : upd H3 U (.tup [.int (k : Int), .int (m : Int)]) U = some (.tup [.int (k : Int), .int (m : Int)]) := upd_same
      have h5 := same_upd (o := .tup [.int (k : Int), .int (m : Int)]) hU _ _ h3
      have hp4 := pairs_same (same_upd (o := .tup [.int (k : Int), .int (m : Int)]) hU) hp
      generalize upd H3 U (.tup [.int (k : Int), .int (m : Int)]) = H4 at s4 h4 h5 hp4 ⊢
      refine ⟨rfl, yes (iteT ⟨_, rfl, U, _, _, rfl, SqT.of h4, _, rfl, U, _, _, rfl, SqT.of h4, by show 2 ≤ sizeLine; decide, fun V' hV => ?_⟩)⟩
      have hst := steps_take path i hk hm
      have e1 : [V.int (if ((m : Nat) : Int) < (k : Int) then (m : Int) else (k : Int)), V.int (if ((k : Nat) : Int) < (m : Int) then (m : Int) else (k : Int))] = [V.int ((Blo.ord k m).1 : Nat), V.int ((Blo.ord k m).2 : Nat)] := by
        unfold Blo.ord
        simp only [Nat.min_def, Nat.max_def]
        by_cases c : k ≤ m
        · rw [if_pos c, if_pos c, if_neg (by omega)]
          by_cases d : k < m
          · rw [if_pos (by omega)]
          · rw [if_neg (by omega), show k = m by omega]
        · rw [if_neg c, if_neg c, if_pos (by omega), if_neg (by omega)]
      show ∃ acc, upd H4 V' (.tup [V.int (if ((m : Nat) : Int) < (k : Int) then (m : Int) else (k : Int)), V.int (if ((k : Nat) : Int) < (m : Int) then (m : Int) else (k : Int))]) L = some (.lst acc) ∧ _
      rw [e1]
      have s6 := same_upd (o := .tup [V.int ((Blo.ord k m).1 : Nat), V.int ((Blo.ord k m).2 : Nat)]) hV
      have h6 : upd H4 V' (.tup [V.int ((Blo.ord k m).1 : Nat), V.int ((Blo.ord k m).2 : Nat)]) V' = some (.tup [V.int ((Blo.ord k m).1 : Nat), V.int ((Blo.ord k m).2 : Nat)]) := upd_same
      generalize upd H4 V' (.tup [V.int ((Blo.ord k m).1 : Nat), V.int ((Blo.ord k m).2 : Nat)]) = H5 at s6 h6 ⊢
      have h7 := s6 _ _ h5
      refine ⟨xs, h7, ?_, Same.mut (s4.trans s6) hL, _, upd_same, ?_⟩
      · have := hp.length
        rw [List.length_take, Blo.steps_len] at this
        exact size_lt (by omega)
      · rw [List.take_add_one, hst]
        exact Paired.snoc (pairs_tk (Tk.lst h7) (pairs_same s6 hp4)) (PairV.tk (Tk.lst h7) ⟨V', rfl, SqT.of h6⟩)
    · obtain ⟨s3, xs, h3, hp⟩ := h
      rw [List.take_of_length_le (by rw [Blo.steps_len, List.length_drop, IV_length]; omega)] at hp
      exact q L xs H3 (s02.trans s3) h3 hp
end
end G
set_option Elab.async false
set_option linter.all false
set_option maxRecDepth 100000
set_option maxHeartbeats 4000000
namespace G
open PySem PySem.Spec PyProof.Rows L2
open Blo (Pr)

abbrev sIsTurn : Stmt := topS 17
abbrev sTurned : Stmt := topS 18

theorem IV_get {l : List Nat} {i : Nat} {x : V} (h : (IV l)[i]? = some x) : ∃ k : Nat, l[i]? = some k ∧ x = V.int (k : Int) := by
  unfold IV at h
  rw [List.getElem?_map] at h
  cases e : l[i]? with
  | none => rw [e] at h; cases h
  | some k => rw [e] at h; exact ⟨k, rfl, (Option.some.inj h).symm⟩
theorem IV_at {l : List Nat} {i k : Nat} (h : l[i]? = some k) : (IV l)[i]? = some (V.int (k : Int)) := by
  unfold IV
  rw [List.getElem?_map, h]
  rfl
theorem IV_ints (l : List Nat) : IV l = (l.map fun (k : Nat) => (k : Int)).map V.int := by
  unfold IV
  rw [List.map_map]
  rfl

section
variable {P : Program} {w : World} {K : PySem.W.Frag} {mg : Str → Option Value} {base : Heap}

theorem scArePeople : FnScope ["web", "value", "least", "one"] ["web", "value", "least"] (defScope sArePeople) := ⟨rfl, rfl, rfl, by decide +kernel, rfl, by decide +kernel, by decide +kernel⟩
def spArePeople (K : PySem.W.Frag) : Sp := fun vs H Q _ => ∃ (u : V) (a : Addr) (m n : Nat) (ps : List Pr) (path : List Nat), vs = [u, .ref a, .int (m : Nat)] ∧ WebV K H u n ps ∧ SqT K H a (IV path) ∧ m ≤ path.length ∧ path.length ≤ 1000 ∧ path.Nodup ∧ (∀ z ∈ path, z < n) ∧
  ∀ H', Same H H' → Q (.bl true) H'
theorem ok_arePeople (D : Df K mg "are_people" sArePeople ["web", "value", "least"]) (T : Nm mg) (C1 : C8.Cal P w K mg base 3 "is_index" spIsIndex []) : C8.Cal P w K mg base 4 "are_people" (spArePeople K) [] := by
  refine cal_of D scArePeople (fun vs H Q E h => ?_) (fun f cdv A outer s H vs Q E hr h => ?_)
  · obtain ⟨u, a, m, n, ps, path, rfl, _⟩ := h
    rfl
  · obtain ⟨_, a, m, n, ps, path, rfl, ⟨wa, wb, rfl, hW, _⟩, ha, hm, hn, hnd, hlt, q⟩ := h
    refine ⟨_, pss_cons (ps_if (PW.pt (pw_or (pt_not (pt_val (pe_callB call_isi (by rfl) T.isi (by decide +kernel) (pa_cons (pv 1) (pa_cons (pe_bltn (v := .ty "tuple") (by rfl) T.tuple (by decide +kernel) rfl) pa_nil)))))
        (pw_or (pt_cmpR op_lt (pe_callB call_len_seq (by rfl) T.len PySem.boot_len (pa_cons (pv 1) pa_nil)) (pv 2) (nomark _))
        (pw_or1 (pt_not (pt_val (pe_callB (cr_all rfl) (by rfl) T.all (by decide +kernel) (pa_cons (pe_lc (own := [("one", 3)]) (g := gName 3) (tt := tYes) rfl scArePeople.nd (pi_tup (pv 1))
          (blkOk_by (N := ["web", "value", "least", "one"]) (sc := defScope sArePeople) (by decide +kernel)) (fun _ _ _ _ _ => pg_name (i := 3) scArePeople.nd rfl (Or.inl rfl)) (fun _ _ _ _ _ => pts_nil)
          (te := tCall spIsIndex [] E0 (tCons (tVar 3) (tCons (tOp (rIxT K) (tVar 0) (tC (.int 0))) tNil)))
          (fun _ _ _ _ _ => C8.pe_c C1 hr (Nat.le_refl _) (by rfl) (pa_cons (pv 3) (pa_cons (pe_ix ix_tup (pv 0) pe_int (fun _ _ => rfl)) pa_nil)))) pa_nil))))))))
        (pss_one (ps_ret pe_bl)) pss_nil)
      (pss_one (ps_ret (pe_cmpR op_eq (pe_lenSetT (by rfl) T.len (by rfl) T.set (pv 1)) (pe_callB call_len_seq (by rfl) T.len PySem.boot_len (pa_cons (pv 1) pa_nil)) (nomark _)))), ?_⟩
    -- isinstance(value, tuple)
    refine ⟨_, rfl, _, _, _, _, true, rfl, .ty "tuple", tyTup ha, kit_ty (by decide +kernel), true, rfl, ?_⟩
    refine iteF ⟨_, rfl, a, _, rfl, .inr ha, _, rfl, _, _, rfl, rfl, _, rfl, ?_⟩
    refine iteF' _ (by rw [IV_length]; exact decide_eq_false (by omega)) ?_
    refine ⟨_, rfl, a, rfl, ⟨_, ha⟩, fun L hL => ?_⟩
    refine it_tup (K := K) (a := a) (xs := IV path) (fun i H' => Same H H' ∧ H' L = some (.lst ((List.replicate i true).map V.bl))) ⟨same_upd hL, upd_same⟩ (fun i H' _ h => tup_same h.1 ha) (fun i x H1 hx h => ?_) (fun H1 h => ?_)
    · obtain ⟨s1, h1⟩ := h
      obtain ⟨k, hk, rfl⟩ := IV_get hx
      have hkn : k < n := hlt k (List.mem_of_getElem? hk)
      have hil : i < path.length := (List.getElem?_eq_some_iff.mp hk).1
      refine ⟨rfl, yes (iteT ⟨_, rfl, _, rfl, wa, _, 0, _, rfl, rfl, tup_same s1 hW, rfl, k, n, rfl, by omega, by omega, _, h1, ?_, Same.mut s1 hL, ?_⟩)⟩
      · rw [List.length_map, List.length_replicate]
        exact size_lt (by omega)
      · rw [upd_same, List.replicate_succ', List.map_append]
        rfl
    · obtain ⟨s1, h1⟩ := h
      refine ⟨L, List.replicate (IV path).length true, rfl, SqL.of h1, _, rfl, ?_⟩
      rw [show (List.replicate (IV path).length true).all id = true by rw [List.all_eq_true]; intro x hx; rw [List.eq_of_mem_replicate hx]; rfl]
      refine iteF ⟨_, rfl, a, _, rfl, by rw [← IV_ints]; exact tup_same s1 ha, ?_, by rw [List.length_map]; exact hn, _, rfl, a, _, rfl, .inr (tup_same s1 ha), rfl, ?_⟩
      · exact List.pairwise_map.mpr (hnd.imp fun h e => h (by omega))
      · rw [IV_length, List.length_map, decide_eq_true rfl]
        exact q H1 s1

/-! ### is_turn, of a way that may be turned -/
theorem scIsTurn : FnScope ["web", "plan", "value", "steps", "told", "known", "step", "at"] ["web", "plan", "value"] (defScope sIsTurn) := ⟨rfl, rfl, rfl, by decide +kernel, rfl, by decide +kernel, by decide +kernel⟩
def spIsTurn (K : PySem.W.Frag) : Sp := fun vs H Q _ => ∃ (u v : V) (t a : Addr) (n : Nat) (ps p : List Pr) (path : List Nat), vs = [u, v, .ref t] ∧ WebV K H u n ps ∧ PlanV K H v p ∧ SqT K H t [.str "way", .ref a] ∧ SqT K H a (IV path) ∧
  Blo.PathOk n ps p path ∧ path.length ≤ 1000 ∧ p.length ≤ 1000 ∧ ∀ H', Same H H' → Q (.bl true) H'
/-- the text's tuple of two words -/
structure Kin (K : PySem.W.Frag) (mg : Str → Option Value) (kt : Addr) : Prop where
  mgK : mg "KINDS" = some (.ref kt)
  sq : ∀ H, SqT K H kt [.str "way", .str "ring"]
theorem told_at {n : Nat} {ps p : List Pr} {path : List Nat} (O : Blo.PathOk n ps p path) {i : Nat} (hi : i < (Blo.stepsL path).length) : ((Blo.stepsL path).map fun e => decide (e ∈ p))[i]? = some (decide (i % 2 = 1)) := by
  rw [List.getElem?_map, List.getElem?_eq_getElem hi]
  have := (O.alt i _ (List.getElem?_eq_getElem hi)).2
  show some (decide (_ ∈ p)) = _
  rw [decide_eq_decide.mpr this]
theorem atI_end {xs : List V} {v : V} (h : xs[xs.length - 1]? = some v) : atI xs (-1) = some v := by
  have hne : xs ≠ [] := fun e => by
    rw [e] at h
    cases h
  have e := List.dropLast_concat_getLast hne
  have hv : xs.getLast hne = v := by
    rw [List.getLast_eq_getElem]
    exact Option.some.inj ((List.getElem?_eq_getElem _).symm.trans h)
  rw [hv] at e
  rw [← e]
  exact atI_last _ _
theorem BV_at {bs : List Bool} {i : Nat} {b : Bool} (h : bs[i]? = some b) : (bs.map V.bl)[i]? = some (.bl b) := by
  rw [List.getElem?_map, h]
  rfl
theorem ok_isTurn {kt : Addr} (D : Df K mg "is_turn" sIsTurn ["web", "plan", "value"]) (T : Nm mg) (TK : Kin K mg kt) (C1 : C8.Cal P w K mg base 1 "is_row_of" (spIsRowOf K) []) (C2 : C8.Cal P w K mg base 1 "is_word_of" (spIsWordOf K) [])
    (C3 : C8.Cal P w K mg base 4 "are_people" (spArePeople K) []) (C4 : C8.Cal P w K mg base 1 "steps_of" (spStepsOf K) []) (C5 : C8.Cal P w K mg base 1 "served" (spServed K) []) : C8.Cal P w K mg base 5 "is_turn" (spIsTurn K) [] := by
  refine cal_of D scIsTurn (fun vs H Q E h => ?_) (fun f cdv A outer s H vs Q E hr h => ?_)
  · obtain ⟨u, v, t, a, n, ps, p, path, rfl, _⟩ := h
    rfl
  · obtain ⟨u, v, t, a, n, ps, p, path, rfl, hW, hP, ht, ha, O, hn, hpl, q⟩ := h
    have hu : A.units + 3 + 65 < cLine := by
      have := hr.un
      have e : (A.deeper (envOfC "is_turn" (defScope sIsTurn) s.heap.objs.size f cdv)).units = A.units + 3 := rfl
      omega
    have two := O.two
    refine ⟨_, pss_cons (ps_if (PW.pt (pw_or (pt_not (pt_val (C8.pe_c C1 hr (by decide) (by rfl) (pa_cons (pv 2) (pa_cons (pe_tup (pa_cons pe_int pa_nil)) pa_nil)))))
          (pw_or1 (pt_not (pt_val (C8.pe_c C2 hr (by decide) (by rfl) (pa_cons (pe_ix ix_tup (pv 2) pe_int (fun _ _ => rfl)) (pa_cons (pe_glob rfl TK.mgK (v := .ref kt) rfl) pa_nil))))))))
        (pss_one (ps_ret pe_bl)) pss_nil)
      (pss_cons (ps_if (pt_not (pt_val (C8.pe_c C3 hr (by decide) (by rfl) (pa_cons (pv 0) (pa_cons (pe_ix ix_tup (pv 2) pe_int (fun _ _ => rfl))
          (pa_cons (pe_ifExp (pt_cmpR op_eq (pe_ix ix_tup (pv 2) pe_int (fun _ _ => rfl)) pe_str (nomark _)) pe_int pe_int) pa_nil)))))) (pss_one (ps_ret pe_bl)) pss_nil)
      (pss_cons (ps_set (i := 3) scIsTurn.nd rfl (Or.inl rfl) (C8.pe_c C4 hr (by decide) (by rfl) (pa_cons (pv 2) pa_nil)))
      (pss_cons (ps_set (i := 4) scIsTurn.nd rfl (Or.inr rfl) (pe_lc (own := [("step", 6)]) (g := gName 6) (tt := tYes) rfl scIsTurn.nd (pi_list (pv 3))
          (blkOk_by (N := ["web", "plan", "value", "steps", "told", "known", "step", "at"]) (sc := defScope sIsTurn) (by decide +kernel)) (fun _ _ _ _ _ => pg_name (i := 6) scIsTurn.nd rfl (Or.inl rfl)) (fun _ _ _ _ _ => pts_nil)
          (te := tOp (rInT K) (tVar 6) (tVar 1)) (fun _ _ _ _ _ => pe_cmpR (op_inT hu) (pv 6) (pv 1) (by rfl))))
      (pss_cons (ps_if (PW.pt (pw_or (pt_not (pt_val (pe_callB (cr_all rfl) (by rfl) T.all (by decide +kernel) (pa_cons (pe_lc (own := [("step", 6)]) (g := gName 6) (tt := tYes) rfl scIsTurn.nd (pi_list (pv 3))
            (blkOk_by (N := ["web", "plan", "value", "steps", "told", "known", "step", "at"]) (sc := defScope sIsTurn) (by decide +kernel)) (fun _ _ _ _ _ => pg_name (i := 6) scIsTurn.nd rfl (Or.inl rfl)) (fun _ _ _ _ _ => pts_nil)
            (te := tOp (rInT K) (tVar 6) (tOp (rIxT K) (tVar 0) (tC (.int 1)))) (fun _ _ _ _ _ => pe_cmpR (op_inT hu) (pv 6) (pe_ix ix_tup (pv 0) pe_int (fun _ _ => rfl)) (by rfl))) pa_nil))))
          (pw_or1 (pt_val (pe_callB (cr_any rfl) (by rfl) T.any (by decide +kernel) (pa_cons (pe_lc (own := [("at", 7)]) (g := gName 7) (tt := tYes) rfl scIsTurn.nd
            (pi_range1 rfl T.range (pa_cons (pe_op op_sub (pe_callB call_len_seq (by rfl) T.len PySem.boot_len (pa_cons (pv 4) pa_nil)) pe_int) pa_nil))
            (blkOk_by (N := ["web", "plan", "value", "steps", "told", "known", "step", "at"]) (sc := defScope sIsTurn) (by decide +kernel)) (fun _ _ _ _ _ => pg_name (i := 7) scIsTurn.nd rfl (Or.inl rfl)) (fun _ _ _ _ _ => pts_nil)
            (te := tOp rEq (tOp (rIxL K) (tVar 4) (tVar 7)) (tOp (rIxL K) (tVar 4) (tOp (rI0 fun i j => .int (i + j)) (tVar 7) (tC (.int 1)))))
            (fun _ _ _ _ _ => pe_cmpR op_eq (pe_ix ix_list (pv 4) (pv 7) (fun _ _ => rfl)) (pe_ix ix_list (pv 4) (pe_op op_add (pv 7) pe_int) (fun _ _ => rfl)) (nomark _))) pa_nil))))))
        (pss_one (ps_ret pe_bl)) pss_nil)
      (pss_cons (ps_if (pt_cmpR op_eq (pe_ix ix_tup (pv 2) pe_int (fun _ _ => rfl)) pe_str (nomark _)) pss_never pss_nil)
      (pss_cons (ps_set (i := 5) scIsTurn.nd rfl (Or.inl rfl) (C8.pe_c C5 hr (by decide) (by rfl) (pa_cons (pv 1) pa_nil)))
      (pss_one (ps_ret (pe_and (pe_or (pe_ix ix_list (pv 4) pe_int (fun _ _ => rfl)) (pe_one (pe_cmpR op_notIn_seq (pe_ix ix_tup (pe_ix ix_tup (pv 2) pe_int (fun _ _ => rfl)) pe_int (fun _ _ => rfl)) (pv 5) (by rfl))))
        (pe_one (pe_or (pe_ix ix_list (pv 4) (pe_un un_neg pe_int) (fun _ _ => rfl)) (pe_one (pe_cmpR op_notIn_seq (pe_ix ix_tup (pe_ix ix_tup (pv 2) pe_int (fun _ _ => rfl)) (pe_un un_neg pe_int) (fun _ _ => rfl)) (pv 5) (by rfl)))))))))))))), ?_⟩
    -- is_row_of(value, (2,))
    refine ⟨_, rfl, by show 1 ≤ sizeLine; decide, fun e he => ?_⟩
    have s1 := same_upd (o := .tup [V.int 2]) he
    have h1 : upd H e (.tup [V.int 2]) e = some (.tup [V.int 2]) := upd_same
    generalize upd H e (.tup [V.int 2]) = H1 at s1 h1 ⊢
    refine ⟨t, e, _, [2], rfl, tup_same s1 ht, SqT.of h1, _, rfl, ?_⟩
    refine iteF' _ (by simp) ?_
    -- is_word_of(value[0], KINDS)
    refine ⟨_, rfl, t, _, 0, _, rfl, rfl, tup_same s1 ht, rfl, "way", kt, ["way", "ring"], rfl, TK.sq _, by decide, true, rfl, ?_⟩
    refine iteF ?_
    -- are_people
    refine ⟨_, rfl, _, rfl, t, _, 1, _, rfl, rfl, tup_same s1 ht, rfl, _, rfl, t, _, 0, _, rfl, rfl, tup_same s1 ht, rfl, rfl, _, rfl, ?_⟩
    refine iteT' _ (by decide) ?_
    refine ⟨u, a, 2, n, ps, path, rfl, hW.same s1, tup_same s1 ha, two, hn, O.nd, O.lt, fun H2 s2 => ⟨true, rfl, iteF ?_⟩⟩
    have s02 := s1.trans s2
    -- steps
    refine ⟨_, rfl, t, a, path, rfl, tup_same s02 ht, tup_same s02 ha, two, hn, fun L xs H3 s3 hL hX => ?_⟩
    have s03 := s02.trans s3
    have hlen := hX.length
    have hsl : (Blo.stepsL path).length = path.length - 1 := Blo.steps_len path
    -- told
    refine ⟨_, rfl, L, rfl, ⟨xs, SqL.of hL⟩, fun M hM => ?_⟩
    refine it_list (K := K) (a := L) (xs := xs) (fun i H' => Same H3 H' ∧ H' M = some (.lst ((((Blo.stepsL path).take i).map fun e => decide (e ∈ p)).map V.bl))) ⟨same_upd hM, upd_same⟩ (fun i H' _ h => h.1.seq (SqL.of hL)) (fun i x H4 hx h => ?_) (fun H4 h => ?_)
    · obtain ⟨s4, h4⟩ := h
      obtain ⟨st, hst, hpv⟩ := Paired.get hX i x hx
      refine ⟨rfl, yes (iteT ⟨x, rfl, _, rfl, prD st, p.map prD, (hpv.same s4).dp, (hP.same (s03.trans s4)).dp, prD_shaped st, planD_shaped p, _, h4, ?_, Same.mut s4 hM, ?_⟩)⟩
      · rw [List.length_map, List.length_map, List.length_take]
        exact size_lt (by omega)
      · rw [upd_same, List.take_add_one, hst, any_eqv, List.map_append, List.map_append]
        rfl
    obtain ⟨s4, h4⟩ := h
    rw [List.take_of_length_le (by omega)] at h4
    have s04 := s03.trans s4
    have hL4 := s4 _ _ hL
    have hX4 := pairs_same s4 hX
    -- all of them are pairs of the web
    refine ⟨_, rfl, L, rfl, ⟨xs, SqL.of hL4⟩, fun M2 hM2 => ?_⟩
    refine it_list (K := K) (a := L) (xs := xs) (fun i H' => Same H4 H' ∧ H' M2 = some (.lst ((List.replicate i true).map V.bl))) ⟨same_upd hM2, upd_same⟩ (fun i H' _ h => h.1.seq (SqL.of hL4)) (fun i x H5 hx h => ?_) (fun H5 h => ?_)
    · obtain ⟨s5, h5⟩ := h
      obtain ⟨st, hst, hpv⟩ := Paired.get hX4 i x hx
      obtain ⟨wa, wb, rfl, hW1, hW2⟩ := hW.same (s04.trans s5)
      have hin : st ∈ ps := (O.alt i st hst).1
      refine ⟨rfl, yes (iteT ⟨x, rfl, _, rfl, wa, _, 1, _, rfl, rfl, hW1, rfl, prD st, ps.map prD, (hpv.same s5).dp, hW2.dp, prD_shaped st, planD_shaped ps, _, h5, ?_, Same.mut s5 hM2, ?_⟩)⟩
      · have := (List.getElem?_eq_some_iff.mp hst).1
        rw [List.length_map, List.length_replicate]
        exact size_lt (by omega)
      · rw [upd_same, any_eqv, decide_eq_true hin, List.replicate_succ', List.map_append]
        rfl
    obtain ⟨s5, h5⟩ := h
    refine ⟨M2, List.replicate xs.length true, rfl, SqL.of h5, _, rfl, ?_⟩
    rw [show (List.replicate xs.length true).all id = true by rw [List.all_eq_true]; intro x hx; rw [List.eq_of_mem_replicate hx]; rfl]
    refine iteF ?_
    have s05 := s04.trans s5
    have h45 := s5 _ _ h4
    -- none twice
    have hcnt : (((Blo.stepsL path).map fun e => decide (e ∈ p)).map V.bl).length = path.length - 1 := by rw [List.length_map, List.length_map, hsl]
    have en : V.int ((((((Blo.stepsL path).map fun e => decide (e ∈ p)).map V.bl).length : Nat) : Int) - 1) = V.int ((path.length : Int) - 2) := by
      rw [hcnt]
      congr 1
      omega
    refine ⟨_, rfl, M, _, rfl, .inl (SqL.of h45), _, 1, rfl, rfl, (path.length : Int) - 2, congrArg (fun x => [x]) en, by omega, by omega, fun M3 hM3 => ?_⟩
    refine it_range (lo := 0) (n := ((path.length : Int) - 2).toNat) (fun i H' => Same H5 H' ∧ H' M3 = some (.lst ((List.replicate i false).map V.bl))) ⟨same_upd hM3, upd_same⟩ (fun i H6 hi h => ?_) (fun H6 h => ?_)
    · obtain ⟨s6, h6⟩ := h
      have hi1 : i < (Blo.stepsL path).length := by omega
      have hi2 : i + 1 < (Blo.stepsL path).length := by omega
      have g1 := BV_at (told_at O hi1)
      have g2 := BV_at (told_at O hi2)
      have e1 : V.int (0 + ((i : Nat) : Int)) = V.int (i : Int) := by rw [Int.zero_add]
      refine ⟨rfl, yes (iteT ⟨_, rfl, _, rfl, M, _, i, _, rfl, e1, SqL.of (s6 _ _ h45), atI_nat g1, _, rfl, _, rfl, _, 1, e1, rfl, M, _, ((i + 1 : Nat) : Int), _, rfl, by show V.int ((i : Int) + 1) = V.int ((i + 1 : Nat) : Int); congr 1, SqL.of (s6 _ _ h45), atI_nat g2, rfl, _, h6, ?_, Same.mut s6 hM3, ?_⟩)⟩
      · rw [List.length_map, List.length_replicate]
        exact size_lt (by omega)
      · have e2 : decide (V.bl (decide (i % 2 = 1)) = V.bl (decide ((i + 1) % 2 = 1))) = false := by
          refine decide_eq_false fun z => ?_
          have := V.bl.inj z
          rw [decide_eq_decide] at this
          omega
        rw [upd_same, e2, List.replicate_succ', List.map_append]
        rfl
    obtain ⟨s6, h6⟩ := h
    refine ⟨M3, List.replicate _ false, rfl, SqL.of h6, _, rfl, ?_⟩
    rw [show (List.replicate ((path.length : Int) - 2).toNat false).any id = false by
      rw [List.any_eq_false]; intro x hx; rw [List.eq_of_mem_replicate hx]; exact Bool.false_ne_true]
    refine iteF ?_
    have s06 := s05.trans s6
    have h46 := s6 _ _ h45
    -- no ring
    refine ⟨_, rfl, t, _, 0, _, rfl, rfl, tup_same s06 ht, rfl, rfl, _, rfl, ?_⟩
    refine iteF' _ (by decide) ?_
    -- known
    refine ⟨_, rfl, v, p, rfl, hP.same s06, hpl, fun _ H7 s7 ⟨k, l, e7, hl, hm⟩ => ?_⟩
    subst e7
    have s07 := s06.trans s7
    have h47 := s7 _ _ h46
    have i0 : 0 < (Blo.stepsL path).length := by omega
    have il : path.length - 2 < (Blo.stepsL path).length := by omega
    have g0 := BV_at (told_at O i0)
    have gl := BV_at (told_at O il)
    have hmod : decide ((path.length - 2) % 2 = 1) = false := decide_eq_false (by have := O.len; omega)
    rw [hmod] at gl
    -- the first and the last one are served by nobody
    obtain ⟨z0, hz0⟩ : ∃ z, path[0]? = some z := ⟨path[0], List.getElem?_eq_getElem (by omega)⟩
    obtain ⟨zl, hzl⟩ : ∃ z, path[path.length - 1]? = some z := ⟨path[path.length - 1], List.getElem?_eq_getElem (by omega)⟩
    have n0 : z0 ∉ l := fun q => O.fst z0 (by rw [List.head?_eq_getElem?]; exact hz0) ((hm z0).mp q)
    have nl : zl ∉ l := fun q => O.lst zl (by rw [List.getLast?_eq_getElem?]; exact hzl) ((hm zl).mp q)
    refine ⟨_, rfl, M, _, 0, _, rfl, rfl, SqL.of h47, atI_nat g0, false, rfl, iteF ?_⟩
    refine ⟨_, rfl, t, _, 1, _, rfl, rfl, tup_same s07 ht, rfl, a, _, 0, _, rfl, rfl, tup_same s07 ha, atI_nat (IV_at hz0), _, rfl, k, IV l, rfl, .inr hl, rfl, flat_IV l, ?_⟩
    rw [show (if true = true then !inV (V.int (z0 : Int)) (IV l) else inV (V.int (z0 : Int)) (IV l)) = true by rw [inV_IV, decide_eq_false n0]; rfl]
    refine ⟨true, rfl, iteT ?_⟩
    have eL : (((Blo.stepsL path).map fun e => decide (e ∈ p)).map V.bl)[(((Blo.stepsL path).map fun e => decide (e ∈ p)).map V.bl).length - 1]? = some (.bl false) := by
      rw [hcnt, show path.length - 1 - 1 = path.length - 2 by omega]
      exact gl
    have eP : (IV path)[(IV path).length - 1]? = some (V.int (zl : Int)) := by rw [IV_length]; exact IV_at hzl
    refine ⟨_, rfl, 1, rfl, M, _, -1, _, rfl, rfl, SqL.of h47, atI_end eL, false, rfl, iteF ?_⟩
    refine ⟨_, rfl, t, _, 1, _, rfl, rfl, tup_same s07 ht, rfl, 1, rfl, a, _, -1, _, rfl, rfl, tup_same s07 ha, atI_end eP, _, rfl, k, IV l, rfl, .inr hl, rfl, flat_IV l, ?_⟩
    rw [show (if true = true then !inV (V.int (zl : Int)) (IV l) else inV (V.int (zl : Int)) (IV l)) = true by rw [inV_IV, decide_eq_false nl]; rfl]
    exact q H7 s07
end
end G
set_option Elab.async false
set_option linter.all false
set_option maxRecDepth 100000
set_option maxHeartbeats 4000000
namespace G
open PySem PySem.Spec PyProof.Rows L2
open Blo (Pr)

theorem paired_perm {α β : Type} {R : α → β → Prop} {xs ys : List α} (h : xs.Perm ys) : ∀ {ps : List β}, Paired R xs ps → ∃ qs, Paired R ys qs ∧ ps.Perm qs := by
  induction h with
  | nil => intro ps hp; exact ⟨ps, hp, .refl _⟩
  | cons x h ih =>
    intro ps hp
    cases hp with
    | cons r t =>
      obtain ⟨qs, h1, h2⟩ := ih t
      exact ⟨_ :: qs, .cons r h1, h2.cons _⟩
  | swap x y l =>
    intro ps hp
    cases hp with
    | cons r t =>
      cases t with
      | cons r2 t => exact ⟨_, .cons r2 (.cons r t), .swap _ _ _⟩
  | trans h1 h2 ih1 ih2 =>
    intro ps hp
    obtain ⟨qs, a, b⟩ := ih1 hp
    obtain ⟨rs, c, d⟩ := ih2 a
    exact ⟨rs, c, b.trans d⟩
theorem paired_left {α β : Type} {R : α → β → Prop} : ∀ {xs : List α} {ps : List β}, Paired R xs ps → ∀ x ∈ xs, ∃ b ∈ ps, R x b
  | _, _, .nil, x, h => nomatch h
  | _, _, .cons r t, x, h => by
    rcases List.mem_cons.mp h with rfl | h
    · exact ⟨_, List.mem_cons_self, r⟩
    · obtain ⟨b, h1, h2⟩ := paired_left t x h
      exact ⟨b, List.mem_cons_of_mem _ h1, h2⟩
theorem paired_right {α β : Type} {R : α → β → Prop} : ∀ {xs : List α} {ps : List β}, Paired R xs ps → ∀ b ∈ ps, ∃ x ∈ xs, R x b
  | _, _, .nil, x, h => nomatch h
  | _, _, .cons r t, x, h => by
    rcases List.mem_cons.mp h with rfl | h
    · exact ⟨_, List.mem_cons_self, r⟩
    · obtain ⟨b, h1, h2⟩ := paired_right t x h
      exact ⟨b, List.mem_cons_of_mem _ h1, h2⟩
theorem paired_pw {α β : Type} {R : α → β → Prop} {S : α → α → Prop} {S' : β → β → Prop} (hs : ∀ x y a b, R x a → R y b → S x y → S' a b) : ∀ {xs : List α} {ps : List β}, Paired R xs ps → xs.Pairwise S → ps.Pairwise S'
  | _, _, .nil, _ => .nil
  | _, _, .cons r t, h => by
    obtain ⟨h1, h2⟩ := List.pairwise_cons.mp h
    refine List.pairwise_cons.mpr ⟨fun b hb => ?_, paired_pw hs t h2⟩
    obtain ⟨x, hx, rx⟩ := paired_right t b hb
    exact hs _ _ _ _ r rx (h1 x hx)
theorem Lx_asymm {e f : Pr} (h1 : Blo.Lx e f) (h2 : Blo.Lx f e) : False := by
  rcases h1 with h | ⟨h, h'⟩ <;> rcases h2 with g | ⟨g, g'⟩ <;> omega
theorem eq_of_Lx : ∀ {l m : List Pr}, l.Pairwise Blo.Lx → m.Pairwise Blo.Lx → (∀ x, x ∈ l ↔ x ∈ m) → l = m
  | [], [], _, _, _ => rfl
  | [], b :: m, _, _, h => by
    have := (h b).mpr List.mem_cons_self
    nomatch this
  | a :: l, [], _, _, h => by
    have := (h a).mp List.mem_cons_self
    nomatch this
  | a :: l, b :: m, h1, h2, h => by
    obtain ⟨a1, a2⟩ := List.pairwise_cons.mp h1
    obtain ⟨b1, b2⟩ := List.pairwise_cons.mp h2
    have e : a = b := by
      rcases List.mem_cons.mp ((h a).mp List.mem_cons_self) with q | q
      · exact q
      · rcases List.mem_cons.mp ((h b).mpr List.mem_cons_self) with r | r
        · exact r.symm
        · exact (Lx_asymm (a1 b r) (b1 a q)).elim
    subst e
    have ih := eq_of_Lx a2 b2 fun x => by
      constructor
      · intro hx
        rcases List.mem_cons.mp ((h x).mp (List.mem_cons_of_mem _ hx)) with q | q
        · exact (Lx_asymm (a1 x hx) (q ▸ a1 x hx)).elim
        · exact q
      · intro hx
        rcases List.mem_cons.mp ((h x).mpr (List.mem_cons_of_mem _ hx)) with q | q
        · exact (Lx_asymm (b1 x hx) (q ▸ b1 x hx)).elim
        · exact q
    rw [ih]
theorem steps_in : ∀ (l : List Nat) (e : Pr), e ∈ Blo.stepsL l → e.1 ∈ l ∧ e.2 ∈ l := fun l e h => by
  rcases (Blo.mem_steps l e).mp h with q | q
  · exact Blo.altA_in l e q
  · have := Blo.altA_in l.tail e q
    exact ⟨List.mem_of_mem_tail this.1, List.mem_of_mem_tail this.2⟩
theorem steps_nodup : ∀ l : List Nat, l.Nodup → (Blo.stepsL l).Nodup
  | [], _ => List.nodup_nil
  | [_], _ => List.nodup_nil
  | a :: b :: t, h => by
    obtain ⟨h1, h2⟩ := List.nodup_cons.mp h
    refine List.nodup_cons.mpr ⟨fun hm => ?_, steps_nodup (b :: t) h2⟩
    obtain ⟨i1, i2⟩ := steps_in _ _ hm
    have : a = (Blo.ord a b).1 ∨ a = (Blo.ord a b).2 := by
      unfold Blo.ord
      simp only [Nat.min_def, Nat.max_def]
      split
      · exact .inl rfl
      · exact .inr rfl
    rcases this with q | q
    · exact h1 (q ▸ i1)
    · exact h1 (q ▸ i2)
section
variable {P : Program} {w : World} {K : PySem.W.Frag} {mg : Str → Option Value} {base : Heap}
theorem scTurned : FnScope ["web", "plan", "turn", "steps", "pair", "step"] ["web", "plan", "turn"] (defScope sTurned) := ⟨rfl, rfl, rfl, by decide +kernel, rfl, by decide +kernel, by decide +kernel⟩
def spTurned (K : PySem.W.Frag) : Sp := fun vs H Q _ => ∃ (u v : V) (t a : Addr) (n : Nat) (ps p : List Pr) (path : List Nat), vs = [u, v, .ref t] ∧ WebV K H u n ps ∧ PlanV K H v p ∧ SqT K H t [.str "way", .ref a] ∧ SqT K H a (IV path) ∧
  Blo.WebOk n ps ∧ Blo.IsPlan ps p ∧ Blo.PathOk n ps p path ∧ n ≤ 20 ∧ ∀ v' H', Same H H' → PlanV K H' v' (Blo.turnM ps p path) → Q v' H'
theorem ok_turned (D : Df K mg "turned" sTurned ["web", "plan", "turn"]) (T : Nm mg) (C1 : C8.Cal P w K mg base 5 "is_turn" (spIsTurn K) []) (C2 : C8.Cal P w K mg base 1 "steps_of" (spStepsOf K) []) : C8.Cal P w K mg base 6 "turned" (spTurned K) [] := by
  refine cal_of D scTurned (fun vs H Q E h => ?_) (fun f cdv A outer s H vs Q E hr h => ?_)
  · obtain ⟨u, v, t, a, n, ps, p, path, rfl, _⟩ := h
    rfl
  · obtain ⟨u, v, t, a, n, ps, p, path, rfl, hW, hP, ht, ha, W, PL, O, hn, q⟩ := h
    have hu : A.units + 3 + 65 < cLine := by
      have := hr.un
      have e : (A.deeper (envOfC "turned" (defScope sTurned) s.heap.objs.size f cdv)).units = A.units + 3 := rfl
      omega
    have pl := Blo.plan_len W PL
    have pathl := Blo.len_le_n O.nd O.lt
    have hsl : (Blo.stepsL path).length = path.length - 1 := Blo.steps_len path
    have hsub : ∀ e ∈ Blo.stepsL path, e ∈ ps := fun e he => by
      obtain ⟨i, hi⟩ := List.mem_iff_getElem?.mp he
      exact (O.alt i e hi).1
    refine ⟨_, pss_cons (ps_if (pt_not (pt_val (C8.pe_c C1 hr (by decide) (by rfl) (pa_cons (pv 0) (pa_cons (pv 1) (pa_cons (pv 2) pa_nil)))))) pss_never pss_nil)
      (pss_cons (ps_set (i := 3) scTurned.nd rfl (Or.inr rfl) (C8.pe_c C2 hr (by decide) (by rfl) (pa_cons (pv 2) pa_nil)))
      (pss_one (ps_ret (pe_callTy call_tuple_of (by rfl) T.tuple (by decide +kernel) (pa_cons (pe_callB (cr_sortT (B := 64) (d := 2) (by decide)) (by rfl) T.sorted (by decide +kernel) (pa_cons (pe_op op_cat
        (pe_lc (own := [("pair", 4)]) (g := gName 4) rfl scTurned.nd (pi_tup (pv 1)) (blkOk_by (N := ["web", "plan", "turn", "steps", "pair", "step"]) (sc := defScope sTurned) (by decide +kernel))
          (fun _ _ _ _ _ => pg_name (i := 4) scTurned.nd rfl (Or.inl rfl)) (fun _ _ _ _ _ => pts_one (pt_cmpR (r := rNotInD K) (op_notInD hu) (pv 4) (pv 3) (by rfl))) (fun _ _ _ _ _ => pv 4))
        (pe_lc (own := [("step", 5)]) (g := gName 5) rfl scTurned.nd (pi_list (pv 3)) (blkOk_by (N := ["web", "plan", "turn", "steps", "pair", "step"]) (sc := defScope sTurned) (by decide +kernel))
          (fun _ _ _ _ _ => pg_name (i := 5) scTurned.nd rfl (Or.inl rfl)) (fun _ _ _ _ _ => pts_one (pt_cmpR (r := rNotInT K) (op_notInT hu) (pv 5) (pv 1) (by rfl))) (fun _ _ _ _ _ => pv 5))) pa_nil)) pa_nil))))), ?_⟩
    refine ⟨_, rfl, _, rfl, _, rfl, u, v, t, a, n, ps, p, path, rfl, hW, hP, ht, ha, O, by omega, by omega, fun H1 s1 => ⟨true, rfl, iteF ?_⟩⟩
    refine ⟨_, rfl, t, a, path, rfl, tup_same s1 ht, tup_same s1 ha, O.two, by omega, fun L xs H2 s2 hL hX => ?_⟩
    have s02 := s1.trans s2
    obtain ⟨pa, pvs, rfl, hP1, hP2⟩ := hP.same s02
    have hXl := hX.length
    have hPl := hP2.length
    -- what stays of the plan
    refine ⟨_, rfl, pa, rfl, ⟨pvs, hP1⟩, fun M hM => ?_⟩
    refine it_tup (K := K) (a := pa) (xs := pvs) (fun i H' => Same H2 H' ∧ ∃ ys, H' M = some (.lst ys) ∧ PairsV K H' ys ((p.take i).filter fun e => decide (e ∉ Blo.stepsL path))) ⟨same_upd hM, [], upd_same, .nil⟩ (fun i H' _ h => tup_same h.1 hP1) (fun i x H3 hx h => ?_) (fun H3 h => ?_)
    · obtain ⟨s3, ys, h3, hys⟩ := h
      obtain ⟨e, he, hpv⟩ := Paired.get hP2 i x hx
      refine ⟨rfl, x, rfl, _, rfl, prD e, (Blo.stepsL path).map prD, (hpv.same s3).dp, .lst (s3.seq (SqL.of hL)) (pairs_dp (pairs_same s3 hX)), prD_shaped e, listD_shaped _, _, rfl, ?_⟩
      rw [any_eqv, filter_take p _ i he]
      by_cases c : e ∈ Blo.stepsL path
      · refine iteF' _ (by simp [c]) ⟨s3, ys, h3, ?_⟩
        rw [if_neg (by simpa using c), List.append_nil]
        exact hys
      · refine iteT' _ (by simp [c]) ⟨x, rfl, ys, h3, ?_, Same.mut s3 hM, _, upd_same, ?_⟩
        · have h5 := hys.length
          have := filter_take_len p (fun e => decide (e ∉ Blo.stepsL path)) i
          exact size_lt (by omega)
        · rw [if_pos (by simpa using c)]
          exact Paired.snoc (pairs_tk (Tk.lst h3) hys) (PairV.tk (Tk.lst h3) (hpv.same s3))
    obtain ⟨s3, ys, h3, hys⟩ := h
    rw [hPl, List.take_length] at hys
    have hL3 := s3 _ _ hL
    have hX3 := pairs_same s3 hX
    have hP3 : PlanV K H3 (.ref pa) p := PlanV.same s3 ⟨pa, pvs, rfl, hP1, hP2⟩
    -- what comes
    refine ⟨_, rfl, L, rfl, ⟨xs, SqL.of hL3⟩, fun M2 hM2 => ?_⟩
    refine it_list (K := K) (a := L) (xs := xs) (fun i H' => Same H3 H' ∧ ∃ zs, H' M2 = some (.lst zs) ∧ PairsV K H' zs (((Blo.stepsL path).take i).filter fun e => decide (e ∉ p))) ⟨same_upd hM2, [], upd_same, .nil⟩ (fun i H' _ h => h.1.seq (SqL.of hL3)) (fun i x H4 hx h => ?_) (fun H4 h => ?_)
    · obtain ⟨s4, zs, h4, hzs⟩ := h
      obtain ⟨e, he, hpv⟩ := Paired.get hX3 i x hx
      refine ⟨rfl, x, rfl, _, rfl, prD e, p.map prD, (hpv.same s4).dp, (hP3.same s4).dp, prD_shaped e, planD_shaped p, _, rfl, ?_⟩
      rw [any_eqv, filter_take _ _ i he]
      by_cases c : e ∈ p
      · refine iteF' _ (by simp [c]) ⟨s4, zs, h4, ?_⟩
        rw [if_neg (by simpa using c), List.append_nil]
        exact hzs
      · refine iteT' _ (by simp [c]) ⟨x, rfl, zs, h4, ?_, Same.mut s4 hM2, _, upd_same, ?_⟩
        · have h5 := hzs.length
          have := filter_take_len (Blo.stepsL path) (fun e => decide (e ∉ p)) i
          exact size_lt (by omega)
        · rw [if_pos (by simpa using c)]
          exact Paired.snoc (pairs_tk (Tk.lst h4) hzs) (PairV.tk (Tk.lst h4) (hpv.same s4))
    obtain ⟨s4, zs, h4, hzs⟩ := h
    rw [List.take_of_length_le (by omega)] at hzs
    have h34 := s4 _ _ h3
    have hys4 := pairs_same s4 hys
    have ly := hys4.length
    have lz := hzs.length
    have fl1 := List.length_filter_le (fun e => decide (e ∉ Blo.stepsL path)) p
    have fl2 := List.length_filter_le (fun e => decide (e ∉ p)) (Blo.stepsL path)
    -- both
    refine ⟨M, M2, ys, zs, rfl, rfl, h34, h4, size_le (by omega), fun N hN => ?_⟩
    have hall := Paired.app hys4 hzs
    have s5 := same_upd (o := .lst (ys ++ zs)) hN
    have h5 : upd H4 N (.lst (ys ++ zs)) N = some (.lst (ys ++ zs)) := upd_same
    generalize upd H4 N (.lst (ys ++ zs)) = H5 at s5 h5 ⊢
    have hall5 : PairsV K H5 (ys ++ zs) _ := pairs_same s5 hall
    have hb : ∀ e ∈ (p.filter fun e => decide (e ∉ Blo.stepsL path)) ++ ((Blo.stepsL path).filter fun e => decide (e ∉ p)), e ∈ ps ∧ e.1 < 20 ∧ e.2 < 20 := fun e he => by
      have : e ∈ ps := by
        rcases List.mem_append.mp he with h | h
        · exact PL.1.subset (List.mem_filter.mp h).1
        · exact hsub e (List.mem_filter.mp h).1
      have := W.lt e this
      exact ⟨by assumption, by omega, by omega⟩
    refine ⟨N, ys ++ zs, rfl, SqL.of h5, by rw [List.length_append]; omega, fun x hx => ?_, fun ws R hperm hpw hR => ?_⟩
    · obtain ⟨e, he, t', rfl, hte⟩ := paired_left hall5 x hx
      obtain ⟨_, b1, b2⟩ := hb e he
      refine ⟨[(e.1 : Int), (e.2 : Int)], ⟨t', rfl, hte⟩, rfl, fun m hm => ?_⟩
      simp only [List.mem_cons, List.not_mem_nil, or_false] at hm
      rcases hm with rfl | rfl <;> omega
    have s6 := same_upd (o := .lst ws) hR
    obtain ⟨qs, hq1, hq2⟩ := paired_perm hperm.symm hall5
    have hnd : qs.Nodup := by
      rw [← hq2.nodup_iff, List.nodup_append]
      refine ⟨(Blo.plan_nodup W PL).filter _, (steps_nodup path O.nd).filter _, fun x hx y hy e => ?_⟩
      have h1 := (List.mem_filter.mp hy).2
      rw [← e] at h1
      simp only [decide_eq_true_eq] at h1
      exact h1 (List.mem_filter.mp hx).1
    have hpq := paired_pw (S' := fun (a b : Pr) => TS.code 64 [(a.1 : Int), (a.2 : Int)] ≤ TS.code 64 [(b.1 : Int), (b.2 : Int)]) (fun x y a b ⟨ta, ea, qa⟩ ⟨tb, eb, qb⟩ h => h _ _ ⟨ta, ea, qa⟩ ⟨tb, eb, qb⟩) hq1 hpw
    have hLx : qs.Pairwise Blo.Lx := by
      refine (hpq.and hnd).imp_of_mem fun {a b} ha hb' ⟨h1, h2⟩ => ?_
      obtain ⟨_, a1, a2⟩ := hb a (hq2.mem_iff.mpr ha)
      obtain ⟨_, b1, b2⟩ := hb b (hq2.mem_iff.mpr hb')
      have ne : ([(a.1 : Int), (a.2 : Int)] : List Int) ≠ [(b.1 : Int), (b.2 : Int)] := fun e => by
        simp only [List.cons.injEq, and_true] at e
        exact h2 (Prod.ext (by omega) (by omega))
      rcases pair_lt h1 ne (by omega) (by omega) (by omega) (by omega) with h | ⟨h, h'⟩
      · exact .inl (by omega)
      · exact .inr ⟨by omega, by omega⟩
    have hT : qs = Blo.turnM ps p path := by
      refine eq_of_Lx hLx (W.up.sublist List.filter_sublist) fun x => ?_
      rw [← hq2.mem_iff, List.mem_append, List.mem_filter, List.mem_filter]
      unfold Blo.turnM
      rw [List.mem_filter]
      simp only [decide_eq_true_eq, bne_iff_ne, ne_eq, decide_eq_decide]
      constructor
      · rintro (⟨h1, h2⟩ | ⟨h1, h2⟩)
        · exact ⟨PL.1.subset h1, fun e => h2 (e.mp h1)⟩
        · exact ⟨hsub x h1, fun e => h2 (e.mpr h1)⟩
      · rintro ⟨h1, h2⟩
        by_cases c : x ∈ p
        · exact .inl ⟨c, fun z => h2 ⟨fun _ => z, fun _ => c⟩⟩
        · by_cases d : x ∈ Blo.stepsL path
          · exact .inr ⟨d, c⟩
          · exact (h2 ⟨fun z => absurd z c, fun z => absurd z d⟩).elim
    refine ⟨R, ws, rfl, .inl ⟨SqL.of upd_same, fun U hU => ?_⟩⟩
    have s7 := s6.trans (same_upd (o := .tup ws) hU)
    refine q _ _ (s02.trans (s3.trans (s4.trans (s5.trans s7)))) ⟨U, ws, rfl, SqT.of upd_same, ?_⟩
    rw [← hT]
    exact pairs_same s7 hq1
end
end G
set_option Elab.async false
set_option linter.all false
set_option maxRecDepth 100000
set_option maxHeartbeats 4000000
namespace G
open PySem PySem.Spec PyProof.Rows L2
open Blo (Pr)

abbrev sSearch : Stmt := topS 23
abbrev sInit : Stmt := inClass sSearch 0
abbrev sRun : Stmt := inClass sSearch 1
abbrev sMeeting : Stmt := inClass sSearch 2
abbrev sShrink : Stmt := inClass sSearch 3
abbrev sWay : Stmt := inClass sSearch 4

/-! ### a list told by a function -/
def OV : Option Nat → V
  | none => .non
  | some k => .int (k : Int)
def mapV (n : Nat) (f : Nat → V) : List V := (List.range n).map f
theorem mapV_len (n : Nat) (f : Nat → V) : (mapV n f).length = n := by unfold mapV; rw [List.length_map, List.length_range]
theorem mapV_get {n i : Nat} {f : Nat → V} (h : i < n) : (mapV n f)[i]? = some (f i) := by
  unfold mapV
  rw [List.getElem?_map, List.getElem?_range h]
  rfl
theorem mapV_set {n i : Nat} {f g : Nat → V} (h : ∀ x, x ≠ i → g x = f x) : (mapV n f).set i (g i) = mapV n g := by
  refine List.ext_getElem? fun j => ?_
  by_cases e : j = i
  · subst e
    by_cases hj : j < n
    · rw [List.getElem?_set_self (by rw [mapV_len]; exact hj), mapV_get hj]
    · rw [List.getElem?_eq_none (by rw [List.length_set, mapV_len]; omega), List.getElem?_eq_none (by rw [mapV_len]; omega)]
  · rw [List.getElem?_set_ne (fun q => e q.symm)]
    by_cases hj : j < n
    · rw [mapV_get hj, mapV_get hj, h j e]
    · rw [List.getElem?_eq_none (by rw [mapV_len]; omega), List.getElem?_eq_none (by rw [mapV_len]; omega)]
theorem mapV_congr {n : Nat} {f g : Nat → V} (h : ∀ x, x < n → f x = g x) : mapV n f = mapV n g := List.map_congr_left fun x hx => h x (List.mem_range.mp hx)
theorem OV_put (f : Nat → Option Nat) (i k : Nat) : ∀ x, x ≠ i → OV (Blo.put f i (some k) x) = OV (f x) := fun x h => by rw [Blo.put_ne _ _ h]

/-! ### an object of the search -/
structure Ad where
  dx : Addr
  nr : Addr
  mt : Addr
  bk : Addr
  bs : Addr
  ev : Addr
  lf : Addr
def sf (A : Ad) (r : Nat) : List (Str × V) :=
  [("near", .ref A.nr), ("root", .int (r : Int)), ("mates", .ref A.mt), ("back", .ref A.bk), ("base", .ref A.bs), ("even", .ref A.ev), ("left", .ref A.lf)]
/-- the class's facts -/
structure Ct (K : PySem.W.Frag) (C : Addr) : Prop where
  cl : Cls K C
  nr : NoAttr K C "near"
  ro : NoAttr K C "root"
  mt : NoAttr K C "mates"
  bk : NoAttr K C "back"
  bs : NoAttr K C "base"
  ev : NoAttr K C "even"
  lf : NoAttr K C "left"
/-- behind the heap H0 an object of the search stands at x -/
structure SAt (K : PySem.W.Frag) (C : Addr) (H0 H : Hp) (x : Addr) (n : Nat) (ps : List Pr) (r : Nat) (mt : Nat → Option Nat) (A : Ad) (S : Blo.St) : Prop where
  same : Same H0 H
  f0 : H0 x = none
  fm : H0 A.mt = none
  fb : H0 A.bk = none
  fs : H0 A.bs = none
  fe : H0 A.ev = none
  fl : H0 A.lf = none
  ob : H x = some (.ins C A.dx (sf A r))
  near : NearV K H0 A.nr n ps
  hm : H A.mt = some (.lst (mapV n fun i => OV (mt i)))
  hb : H A.bk = some (.lst (mapV n fun i => OV (S.back i)))
  hs : H A.bs = some (.lst (mapV n fun i => .int (S.base i : Nat)))
  he : H A.ev = some (.lst (mapV n fun i => .bl (S.even i)))
  hl : H A.lf = some (.lst (IV S.left))
  mb : A.mt ≠ A.bk
  ms : A.mt ≠ A.bs
  me : A.mt ≠ A.ev
  ml : A.mt ≠ A.lf
  bs : A.bk ≠ A.bs
  be : A.bk ≠ A.ev
  bl : A.bk ≠ A.lf
  se : A.bs ≠ A.ev
  sl : A.bs ≠ A.lf
  el : A.ev ≠ A.lf
/-- all that is told are people -/
structure Bd (n r : Nat) (ps : List Pr) (mt : Nat → Option Nat) (S : Blo.St) : Prop where
  rt : r < n
  mt : ∀ i k, mt i = some k → k < n
  bk : ∀ i k, S.back i = some k → k < n
  bs : ∀ i, i < n → S.base i < n
  lf : ∀ k ∈ S.left, k < n
  nr : ∀ u w, w ∈ Blo.nearOf ps u → w < n

section
variable {K : PySem.W.Frag} {C : Addr} {H0 H H' : Hp} {x : Addr} {n : Nat} {ps : List Pr} {r : Nat} {mt : Nat → Option Nat} {A : Ad} {S : Blo.St} {σ : L2.St} {Q : VK} {ti : TE} {i : Nat}
theorem SAt.grow (h : SAt K C H0 H x n ps r mt A S) (s : Same H H') : SAt K C H0 H' x n ps r mt A S :=
  ⟨h.same.trans s, h.f0, h.fm, h.fb, h.fs, h.fe, h.fl, s _ _ h.ob, h.near, s _ _ h.hm, s _ _ h.hb, s _ _ h.hs, s _ _ h.he, s _ _ h.hl, h.mb, h.ms, h.me, h.ml, h.bs, h.be, h.bl, h.se, h.sl, h.el⟩
theorem SAt.xm (h : SAt K C H0 H x n ps r mt A S) {L : Addr} {ys : List V} (hL : H L = some (.lst ys)) : x ≠ L := fun e => by
  have := h.ob
  rw [e, hL] at this
  cases this
theorem SAt.setBack (h : SAt K C H0 H x n ps r mt A S) (bk : Nat → Option Nat) : SAt K C H0 (upd H A.bk (.lst (mapV n fun i => OV (bk i)))) x n ps r mt A { S with back := bk } where
  same := Same.mut h.same h.fb
  f0 := h.f0
  fm := h.fm
  fb := h.fb
  fs := h.fs
  fe := h.fe
  fl := h.fl
  ob := by rw [upd_ne (h.xm h.hb)]; exact h.ob
  near := h.near
  hm := by rw [upd_ne h.mb]; exact h.hm
  hb := upd_same
  hs := by rw [upd_ne h.bs.symm]; exact h.hs
  he := by rw [upd_ne h.be.symm]; exact h.he
  hl := by rw [upd_ne h.bl.symm]; exact h.hl
  mb := h.mb
  ms := h.ms
  me := h.me
  ml := h.ml
  bs := h.bs
  be := h.be
  bl := h.bl
  se := h.se
  sl := h.sl
  el := h.el
theorem SAt.setBase (h : SAt K C H0 H x n ps r mt A S) (bs : Nat → Nat) : SAt K C H0 (upd H A.bs (.lst (mapV n fun i => .int (bs i : Nat)))) x n ps r mt A { S with base := bs } where
  same := Same.mut h.same h.fs
  f0 := h.f0
  fm := h.fm
  fb := h.fb
  fs := h.fs
  fe := h.fe
  fl := h.fl
  ob := by rw [upd_ne (h.xm h.hs)]; exact h.ob
  near := h.near
  hm := by rw [upd_ne h.ms]; exact h.hm
  hb := by rw [upd_ne h.bs]; exact h.hb
  hs := upd_same
  he := by rw [upd_ne h.se.symm]; exact h.he
  hl := by rw [upd_ne h.sl.symm]; exact h.hl
  mb := h.mb
  ms := h.ms
  me := h.me
  ml := h.ml
  bs := h.bs
  be := h.be
  bl := h.bl
  se := h.se
  sl := h.sl
  el := h.el
theorem SAt.setEven (h : SAt K C H0 H x n ps r mt A S) (ev : Nat → Bool) : SAt K C H0 (upd H A.ev (.lst (mapV n fun i => .bl (ev i)))) x n ps r mt A { S with even := ev } where
  same := Same.mut h.same h.fe
  f0 := h.f0
  fm := h.fm
  fb := h.fb
  fs := h.fs
  fe := h.fe
  fl := h.fl
  ob := by rw [upd_ne (h.xm h.he)]; exact h.ob
  near := h.near
  hm := by rw [upd_ne h.me]; exact h.hm
  hb := by rw [upd_ne h.be]; exact h.hb
  hs := by rw [upd_ne h.se]; exact h.hs
  he := upd_same
  hl := by rw [upd_ne h.el.symm]; exact h.hl
  mb := h.mb
  ms := h.ms
  me := h.me
  ml := h.ml
  bs := h.bs
  be := h.be
  bl := h.bl
  se := h.se
  sl := h.sl
  el := h.el
theorem SAt.setLeft (h : SAt K C H0 H x n ps r mt A S) (l : List Nat) : SAt K C H0 (upd H A.lf (.lst (IV l))) x n ps r mt A { S with left := l } where
  same := Same.mut h.same h.fl
  f0 := h.f0
  fm := h.fm
  fb := h.fb
  fs := h.fs
  fe := h.fe
  fl := h.fl
  ob := by rw [upd_ne (h.xm h.hl)]; exact h.ob
  near := h.near
  hm := by rw [upd_ne h.ml]; exact h.hm
  hb := by rw [upd_ne h.bl]; exact h.hb
  hs := by rw [upd_ne h.sl]; exact h.hs
  he := by rw [upd_ne h.el]; exact h.he
  hl := upd_same
  mb := h.mb
  ms := h.ms
  me := h.me
  ml := h.ml
  bs := h.bs
  be := h.be
  bl := h.bl
  se := h.se
  sl := h.sl
  el := h.el

/-! ### its fields read -/
theorem SAt.fNear (h : SAt K C H0 H x n ps r mt A S) (T : Ct K C) (hσ : σ[0]? = some (some (.ref x))) (k : Q (.ref A.nr) H) : tFld K (tVar 0) "near" σ H Q := ⟨_, hσ, x, C, _, _, _, rfl, h.ob, T.cl, T.nr, rfl, k⟩
theorem SAt.fRoot (h : SAt K C H0 H x n ps r mt A S) (T : Ct K C) (hσ : σ[0]? = some (some (.ref x))) (k : Q (.int (r : Nat)) H) : tFld K (tVar 0) "root" σ H Q := ⟨_, hσ, x, C, _, _, _, rfl, h.ob, T.cl, T.ro, rfl, k⟩
theorem SAt.fMates (h : SAt K C H0 H x n ps r mt A S) (T : Ct K C) (hσ : σ[0]? = some (some (.ref x))) (k : Q (.ref A.mt) H) : tFld K (tVar 0) "mates" σ H Q := ⟨_, hσ, x, C, _, _, _, rfl, h.ob, T.cl, T.mt, rfl, k⟩
theorem SAt.fBack (h : SAt K C H0 H x n ps r mt A S) (T : Ct K C) (hσ : σ[0]? = some (some (.ref x))) (k : Q (.ref A.bk) H) : tFld K (tVar 0) "back" σ H Q := ⟨_, hσ, x, C, _, _, _, rfl, h.ob, T.cl, T.bk, rfl, k⟩
theorem SAt.fBase (h : SAt K C H0 H x n ps r mt A S) (T : Ct K C) (hσ : σ[0]? = some (some (.ref x))) (k : Q (.ref A.bs) H) : tFld K (tVar 0) "base" σ H Q := ⟨_, hσ, x, C, _, _, _, rfl, h.ob, T.cl, T.bs, rfl, k⟩
theorem SAt.fEven (h : SAt K C H0 H x n ps r mt A S) (T : Ct K C) (hσ : σ[0]? = some (some (.ref x))) (k : Q (.ref A.ev) H) : tFld K (tVar 0) "even" σ H Q := ⟨_, hσ, x, C, _, _, _, rfl, h.ob, T.cl, T.ev, rfl, k⟩
theorem SAt.fLeft (h : SAt K C H0 H x n ps r mt A S) (T : Ct K C) (hσ : σ[0]? = some (some (.ref x))) (k : Q (.ref A.lf) H) : tFld K (tVar 0) "left" σ H Q := ⟨_, hσ, x, C, _, _, _, rfl, h.ob, T.cl, T.lf, rfl, k⟩
theorem SAt.ixMates (h : SAt K C H0 H x n ps r mt A S) (T : Ct K C) (hσ : σ[0]? = some (some (.ref x))) (hi : i < n) (ht : ∀ Q' : VK, Q' (.int (i : Nat)) H → ti σ H Q') (k : Q (OV (mt i)) H) : tOp (rIxL K) (tFld K (tVar 0) "mates") ti σ H Q :=
  h.fMates T hσ (ht _ ⟨_, _, i, _, rfl, rfl, SqL.of h.hm, atI_nat (mapV_get hi), k⟩)
theorem SAt.ixBack (h : SAt K C H0 H x n ps r mt A S) (T : Ct K C) (hσ : σ[0]? = some (some (.ref x))) (hi : i < n) (ht : ∀ Q' : VK, Q' (.int (i : Nat)) H → ti σ H Q') (k : Q (OV (S.back i)) H) : tOp (rIxL K) (tFld K (tVar 0) "back") ti σ H Q :=
  h.fBack T hσ (ht _ ⟨_, _, i, _, rfl, rfl, SqL.of h.hb, atI_nat (mapV_get hi), k⟩)
theorem SAt.ixBase (h : SAt K C H0 H x n ps r mt A S) (T : Ct K C) (hσ : σ[0]? = some (some (.ref x))) (hi : i < n) (ht : ∀ Q' : VK, Q' (.int (i : Nat)) H → ti σ H Q') (k : Q (.int (S.base i : Nat)) H) : tOp (rIxL K) (tFld K (tVar 0) "base") ti σ H Q :=
  h.fBase T hσ (ht _ ⟨_, _, i, _, rfl, rfl, SqL.of h.hs, atI_nat (mapV_get hi), k⟩)
theorem SAt.ixEven (h : SAt K C H0 H x n ps r mt A S) (T : Ct K C) (hσ : σ[0]? = some (some (.ref x))) (hi : i < n) (ht : ∀ Q' : VK, Q' (.int (i : Nat)) H → ti σ H Q') (k : Q (.bl (S.even i)) H) : tOp (rIxL K) (tFld K (tVar 0) "even") ti σ H Q :=
  h.fEven T hσ (ht _ ⟨_, _, i, _, rfl, rfl, SqL.of h.he, atI_nat (mapV_get hi), k⟩)
theorem var_at {j : Nat} {v : V} (h : σ[j]? = some (some v)) : ∀ Q' : VK, Q' v H → tVar j σ H Q' := fun Q' q => ⟨v, h, q⟩
end

/-- a method of the class -/
structure Dm (K : PySem.W.Frag) (C : Addr) (m qual : Str) (st : Stmt) (ps : List Str) : Prop where
  ex : ∃ f fd, Fun K m qual st f fd ∧ Meth K C m f ∧ Binds K fd ps []
section
variable {P : Program} {w : World} {K : PySem.W.Frag} {mg : Str → Option Value} {base : Heap}
theorem met_of {C : Addr} {m qual : Str} {st : Stmt} {N ps : List Str} {k : Nat} {sp : Sp} (D : Dm K C m qual st ps) (cl : Cls K C) (S : FnScope N ps (defScope st)) (len : ∀ vs H Q E, sp vs H Q E → vs.length = ps.length)
    (hb : ∀ (f : Addr) (cdv : Value) (A : Around) (outer : List Env) (s : Shared) (H : Hp) (vs : List V) (Q : VK) (E : XK), Room k (A.deeper (envOfC qual (defScope st) s.heap.objs.size f cdv)) → sp vs H Q E →
      ∃ t, PSs (cxOf CX0 P w K mg base N qual (defScope st) f cdv A outer s H E).nox (defBody st) t ∧ t { nx := fun _ H' => Q .non H', rt := Q } (start N vs) H) : C8.Met P w K mg base (k + 1) C m sp [] := by
  obtain ⟨f, fd, F, hm, b⟩ := D.ex
  exact ⟨f, fd, ps, [], cl, hm, F.ok S len (hb f), b, .nil⟩
end
end G
set_option Elab.async false
set_option linter.all false
set_option maxRecDepth 100000
set_option maxHeartbeats 4000000
namespace G
open PySem PySem.Spec PyProof.Rows L2
open Blo (Pr)

section
variable {P : Program} {w : World} {K : PySem.W.Frag} {mg : Str → Option Value} {base : Heap} {C : Addr}

theorem last_snoc {α : Type} (l : List α) (a : α) : (l ++ [a])[(l ++ [a]).length - 1]? = some a := by simp
theorem IV_last {l : List Nat} {k : Nat} (h : l[l.length - 1]? = some k) : atI (IV l) (-1) = some (V.int (k : Int)) := atI_end (by rw [IV_length]; exact IV_at h)

/-! ### way -/
theorem scWay : FnScope ["self", "person", "found", "mate"] ["self", "person"] (defScope sWay) := ⟨rfl, rfl, rfl, by decide +kernel, rfl, by decide +kernel, by decide +kernel⟩
def spWay (K : PySem.W.Frag) (C : Addr) : Sp := fun vs H Q _ => ∃ (H0 : Hp) (x : Addr) (n r k v : Nat) (ps : List Pr) (mt : Nat → Option Nat) (A : Ad) (S : Blo.St) (L : List Nat), vs = [.ref x, .int (v : Nat)] ∧ SAt K C H0 H x n ps r mt A S ∧ Bd n r ps mt S ∧ v < n ∧ k ≤ 1000 ∧
  Blo.wayLoop mt S.back r k [v] v = some L ∧ ∀ (a : Addr) H', Same H H' → H' a = some (.tup (IV L.reverse)) → Q (.ref a) H'
theorem ok_way (D : Dm K C "way" "Search.way" sWay ["self", "person"]) (T : Nm mg) (TC : Ct K C) : C8.Met P w K mg base 1 C "way" (spWay K C) [] := by
  refine met_of D TC.cl scWay (fun vs H Q E h => ?_) (fun f cdv A' outer s H vs Q E hr h => ?_)
  · obtain ⟨H0, x, n, r, k, v, ps, mt, A, S, L, rfl, _⟩ := h
    rfl
  · obtain ⟨H0, x, n, r, k, v, ps, mt, A, S, L, rfl, h0, B, hv, hk, hL, q⟩ := h
    refine ⟨_, pss_cons (ps_set (i := 2) scWay.nd rfl (Or.inl rfl) (pe_lst (pa_cons (pv 1) pa_nil)))
      (pss_cons (ps_while PassesOwn.never (pt_cmpR op_ne (pe_ix ix_list (pv 2) (pe_un un_neg pe_int) (fun _ _ => rfl)) (pe_fld (pv 0) rfl) (nomark _))
        (pss_cons (ps_set (i := 3) scWay.nd rfl (Or.inl rfl) (pe_ix ix_list (pe_fld (pv 0) rfl) (pe_ix ix_list (pv 2) (pe_un un_neg pe_int) (fun _ _ => rfl)) (fun _ _ => rfl)))
        (pss_one (ps_expr (pe_bm PySem.F.plainAttrs_list PySem.F.slot_list_extend PySem.F.type_list_extend mt_extend (pv 2) (pa_cons (pe_lst (pa_cons (pv 3) (pa_cons (pe_ix ix_list (pe_fld (pv 0) rfl) (pv 3) (fun _ _ => rfl)) pa_nil))) pa_nil))))))
      (pss_one (ps_ret (pe_callTy call_tuple_of (by rfl) T.tuple (by decide +kernel) (pa_cons (pe_revL (pv 2)) pa_nil))))), ?_⟩
    refine ⟨_, rfl, by show 1 ≤ sizeLine; decide, fun F hF => ?_⟩
    refine ⟨fun m σ H' => ∃ acc u md, σ = [some (.ref x), some (.int (v : Nat)), some (.ref F), md] ∧ Same H H' ∧ H' F = some (.lst (IV acc)) ∧ acc[acc.length - 1]? = some u ∧ u < n ∧ acc.length + 2 * m ≤ 3000 ∧ Blo.wayLoop mt S.back r m acc u = some L,
      ⟨k, [v], v, none, rfl, same_upd hF, upd_same, rfl, hv, by simp only [List.length_cons, List.length_nil]; omega, hL⟩, ?_⟩
    rintro m σ H1 ⟨acc, u, md, rfl, s1, h1, hu, hun, hsz, hw⟩
    have S1 := h0.grow s1
    refine ⟨_, rfl, 1, rfl, F, _, -1, _, rfl, rfl, SqL.of h1, IV_last hu, S1.fRoot TC rfl ⟨rfl, _, rfl, ?_⟩⟩
    rw [V_int_inj]
    cases m with
    | zero => exact absurd hw (by simp [Blo.wayLoop])
    | succ m =>
      simp only [Blo.wayLoop] at hw
      by_cases e : u = r
      · rw [if_pos e] at hw
        cases hw
        refine iteF' _ (by simpa using e) ?_
        refine ⟨_, rfl, F, _, rfl, SqL.of h1, fun R hR => ?_⟩
        have s2 := same_upd (o := .lst (IV L).reverse) hR
        refine ⟨R, _, rfl, .inl ⟨SqL.of upd_same, fun U hU => ?_⟩⟩
        refine q U _ (s1.trans (s2.trans (same_upd hU))) ?_
        rw [upd_same]
        unfold IV
        rw [List.map_reverse]
      · rw [if_neg e] at hw
        refine iteT' _ (by simpa using e) ?_
        cases em : mt u with
        | none => rw [em] at hw; cases hw
        | some o =>
          rw [em] at hw
          dsimp only at hw
          have hon := B.mt u o em
          cases eb : S.back o with
          | none => rw [eb] at hw; cases hw
          | some y =>
            rw [eb] at hw
            dsimp only at hw
            have hyn := B.bk o y eb
            refine ⟨fun σ' H' => ∃ acc u md, σ' = [some (.ref x), some (.int (v : Nat)), some (.ref F), md] ∧ Same H H' ∧ H' F = some (.lst (IV acc)) ∧ acc[acc.length - 1]? = some u ∧ u < n ∧ acc.length + 2 * m ≤ 3000 ∧ Blo.wayLoop mt S.back r m acc u = some L,
              fun σ' H' h => ⟨m, by omega, h⟩, ?_⟩
            refine S1.ixMates TC rfl hun (fun Q' q' => ⟨_, rfl, 1, rfl, F, _, -1, _, rfl, rfl, SqL.of h1, IV_last hu, q'⟩) ?_
            rw [em]
            refine ⟨_, rfl, .inl ⟨rfl, _, SqL.of h1⟩, _, rfl, S1.ixBack TC rfl hon (fun Q' q' => ⟨_, rfl, q'⟩) ?_⟩
            rw [eb]
            refine ⟨by show 2 ≤ sizeLine; decide, fun N hN => ?_⟩
            have hne := ne_of_none h1 hN
            refine ⟨F, N, IV acc, IV [o, y], rfl, rfl, by rw [upd_ne hne]; exact h1, upd_same, ?_, acc ++ [o, y], y, _, rfl, ?_, ?_, ?_, hyn, ?_, hw⟩
            · rw [IV_length, IV_length]
              exact size_le (by simp only [List.length_cons, List.length_nil]; omega)
            · exact Same.mut (s1.trans (same_upd hN)) hF
            · rw [upd_same, IV_append]
            · rw [show acc ++ [o, y] = (acc ++ [o]) ++ [y] by simp]
              exact last_snoc _ _
            · rw [List.length_append]
              simp only [List.length_cons, List.length_nil]
              omega
end
end G
set_option Elab.async false
set_option linter.all false
set_option maxRecDepth 100000
set_option maxHeartbeats 4000000
namespace G
open PySem PySem.Spec PyProof.Rows L2
open Blo (Pr)

theorem meetDown_mem {mt bk : Nat → Option Nat} {bs : Nat → Nat} {met : List Nat} : ∀ {k b t : Nat}, Blo.meetDown mt bk bs met k b = some t → t ∈ met
  | 0, b, t, h => by simp [Blo.meetDown] at h
  | k + 1, b, t, h => by
    simp only [Blo.meetDown] at h
    by_cases e : b ∈ met
    · rw [if_pos e] at h
      cases h
      exact e
    · rw [if_neg e] at h
      cases em : mt b with
      | none => rw [em] at h; cases h
      | some o =>
        rw [em] at h
        dsimp only at h
        cases eb : bk o with
        | none => rw [eb] at h; cases h
        | some y =>
          rw [eb] at h
          exact meetDown_mem h

section
variable {P : Program} {w : World} {K : PySem.W.Frag} {mg : Str → Option Value} {base : Heap} {C : Addr}

theorem scMeeting : FnScope ["self", "one", "other", "met", "found"] ["self", "one", "other"] (defScope sMeeting) := ⟨rfl, rfl, rfl, by decide +kernel, rfl, by decide +kernel, by decide +kernel⟩
def spMeeting (K : PySem.W.Frag) (C : Addr) : Sp := fun vs H Q _ => ∃ (H0 : Hp) (x : Addr) (n r k one other top : Nat) (ps : List Pr) (mt : Nat → Option Nat) (A : Ad) (S : Blo.St), vs = [.ref x, .int (one : Nat), .int (other : Nat)] ∧ SAt K C H0 H x n ps r mt A S ∧ Bd n r ps mt S ∧
  one < n ∧ other < n ∧ k ≤ 1000 ∧ Blo.meeting mt S.back S.base k r one other = some top ∧ ∀ H', Same H H' → top < n → Q (.int (top : Nat)) H'
theorem ok_meeting (D : Dm K C "meeting" "Search.meeting" sMeeting ["self", "one", "other"]) (T : Nm mg) (TC : Ct K C) : C8.Met P w K mg base 1 C "meeting" (spMeeting K C) [] := by
  refine met_of D TC.cl scMeeting (fun vs H Q E h => ?_) (fun f cdv A' outer s H vs Q E hr h => ?_)
  · obtain ⟨H0, x, n, r, k, one, other, top, ps, mt, A, S, rfl, _⟩ := h
    rfl
  · obtain ⟨H0, x, n, r, k, one, other, top, ps, mt, A, S, rfl, h0, B, h1n, hon, hk, hm, q⟩ := h
    unfold Blo.meeting at hm
    cases hup : Blo.meetUp mt S.back S.base (S.base r) k [S.base one] (S.base one) with
    | none => rw [hup] at hm; cases hm
    | some fin =>
    rw [hup] at hm
    dsimp only at hm
    refine ⟨_, pss_cons (ps_set (i := 3) scMeeting.nd rfl (Or.inl rfl) (pe_lst (pa_cons (pe_ix ix_list (pe_fld (pv 0) rfl) (pv 1) (fun _ _ => rfl)) pa_nil)))
      (pss_cons (ps_while PassesOwn.never (pt_cmpR op_ne (pe_ix ix_list (pv 3) (pe_un un_neg pe_int) (fun _ _ => rfl)) (pe_ix ix_list (pe_fld (pv 0) rfl) (pe_fld (pv 0) rfl) (fun _ _ => rfl)) (nomark _))
        (pss_one (ps_expr (pe_bm PySem.F.plainAttrs_list PySem.F.slot_list_append PySem.F.type_list_append mt_append (pv 3) (pa_cons (pe_ix ix_list (pe_fld (pv 0) rfl) (pe_ix ix_list (pe_fld (pv 0) rfl)
          (pe_ix ix_list (pe_fld (pv 0) rfl) (pe_ix ix_list (pv 3) (pe_un un_neg pe_int) (fun _ _ => rfl)) (fun _ _ => rfl)) (fun _ _ => rfl)) (fun _ _ => rfl)) pa_nil)))))
      (pss_cons (ps_set (i := 4) scMeeting.nd rfl (Or.inl rfl) (pe_ix ix_list (pe_fld (pv 0) rfl) (pv 2) (fun _ _ => rfl)))
      (pss_cons (ps_while PassesOwn.never (pt_cmpR op_notIn_seq (pv 4) (pv 3) (by rfl))
        (pss_one (ps_set (i := 4) scMeeting.nd rfl (Or.inl rfl) (pe_ix ix_list (pe_fld (pv 0) rfl) (pe_ix ix_list (pe_fld (pv 0) rfl) (pe_ix ix_list (pe_fld (pv 0) rfl) (pv 4) (fun _ _ => rfl)) (fun _ _ => rfl)) (fun _ _ => rfl)))))
      (pss_one (ps_ret (pv 4)))))), ?_⟩
    refine h0.ixBase TC rfl h1n (var_at rfl) ⟨by show 1 ≤ sizeLine; decide, fun F hF => ?_⟩
    -- up
    refine ⟨fun m σ H' => ∃ met b, σ = [some (.ref x), some (.int (one : Nat)), some (.int (other : Nat)), some (.ref F), none] ∧ Same H H' ∧ H' F = some (.lst (IV met)) ∧ met[met.length - 1]? = some b ∧ (∀ z ∈ met, z < n) ∧ met.length + m ≤ 2000 ∧
        Blo.meetUp mt S.back S.base (S.base r) m met b = some fin,
      ⟨k, [S.base one], S.base one, rfl, same_upd hF, upd_same, rfl, fun z hz => by rw [List.mem_singleton.mp hz]; exact B.bs _ h1n, by simp only [List.length_cons, List.length_nil]; omega, hup⟩, ?_⟩
    rintro m σ H1 ⟨met, b, rfl, s1, hF1, hb, hlt, hsz, hw⟩
    have S1 := h0.grow s1
    have hbn : b < n := hlt b (List.mem_of_getElem? hb)
    refine ⟨_, rfl, 1, rfl, F, _, -1, _, rfl, rfl, SqL.of hF1, IV_last hb, S1.ixBase TC rfl B.rt (fun Q' q' => S1.fRoot TC rfl q') ⟨rfl, _, rfl, ?_⟩⟩
    rw [V_int_inj]
    cases m with
    | zero => exact absurd hw (by simp [Blo.meetUp])
    | succ m =>
      simp only [Blo.meetUp] at hw
      by_cases e : b = S.base r
      · rw [if_pos e] at hw
        cases hw
        refine iteF' _ (by simpa using e) ?_
        -- down
        refine S1.ixBase TC rfl hon (var_at rfl) ?_
        refine ⟨fun m σ H' => ∃ b, σ = [some (.ref x), some (.int (one : Nat)), some (.int (other : Nat)), some (.ref F), some (.int (b : Nat))] ∧ H' = H1 ∧ b < n ∧ Blo.meetDown mt S.back S.base fin m b = some top,
          ⟨k, S.base other, rfl, rfl, B.bs _ hon, hm⟩, ?_⟩
        rintro m2 σ H2 ⟨c, rfl, rfl, hcn, hd⟩
        refine ⟨_, rfl, _, rfl, F, IV fin, rfl, .inl (SqL.of hF1), rfl, flat_IV fin, _, rfl, ?_⟩
        rw [inV_IV]
        cases m2 with
        | zero => exact absurd hd (by simp [Blo.meetDown])
        | succ m2 =>
          have htop : top < n := hlt top (meetDown_mem hd)
          simp only [Blo.meetDown] at hd
          by_cases g : c ∈ fin
          · rw [if_pos g] at hd
            cases hd
            refine iteF' _ (by simp [g]) ⟨_, rfl, q _ s1 htop⟩
          · rw [if_neg g] at hd
            refine iteT' _ (by simp [g]) ?_
            cases em : mt c with
            | none => rw [em] at hd; cases hd
            | some o =>
              rw [em] at hd
              dsimp only at hd
              have hon2 := B.mt c o em
              cases eb : S.back o with
              | none => rw [eb] at hd; cases hd
              | some y =>
                rw [eb] at hd
                dsimp only at hd
                have hyn := B.bk o y eb
                refine ⟨fun σ' H' => ∃ b, σ' = [some (.ref x), some (.int (one : Nat)), some (.int (other : Nat)), some (.ref F), some (.int (b : Nat))] ∧ H' = H2 ∧ b < n ∧ Blo.meetDown mt S.back S.base fin m2 b = some top, fun σ' H' h => ⟨m2, by omega, h⟩, ?_⟩
                refine S1.ixBase (i := y) TC rfl hyn (fun Q' q' => S1.ixBack (i := o) TC rfl hon2 (fun Q'' q'' => S1.ixMates TC rfl hcn (var_at rfl) (by rw [em]; exact q'')) (by rw [eb]; exact q')) ?_
                exact ⟨_, rfl, rfl, B.bs _ hyn, hd⟩
      · rw [if_neg e] at hw
        refine iteT' _ (by simpa using e) ?_
        cases em : mt b with
        | none => rw [em] at hw; cases hw
        | some o =>
          rw [em] at hw
          dsimp only at hw
          have hon2 := B.mt b o em
          cases eb : S.back o with
          | none => rw [eb] at hw; cases hw
          | some y =>
            rw [eb] at hw
            dsimp only at hw
            have hyn := B.bk o y eb
            refine ⟨fun σ' H' => ∃ met b, σ' = [some (.ref x), some (.int (one : Nat)), some (.int (other : Nat)), some (.ref F), none] ∧ Same H H' ∧ H' F = some (.lst (IV met)) ∧ met[met.length - 1]? = some b ∧ (∀ z ∈ met, z < n) ∧ met.length + m ≤ 2000 ∧
              Blo.meetUp mt S.back S.base (S.base r) m met b = some fin, fun σ' H' h => ⟨m, by omega, h⟩, ?_⟩
            refine ⟨_, rfl, .inl ⟨rfl, _, SqL.of hF1⟩, S1.ixBase (i := y) TC rfl hyn (fun Q' q' => S1.ixBack (i := o) TC rfl hon2 (fun Q'' q'' => S1.ixMates TC rfl hbn (fun Q3 q3 => ⟨_, rfl, 1, rfl, F, _, -1, _, rfl, rfl, SqL.of hF1, IV_last hb, q3⟩) (by rw [em]; exact q'')) (by rw [eb]; exact q')) ?_⟩
            refine ⟨F, _, _, rfl, rfl, hF1, ?_, met ++ [S.base y], S.base y, rfl, Same.mut s1 hF, ?_, last_snoc _ _, ?_, ?_, hw⟩
            · rw [IV_length]
              exact size_lt (by omega)
            · rw [upd_same, IV_append]
              rfl
            · intro z hz
              rcases List.mem_append.mp hz with h | h
              · exact hlt z h
              · rw [List.mem_singleton.mp h]
                exact B.bs _ hyn
            · rw [List.length_append]
              simp only [List.length_cons, List.length_nil]
              omega
end
end G
set_option Elab.async false
set_option linter.all false
set_option maxRecDepth 100000
set_option maxHeartbeats 4000000
set_option pp.maxSteps 1200
namespace G
open PySem PySem.Spec PyProof.Rows L2
open Blo (Pr)

theorem asgC {v : V} {g : TG} {D : Ends} {σ : L2.St} {H : Hp} (h : g v σ H D.nx) : tAsg (tC v) g D σ H := h
theorem seqI {t u : TS} {D : Ends} {σ : L2.St} {H : Hp} (h : t { D with nx := fun σ' H' => u D σ' H' } σ H) : tSeq t u D σ H := h
theorem gsubI {to ti : TE} {t : TSet} {v : V} {σ : L2.St} {H : Hp} {Q : L2.St → Hp → Prop} (h : to σ H fun o H1 => ti σ H1 fun i H2 => t o i v H2 fun H3 => Q σ H3) : gSub to ti t v σ H Q := h
theorem dropI {te : TE} {D : Ends} {σ : L2.St} {H : Hp} (h : te σ H fun _ H1 => D.nx σ H1) : tDrop te D σ H := h
theorem bmI {K : PySem.W.Frag} {T : String} {r : V → List V → Hp → VK → Prop} {to : TE} {t : TA} {σ : L2.St} {H : Hp} {Q : VK} (h : to σ H fun x H1 => tyV K T x H1 ∧ t σ H1 fun xs H2 => r x xs H2 Q) : tBM K T r to t σ H Q := h
theorem filter_one {α : Type} (f : α → Bool) (a : α) : [a].filter f = if f a = true then [a] else [] := by
  by_cases g : f a = true
  · rw [if_pos g, List.filter_cons_of_pos g]
    rfl
  · rw [if_neg g, List.filter_cons_of_neg g]
    rfl
theorem ixN_at {n i : Nat} (h : i < n) : ixN n (i : Int) = some i := by
  unfold ixN
  rw [if_pos (by omega), if_pos (by omega), Int.toNat_natCast]

section
variable {K : PySem.W.Frag} {C : Addr} {H0 H H' : Hp} {x : Addr} {n : Nat} {ps : List Pr} {r : Nat} {mt : Nat → Option Nat} {A : Ad} {S S' : Blo.St}
/-- a list of one's own beside the object -/
theorem SAt.beside (h : SAt K C H0 H x n ps r mt A S) {L : Addr} (hL : H L = none) : L ≠ x ∧ L ≠ A.mt ∧ L ≠ A.bk ∧ L ≠ A.bs ∧ L ≠ A.ev ∧ L ≠ A.lf ∧ H0 L = none :=
  ⟨(ne_of_none h.ob hL).symm, (ne_of_none h.hm hL).symm, (ne_of_none h.hb hL).symm, (ne_of_none h.hs hL).symm, (ne_of_none h.he hL).symm, (ne_of_none h.hl hL).symm, h.same.free hL⟩
theorem SAt.other (h : SAt K C H0 H x n ps r mt A S) {L : Addr} {o : HO} (b : L ≠ x ∧ L ≠ A.mt ∧ L ≠ A.bk ∧ L ≠ A.bs ∧ L ≠ A.ev ∧ L ≠ A.lf ∧ H0 L = none) : SAt K C H0 (upd H L o) x n ps r mt A S where
  same := Same.mut h.same b.2.2.2.2.2.2
  f0 := h.f0
  fm := h.fm
  fb := h.fb
  fs := h.fs
  fe := h.fe
  fl := h.fl
  ob := by rw [upd_ne b.1.symm]; exact h.ob
  near := h.near
  hm := by rw [upd_ne b.2.1.symm]; exact h.hm
  hb := by rw [upd_ne b.2.2.1.symm]; exact h.hb
  hs := by rw [upd_ne b.2.2.2.1.symm]; exact h.hs
  he := by rw [upd_ne b.2.2.2.2.1.symm]; exact h.he
  hl := by rw [upd_ne b.2.2.2.2.2.1.symm]; exact h.hl
  mb := h.mb
  ms := h.ms
  me := h.me
  ml := h.ml
  bs := h.bs
  be := h.be
  bl := h.bl
  se := h.se
  sl := h.sl
  el := h.el
theorem SAt.congr (h : SAt K C H0 H x n ps r mt A S) (e1 : ∀ i, i < n → S.back i = S'.back i) (e2 : ∀ i, i < n → S.base i = S'.base i) (e3 : ∀ i, i < n → S.even i = S'.even i) (e4 : S.left = S'.left) : SAt K C H0 H x n ps r mt A S' where
  same := h.same
  f0 := h.f0
  fm := h.fm
  fb := h.fb
  fs := h.fs
  fe := h.fe
  fl := h.fl
  ob := h.ob
  near := h.near
  hm := h.hm
  hb := by rw [h.hb, mapV_congr fun i hi => by rw [e1 i hi]]
  hs := by rw [h.hs, mapV_congr fun i hi => by rw [e2 i hi]]
  he := by rw [h.he, mapV_congr fun i hi => by rw [e3 i hi]]
  hl := by rw [h.hl, e4]
  mb := h.mb
  ms := h.ms
  me := h.me
  ml := h.ml
  bs := h.bs
  be := h.be
  bl := h.bl
  se := h.se
  sl := h.sl
  el := h.el
theorem SAt.nlen (h : SAt K C H0 H x n ps r mt A S) : ∃ vs, SqL K H A.nr vs ∧ vs.length = n ∧ Paired (fun v (k : Nat) => ∃ a, v = V.ref a ∧ SqT K H0 a (IV (Blo.nearOf ps k))) vs (List.range n) := by
  obtain ⟨vs, h1, h2⟩ := h.near
  refine ⟨vs, h.same.seq h1, ?_, h2⟩
  have := h2.length
  rwa [List.length_range] at this
end

section
variable {P : Program} {w : World} {K : PySem.W.Frag} {mg : Str → Option Value} {base : Heap} {C : Addr}

theorem scShrink : FnScope ["self", "one", "other", "top", "within", "person", "behind", "mate"] ["self", "one", "other"] (defScope sShrink) := ⟨rfl, rfl, rfl, by decide +kernel, rfl, by decide +kernel, by decide +kernel⟩
def spShrink (K : PySem.W.Frag) (C : Addr) : Sp := fun vs H Q _ => ∃ (H0 : Hp) (x : Addr) (n r k one other : Nat) (ps : List Pr) (mt : Nat → Option Nat) (A : Ad) (S S' : Blo.St), vs = [.ref x, .int (one : Nat), .int (other : Nat)] ∧ SAt K C H0 H x n ps r mt A S ∧ Bd n r ps mt S ∧
  one < n ∧ other < n ∧ k ≤ 1000 ∧ n ≤ 1000 ∧ S.left.length ≤ 90000 ∧ Blo.shrink n mt r k S one other = some S' ∧ ∀ H', SAt K C H0 H' x n ps r mt A S' → Bd n r ps mt S' → Q .non H'
theorem ok_shrink (D : Dm K C "shrink" "Search.shrink" sShrink ["self", "one", "other"]) (T : Nm mg) (TC : Ct K C) (C1 : C8.Met P w K mg base 1 C "meeting" (spMeeting K C) []) : C8.Met P w K mg base 2 C "shrink" (spShrink K C) [] := by
  refine met_of D TC.cl scShrink (fun vs H Q E h => ?_) (fun f cdv A' outer s H vs Q E hr h => ?_)
  · obtain ⟨H0, x, n, r, k, one, other, ps, mt, A, S, S', rfl, _⟩ := h
    rfl
  · obtain ⟨H0, x, n, r, k, one, other, ps, mt, A, S, S', rfl, h0, B, h1n, hon, hk, hn, hll, hm, q⟩ := h
    unfold Blo.shrink at hm
    cases hmt : Blo.meeting mt S.back S.base k r one other with
    | none => rw [hmt] at hm; cases hm
    | some top =>
    rw [hmt] at hm
    dsimp only at hm
    cases hr1 : Blo.markWalk mt S.base top k S.back [] one other with
    | none => rw [hr1] at hm; cases hm
    | some r1 =>
    rw [hr1] at hm
    dsimp only at hm
    cases hr2 : Blo.markWalk mt S.base top k r1.1 r1.2 other one with
    | none => rw [hr2] at hm; cases hm
    | some r2 =>
    rw [hr2] at hm
    cases hm
    refine ⟨_, pss_cons (ps_par (by rfl) scShrink.nd (i := 3) (j := 4) rfl rfl (by decide) rfl rfl (pa_cons (C8.pe_mt C1 hr (by decide) (pv 0) (pa_cons (pv 1) (pa_cons (pv 2) pa_nil))) (pa_cons (pe_lst pa_nil) pa_nil)) (by rfl))
      (pss_cons (ps_for PassesOwn.never rfl (pi_tup (pe_tup (pa_cons (pe_tup (pa_cons (pv 1) (pa_cons (pv 2) pa_nil))) (pa_cons (pe_tup (pa_cons (pv 2) (pa_cons (pv 1) pa_nil))) pa_nil))))
          (pg_tup rfl (pgs_cons (pg_name (i := 5) scShrink.nd rfl (.inl rfl)) (pgs_cons (pg_name (i := 6) scShrink.nd rfl (.inl rfl)) pgs_nil)))
        (pss_one (ps_while PassesOwn.never (pt_cmpR op_ne (pe_ix ix_list (pe_fld (pv 0) rfl) (pv 5) (fun _ _ => rfl)) (pv 3) (nomark _))
          (pss_cons (ps_set (i := 7) scShrink.nd rfl (Or.inl rfl) (pe_ix ix_list (pe_fld (pv 0) rfl) (pv 5) (fun _ _ => rfl)))
          (pss_cons (ps_expr (pe_bm PySem.F.plainAttrs_list PySem.F.slot_list_extend PySem.F.type_list_extend mt_extend (pv 4) (pa_cons (pe_lst (pa_cons (pe_ix ix_list (pe_fld (pv 0) rfl) (pv 5) (fun _ _ => rfl)) (pa_cons (pe_ix ix_list (pe_fld (pv 0) rfl) (pv 7) (fun _ _ => rfl)) pa_nil))) pa_nil)))
          (pss_cons (ps_asg (pv 6) (pg_sub (pe_fld (pv 0) rfl) (pv 5) set_list))
          (pss_one (ps_par (by rfl) scShrink.nd (i := 6) (j := 5) rfl rfl (by decide) rfl rfl (pa_cons (pv 7) (pa_cons (pe_ix ix_list (pe_fld (pv 0) rfl) (pv 7) (fun _ _ => rfl)) pa_nil)) (by rfl)))))))))
      (pss_one (ps_for PassesOwn.never rfl (pi_range1 rfl T.range (pa_cons (pe_callB call_len_seq (by rfl) T.len PySem.boot_len (pa_cons (pe_fld (pv 0) rfl) pa_nil)) pa_nil)) (pg_name (i := 5) scShrink.nd rfl (.inl rfl))
        (pss_one (ps_if (pt_cmpR op_in_seq (pe_ix ix_list (pe_fld (pv 0) rfl) (pv 5) (fun _ _ => rfl)) (pv 4) (by rfl))
          (pss_cons (ps_asg (pv 3) (pg_sub (pe_fld (pv 0) rfl) (pv 5) set_list))
          (pss_one (ps_if (pt_not (pt_val (pe_ix ix_list (pe_fld (pv 0) rfl) (pv 5) (fun _ _ => rfl))))
            (pss_cons (ps_asg pe_bl (pg_sub (pe_fld (pv 0) rfl) (pv 5) set_list))
            (pss_one (ps_expr (pe_bm PySem.F.plainAttrs_list PySem.F.slot_list_append PySem.F.type_list_append mt_append (pe_fld (pv 0) rfl) (pa_cons (pv 5) pa_nil)))))
            pss_nil)))
          pss_nil))))), ?_⟩
    have md : ∃ dp, H x = some (.ins C dp (sf A r)) := ⟨_, h0.ob⟩
    refine ⟨_, rfl, x, A.dx, sf A r, rfl, h0.ob, rfl, _, rfl, _, rfl, H0, x, n, r, k, one, other, top, ps, mt, A, S, rfl, h0, B, h1n, hon, hk, hmt, fun H1 s1 htop => ?_⟩
    refine ⟨Nat.zero_le _, fun W hW => ⟨_, _, rfl, ?_⟩⟩
    have S1 := h0.grow s1
    have bW := S1.beside hW
    have S2 := S1.grow (same_upd (o := .lst []) hW)
    have w2 : upd H1 W (.lst []) W = some (.lst []) := upd_same
    generalize upd H1 W (.lst []) = H2 at S2 w2 ⊢
    -- the two pairs
    refine ⟨_, rfl, _, rfl, by show 2 ≤ sizeLine; decide, fun t1 ht1 => ?_⟩
    have S3 := S2.grow (same_upd (o := .tup [.int (one : Int), .int (other : Int)]) ht1)
    have w3 := same_upd (o := .tup [.int (one : Int), .int (other : Int)]) ht1 _ _ w2
    have q3 : upd H2 t1 (.tup [.int (one : Int), .int (other : Int)]) t1 = some (.tup [.int (one : Int), .int (other : Int)]) := upd_same
    generalize upd H2 t1 (.tup [.int (one : Int), .int (other : Int)]) = H3 at S3 w3 q3 ⊢
    refine ⟨_, rfl, _, rfl, by show 2 ≤ sizeLine; decide, fun t2 ht2 => ?_⟩
    have S4 := S3.grow (same_upd (o := .tup [.int (other : Int), .int (one : Int)]) ht2)
    have w4 := same_upd (o := .tup [.int (other : Int), .int (one : Int)]) ht2 _ _ w3
    have q4 := same_upd (o := .tup [.int (other : Int), .int (one : Int)]) ht2 _ _ q3
    have p4 : upd H3 t2 (.tup [.int (other : Int), .int (one : Int)]) t2 = some (.tup [.int (other : Int), .int (one : Int)]) := upd_same
    generalize upd H3 t2 (.tup [.int (other : Int), .int (one : Int)]) = H4 at S4 w4 q4 p4 ⊢
    refine ⟨by show 2 ≤ sizeLine; decide, fun U hU => ?_⟩
    have S5 := S4.grow (same_upd (o := .tup [.ref t1, .ref t2]) hU)
    have w5 := same_upd (o := .tup [.ref t1, .ref t2]) hU _ _ w4
    have q5 := same_upd (o := .tup [.ref t1, .ref t2]) hU _ _ q4
    have p5 := same_upd (o := .tup [.ref t1, .ref t2]) hU _ _ p4
    have u5 : upd H4 U (.tup [.ref t1, .ref t2]) U = some (.tup [.ref t1, .ref t2]) := upd_same
    generalize upd H4 U (.tup [.ref t1, .ref t2]) = H5 at S5 w5 q5 p5 u5 ⊢
    refine ⟨U, rfl, ⟨_, SqT.of u5⟩, ?_⟩
    have hst : ∃ st : Nat → (Nat → Option Nat) × List Nat, st 0 = (S.back, []) ∧ st 1 = r1 ∧ st 2 = r2 := ⟨fun i => if i = 0 then (S.back, []) else if i = 1 then r1 else r2, rfl, rfl, rfl⟩
    obtain ⟨st, st0, st1, st2⟩ := hst
    refine for_tup (K := K) (a := U) (xs := [.ref t1, .ref t2]) (fun i σ H' => ∃ a b c, σ = [some (.ref x), some (.int (one : Nat)), some (.int (other : Nat)), some (.int (top : Nat)), some (.ref W), a, b, c] ∧
        SAt K C H0 H' x n ps r mt A { S with back := (st i).1 } ∧ (∀ j m, (st i).1 j = some m → m < n) ∧ H' W = some (.lst (IV (st i).2)) ∧ (st i).2.length ≤ 2000 * i ∧
        SqT K H' U [.ref t1, .ref t2] ∧ SqT K H' t1 [.int (one : Nat), .int (other : Nat)] ∧ SqT K H' t2 [.int (other : Nat), .int (one : Nat)])
      ⟨none, none, none, rfl, by rw [st0]; exact S5, by rw [st0]; exact B.bk, by rw [st0]; exact w5, by rw [st0]; exact Nat.zero_le _, SqT.of u5, SqT.of q5, SqT.of p5⟩
      (fun i σ H' _ ⟨_, _, _, _, _, _, _, _, h, _⟩ => h) (fun i y σ H6 hy h => ?_) (fun σ H6 h => ?_)
    · obtain ⟨a, b, c, rfl, S6, b6, w6, l6, u6, q6, p6⟩ := h
      -- which pair it is
      have hpair : ∃ t p h, y = .ref t ∧ SqT K H6 t [.int (p : Nat), .int (h : Nat)] ∧ p < n ∧ h < n ∧ Blo.markWalk mt S.base top k (st i).1 (st i).2 p h = some (st (i + 1)) := by
        match i, hy with
        | 0, hy => exact ⟨t1, one, other, (Option.some.inj hy).symm, q6, h1n, hon, by rw [st0, st1]; exact hr1⟩
        | 1, hy => exact ⟨t2, other, one, (Option.some.inj hy).symm, p6, hon, h1n, by rw [st1, st2]; exact hr2⟩
      obtain ⟨t, p, h, rfl, ht, hp, hh, hwalk⟩ := hpair
      refine ⟨t, _, rfl, ht, rfl, _, _, rfl, _, _, rfl, rfl, ?_⟩
      refine ⟨fun m σ' H' => ∃ (bk : Nat → Option Nat) (wi : List Nat) (p h : Nat) (c : Option V), σ' = [some (.ref x), some (.int (one : Nat)), some (.int (other : Nat)), some (.int (top : Nat)), some (.ref W), some (.int (p : Nat)), some (.int (h : Nat)), c] ∧
          SAt K C H0 H' x n ps r mt A { S with back := bk } ∧ (∀ j m, bk j = some m → m < n) ∧ H' W = some (.lst (IV wi)) ∧ wi.length + 2 * m ≤ 2000 * (i + 1) ∧ p < n ∧ h < n ∧
          SqT K H' U [.ref t1, .ref t2] ∧ SqT K H' t1 [.int (one : Nat), .int (other : Nat)] ∧ SqT K H' t2 [.int (other : Nat), .int (one : Nat)] ∧ Blo.markWalk mt S.base top m bk wi p h = some (st (i + 1)),
        ⟨k, (st i).1, (st i).2, p, h, c, rfl, S6, b6, w6, by omega, hp, hh, u6, q6, p6, hwalk⟩, ?_⟩
      rintro m σ' H7 ⟨bk, wi, p, h, c, rfl, S7, b7, w7, l7, hp, hh, u7, q7, p7, hw⟩
      refine S7.ixBase TC rfl hp (var_at rfl) ⟨_, rfl, rfl, _, rfl, ?_⟩
      rw [V_int_inj]
      cases m with
      | zero => exact absurd hw (by simp [Blo.markWalk])
      | succ m =>
        simp only [Blo.markWalk] at hw
        by_cases e : S.base p = top
        · rw [if_pos e] at hw
          have e2 : st (i + 1) = (bk, wi) := (Option.some.inj hw).symm
          refine iteF' _ (by simpa using e) ⟨_, _, _, rfl, by rw [e2]; exact S7, by rw [e2]; exact b7, by rw [e2]; exact w7, by rw [e2]; show wi.length ≤ _; omega, u7, q7, p7⟩
        · rw [if_neg e] at hw
          refine iteT' _ (by simpa using e) ?_
          cases em : mt p with
          | none => rw [em] at hw; cases hw
          | some o =>
            rw [em] at hw
            dsimp only at hw
            have hon2 := B.mt p o em
            cases eb : Blo.put bk p (some h) o with
            | none => rw [eb] at hw; cases hw
            | some y =>
              rw [eb] at hw
              dsimp only at hw
              have b8 : ∀ j m, Blo.put bk p (some h) j = some m → m < n := fun j m hj => by
                by_cases hjp : j = p
                · rw [hjp, Blo.put_same] at hj
                  cases hj
                  exact hh
                · rw [Blo.put_ne _ _ hjp] at hj
                  exact b7 j m hj
              have hyn := b8 o y eb
              refine ⟨fun σ' H' => ∃ (bk : Nat → Option Nat) (wi : List Nat) (p h : Nat) (c : Option V), σ' = [some (.ref x), some (.int (one : Nat)), some (.int (other : Nat)), some (.int (top : Nat)), some (.ref W), some (.int (p : Nat)), some (.int (h : Nat)), c] ∧
                  SAt K C H0 H' x n ps r mt A { S with back := bk } ∧ (∀ j m, bk j = some m → m < n) ∧ H' W = some (.lst (IV wi)) ∧ wi.length + 2 * m ≤ 2000 * (i + 1) ∧ p < n ∧ h < n ∧
                  SqT K H' U [.ref t1, .ref t2] ∧ SqT K H' t1 [.int (one : Nat), .int (other : Nat)] ∧ SqT K H' t2 [.int (other : Nat), .int (one : Nat)] ∧ Blo.markWalk mt S.base top m bk wi p h = some (st (i + 1)),
                fun σ' H' h => ⟨m, by omega, h⟩, ?_⟩
              -- mate
              refine S7.ixMates TC rfl hp (var_at rfl) ?_
              rw [em]
              -- within.extend
              refine ⟨_, rfl, .inl ⟨rfl, _, SqL.of w7⟩, S7.ixBase TC rfl hp (var_at rfl) (S7.ixBase (i := o) TC rfl hon2 (var_at rfl) ⟨by show 2 ≤ sizeLine; decide, fun N hN => ?_⟩)⟩
              have s8 := same_upd (o := .lst ([V.int ((S.base p : Nat) : Int), V.int ((S.base o : Nat) : Int)])) hN
              have S8 := S7.grow s8
              have w8 := s8 _ _ w7
              have n8 : upd H7 N (.lst [V.int ((S.base p : Nat) : Int), V.int ((S.base o : Nat) : Int)]) N = some (.lst [V.int ((S.base p : Nat) : Int), V.int ((S.base o : Nat) : Int)]) := upd_same
              have u8 := tup_same s8 u7
              have q8 := tup_same s8 q7
              have p8 := tup_same s8 p7
              generalize upd H7 N (.lst [V.int ((S.base p : Nat) : Int), V.int ((S.base o : Nat) : Int)]) = H8 at S8 w8 n8 u8 q8 p8 ⊢
              refine ⟨W, N, IV wi, IV [S.base p, S.base o], rfl, rfl, w8, n8, by rw [IV_length, IV_length]; exact size_le (by simp only [List.length_cons, List.length_nil]; have : i < 2 := (List.getElem?_eq_some_iff.mp hy).1; omega), ?_⟩
              rw [← IV_append]
              have S9 := S8.other (o := .lst (IV (wi ++ [S.base p, S.base o]))) bW
              have w9 : upd H8 W (.lst (IV (wi ++ [S.base p, S.base o]))) W = some (.lst (IV (wi ++ [S.base p, S.base o]))) := upd_same
              have k9 : Tk K H8 (upd H8 W (.lst (IV (wi ++ [S.base p, S.base o])))) := Tk.lst w8
              have u9 := k9 _ _ u8
              have q9 := k9 _ _ q8
              have p9 := k9 _ _ p8
              generalize upd H8 W (.lst (IV (wi ++ [S.base p, S.base o]))) = H9 at S9 w9 u9 q9 p9 ⊢
              -- self.back[person] = behind
              refine ⟨_, rfl, S9.fBack TC rfl ⟨_, rfl, A.bk, _, p, p, rfl, rfl, S9.hb, ixN_at (by rw [mapV_len]; exact hp), ?_⟩⟩
              have es : (mapV n fun i => OV (bk i)).set p (V.int (h : Int)) = mapV n fun i => OV (Blo.put bk p (some h) i) := by
                have := mapV_set (n := n) (i := p) (f := fun i => OV (bk i)) (g := fun i => OV (Blo.put bk p (some h) i)) (OV_put bk p h)
                rw [← this]
                show _ = (mapV n fun i => OV (bk i)).set p (OV (Blo.put bk p (some h) p))
                rw [Blo.put_same]
                rfl
              rw [es]
              have S10 : SAt K C H0 (upd H9 A.bk (.lst (mapV n fun i => OV (Blo.put bk p (some h) i)))) x n ps r mt A { S with back := Blo.put bk p (some h) } := S9.setBack _
              have k10 : Tk K H9 (upd H9 A.bk (.lst (mapV n fun i => OV (Blo.put bk p (some h) i)))) := Tk.lst S9.hb
              have w10 : upd H9 A.bk (.lst (mapV n fun i => OV (Blo.put bk p (some h) i))) W = some (.lst (IV (wi ++ [S.base p, S.base o]))) := by rw [upd_ne bW.2.2.1]; exact w9
              have u10 := k10 _ _ u9
              have q10 := k10 _ _ q9
              have p10 := k10 _ _ p9
              generalize upd H9 A.bk (.lst (mapV n fun i => OV (Blo.put bk p (some h) i))) = H10 at S10 w10 u10 q10 p10 ⊢
              -- behind, person = mate, self.back[mate]
              refine ⟨_, rfl, S10.ixBack TC rfl hon2 (var_at rfl) ⟨_, _, rfl, ?_⟩⟩
              refine ⟨Blo.put bk p (some h), wi ++ [S.base p, S.base o], y, o, some (.int (o : Nat)), ?_, S10, b8, w10, ?_, hyn, hon2, u10, q10, p10, hw⟩
              · have eo : OV (({ S with back := Blo.put bk p (some h) } : Blo.St).back o) = V.int (y : Int) := by
                  show OV (Blo.put bk p (some h) o) = _
                  rw [eb]
                  rfl
                rw [eo]
                rfl
              · rw [List.length_append]
                simp only [List.length_cons, List.length_nil]
                omega
    · -- all of the ring
      obtain ⟨a, b, c, rfl, S6, b6, w6, l6, _, _, _⟩ := h
      rw [show ([V.ref t1, V.ref t2] : List V).length = 2 from rfl, st2] at S6 b6 w6 l6
      obtain ⟨vs, hvs, hvl, _⟩ := S6.nlen
      refine S6.fNear TC rfl ⟨A.nr, vs, rfl, .inl hvs, n, by rw [hvl], by omega, by omega, ?_⟩
      rw [Int.toNat_natCast]
      have bsN : ∀ i, i < n → (if S.base i ∈ r2.2 then top else S.base i) < n := fun i hi => by
        by_cases e : S.base i ∈ r2.2
        · rw [if_pos e]; exact htop
        · rw [if_neg e]; exact B.bs i hi
      refine for_range (lo := 0) (n := n) (fun i σ H' => ∃ a b c, σ = [some (.ref x), some (.int (one : Nat)), some (.int (other : Nat)), some (.int (top : Nat)), some (.ref W), a, b, c] ∧
          SAt K C H0 H' x n ps r mt A ⟨r2.1, fun p => if p < i then (if S.base p ∈ r2.2 then top else S.base p) else S.base p, fun p => if p < i then (S.even p || decide (S.base p ∈ r2.2)) else S.even p,
            S.left ++ (List.range i).filter fun p => decide (S.base p ∈ r2.2) && !S.even p⟩ ∧ H' W = some (.lst (IV r2.2)))
        ⟨a, b, c, rfl, S6.congr (fun _ _ => rfl) (fun i _ => by simp) (fun i _ => by simp) (by show S.left = _; simp), w6⟩
        (fun i σ H7 hi h => ?_) (fun σ H7 h => ?_)
      · obtain ⟨a, b, c, rfl, S7, w7⟩ := h
        have e0 : V.int (0 + ((i : Nat) : Int)) = V.int (i : Int) := by rw [Int.zero_add]
        have hlf : ((List.range (i + 1)).filter fun p => decide (S.base p ∈ r2.2) && !S.even p) = ((List.range i).filter fun p => decide (S.base p ∈ r2.2) && !S.even p) ++ if (decide (S.base i ∈ r2.2) && !S.even i) = true then [i] else [] := by
          rw [List.range_succ, List.filter_append]
          congr 1
          exact filter_one (fun p => decide (S.base p ∈ r2.2) && !S.even p) i
        have fb : (fun p => if p < i then (if S.base p ∈ r2.2 then top else S.base p) else S.base p) i = S.base i := if_neg (Nat.lt_irrefl i)
        have fe : (fun p => if p < i then (S.even p || decide (S.base p ∈ r2.2)) else S.even p) i = S.even i := if_neg (Nat.lt_irrefl i)
        show gName 5 (V.int (0 + ((i : Nat) : Int))) _ _ _
        rw [e0]
        refine S7.ixBase TC rfl hi (var_at rfl) ?_
        refine ⟨_, rfl, W, IV r2.2, rfl, .inl (SqL.of w7), rfl, flat_IV _, _, rfl, ?_⟩
        rw [show inV (V.int ((((fun p => if p < i then (if S.base p ∈ r2.2 then top else S.base p) else S.base p) i : Nat)) : Int)) (IV r2.2) = decide (S.base i ∈ r2.2) by rw [fb, inV_IV]]
        by_cases hin : S.base i ∈ r2.2
        · refine iteT' _ (by simp [hin]) ?_
          -- self.base[person] = top
          refine ⟨_, rfl, S7.fBase TC rfl ⟨_, rfl, A.bs, _, i, i, rfl, rfl, S7.hs, ixN_at (by rw [mapV_len]; exact hi), ?_⟩⟩
          have es := mapV_set (n := n) (i := i) (f := fun p => V.int ((if p < i then (if S.base p ∈ r2.2 then top else S.base p) else S.base p : Nat) : Int)) (g := fun p => V.int ((if p < i + 1 then (if S.base p ∈ r2.2 then top else S.base p) else S.base p : Nat) : Int))
            (fun p hp => by
              by_cases g : p < i
              · rw [if_pos g, if_pos (by omega)]
              · rw [if_neg g, if_neg (by omega)])
          have ev : V.int ((if i < i + 1 then (if S.base i ∈ r2.2 then top else S.base i) else S.base i : Nat) : Int) = V.int (top : Int) := by rw [if_pos (Nat.lt_succ_self i), if_pos hin]
          rw [ev] at es
          rw [es]
          have S8 : SAt K C H0 (upd H7 A.bs (.lst (mapV n fun p => V.int ((if p < i + 1 then (if S.base p ∈ r2.2 then top else S.base p) else S.base p : Nat) : Int)))) x n ps r mt A _ := S7.setBase (fun p => if p < i + 1 then (if S.base p ∈ r2.2 then top else S.base p) else S.base p)
          have w8 : upd H7 A.bs (.lst (mapV n fun p => V.int ((if p < i + 1 then (if S.base p ∈ r2.2 then top else S.base p) else S.base p : Nat) : Int))) W = some (.lst (IV r2.2)) := by rw [upd_ne bW.2.2.2.1]; exact w7
          generalize upd H7 A.bs (.lst (mapV n fun p => V.int ((if p < i + 1 then (if S.base p ∈ r2.2 then top else S.base p) else S.base p : Nat) : Int))) = H8 at S8 w8 ⊢
          refine S8.ixEven TC rfl hi (var_at rfl) ⟨_, rfl, ?_⟩
          rw [show (({ back := r2.1, base := fun p => if p < i + 1 then (if S.base p ∈ r2.2 then top else S.base p) else S.base p, even := fun p => if p < i then (S.even p || decide (S.base p ∈ r2.2)) else S.even p, left := S.left ++ (List.range i).filter fun p => decide (S.base p ∈ r2.2) && !S.even p } : Blo.St).even i) = S.even i from fe]
          cases hev : S.even i with
          | true =>
            refine iteF ⟨some (.int (i : Nat)), b, c, rfl, S8.congr (fun _ _ => rfl) (fun _ _ => rfl) (fun p hp => ?_) ?_, w8⟩
            · show (if p < i then (S.even p || decide (S.base p ∈ r2.2)) else S.even p) = if p < i + 1 then (S.even p || decide (S.base p ∈ r2.2)) else S.even p
              by_cases g : p < i
              · rw [if_pos g, if_pos (by omega)]
              · rw [if_neg g]
                by_cases g2 : p = i
                · rw [g2, if_pos (Nat.lt_succ_self i), hev]; rfl
                · rw [if_neg (by omega)]
            · show S.left ++ _ = S.left ++ _
              rw [hlf, if_neg (by simp [hev]), List.append_nil]
          | false =>
            refine iteT ?_
            refine seqI (asgC (gsubI (S8.fEven TC rfl ⟨_, rfl, A.ev, _, i, i, rfl, rfl, S8.he, ixN_at (by rw [mapV_len]; exact hi), ?_⟩)))
            have es2 := mapV_set (n := n) (i := i) (f := fun p => V.bl (if p < i then (S.even p || decide (S.base p ∈ r2.2)) else S.even p)) (g := fun p => V.bl (if p < i + 1 then (S.even p || decide (S.base p ∈ r2.2)) else S.even p))
              (fun p hp => by
                by_cases g : p < i
                · rw [if_pos g, if_pos (by omega)]
                · rw [if_neg g, if_neg (by omega)])
            have ev2 : V.bl (if i < i + 1 then (S.even i || decide (S.base i ∈ r2.2)) else S.even i) = V.bl true := by rw [if_pos (Nat.lt_succ_self i), decide_eq_true hin, Bool.or_true]
            rw [ev2] at es2
            rw [es2]
            have S9 : SAt K C H0 (upd H8 A.ev (.lst (mapV n fun p => V.bl (if p < i + 1 then (S.even p || decide (S.base p ∈ r2.2)) else S.even p)))) x n ps r mt A _ := S8.setEven (fun p => if p < i + 1 then (S.even p || decide (S.base p ∈ r2.2)) else S.even p)
            have w9 : upd H8 A.ev (.lst (mapV n fun p => V.bl (if p < i + 1 then (S.even p || decide (S.base p ∈ r2.2)) else S.even p))) W = some (.lst (IV r2.2)) := by rw [upd_ne bW.2.2.2.2.1]; exact w8
            generalize upd H8 A.ev (.lst (mapV n fun p => V.bl (if p < i + 1 then (S.even p || decide (S.base p ∈ r2.2)) else S.even p))) = H9 at S9 w9 ⊢
            refine dropI (bmI (S9.fLeft TC rfl ⟨.inl ⟨rfl, _, SqL.of S9.hl⟩, _, rfl, A.lf, _, _, rfl, rfl, S9.hl, ?_, ?_⟩))
            · have h3 := List.length_filter_le (fun p => decide (S.base p ∈ r2.2) && !S.even p) (List.range i)
              rw [List.length_range] at h3
              rw [IV_length]
              show (S.left ++ (List.range i).filter fun p => decide (S.base p ∈ r2.2) && !S.even p).length < _
              rw [List.length_append]
              exact size_lt (by omega)
            · have el : IV (S.left ++ (List.range i).filter fun p => decide (S.base p ∈ r2.2) && !S.even p) ++ [V.int (i : Int)] = IV (S.left ++ (List.range (i + 1)).filter fun p => decide (S.base p ∈ r2.2) && !S.even p) := by
                rw [hlf, if_pos (by simp [hin, hev]), ← List.append_assoc, IV_append (S.left ++ _) [i]]
                rfl
              have S10 := S9.setLeft (S.left ++ (List.range (i + 1)).filter fun p => decide (S.base p ∈ r2.2) && !S.even p)
              rw [← el] at S10
              refine ⟨some (.int (i : Nat)), b, c, rfl, S10, ?_⟩
              rw [upd_ne bW.2.2.2.2.2.1]
              exact w9
        · refine iteF' _ (by simp [hin]) ⟨some (.int (i : Nat)), b, c, rfl, S7.congr (fun _ _ => rfl) (fun p hp => ?_) (fun p hp => ?_) ?_, w7⟩
          · show (if p < i then (if S.base p ∈ r2.2 then top else S.base p) else S.base p) = if p < i + 1 then (if S.base p ∈ r2.2 then top else S.base p) else S.base p
            by_cases g : p < i
            · rw [if_pos g, if_pos (show p < i + 1 by omega)]
            · rw [if_neg g]
              by_cases g2 : p = i
              · rw [g2, if_pos (Nat.lt_succ_self i), if_neg hin]
              · rw [if_neg (show ¬ p < i + 1 by omega)]
          · show (if p < i then (S.even p || decide (S.base p ∈ r2.2)) else S.even p) = if p < i + 1 then (S.even p || decide (S.base p ∈ r2.2)) else S.even p
            by_cases g : p < i
            · rw [if_pos g, if_pos (by omega)]
            · rw [if_neg g]
              by_cases g2 : p = i
              · rw [g2, if_pos (Nat.lt_succ_self i), decide_eq_false hin, Bool.or_false]
              · rw [if_neg (by omega)]
          · show S.left ++ _ = S.left ++ _
            rw [hlf, if_neg (by simp [hin]), List.append_nil]
      · obtain ⟨a, b, c, rfl, S7, w7⟩ := h
        refine q H7 (S7.congr (fun _ _ => rfl) (fun p hp => ?_) (fun p hp => ?_) rfl) ⟨B.rt, B.mt, b6, fun p hp => ?_, fun z hz => ?_, B.nr⟩
        · exact if_pos hp
        · exact if_pos hp
        · exact bsN p hp
        · rcases List.mem_append.mp hz with h | h
          · exact B.lf z h
          · exact List.mem_range.mp (List.mem_filter.mp h).1
end
end G
set_option Elab.async false
set_option linter.all false
set_option maxRecDepth 100000
set_option maxHeartbeats 4000000
set_option pp.maxSteps 1200
namespace G
open PySem PySem.Spec PyProof.Rows L2
open Blo (Pr)

theorem gnameI {i : Nat} {v : V} {σ : L2.St} {H : Hp} {Q : L2.St → Hp → Prop} (h : Q (σ.set i (some v)) H) : gName i v σ H Q := h
theorem asgI {te : TE} {g : TG} {D : Ends} {σ : L2.St} {H : Hp} (h : te σ H fun x H1 => g x σ H1 D.nx) : tAsg te g D σ H := h
abbrev forW (J : It) (g : TG) (tb : TS) (D : Ends) (σ : L2.St) (H1 : Hp) : Prop := ∃ W : Nat → Nat → L2.St → Hp → Prop, (∃ m, W 0 m σ H1) ∧ ∀ i m σ H, W i m σ H →
  (J.stop i H ∧ D.nx σ H) ∨ (J.go i H ∧ ∃ N : L2.St → Hp → Prop, (∀ σ' H', N σ' H' → ∃ m', m' < m ∧ W (i + 1) m' σ' H') ∧ ∀ x H', J.yld i H x H' → g x σ H' fun σ2 H2 => tb { D with nx := N, ct := N, bk := D.nx } σ2 H2)
theorem forTupI {K : PySem.W.Frag} {te : TE} {g : TG} {tb : TS} {D : Ends} {σ : L2.St} {H : Hp} (h : te σ H fun x H1 => ∃ a, x = .ref a ∧ (∃ xs, SqT K H1 a xs) ∧ forW (Itt K a) g tb D σ H1) : tFor (iTup K te) g tb D σ H := h
theorem Bd.putBack {n r : Nat} {ps : List Pr} {mt : Nat → Option Nat} {S : Blo.St} {z one : Nat} (B : Bd n r ps mt S) (h : one < n) : Bd n r ps mt { S with back := Blo.put S.back z (some one) } :=
  ⟨B.rt, B.mt, fun i k hi => by
    by_cases e : i = z
    · rw [e] at hi
      have : some one = some k := by rw [← hi]; exact (Blo.put_same _ _ _).symm
      cases this
      exact h
    · exact B.bk i k (by rw [← hi]; exact (Blo.put_ne _ _ e).symm), B.bs, B.lf, B.nr⟩
theorem shrink_left {n : Nat} {mt : Nat → Option Nat} {r k one other : Nat} {S S' : Blo.St} (h : Blo.shrink n mt r k S one other = some S') : S'.left.length ≤ S.left.length + n := by
  unfold Blo.shrink at h
  cases h1 : Blo.meeting mt S.back S.base k r one other with
  | none => rw [h1] at h; cases h
  | some top =>
    rw [h1] at h
    dsimp only at h
    cases h2 : Blo.markWalk mt S.base top k S.back [] one other with
    | none => rw [h2] at h; cases h
    | some r1 =>
      rw [h2] at h
      dsimp only at h
      cases h3 : Blo.markWalk mt S.base top k r1.1 r1.2 other one with
      | none => rw [h3] at h; cases h
      | some r2 =>
        rw [h3] at h
        cases h
        show (S.left ++ _).length ≤ _
        rw [List.length_append]
        have := List.length_filter_le (fun p => decide (S.base p ∈ r2.2) && !S.even p) (List.range n)
        rw [List.length_range] at this
        omega
theorem OV_int (o : Option Nat) (w : Nat) : decide (OV o = V.int (w : Int)) = decide (o = some w) := by
  cases o with
  | none => rfl
  | some k =>
    show decide (V.int (k : Int) = V.int (w : Int)) = _
    rw [V_int_inj, Bool.eq_iff_iff]
    simp
theorem OV_non (o : Option Nat) : decide (OV o = V.non) = decide (o = none) := by
  cases o with
  | none => rfl
  | some k => rfl
theorem scal_OV (o : Option Nat) (w : Nat) : scal (OV o) (.int (w : Nat)) = true := by
  cases o <;> rfl
theorem Paired.getR {α β : Type} {F : α → β → Prop} : ∀ {l : List α} {m : List β}, Paired F l m → ∀ (i : Nat) (y : β), m[i]? = some y → ∃ x, l[i]? = some x ∧ F x y
  | _, _, .nil, i, x, h => by simp at h
  | _, _, .cons f t, 0, x, h => by
    cases h
    exact ⟨_, rfl, f⟩
  | _, _, .cons f t, i + 1, x, h => Paired.getR t i x h
theorem drop_at {α : Type} {l : List α} {j : Nat} {w : α} (h : l[j]? = some w) : l.drop j = w :: l.drop (j + 1) := by
  obtain ⟨hj, e⟩ := List.getElem?_eq_some_iff.mp h
  rw [List.drop_eq_getElem_cons hj, e]
theorem budget {n a X L : Nat} {j : Nat} (hj : j < a) (h : L + n * ((a - j) + X) ≤ 90000) : L + n + n * ((a - (j + 1)) + X) ≤ 90000 := by
  have e : (a - j) + X = ((a - (j + 1)) + X) + 1 := by omega
  rw [e, Nat.mul_succ] at h
  omega
theorem near_len (ps : List Pr) (u : Nat) : (Blo.nearOf ps u).length ≤ ps.length := by
  unfold Blo.nearOf
  rw [List.length_map]
  exact List.length_filter_le _ _

section
variable {P : Program} {w : World} {K : PySem.W.Frag} {mg : Str → Option Value} {base : Heap} {C : Addr}

theorem scRun : FnScope ["self", "is_growing", "at", "one", "other"] ["self", "is_growing"] (defScope sRun) := ⟨rfl, rfl, rfl, by decide +kernel, rfl, by decide +kernel, by decide +kernel⟩
def spRun (K : PySem.W.Frag) (C : Addr) : Sp := fun vs H Q _ => ∃ (H0 : Hp) (x : Addr) (n r k f : Nat) (ps : List Pr) (mt : Nat → Option Nat) (A : Ad) (S : Blo.St) (res : Blo.St × Option Nat), vs = [.ref x, .bl true] ∧ SAt K C H0 H x n ps r mt A S ∧ Bd n r ps mt S ∧
  k ≤ 1000 ∧ n ≤ 1000 ∧ ps.length ≤ 1000 ∧ S.left.length + n * (ps.length * f) ≤ 90000 ∧ Blo.runLoop n mt r k (Blo.nearOf ps) f 0 S = some res ∧
  ∀ H', SAt K C H0 H' x n ps r mt A res.1 → Bd n r ps mt res.1 → (∀ z, res.2 = some z → z < n) → Q (OV res.2) H'
theorem ok_run (D : Dm K C "run" "Search.run" sRun ["self", "is_growing"]) (T : Nm mg) (TC : Ct K C) (C1 : C8.Met P w K mg base 2 C "shrink" (spShrink K C) []) : C8.Met P w K mg base 3 C "run" (spRun K C) [] := by
  refine met_of D TC.cl scRun (fun vs H Q E h => ?_) (fun f cdv A' outer s H vs Q E hr h => ?_)
  · obtain ⟨H0, x, n, r, k, f, ps, mt, A, S, res, rfl, _⟩ := h
    rfl
  · obtain ⟨H0, x, n, r, k, fu, ps, mt, A, S, res, rfl, h0, B0, hk, hn, hpl, hbud, hrun, q⟩ := h
    refine ⟨_, (pss_cons (ps_set (i := 2) scRun.nd rfl (Or.inl rfl) pe_int)
      (pss_cons (ps_while PassesOwn.never (pt_cmpR op_lt (pv 2) (pe_callB call_len_seq (by rfl) T.len PySem.boot_len (pa_cons (pe_fld (pv 0) rfl) pa_nil)) (nomark _)) (pss_cons (ps_set (i := 3) scRun.nd rfl (Or.inl rfl) (pe_ix ix_list (pe_fld (pv 0) rfl) (pv 2) (fun _ _ => rfl)))
      (pss_cons (ps_set (i := 2) scRun.nd rfl (Or.inl rfl) (pe_op op_add (pv 2) pe_int))
      (pss_one (ps_for PassesOwn.never rfl (pi_tup (pe_ix ix_list (pe_fld (pv 0) rfl) (pv 3) (fun _ _ => rfl))) (pg_name (i := 4) scRun.nd rfl (.inl rfl)) (pss_cons (ps_if (PW.pt (pw_or (pt_cmpR op_eq (pe_ix ix_list (pe_fld (pv 0) rfl) (pv 3) (fun _ _ => rfl)) (pe_ix ix_list (pe_fld (pv 0) rfl) (pv 4) (fun _ _ => rfl)) (nomark _)) (pw_or1 (pt_cmpR op_eq (pe_ix ix_list (pe_fld (pv 0) rfl) (pv 3) (fun _ _ => rfl)) (pv 4) (nomark _))))) (pss_one ps_continue) pss_nil)
      (pss_one (ps_if (pt_val (pe_ix ix_list (pe_fld (pv 0) rfl) (pv 4) (fun _ _ => rfl))) (pss_one (ps_expr (C8.pe_mt C1 hr (by decide) (pv 0) (pa_cons (pv 3) (pa_cons (pv 4) pa_nil))))) (pss_one (ps_if (PW.pt (pw_and (pt_cmp (pc_isN (pe_ix ix_list (pe_fld (pv 0) rfl) (pv 4) (fun _ _ => rfl)))) (pw_and1 (pt_cmp (pc_notN (pe_ix ix_list (pe_fld (pv 0) rfl) (pv 4) (fun _ _ => rfl))))))) (pss_cons (ps_asg (pv 3) (pg_sub (pe_fld (pv 0) rfl) (pv 4) set_list))
      (pss_cons (ps_asg pe_bl (pg_sub (pe_fld (pv 0) rfl) (pe_ix ix_list (pe_fld (pv 0) rfl) (pv 4) (fun _ _ => rfl)) set_list))
      (pss_one (ps_expr (pe_bm PySem.F.plainAttrs_list PySem.F.slot_list_append PySem.F.type_list_append mt_append (pe_fld (pv 0) rfl) (pa_cons (pe_ix ix_list (pe_fld (pv 0) rfl) (pv 4) (fun _ _ => rfl)) pa_nil)))))) (pss_one (ps_if (PW.pt (pw_and (pt_val (pv 1)) (pw_and1 (pt_cmp (pc_isN (pe_ix ix_list (pe_fld (pv 0) rfl) (pv 4) (fun _ _ => rfl))))))) (pss_cons (ps_asg (pv 3) (pg_sub (pe_fld (pv 0) rfl) (pv 4) set_list))
      (pss_one (ps_ret (pv 4)))) pss_nil))))))))))))
      (pss_one (ps_ret pe_non)))), ?_⟩
    refine ⟨fun f σ H' => ∃ (i : Nat) (S : Blo.St) (a b : Option V), σ = [some (.ref x), some (.bl true), some (.int (i : Nat)), a, b] ∧ SAt K C H0 H' x n ps r mt A S ∧ Bd n r ps mt S ∧ S.left.length + n * (ps.length * f) ≤ 90000 ∧
        Blo.runLoop n mt r k (Blo.nearOf ps) f i S = some res,
      ⟨fu, 0, S, none, none, rfl, h0, B0, hbud, hrun⟩, ?_⟩
    rintro f1 σ H1 ⟨i, S, a, b, rfl, S1, B, hb1, hw⟩
    refine ⟨_, rfl, S1.fLeft TC rfl ⟨A.lf, _, rfl, .inl (SqL.of S1.hl), _, _, rfl, rfl, _, rfl, ?_⟩⟩
    rw [IV_length]
    cases f1 with
    | zero => exact absurd hw (by simp [Blo.runLoop])
    | succ f =>
    simp only [Blo.runLoop] at hw
    cases hg : S.left[i]? with
    | none =>
      rw [hg] at hw
      cases hw
      have hle := List.getElem?_eq_none_iff.mp hg
      exact iteF' _ (decide_eq_false (by omega)) (q H1 S1 B fun z hz => nomatch hz)
    | some one =>
    rw [hg] at hw
    dsimp only at hw
    have hil : i < S.left.length := (List.getElem?_eq_some_iff.mp hg).1
    have h1n : one < n := B.lf one (List.mem_of_getElem? hg)
    cases hsc : Blo.scan n mt r k one (Blo.nearOf ps one) S with
    | none => rw [hsc] at hw; cases hw
    | some sres =>
    rw [hsc] at hw
    refine iteT' _ (decide_eq_true (by omega)) ⟨fun σ H' => ∃ (i : Nat) (S : Blo.St) (a b : Option V), σ = [some (.ref x), some (.bl true), some (.int (i : Nat)), a, b] ∧ SAt K C H0 H' x n ps r mt A S ∧ Bd n r ps mt S ∧ S.left.length + n * (ps.length * f) ≤ 90000 ∧
        Blo.runLoop n mt r k (Blo.nearOf ps) f i S = some res, fun σ' H' h => ⟨f, by omega, h⟩, ?_⟩
    refine seqI (asgI (S1.fLeft TC rfl ⟨_, rfl, A.lf, _, i, _, rfl, rfl, SqL.of S1.hl, atI_nat (IV_at hg), ?_⟩))
    refine ⟨_, rfl, (i : Int), 1, rfl, rfl, ?_⟩
    obtain ⟨vs, hvs, hvl, hvp⟩ := S1.nlen
    obtain ⟨v, hv, na, rfl, hna⟩ := Paired.getR hvp one one (by rw [List.getElem?_range h1n])
    refine gnameI ?_
    dsimp only
    refine forTupI ?_
    refine S1.fNear TC rfl ⟨_, rfl, A.nr, vs, one, _, rfl, rfl, hvs, atI_nat hv, na, rfl, ⟨_, tup_same S1.same hna⟩, ?_⟩
    have hnl := near_len ps one
    refine for_tup (K := K) (a := na) (xs := IV (Blo.nearOf ps one)) (fun j σ' H' => ∃ (S : Blo.St) (o : Option V), σ' = [some (.ref x), some (.bl true), some (.int ((i + 1 : Nat) : Int)), some (.int (one : Nat)), o] ∧ SAt K C H0 H' x n ps r mt A S ∧ Bd n r ps mt S ∧
        S.left.length + n * (((Blo.nearOf ps one).length - j) + ps.length * f) ≤ 90000 ∧ Blo.scan n mt r k one ((Blo.nearOf ps one).drop j) S = some sres)
      ⟨S, b, rfl, S1, B, ?_, hsc⟩ (fun j σ' H' _ ⟨_, _, _, h, _⟩ => tup_same h.same hna) (fun j y σ' H2 hy h => ?_) (fun σ' H2 h => ?_)
    · have e : ps.length * (f + 1) = ps.length * f + ps.length := Nat.mul_succ _ _
      rw [e] at hb1
      have := Nat.mul_le_mul_left n (show (Blo.nearOf ps one).length - 0 + ps.length * f ≤ ps.length * f + ps.length by omega)
      omega
    · obtain ⟨S', o, rfl, S2, B2, hb2, hscan⟩ := h
      obtain ⟨z, hz, rfl⟩ := IV_get hy
      have hzn : z < n := B.nr one z (List.mem_of_getElem? hz)
      have hj : j < (Blo.nearOf ps one).length := (List.getElem?_eq_some_iff.mp hz).1
      rw [drop_at hz] at hscan
      have hb3 := budget hj hb2
      -- what is left behind a turn
      have go : ∀ S3 H3, SAt K C H0 H3 x n ps r mt A S3 → Bd n r ps mt S3 → S3.left.length ≤ S'.left.length + n → Blo.scan n mt r k one ((Blo.nearOf ps one).drop (j + 1)) S3 = some sres →
          ∃ (S : Blo.St) (o : Option V), ([some (.ref x), some (.bl true), some (.int ((i + 1 : Nat) : Int)), some (.int (one : Nat)), some (.int (z : Nat))] : L2.St) = [some (.ref x), some (.bl true), some (.int ((i + 1 : Nat) : Int)), some (.int (one : Nat)), o] ∧ SAt K C H0 H3 x n ps r mt A S ∧ Bd n r ps mt S ∧
            S.left.length + n * (((Blo.nearOf ps one).length - (j + 1)) + ps.length * f) ≤ 90000 ∧ Blo.scan n mt r k one ((Blo.nearOf ps one).drop (j + 1)) S = some sres :=
        fun S3 H3 a1 a2 a3 a4 => ⟨S3, _, rfl, a1, a2, by omega, a4⟩
      refine S2.ixBase TC rfl h1n (var_at rfl) (S2.ixBase (i := z) TC rfl hzn (var_at rfl) ⟨rfl, _, rfl, ?_⟩)
      rw [V_int_inj]
      by_cases c1 : S'.base one = S'.base z
      · rw [Blo.scan, if_pos (.inl c1)] at hscan
        refine iteT' _ (by simpa using c1) (iteT ?_)
        exact go S' H2 S2 B2 (by omega) hscan
      refine iteF' _ (by simpa using c1) ?_
      refine S2.ixMates TC rfl h1n (var_at rfl) ⟨_, rfl, scal_OV _ _, _, rfl, ?_⟩
      rw [OV_int]
      by_cases c2 : mt one = some z
      · rw [Blo.scan, if_pos (.inr c2)] at hscan
        refine iteT' _ (by simpa using c2) ?_
        exact go S' H2 S2 B2 (by omega) hscan
      refine iteF' _ (by simpa using c2) ?_
      rw [Blo.scan, if_neg (fun h => h.elim c1 c2)] at hscan
      refine S2.ixEven (i := z) TC rfl hzn (var_at rfl) ⟨_, rfl, ?_⟩
      cases c3 : S'.even z with
      | true =>
        rw [if_pos c3] at hscan
        cases hsh : Blo.shrink n mt r k S' one z with
        | none => rw [hsh] at hscan; cases hscan
        | some S3 =>
          rw [hsh] at hscan
          dsimp only at hscan
          have hl3 := shrink_left hsh
          refine iteT ⟨_, rfl, x, A.dx, _, rfl, S2.ob, rfl, _, rfl, _, rfl, H0, x, n, r, k, one, z, ps, mt, A, S', S3, rfl, S2, B2, h1n, hzn, hk, hn, by omega, hsh, fun H3 S4 B4 => ?_⟩
          exact go S3 H3 S4 B4 hl3 hscan
      | false =>
        rw [if_neg (by rw [c3]; exact Bool.false_ne_true)] at hscan
        refine iteF ?_
        refine S2.ixBack (i := z) TC rfl hzn (var_at rfl) ⟨_, rfl, ?_⟩
        rw [OV_non]
        have es : (mapV n fun i => OV (S'.back i)).set z (V.int (one : Int)) = mapV n fun i => OV (Blo.put S'.back z (some one) i) := by
          have := mapV_set (n := n) (i := z) (f := fun i => OV (S'.back i)) (g := fun i => OV (Blo.put S'.back z (some one) i)) (OV_put S'.back z one)
          rw [← this]
          show _ = (mapV n fun i => OV (S'.back i)).set z (OV (Blo.put S'.back z (some one) z))
          rw [Blo.put_same]
          rfl
        cases c5 : mt z with
        | none =>
          rw [c5] at hscan
          cases hscan
          cases hw
          by_cases c4 : S'.back z = none
          refine iteT' _ (decide_eq_true c4) (S2.ixMates (i := z) TC rfl hzn (var_at rfl) ⟨_, rfl, ?_⟩)
          rw [OV_non]
          refine iteF' _ (by rw [c5]; rfl) ?_
          refine ⟨_, rfl, true, rfl, ?_⟩
          refine iteT (S2.ixMates (i := z) TC rfl hzn (var_at rfl) ⟨_, rfl, ?_⟩)
          rw [OV_non]
          refine iteT' _ (decide_eq_true c5) ?_
          refine seqI (asgI ⟨_, rfl, gsubI (S2.fBack TC rfl ⟨_, rfl, A.bk, _, z, z, rfl, rfl, S2.hb, ixN_at (by rw [mapV_len]; exact hzn), ?_⟩)⟩)
          rw [es]
          exact ⟨_, rfl, q _ (S2.setBack _) (Bd.putBack B2 h1n) fun u hu => by cases hu; exact hzn⟩
          refine iteF' _ (decide_eq_false c4) ?_
          refine ⟨_, rfl, true, rfl, ?_⟩
          refine iteT (S2.ixMates (i := z) TC rfl hzn (var_at rfl) ⟨_, rfl, ?_⟩)
          rw [OV_non]
          refine iteT' _ (decide_eq_true c5) ?_
          refine seqI (asgI ⟨_, rfl, gsubI (S2.fBack TC rfl ⟨_, rfl, A.bk, _, z, z, rfl, rfl, S2.hb, ixN_at (by rw [mapV_len]; exact hzn), ?_⟩)⟩)
          rw [es]
          exact ⟨_, rfl, q _ (S2.setBack _) (Bd.putBack B2 h1n) fun u hu => by cases hu; exact hzn⟩
        | some m =>
          rw [c5] at hscan
          dsimp only at hscan
          have hmn := B.mt z m c5
          by_cases c4 : S'.back z = none
          · rw [if_pos c4] at hscan
            refine iteT' _ (decide_eq_true c4) (S2.ixMates (i := z) TC rfl hzn (var_at rfl) ⟨_, rfl, ?_⟩)
            rw [OV_non]
            refine iteT' _ (by rw [c5]; rfl) ?_
            refine seqI (asgI ⟨_, rfl, gsubI (S2.fBack TC rfl ⟨_, rfl, A.bk, _, z, z, rfl, rfl, S2.hb, ixN_at (by rw [mapV_len]; exact hzn), ?_⟩)⟩)
            rw [es]
            have S3 : SAt K C H0 (upd H2 A.bk (.lst (mapV n fun i => OV (Blo.put S'.back z (some one) i)))) x n ps r mt A { S' with back := Blo.put S'.back z (some one) } := S2.setBack _
            have B3 := Bd.putBack (z := z) B2 h1n
            generalize upd H2 A.bk (.lst (mapV n fun i => OV (Blo.put S'.back z (some one) i))) = H3 at S3 ⊢
            -- the even
            refine seqI (asgC (gsubI (S3.fEven TC rfl (S3.ixMates (i := z) TC rfl hzn (var_at rfl) ?_))))
            rw [c5]
            refine ⟨A.ev, _, m, m, rfl, rfl, S3.he, ixN_at (by rw [mapV_len]; exact hmn), ?_⟩
            have ev : (mapV n fun i => V.bl (S'.even i)).set m (V.bl true) = mapV n fun i => V.bl (Blo.put S'.even m true i) := by
              have := mapV_set (n := n) (i := m) (f := fun i => V.bl (S'.even i)) (g := fun i => V.bl (Blo.put S'.even m true i)) (fun i hi => by rw [Blo.put_ne _ _ hi])
              rw [← this]
              show _ = (mapV n fun i => V.bl (S'.even i)).set m (V.bl (Blo.put S'.even m true m))
              rw [Blo.put_same]
            rw [ev]
            have S4 : SAt K C H0 (upd H3 A.ev (.lst (mapV n fun i => .bl (Blo.put S'.even m true i)))) x n ps r mt A { S' with back := Blo.put S'.back z (some one), even := Blo.put S'.even m true } := S3.setEven _
            generalize upd H3 A.ev (.lst (mapV n fun i => .bl (Blo.put S'.even m true i))) = H4 at S4 ⊢
            refine dropI (bmI (S4.fLeft TC rfl ⟨.inl ⟨rfl, _, SqL.of S4.hl⟩, S4.ixMates (i := z) TC rfl hzn (var_at rfl) ?_⟩))
            rw [c5]
            refine ⟨A.lf, _, _, rfl, rfl, S4.hl, ?_, ?_⟩
            · rw [IV_length]
              exact size_lt (by show S'.left.length < _; omega)
            · have el : IV S'.left ++ [V.int (m : Int)] = IV (S'.left ++ [m]) := by rw [IV_append]; rfl
              have S5 := S4.setLeft (S'.left ++ [m])
              rw [← el] at S5
              refine go _ _ S5 ⟨B3.rt, B3.mt, B3.bk, B3.bs, fun u hu => ?_, B3.nr⟩ ?_ hscan
              · rcases List.mem_append.mp hu with h | h
                · exact B2.lf u h
                · rw [List.mem_singleton.mp h]
                  exact hmn
              · show (S'.left ++ [m]).length ≤ _
                rw [List.length_append]
                simp only [List.length_cons, List.length_nil]
                omega
          · rw [if_neg c4] at hscan
            refine iteF' _ (decide_eq_false c4) ?_
            refine ⟨_, rfl, true, rfl, ?_⟩
            refine iteT (S2.ixMates (i := z) TC rfl hzn (var_at rfl) ⟨_, rfl, ?_⟩)
            rw [OV_non]
            refine iteF' _ (decide_eq_false (by rw [c5]; exact nofun)) ?_
            exact go S' H2 S2 B2 (by omega) hscan
    · obtain ⟨S', o, rfl, S2, B2, hb2, hscan⟩ := h
      rw [IV_length, List.drop_length] at hscan
      cases hscan
      rw [IV_length, Nat.sub_self, Nat.zero_add] at hb2
      exact ⟨i + 1, S', _, _, rfl, S2, B2, hb2, hw⟩
end
end G
set_option Elab.async false
set_option linter.all false
set_option maxRecDepth 100000
set_option maxHeartbeats 4000000
set_option pp.maxSteps 1200
namespace G
open PySem PySem.Spec PyProof.Rows L2
open Blo (Pr)

/-- the class by its name -/
structure Dk (K : PySem.W.Frag) (mg : Str → Option Value) (C : Addr) (st : Stmt) (ps : List Str) : Prop where
  ex : ∃ f fd, Fun K "__init__" "Search.__init__" st f fd ∧ Mk K C f ∧ mg "Search" = some (.ref C) ∧ Binds K fd ps []
theorem stepH {Pm : Hp → Prop} {H' : Hp} (F : Hp → Prop) (hF : F H') (h : ∀ H, F H → Pm H) : Pm H' := h _ hF
theorem non_rep (n : Nat) : (List.replicate n [V.non]).flatten = mapV n fun i => OV ((fun _ => none : Nat → Option Nat) i) := by
  unfold mapV
  induction n with
  | zero => rfl
  | succ n ih =>
    rw [List.replicate_succ, List.flatten_cons, ih, List.range_succ_eq_map, List.map_cons, List.map_map]
    rfl
theorem rgV_map (n : Nat) : rgV 0 (n : Int) = mapV n fun i => .int (i : Nat) := by
  unfold rgV mapV
  rw [Int.sub_zero, Int.toNat_natCast]
  exact List.map_congr_left fun i _ => by rw [Int.zero_add]
theorem mapV_take {n i : Nat} {f : Nat → V} (h : i < n) : mapV (i + 1) f = mapV i f ++ [f i] := by
  unfold mapV
  rw [List.range_succ, List.map_append]
  rfl

section
variable {P : Program} {w : World} {K : PySem.W.Frag} {mg : Str → Option Value} {base : Heap} {C : Addr}
theorem mak_of {st : Stmt} {N ps : List Str} {k : Nat} {sp : Sp} (D : Dk K mg C st ps) (S : FnScope N ps (defScope st)) (len : ∀ vs H Q E, sp vs H Q E → vs.length = ps.length)
    (hb : ∀ (f : Addr) (cdv : Value) (A : Around) (outer : List Env) (s : Shared) (H : Hp) (vs : List V) (Q : VK) (E : XK), Room k (A.deeper (envOfC "Search.__init__" (defScope st) s.heap.objs.size f cdv)) → sp vs H Q E →
      ∃ t, PSs (cxOf CX0 P w K mg base N "Search.__init__" (defScope st) f cdv A outer s H E).nox (defBody st) t ∧ t { nx := fun _ H' => Q .non H', rt := Q } (start N vs) H) : C8.Mak P w K mg base (k + 1) "Search" C sp [] := by
  obtain ⟨f, fd, F, M, hm, b⟩ := D.ex
  exact ⟨f, fd, ps, [], M, F.ok S len (hb f), hm, b, .nil⟩

theorem scInit : FnScope ["self", "near", "plan", "root", "one", "other", "person"] ["self", "near", "plan", "root"] (defScope sInit) := ⟨rfl, rfl, rfl, by decide +kernel, rfl, by decide +kernel, by decide +kernel⟩
def spInit (K : PySem.W.Frag) (C : Addr) : Sp := fun vs H Q _ => ∃ (H0 : Hp) (x dx nr : Addr) (u : V) (n r : Nat) (ps p : List Pr), vs = [.ref x, .ref nr, u, .int (r : Nat)] ∧ Same H0 H ∧ H0 x = none ∧ H x = some (.ins C dx []) ∧ NearV K H0 nr n ps ∧ PlanV K H0 u p ∧
  (∀ e ∈ p, e.1 < n ∧ e.2 < n) ∧ n ≤ 1000 ∧ r < n ∧ ∀ (A : Ad) H', SAt K C H0 H' x n ps r (Blo.matesOf p) A (Blo.start r) → Q .non H'
theorem ok_init (D : Dk K mg C sInit ["self", "near", "plan", "root"]) (T : Nm mg) (TC : Ct K C) : C8.Mak P w K mg base 1 "Search" C (spInit K C) [] := by
  refine mak_of D scInit (fun vs H Q E h => ?_) (fun f cdv A' outer s H vs Q E hr h => ?_)
  · obtain ⟨H0, x, dx, nr, u, n, r, ps, p, rfl, _⟩ := h
    rfl
  · obtain ⟨H0, x, dx, nr, u, n, r, ps, p, rfl, s0, x0, o0, hN, hP, hpn, hn, hrn, q⟩ := h
    refine ⟨_, pss_cons (ps_fld (pv 0) (pv 1) (by rfl)) (pss_cons (ps_fld (pv 0) (pv 3) (by rfl))
      (pss_cons (ps_fld (pv 0) (pe_op op_rep (pe_lst (pa_cons pe_non pa_nil)) (pe_callB call_len_seq (by rfl) T.len PySem.boot_len (pa_cons (pv 1) pa_nil))) (by rfl))
      (pss_cons (ps_for PassesOwn.never rfl (pi_tup (pv 2)) (pg_tup rfl (pgs_cons (pg_name (i := 4) scInit.nd rfl (.inl rfl)) (pgs_cons (pg_name (i := 5) scInit.nd rfl (.inl rfl)) pgs_nil)))
        (pss_one (ps_asg (pe_tup (pa_cons (pv 5) (pa_cons (pv 4) pa_nil))) (pg_tup rfl (pgs_cons (pg_sub (pe_fld (pv 0) rfl) (pv 4) set_list) (pgs_cons (pg_sub (pe_fld (pv 0) rfl) (pv 5) set_list) pgs_nil))))))
      (pss_cons (ps_fld (pv 0) (pe_op op_rep (pe_lst (pa_cons pe_non pa_nil)) (pe_callB call_len_seq (by rfl) T.len PySem.boot_len (pa_cons (pv 1) pa_nil))) (by rfl))
      (pss_cons (ps_fld (pv 0) (pe_listRg rfl (by rfl) T.list (prg_1 (by rfl) T.range (pe_callB call_len_seq (by rfl) T.len PySem.boot_len (pa_cons (pv 1) pa_nil)))) (by rfl))
      (pss_cons (ps_fld (pv 0) (pe_lc (own := [("person", 6)]) (g := gName 6) (tt := tYes) rfl scInit.nd (pi_range1 rfl T.range (pa_cons (pe_callB call_len_seq (by rfl) T.len PySem.boot_len (pa_cons (pv 1) pa_nil)) pa_nil))
          (blkOk_by (N := ["self", "near", "plan", "root", "one", "other", "person"]) (sc := defScope sInit) (by decide +kernel)) (fun _ _ _ _ _ => pg_name (i := 6) scInit.nd rfl (Or.inl rfl)) (fun _ _ _ _ _ => pts_nil)
          (fun _ _ _ _ _ => pe_cmpR op_eq (pv 6) (pv 3) (nomark _))) (by rfl))
      (pss_one (ps_fld (pv 0) (pe_lst (pa_cons (pv 3) pa_nil)) (by rfl))))))))), ?_⟩
    obtain ⟨vs, hvs, hvp⟩ := hN
    have hvl : vs.length = n := by
      have := hvp.length
      rwa [List.length_range] at this
    obtain ⟨pa, pvs, rfl, hpa, hpp⟩ := hP
    have hpl := hpp.length
    -- near
    refine ⟨_, rfl, _, rfl, x, C, dx, _, rfl, o0, TC.cl, TC.nr, by show 0 < 1000; decide, ?_⟩
    refine stepH (fun H1 => Same H0 H1 ∧ H1 x = some (.ins C dx [("near", .ref nr)])) ⟨Same.mut s0 x0, upd_same⟩ fun H1 ⟨s1, o1⟩ => ?_
    -- root
    refine ⟨_, rfl, _, rfl, x, C, dx, _, rfl, o1, TC.cl, TC.ro, by show 1 < 1000; decide, ?_⟩
    refine stepH (fun H1 => Same H0 H1 ∧ H1 x = some (.ins C dx [("near", .ref nr), ("root", .int (r : Nat))])) ⟨Same.mut s1 x0, upd_same⟩ fun H2 ⟨s2, o2⟩ => ?_
    -- mates
    have nonL : [V.non].length * ((vs.length : Nat) : Int).toNat ≤ sizeLine := by
      rw [hvl, Int.toNat_natCast]
      exact size_le (by simp only [List.length_cons, List.length_nil]; omega)
    refine ⟨by show 1 ≤ sizeLine; decide, fun L1 hL1 => ?_⟩
    have z : Same H0 (upd H2 L1 (.lst [.non])) ∧ (upd H2 L1 (.lst [.non])) x = some (.ins C dx [("near", .ref nr), ("root", .int (r : Nat))]) ∧ (upd H2 L1 (.lst [.non])) L1 = some (.lst [.non]) := ⟨s2.trans (same_upd hL1), same_upd hL1 _ _ o2, upd_same⟩
    generalize upd H2 L1 (.lst [.non]) = H3 at z ⊢
    obtain ⟨s3, o3, l3⟩ := z
    refine ⟨_, rfl, nr, vs, rfl, .inl (s3.seq hvs), L1, _, _, rfl, rfl, l3, by omega, by omega, nonL, fun M hM => ?_⟩
    have hM0 := s3.free hM
    rw [Int.toNat_natCast, hvl, non_rep]
    have z : Same H0 (upd H3 M (.lst (mapV n fun i => OV ((fun _ => none : Nat → Option Nat) i)))) ∧ (upd H3 M (.lst (mapV n fun i => OV ((fun _ => none : Nat → Option Nat) i)))) x = some (.ins C dx [("near", .ref nr), ("root", .int (r : Nat))]) ∧ (upd H3 M (.lst (mapV n fun i => OV ((fun _ => none : Nat → Option Nat) i)))) M = some (.lst (mapV n fun i => OV ((fun _ => none : Nat → Option Nat) i))) := ⟨s3.trans (same_upd hM), same_upd hM _ _ o3, upd_same⟩
    generalize upd H3 M (.lst (mapV n fun i => OV ((fun _ => none : Nat → Option Nat) i))) = H4 at z ⊢
    obtain ⟨s4, o4, m4⟩ := z
    have hMx : M ≠ x := fun e => by
      rw [e, o4] at m4
      cases m4
    refine ⟨_, rfl, x, C, dx, _, rfl, o4, TC.cl, TC.mt, by show 2 < 1000; decide, ?_⟩
    refine stepH (fun H1 => Same H0 H1 ∧ H1 x = some (.ins C dx [("near", .ref nr), ("root", .int (r : Nat)), ("mates", .ref M)]) ∧ H1 M = some (.lst (mapV n fun i => OV ((fun _ => none : Nat → Option Nat) i)))) ⟨Same.mut s4 x0, upd_same, by rw [upd_ne hMx]; exact m4⟩ fun H5 ⟨s5, o5, m5⟩ => ?_
    -- the plan
    refine ⟨_, rfl, pa, rfl, ⟨_, tup_same s5 hpa⟩, ?_⟩
    refine for_tup (K := K) (a := pa) (xs := pvs) (fun i σ H' => ∃ a b, σ = [some (.ref x), some (.ref nr), some (.ref pa), some (.int (r : Nat)), a, b, none] ∧ Same H0 H' ∧ H' x = some (.ins C dx [("near", .ref nr), ("root", .int (r : Nat)), ("mates", .ref M)]) ∧ H' M = some (.lst (mapV n fun i_1 => OV (Blo.matesOf (p.take i) i_1))))
      ⟨none, none, rfl, s5, o5, m5⟩ (fun i σ H' _ ⟨_, _, _, h, _⟩ => tup_same h hpa) (fun i y σ H6 hy h => ?_) (fun σ H6 h => ?_)
    · obtain ⟨a, b, rfl, s6, o6, m6⟩ := h
      obtain ⟨e, he, t, rfl, ht⟩ := Paired.get hpp i y hy
      obtain ⟨hn1, hn2⟩ := hpn e (List.mem_of_getElem? he)
      refine ⟨t, _, rfl, tup_same s6 ht, rfl, _, _, rfl, _, _, rfl, rfl, ?_⟩
      refine ⟨_, rfl, _, rfl, by show 2 ≤ sizeLine; decide, fun U hU => ?_⟩
      have s7 := s6.trans (same_upd (o := .tup [.int (e.2 : Int), .int (e.1 : Int)]) hU)
      have o7 := same_upd (o := .tup [.int (e.2 : Int), .int (e.1 : Int)]) hU _ _ o6
      have m7 := same_upd (o := .tup [.int (e.2 : Int), .int (e.1 : Int)]) hU _ _ m6
      have u7 : upd H6 U (.tup [.int (e.2 : Int), .int (e.1 : Int)]) U = some (.tup [.int (e.2 : Int), .int (e.1 : Int)]) := upd_same
      generalize upd H6 U (.tup [.int (e.2 : Int), .int (e.1 : Int)]) = H7 at s7 o7 m7 u7 ⊢
      have st : ∀ (f : Nat → Option Nat) (i k : Nat), (mapV n fun j => OV (f j)).set i (V.int (k : Int)) = mapV n fun j => OV (Blo.put f i (some k) j) := fun f i k => by
        rw [← mapV_set (n := n) (i := i) (f := fun j => OV (f j)) (g := fun j => OV (Blo.put f i (some k) j)) (OV_put f i k)]
        show _ = (mapV n fun j => OV (f j)).set i (OV (Blo.put f i (some k) i))
        rw [Blo.put_same]
        rfl
      refine ⟨U, _, rfl, SqT.of u7, rfl, _, _, rfl, gsubI ⟨_, rfl, x, C, dx, _, _, rfl, o7, TC.cl, TC.mt, rfl, _, rfl, M, _, e.1, e.1, rfl, rfl, m7, ixN_at (by rw [mapV_len]; exact hn1), ?_⟩⟩
      rw [st]
      have s8 := Same.mut (o := .lst (mapV n fun j => OV (Blo.put (Blo.matesOf (p.take i)) e.1 (some e.2) j))) s7 hM0
      have o8 : upd H7 M (.lst (mapV n fun j => OV (Blo.put (Blo.matesOf (p.take i)) e.1 (some e.2) j))) x = some (.ins C dx [("near", .ref nr), ("root", .int (r : Nat)), ("mates", .ref M)]) := by rw [upd_ne hMx.symm]; exact o7
      have m8 : upd H7 M (.lst (mapV n fun j => OV (Blo.put (Blo.matesOf (p.take i)) e.1 (some e.2) j))) M = some (.lst (mapV n fun j => OV (Blo.put (Blo.matesOf (p.take i)) e.1 (some e.2) j))) := upd_same
      generalize upd H7 M (.lst (mapV n fun j => OV (Blo.put (Blo.matesOf (p.take i)) e.1 (some e.2) j))) = H8 at s8 o8 m8 ⊢
      refine ⟨_, _, rfl, gsubI ⟨_, rfl, x, C, dx, _, _, rfl, o8, TC.cl, TC.mt, rfl, _, rfl, M, _, e.2, e.2, rfl, rfl, m8, ixN_at (by rw [mapV_len]; exact hn2), ?_⟩⟩
      rw [st]
      refine ⟨rfl, _, _, rfl, Same.mut s8 hM0, by rw [upd_ne hMx.symm]; exact o8, ?_⟩
      rw [upd_same, List.take_add_one, he]
      unfold Blo.matesOf Blo.matesFrom
      rw [List.foldl_append]
      rfl
    obtain ⟨a, b, rfl, s6, o6, m6⟩ := h
    rw [hpl, List.take_length] at m6
    have l0 : [V.non].length * ((vs.length : Nat) : Int).toNat ≤ sizeLine := nonL
    -- back
    refine ⟨by show 1 ≤ sizeLine; decide, fun L2 hL2 => ?_⟩
    have z : Same H0 (upd H6 L2 (.lst [.non])) ∧ (upd H6 L2 (.lst [.non])) x = some (.ins C dx [("near", .ref nr), ("root", .int (r : Nat)), ("mates", .ref M)]) ∧ (upd H6 L2 (.lst [.non])) M = some (.lst (mapV n fun i => OV (Blo.matesOf p i))) ∧ (upd H6 L2 (.lst [.non])) L2 = some (.lst [.non]) := ⟨s6.trans (same_upd hL2), same_upd hL2 _ _ o6, same_upd hL2 _ _ m6, upd_same⟩
    generalize upd H6 L2 (.lst [.non]) = H7 at z ⊢
    obtain ⟨s7, o7, m7, l7⟩ := z
    refine ⟨_, rfl, nr, vs, rfl, .inl (s7.seq hvs), L2, _, _, rfl, rfl, l7, by omega, by omega, nonL, fun B hB => ?_⟩
    have hB0 := s7.free hB
    have hBx : B ≠ x := (ne_of_none o7 hB).symm
    have hMB : M ≠ B := ne_of_none m7 hB
    rw [Int.toNat_natCast, hvl, non_rep]
    have z : Same H0 (upd H7 B (.lst (mapV n fun i => OV ((fun _ => none : Nat → Option Nat) i)))) ∧ (upd H7 B (.lst (mapV n fun i => OV ((fun _ => none : Nat → Option Nat) i)))) x = some (.ins C dx [("near", .ref nr), ("root", .int (r : Nat)), ("mates", .ref M)]) ∧ (upd H7 B (.lst (mapV n fun i => OV ((fun _ => none : Nat → Option Nat) i)))) M = some (.lst (mapV n fun i => OV (Blo.matesOf p i))) ∧ (upd H7 B (.lst (mapV n fun i => OV ((fun _ => none : Nat → Option Nat) i)))) B = some (.lst (mapV n fun i => OV ((fun _ => none : Nat → Option Nat) i))) := ⟨s7.trans (same_upd hB), same_upd hB _ _ o7, same_upd hB _ _ m7, upd_same⟩
    generalize upd H7 B (.lst (mapV n fun i => OV ((fun _ => none : Nat → Option Nat) i))) = H8 at z ⊢
    obtain ⟨s8, o8, m8, b8⟩ := z
    refine ⟨_, rfl, x, C, dx, _, rfl, o8, TC.cl, TC.bk, by show 3 < 1000; decide, ?_⟩
    refine stepH (fun H1 => Same H0 H1 ∧ H1 x = some (.ins C dx [("near", .ref nr), ("root", .int (r : Nat)), ("mates", .ref M), ("back", .ref B)]) ∧ H1 M = some (.lst (mapV n fun i => OV (Blo.matesOf p i))) ∧ H1 B = some (.lst (mapV n fun i => OV ((fun _ => none : Nat → Option Nat) i)))) ⟨Same.mut s8 x0, upd_same, by rw [upd_ne hMx]; exact m8, by rw [upd_ne hBx]; exact b8⟩ fun H9 ⟨s9, o9, m9, b9⟩ => ?_
    -- base
    refine ⟨_, rfl, nr, vs, rfl, .inl (s9.seq hvs), _, rfl, RgOk.of_le (by omega) (by omega) (by omega) (by omega), fun S hS => ?_⟩
    have hS0 := s9.free hS
    have hSx : S ≠ x := (ne_of_none o9 hS).symm
    have hMS : M ≠ S := ne_of_none m9 hS
    have hBS : B ≠ S := ne_of_none b9 hS
    rw [hvl, rgV_map]
    have z : Same H0 (upd H9 S (.lst (mapV n fun i => .int (i : Nat)))) ∧ (upd H9 S (.lst (mapV n fun i => .int (i : Nat)))) x = some (.ins C dx [("near", .ref nr), ("root", .int (r : Nat)), ("mates", .ref M), ("back", .ref B)]) ∧ (upd H9 S (.lst (mapV n fun i => .int (i : Nat)))) M = some (.lst (mapV n fun i => OV (Blo.matesOf p i))) ∧ (upd H9 S (.lst (mapV n fun i => .int (i : Nat)))) B = some (.lst (mapV n fun i => OV ((fun _ => none : Nat → Option Nat) i))) ∧ (upd H9 S (.lst (mapV n fun i => .int (i : Nat)))) S = some (.lst (mapV n fun i => .int (i : Nat))) := ⟨s9.trans (same_upd hS), same_upd hS _ _ o9, same_upd hS _ _ m9, same_upd hS _ _ b9, upd_same⟩
    generalize upd H9 S (.lst (mapV n fun i => .int (i : Nat))) = H10 at z ⊢
    obtain ⟨s10, o10, m10, b10, c10⟩ := z
    refine ⟨_, rfl, x, C, dx, _, rfl, o10, TC.cl, TC.bs, by show 4 < 1000; decide, ?_⟩
    refine stepH (fun H1 => Same H0 H1 ∧ H1 x = some (.ins C dx [("near", .ref nr), ("root", .int (r : Nat)), ("mates", .ref M), ("back", .ref B), ("base", .ref S)]) ∧ H1 M = some (.lst (mapV n fun i => OV (Blo.matesOf p i))) ∧ H1 B = some (.lst (mapV n fun i => OV ((fun _ => none : Nat → Option Nat) i))) ∧ H1 S = some (.lst (mapV n fun i => .int (i : Nat)))) ⟨Same.mut s10 x0, upd_same, by rw [upd_ne hMx]; exact m10, by rw [upd_ne hBx]; exact b10, by rw [upd_ne hSx]; exact c10⟩ fun H11 ⟨s11, o11, m11, b11, c11⟩ => ?_
    -- even
    refine ⟨_, rfl, nr, vs, rfl, .inl (s11.seq hvs), ?_⟩
    refine ⟨n, by rw [hvl], by omega, by omega, fun E2 hE => ?_⟩
    have hE0 := s11.free hE
    have hEx : E2 ≠ x := (ne_of_none o11 hE).symm
    have hME : M ≠ E2 := ne_of_none m11 hE
    have hBE : B ≠ E2 := ne_of_none b11 hE
    have hSE : S ≠ E2 := ne_of_none c11 hE
    refine it_range (lo := 0) (n := ((n : Nat) : Int).toNat) (fun i H' => Same H11 H' ∧ H' E2 = some (.lst (mapV i fun i => .bl (decide (i = r))))) ⟨same_upd hE, upd_same⟩ (fun i H12 hi h => ?_) (fun H12 h => ?_)
    · obtain ⟨s12, e12⟩ := h
      have hin : i < n := by simpa using hi
      have e1 : V.int (0 + ((i : Nat) : Int)) = V.int (i : Int) := by rw [Int.zero_add]
      refine ⟨rfl, yes (iteT ⟨_, rfl, _, rfl, rfl, _, e12, ?_, Same.mut s12 hE, ?_⟩)⟩
      · rw [mapV_len]
        exact size_lt (by omega)
      · rw [upd_same, e1, V_int_inj, ← mapV_take hin]
    obtain ⟨s12', e12⟩ := h
    rw [Int.toNat_natCast] at e12
    have s12 := s11.trans s12'
    have o12 := s12' _ _ o11
    have m12 := s12' _ _ m11
    have b12 := s12' _ _ b11
    have c12 := s12' _ _ c11
    clear s12'
    refine ⟨_, rfl, x, C, dx, _, rfl, o12, TC.cl, TC.ev, by show 5 < 1000; decide, ?_⟩
    refine stepH (fun H1 => Same H0 H1 ∧ H1 x = some (.ins C dx [("near", .ref nr), ("root", .int (r : Nat)), ("mates", .ref M), ("back", .ref B), ("base", .ref S), ("even", .ref E2)]) ∧ H1 M = some (.lst (mapV n fun i => OV (Blo.matesOf p i))) ∧ H1 B = some (.lst (mapV n fun i => OV ((fun _ => none : Nat → Option Nat) i))) ∧ H1 S = some (.lst (mapV n fun i => .int (i : Nat))) ∧ H1 E2 = some (.lst (mapV n fun i => .bl (decide (i = r))))) ⟨Same.mut s12 x0, upd_same, by rw [upd_ne hMx]; exact m12, by rw [upd_ne hBx]; exact b12, by rw [upd_ne hSx]; exact c12, by rw [upd_ne hEx]; exact e12⟩ fun H13 ⟨s13, o13, m13, b13, c13, e13⟩ => ?_
    -- left
    refine ⟨_, rfl, by show 1 ≤ sizeLine; decide, fun F hF => ?_⟩
    have hF0 := s13.free hF
    have hFx : F ≠ x := (ne_of_none o13 hF).symm
    have hMF : M ≠ F := ne_of_none m13 hF
    have hBF : B ≠ F := ne_of_none b13 hF
    have hSF : S ≠ F := ne_of_none c13 hF
    have hEF : E2 ≠ F := ne_of_none e13 hF
    have z : Same H0 (upd H13 F (.lst [.int (r : Nat)])) ∧ (upd H13 F (.lst [.int (r : Nat)])) x = some (.ins C dx [("near", .ref nr), ("root", .int (r : Nat)), ("mates", .ref M), ("back", .ref B), ("base", .ref S), ("even", .ref E2)]) ∧ (upd H13 F (.lst [.int (r : Nat)])) M = some (.lst (mapV n fun i => OV (Blo.matesOf p i))) ∧ (upd H13 F (.lst [.int (r : Nat)])) B = some (.lst (mapV n fun i => OV ((fun _ => none : Nat → Option Nat) i))) ∧ (upd H13 F (.lst [.int (r : Nat)])) S = some (.lst (mapV n fun i => .int (i : Nat))) ∧ (upd H13 F (.lst [.int (r : Nat)])) E2 = some (.lst (mapV n fun i => .bl (decide (i = r)))) ∧ (upd H13 F (.lst [.int (r : Nat)])) F = some (.lst [.int (r : Nat)]) := ⟨s13.trans (same_upd hF), same_upd hF _ _ o13, same_upd hF _ _ m13, same_upd hF _ _ b13, same_upd hF _ _ c13, same_upd hF _ _ e13, upd_same⟩
    generalize upd H13 F (.lst [.int (r : Nat)]) = H14 at z ⊢
    obtain ⟨s14, o14, m14, b14, c14, e14, f14⟩ := z
    refine ⟨_, rfl, x, C, dx, _, rfl, o14, TC.cl, TC.lf, by show 6 < 1000; decide, ?_⟩
    refine q ⟨dx, nr, M, B, S, E2, F⟩ _ ?_
    exact ⟨Same.mut s14 x0, x0, hM0, hB0, hS0, hE0, hF0, upd_same, ⟨vs, hvs, hvp⟩, by rw [upd_ne hMx]; exact m14, by rw [upd_ne hBx]; exact b14, by rw [upd_ne hSx]; exact c14, by rw [upd_ne hEx]; exact e14, by rw [upd_ne hFx]; exact f14,
      hMB, hMS, hME, hMF, hBS, hBE, hBF, hSE, hSF, hEF⟩
end
end G
set_option Elab.async false
set_option linter.all false
set_option maxRecDepth 100000
set_option maxHeartbeats 4000000
set_option pp.maxSteps 1200
namespace G
open PySem PySem.Spec PyProof.Rows L2
open Blo (Pr)
abbrev sGrown : Stmt := topS 24
abbrev sLargest : Stmt := topS 25

/-- a plan or None -/
def OptV (K : PySem.W.Frag) (H : Hp) (v : V) : Option (List Pr) → Prop
  | none => v = .non
  | some q => PlanV K H v q
theorem matesOf_lt {n : Nat} {ps p : List Pr} (W : Blo.WebOk n ps) (PL : Blo.IsPlan ps p) (i k : Nat) (h : Blo.matesOf p i = some k) : k < n := by
  rcases (Blo.mates_iff W PL).mp h with h | h
  · exact (W.lt _ (PL.1.subset h)).2
  · have := W.lt _ (PL.1.subset h)
    have h1 := this.1
    have h2 := this.2
    show k < n
    exact Nat.lt_trans h1 h2
theorem nearOf_lt {n : Nat} {ps : List Pr} (W : Blo.WebOk n ps) (u z : Nat) (h : z ∈ Blo.nearOf ps u) : z < n := by
  unfold Blo.nearOf at h
  obtain ⟨e, he, rfl⟩ := List.mem_map.mp h
  have := W.lt _ (List.mem_filter.mp he).1
  split <;> omega

section
variable {P : Program} {w : World} {K : PySem.W.Frag} {mg : Str → Option Value} {base : Heap} {C : Addr}
/-- a def by its name, its function known -/
structure CalK (P : Program) (w : World) (K : PySem.W.Frag) (mg : Str → Option Value) (base : Heap) (k : Nat) (x : Str) (st : Stmt) (ps : List Str) (sp : Sp) : Prop where
  ex : ∃ f fd, Fun K x x st f fd ∧ mg x = some (.ref f) ∧ Binds K fd ps [] ∧ FnOk P w K mg base CX0 k f fd ps sp
theorem CalK.cal {k : Nat} {x : Str} {st : Stmt} {ps : List Str} {sp : Sp} (c : CalK P w K mg base k x st ps sp) : C8.Cal P w K mg base k x sp [] := by
  obtain ⟨f, fd, F, hm, b, ok⟩ := c.ex
  exact ⟨f, fd, ps, [], ok, hm, F.kp, b, .nil⟩
theorem calK_of {x : Str} {st : Stmt} {N ps : List Str} {k : Nat} {sp : Sp} (D : Df K mg x st ps) (S : FnScope N ps (defScope st)) (len : ∀ vs H Q E, sp vs H Q E → vs.length = ps.length)
    (hb : ∀ (f : Addr) (cdv : Value) (A : Around) (outer : List Env) (s : Shared) (H : Hp) (vs : List V) (Q : VK) (E : XK), Room k (A.deeper (envOfC x (defScope st) s.heap.objs.size f cdv)) → sp vs H Q E →
      ∃ t, PSs (cxOf CX0 P w K mg base N x (defScope st) f cdv A outer s H E).nox (defBody st) t ∧ t { nx := fun _ H' => Q .non H', rt := Q } (start N vs) H) : CalK P w K mg base (k + 1) x st ps sp := by
  obtain ⟨f, fd, F, hm, b⟩ := D.ex
  exact ⟨f, fd, F, hm, b, F.ok S len (hb f)⟩
theorem scGrown : FnScope ["web", "plan", "near", "root", "search", "last"] ["web", "plan"] (defScope sGrown) := ⟨rfl, rfl, rfl, by decide +kernel, rfl, by decide +kernel, by decide +kernel⟩
def spGrown (K : PySem.W.Frag) : Sp := fun vs H Q _ => ∃ (u v : V) (n : Nat) (ps p : List Pr) (g : Option (List Pr)), vs = [u, v] ∧ WebV K H u n ps ∧ PlanV K H v p ∧ Blo.WebOk n ps ∧ Blo.IsPlan ps p ∧ n ≤ 20 ∧ ps.length ≤ 1000 ∧ 1 + n * (ps.length * (n + 1)) ≤ 90000 ∧
  Blo.grownM n ps p = some g ∧ ∀ v' H', Same H H' → OptV K H' v' g → Q v' H'
theorem ok_grown (D : Df K mg "grown_plan" sGrown ["web", "plan"]) (T : Nm mg) (TC : Ct K C) (C1 : C8.Cal P w K mg base 2 "near_of" (spNearOf K) []) (C2 : C8.Cal P w K mg base 2 "unserved" (spUnserved K) [])
    (C3 : C8.Mak P w K mg base 1 "Search" C (spInit K C) []) (C4 : C8.Met P w K mg base 3 C "run" (spRun K C) []) (C5 : C8.Met P w K mg base 1 C "way" (spWay K C) []) (C6 : C8.Cal P w K mg base 6 "turned" (spTurned K) []) :
    CalK P w K mg base 7 "grown_plan" sGrown ["web", "plan"] (spGrown K) := by
  refine calK_of D scGrown (fun vs H Q E h => ?_) (fun f cdv A' outer s H vs Q E hr h => ?_)
  · obtain ⟨u, v, n, ps, p, g, rfl, _⟩ := h
    rfl
  · obtain ⟨u, v, n, ps, p, g, rfl, hW, hP, W, PL, hn, hps, hb, hg, q⟩ := h
    have pl := Blo.plan_len W PL
    refine ⟨_, pss_cons (ps_set (i := 2) scGrown.nd rfl (Or.inl rfl) (C8.pe_c C1 hr (by decide) (by rfl) (pa_cons (pv 0) pa_nil)))
      (pss_cons (ps_for PassesOwn.never rfl (pi_tup (C8.pe_c C2 hr (by decide) (by rfl) (pa_cons (pv 0) (pa_cons (pv 1) pa_nil)))) (pg_name (i := 3) scGrown.nd rfl (.inl rfl))
        (pss_cons (ps_set (i := 4) scGrown.nd rfl (Or.inl rfl) (C8.pe_mk C3 hr (by decide) (by rfl) (pa_cons (pv 2) (pa_cons (pv 1) (pa_cons (pv 3) pa_nil)))))
        (pss_cons (ps_set (i := 5) scGrown.nd rfl (Or.inl rfl) (C8.pe_mt C4 hr (by decide) (pv 4) (pa_cons pe_bl pa_nil)))
        (pss_one (ps_if (pt_cmp (pc_notN (pv 5))) (pss_one (ps_ret (C8.pe_c C6 hr (by decide) (by rfl) (pa_cons (pv 0) (pa_cons (pv 1) (pa_cons (pe_tup (pa_cons pe_str (pa_cons
          (pe_tup (StX.pa_star (C8.pe_mt C5 hr (by decide) (pv 4) (pa_cons (pe_ix ix_list (pe_fld (pv 4) rfl) (pv 5) (fun _ _ => rfl)) pa_nil)) (pa_cons (pv 5) pa_nil))) pa_nil))) pa_nil)))))) pss_nil)))))
      (pss_one (ps_ret pe_non))), ?_⟩
    refine ⟨_, rfl, u, n, ps, rfl, hW, hps, by omega, fun L H1 s1 hL => ?_⟩
    refine ⟨_, rfl, _, rfl, u, v, n, ps, p, rfl, hW.same s1, hP.same s1, by omega, by omega, fun R H2 s2 hR => ?_⟩
    refine ⟨R, rfl, ⟨_, SqT.of hR⟩, ?_⟩
    have s02 := s1.trans s2
    have hL2 := hL.same s2
    have hW2 := hW.same s02
    have hP2 := hP.same s02
    refine for_tup (K := K) (a := R) (xs := IV (Blo.rootsOf n p)) (fun i σ H' => ∃ a b c, σ = [some u, some v, some (.ref L), a, b, c] ∧ Same H2 H' ∧ Blo.tryRoots n ps p ((Blo.rootsOf n p).drop i) = some g)
      ⟨none, none, none, rfl, fun _ _ h => h, hg⟩ (fun i σ H' _ ⟨_, _, _, _, h, _⟩ => tup_same h (SqT.of hR)) (fun i y σ H3 hy h => ?_) (fun σ H3 h => ?_)
    · obtain ⟨a, b, c, rfl, s3, ht⟩ := h
      obtain ⟨r, hr0, rfl⟩ := IV_get hy
      obtain ⟨hrn, hrs⟩ := Blo.mem_roots.mp (List.mem_of_getElem? hr0)
      rw [drop_at hr0, Blo.tryRoots] at ht
      obtain ⟨S, g1, e1, e2⟩ := Blo.try_ok W PL hrn hrs
      rw [e1] at ht
      -- the object
      refine ⟨_, rfl, _, rfl, _, rfl, fun x dx hx hdx hne => ?_⟩
      refine ⟨H3, x, dx, L, v, n, r, ps, p, rfl, (same_upd hdx).trans (same_upd (by rw [upd_ne hne.symm]; exact hx)), hx, upd_same, hL2.same s3, hP2.same s3, fun e he => ?_, by omega, hrn, fun A H4 S4 => ⟨rfl, ?_⟩⟩
      · have := W.lt e (PL.1.subset he)
        omega
      -- run
      refine ⟨_, rfl, x, A.dx, _, rfl, S4.ob, rfl, H3, x, n, r, n + 1, n + 1, ps, Blo.matesOf p, A, Blo.start r, (S, g1), rfl, S4, ⟨hrn, matesOf_lt W PL, fun i k h => (by cases h), fun i h => h, fun k hk => ?_, nearOf_lt W⟩, by omega, by omega, hps, hb, e1, fun H5 S5 B5 hz => ?_⟩
      · cases hk with
        | head => exact hrn
        | tail _ h => cases h
      refine ⟨_, rfl, _, rfl, ?_⟩
      rcases e2 with ⟨rfl, _⟩ | ⟨z, one, L', rfl, q1, q2, hzn, hone, O, q3, q4, q5⟩
      · refine iteF' _ (by rfl) ?_
        exact ⟨_, _, _, rfl, s3.trans S5.same, ht⟩
      · dsimp only at ht
        rw [q1] at ht
        dsimp only at ht
        rw [q2] at ht
        cases ht
        have ol := Blo.len_le_n O.nd O.lt
        have hW5 := hW2.same (s3.trans S5.same)
        have hP5 := hP2.same (s3.trans S5.same)
        refine iteT' _ (by rfl) ?_
        refine ⟨_, rfl, _, rfl, ?_⟩
        refine ⟨_, rfl, x, A.dx, _, rfl, S5.ob, rfl, _, rfl, x, C, A.dx, _, _, rfl, S5.ob, TC.cl, TC.bk, rfl, _, rfl, A.bk, _, z, _, rfl, rfl, SqL.of S5.hb, atI_nat (mapV_get hzn), ?_⟩
        dsimp only
        rw [q1]
        refine ⟨H3, x, n, r, n + 1, one, ps, Blo.matesOf p, A, S, L', rfl, S5, B5, hone, by omega, q2, fun U H6 s6 hU => ?_⟩
        refine ⟨U, _, rfl, .inl (SqT.of hU), _, rfl, ?_, fun T1 hT1 => ?_⟩
        · rw [List.length_append] at ol
          rw [List.length_append, IV_length]
          exact size_le (by simp only [List.length_cons, List.length_nil] at ol ⊢; omega)
        refine ⟨by show 2 ≤ sizeLine; decide, fun T2 hT2 => ?_⟩
        have s7 := same_upd (o := .tup (IV L'.reverse ++ [OV (some z)])) hT1
        have s8 := same_upd (o := .tup [V.str "way", V.ref T1]) hT2
        have s58 := s6.trans (s7.trans s8)
        have t8 := s8 _ _ (upd_same (H := H6) (a := T1) (o := .tup (IV L'.reverse ++ [OV (some z)])))
        refine ⟨u, v, T2, T1, n, ps, p, L'.reverse ++ [z], rfl, hW5.same s58, hP5.same s58, SqT.of upd_same, ?_, W, PL, O, hn, fun v' H9 s9 h9 => ?_⟩
        · rw [IV_append]
          exact SqT.of t8
        · exact q v' H9 (s02.trans (s3.trans (S5.same.trans (s58.trans s9)))) h9
    · obtain ⟨a, b, c, rfl, s3, ht⟩ := h
      rw [IV_length, List.drop_length] at ht
      cases ht
      exact q _ _ (s02.trans s3) rfl
end
end G
set_option Elab.async false
set_option linter.all false
set_option maxRecDepth 100000
set_option maxHeartbeats 4000000
set_option pp.maxSteps 1200
namespace G
open PySem PySem.Spec PyProof.Rows L2
open Blo (Pr)
section
variable {P : Program} {w : World} {K : PySem.W.Frag} {mg : Str → Option Value} {base : Heap} {C : Addr}
theorem OptV.same {H H' : Hp} {v : V} {g : Option (List Pr)} (s : Same H H') (h : OptV K H v g) : OptV K H' v g := by
  cases g with
  | none => exact h
  | some q => exact PlanV.same s h
theorem scLargest : FnScope ["web", "plan", "more"] ["web"] (defScope sLargest) := ⟨rfl, rfl, rfl, by decide +kernel, rfl, by decide +kernel, by decide +kernel⟩
def spLargest (K : PySem.W.Frag) : Sp := fun vs H Q _ => ∃ (u : V) (n : Nat) (ps b : List Pr), vs = [u] ∧ WebV K H u n ps ∧ Blo.WebOk n ps ∧ n ≤ 20 ∧ ps.length ≤ 1000 ∧ 1 + n * (ps.length * (n + 1)) ≤ 90000 ∧
  Blo.largestM n ps = some b ∧ ∀ v' H', Same H H' → PlanV K H' v' b → Q v' H'
theorem ok_largest (D : Df K mg "largest_plan" sLargest ["web"]) (T : Nm mg) (C1 : C8.Cal P w K mg base 7 "grown_plan" (spGrown K) []) : CalK P w K mg base 8 "largest_plan" sLargest ["web"] (spLargest K) := by
  refine calK_of D scLargest (fun vs H Q E h => ?_) (fun f cdv A' outer s H vs Q E hr h => ?_)
  · obtain ⟨u, n, ps, b, rfl, _⟩ := h
    rfl
  · obtain ⟨u, n, ps, b, rfl, hW, W, hn, hps, hb, hg, q⟩ := h
    refine ⟨_, pss_cons (ps_par (by rfl) scLargest.nd (i := 1) (j := 2) rfl rfl (by decide) rfl rfl (pa_cons (pe_tup pa_nil) (pa_cons (C8.pe_c C1 hr (by decide) (by rfl) (pa_cons (pv 0) (pa_cons (pe_tup pa_nil) pa_nil))) pa_nil)) (by rfl))
      (pss_cons (ps_while PassesOwn.never (pt_cmp (pc_notN (pv 2)))
        (pss_one (ps_par (by rfl) scLargest.nd (i := 1) (j := 2) rfl rfl (by decide) rfl rfl (pa_cons (pv 2) (pa_cons (C8.pe_c C1 hr (by decide) (by rfl) (pa_cons (pv 0) (pa_cons (pv 2) pa_nil))) pa_nil)) (by rfl))))
      (pss_one (ps_ret (pv 1)))), ?_⟩
    obtain ⟨g0, hg0, _⟩ := Blo.grown_ok W Blo.plan_nil
    refine ⟨Nat.zero_le _, fun e1 he1 => ?_⟩
    have s1 := same_upd (o := .tup []) he1
    have h1 : upd H e1 (.tup []) e1 = some (.tup []) := upd_same
    generalize upd H e1 (.tup []) = H1 at s1 h1 ⊢
    refine ⟨_, rfl, Nat.zero_le _, fun e2 he2 => ?_⟩
    have s2 := same_upd (o := .tup []) he2
    have h2 : upd H1 e2 (.tup []) e2 = some (.tup []) := upd_same
    generalize upd H1 e2 (.tup []) = H2 at s2 h2 ⊢
    have s02 := s1.trans s2
    refine ⟨u, .ref e2, n, ps, [], g0, rfl, hW.same s02, ⟨e2, [], rfl, SqT.of h2, .nil⟩, W, Blo.plan_nil, hn, hps, hb, hg0, fun v' H3 s3 h3 => ?_⟩
    refine ⟨_, _, rfl, ?_⟩
    refine ⟨fun m σ H' => ∃ v v' p g, σ = [some u, some v, some v'] ∧ Same H H' ∧ PlanV K H' v p ∧ Blo.IsPlan ps p ∧ OptV K H' v' g ∧ Blo.grownM n ps p = some g ∧ Blo.growAll n ps (m + 1) p = some b,
      ⟨n, .ref e1, v', [], g0, rfl, s02.trans s3, ⟨e1, [], rfl, SqT.of (s3 _ _ (s2 _ _ h1)), .nil⟩, Blo.plan_nil, h3, hg0, hg⟩, ?_⟩
    rintro m σ H4 ⟨v, vm, p, g, rfl, s4, hv, PL, hvm, hgp, hga⟩
    rw [Blo.growAll, hgp] at hga
    refine ⟨_, rfl, _, rfl, ?_⟩
    cases g with
    | none =>
      cases hga
      cases hvm
      refine iteF' _ (by rfl) ?_
      exact ⟨_, rfl, q _ _ s4 hv⟩
    | some p' =>
      have hga' : Blo.growAll n ps m p' = some b := hga
      obtain ⟨a, vs, rfl, z1, z2⟩ := hvm
      cases m with
      | zero => exact absurd hga' (by simp [Blo.growAll])
      | succ m =>
      obtain ⟨g', hg1, hg2⟩ := Blo.grown_ok W PL
      rw [hgp] at hg1
      cases hg1
      have PL' : Blo.IsPlan ps p' := by
        rcases hg2 with ⟨h, _⟩ | ⟨q', h, h2, _⟩
        · cases h
        · cases h
          exact h2
      obtain ⟨g2, hg3, _⟩ := Blo.grown_ok W PL'
      refine iteT' _ (by rfl) ?_
      refine ⟨fun σ H' => ∃ v v' p g, σ = [some u, some v, some v'] ∧ Same H H' ∧ PlanV K H' v p ∧ Blo.IsPlan ps p ∧ OptV K H' v' g ∧ Blo.grownM n ps p = some g ∧ Blo.growAll n ps (m + 1) p = some b, fun σ' H' h => ⟨m, by omega, h⟩, ?_⟩
      refine ⟨_, rfl, _, rfl, _, rfl, u, .ref a, n, ps, p', g2, rfl, hW.same s4, ⟨a, vs, rfl, z1, z2⟩, W, PL', hn, hps, hb, hg3, fun v5 H5 s5 h5 => ?_⟩
      refine ⟨_, _, rfl, ?_⟩
      exact ⟨_, _, p', g2, rfl, s4.trans s5, PlanV.same s5 ⟨a, vs, rfl, z1, z2⟩, PL', h5, hg3, hga'⟩
end
end G
set_option Elab.async false
set_option linter.all false
set_option maxRecDepth 100000
set_option maxHeartbeats 4000000
set_option pp.maxSteps 1200
namespace G
open PySem PySem.Spec PyProof.Rows L2
open Blo (Pr)
abbrev sDraw : Stmt := topS 27
abbrev sAny : Stmt := topS 28
abbrev sOf : Stmt := topS 29
abbrev sMixed : Stmt := topS 30
abbrev sWeb : Stmt := topS 31
abbrev sAllPlans : Stmt := topS 32
abbrev sLawServed : Stmt := topS 33
abbrev sWithin : Stmt := topS 34
abbrev sIsPlan : Stmt := topS 35
abbrev sLaw : Stmt := topS 36

/-- what is drawn from: a list d of a list c of cells and an int -/
structure Deal (H : Hp) (d c : Addr) : Prop where
  ex : ∃ (cells : List Int) (b : Int), H d = some (.lst [.ref c, .int b]) ∧ H c = some (.lst (cells.map V.int)) ∧ (∀ z ∈ cells, 0 ≤ z) ∧ 0 ≤ b ∧ cells.length ≤ 100 ∧ c ≠ d
/-- nothing has changed but d and c -/
def But (d c : Addr) (H H' : Hp) : Prop := ∀ b o, H b = some o → b ≠ d → b ≠ c → H' b = some o
section
variable {K : PySem.W.Frag} {H H' H2 : Hp} {d c : Addr}
theorem But.rfl : But d c H H := fun _ _ h _ _ => h
theorem But.trans (a : But d c H H') (b : But d c H' H2) : But d c H H2 := fun x o h h1 h2 => b x o (a x o h h1 h2) h1 h2
theorem But.of (s : Same H H') : But d c H H' := fun x o h _ _ => s x o h
theorem Deal.same (D : Deal H d c) (s : Same H H') : Deal H' d c := by
  obtain ⟨cells, b, h1, h2, q⟩ := D.ex
  exact ⟨cells, b, s _ _ h1, s _ _ h2, q⟩
theorem Deal.ne (D : Deal H d c) {L : Addr} (h : H L = none) : L ≠ d ∧ L ≠ c := by
  obtain ⟨cells, b, h1, h2, q⟩ := D.ex
  exact ⟨(ne_of_none h1 h).symm, (ne_of_none h2 h).symm⟩
theorem Deal.tk (D : Deal H d c) (b : But d c H H') : Tk K H H' := fun x ks h => by
  obtain ⟨cells, z, h1, h2, q⟩ := D.ex
  have nd : ∀ o, H x = some o → (∀ ys, o ≠ .lst ys) → H' x = some o := fun o ho hne => b x o ho (fun e => by rw [e, h1] at ho; exact hne _ (Option.some.inj ho).symm) (fun e => by rw [e, h2] at ho; exact hne _ (Option.some.inj ho).symm)
  rcases h with (h | ⟨o, h⟩) | h
  · exact .inl (.inl (nd _ h nofun))
  · exact .inl (.inr ⟨o, nd _ h nofun⟩)
  · exact .inr h
/-- a list of one's own written -/
theorem Deal.mut (D : Deal H d c) {L : Addr} {o : HO} (h1 : L ≠ d) (h2 : L ≠ c) : Deal (upd H L o) d c := by
  obtain ⟨cells, b, e1, e2, q⟩ := D.ex
  exact ⟨cells, b, by rw [upd_ne h1.symm]; exact e1, by rw [upd_ne h2.symm]; exact e2, q⟩
end

theorem cut_map {α : Type} (g : α → V) (ns : List α) (lo hi : Option Int) : ∃ m : List α, cutV (ns.map g) lo hi = m.map g ∧ m.length ≤ ns.length ∧ ∀ z ∈ m, z ∈ ns := by
  unfold cutV
  refine ⟨(ns.drop (HT.sIx (ns.map g).length 0 lo)).take (HT.sIx (ns.map g).length (ns.map g).length hi - HT.sIx (ns.map g).length 0 lo), by rw [List.map_take, List.map_drop], ?_, fun z hz => List.mem_of_mem_drop (List.mem_of_mem_take hz)⟩
  rw [List.length_take, List.length_drop]
  omega
theorem map_get {α : Type} {g : α → V} {ns : List α} {i : Nat} {x : V} (h : (ns.map g)[i]? = some x) : ∃ z, ns[i]? = some z ∧ x = g z := by
  rw [List.getElem?_map] at h
  cases e : ns[i]? with
  | none => rw [e] at h; cases h
  | some z =>
    rw [e] at h
    exact ⟨z, rfl, (Option.some.inj h).symm⟩
section
variable {P : Program} {w : World} {K : PySem.W.Frag} {mg : Str → Option Value} {base : Heap} {C : Addr}
theorem scDraw : FnScope ["_law_script", "_law_salt", "_law_cells", "_law_blend", "_law_cell"] ["_law_script", "_law_salt"] (defScope sDraw) := ⟨rfl, rfl, rfl, by decide +kernel, rfl, by decide +kernel, by decide +kernel⟩
def spDraw (K : PySem.W.Frag) : Sp := fun vs H Q _ => ∃ (a : Addr) (ns : List Int), vs = [.ref a, .int 15] ∧ SqL K H a (ns.map V.int) ∧ ns.length ≤ 63 ∧ ∀ (d c : Addr) H', Same H H' → H d = none → H c = none → Deal H' d c → Q (.ref d) H'
theorem ok_draw (D : Df K mg "_law_draw" sDraw ["_law_script", "_law_salt"]) (T : Nm mg) : C8.Cal P w K mg base 1 "_law_draw" (spDraw K) [] := by
  refine cal_of D scDraw (fun vs H Q E h => ?_) (fun f cdv A' outer s H vs Q E hr h => ?_)
  · obtain ⟨a, ns, rfl, _⟩ := h
    rfl
  · obtain ⟨a, ns, rfl, hS, hl, q⟩ := h
    refine ⟨_, pss_cons (ps_setLc (i := 2) (own := [("_law_cell", 4)]) (g := gName 4) (tt := tYes) rfl scDraw.nd rfl rfl (by rfl) (pi_list (pe_slice sl_list (pv 0) po_none (po_some pe_int)))
        (blkOk_by (N := ["_law_script", "_law_salt", "_law_cells", "_law_blend", "_law_cell"]) (sc := defScope sDraw) (by decide +kernel)) (fun _ _ _ _ _ => pg_name (i := 4) scDraw.nd rfl (Or.inl rfl)) (fun _ _ _ _ _ => pts_nil)
        (fun _ _ _ _ _ => pe_callB call_abs (by rfl) T.abs (by decide +kernel) (pa_cons (pe_callTy call_int1 (by rfl) T.int (by decide +kernel) (pa_cons (pv 4) pa_nil)) pa_nil)))
      (pss_cons (ps_set (i := 3) scDraw.nd rfl (Or.inl rfl) (pe_op op_add pe_int (pe_op op_mul pe_int (pv 1))))
      (pss_cons (ps_for PassesOwn.never rfl (pi_list (pv 2)) (pg_name (i := 4) scDraw.nd rfl (.inl rfl))
        (pss_one (ps_set (i := 3) scDraw.nd rfl (Or.inl rfl) (pe_op op_mod (pe_callTy call_int1 (by rfl) T.int (by decide +kernel) (pa_cons (pe_op op_add (pe_op op_add (pe_op op_mul (pv 3) pe_int) (pe_op op_mod (pv 4) pe_int)) pe_int) pa_nil)) pe_int))))
      (pss_one (ps_ret (pe_lst (pa_cons (pe_revL (pe_lc (own := [("_law_cell", 4)]) (g := gName 4) rfl scDraw.nd (pi_list (pv 2))
        (blkOk_by (N := ["_law_script", "_law_salt", "_law_cells", "_law_blend", "_law_cell"]) (sc := defScope sDraw) (by decide +kernel)) (fun _ _ _ _ _ => pg_name (i := 4) scDraw.nd rfl (Or.inl rfl))
        (fun _ _ _ _ _ => pts_one (pt_cmpR op_ge (pv 4) (pe_op op_pow pe_int pe_int) (nomark _))) (fun _ _ _ _ _ => pv 4))) (pa_cons (pv 3) pa_nil))))))), ?_⟩
    refine ⟨_, rfl, 48, rfl, a, _, rfl, hS, fun L0 hL0 => ?_⟩
    obtain ⟨m, em, hm, _⟩ := cut_map V.int ns none (some 48)
    rw [em]
    have s1 := same_upd (o := .lst (m.map V.int)) hL0
    have h1 : upd H L0 (.lst (m.map V.int)) L0 = some (.lst (m.map V.int)) := upd_same
    generalize upd H L0 (.lst (m.map V.int)) = H1 at s1 h1 ⊢
    refine ⟨L0, rfl, ⟨_, SqL.of h1⟩, fun L1 hL1 => ?_⟩
    refine it_list (K := K) (a := L0) (xs := m.map V.int) (fun i H' => Same H1 H' ∧ ∃ cs : List Int, H' L1 = some (.lst (cs.map V.int)) ∧ (∀ z ∈ cs, 0 ≤ z) ∧ cs.length ≤ i) ⟨same_upd hL1, [], upd_same, (fun _ h => nomatch h), Nat.zero_le _⟩ (fun i H' _ h => h.1.seq (SqL.of h1)) (fun i x H2 hx h => ?_) (fun H2 h => ?_)
    · obtain ⟨s2, cs, h2, n2, l2⟩ := h
      obtain ⟨z, hz, rfl⟩ := map_get hx
      have hi := (List.getElem?_eq_some_iff.mp hz).1
      refine ⟨rfl, yes (iteT ⟨_, rfl, .inl ⟨z, rfl, z, rfl, cs.map V.int, h2, ?_, Same.mut s2 hL1, cs ++ [if z < 0 then -z else z], ?_, fun y hy => ?_, ?_⟩⟩)⟩
      · rw [List.length_map]; exact size_lt (by omega)
      · rw [upd_same, List.map_append]; rfl
      · rcases List.mem_append.mp hy with h | h
        · exact n2 y h
        · rw [List.mem_singleton.mp h]
          split <;> omega
      · rw [List.length_append]; simp only [List.length_cons, List.length_nil]; omega
    obtain ⟨s2, cs, h2, n2, l2⟩ := h
    rw [List.length_map] at l2
    have s02 := s1.trans s2
    -- the blend
    refine ⟨_, rfl, _, _, rfl, rfl, .inl (by constructor <;> decide), _, _, rfl, rfl, ?_⟩
    refine ⟨_, rfl, L1, rfl, ⟨_, SqL.of h2⟩, ?_⟩
    refine for_list (K := K) (a := L1) (xs := cs.map V.int) (fun i σ H' => ∃ (b : Int) (x : Option V), σ = [some (.ref a), some (.int 15), some (.ref L1), some (.int b), x] ∧ H' = H2 ∧ 0 ≤ b) ⟨_, none, rfl, rfl, by decide⟩ (fun i σ H' _ ⟨_, _, _, e, _⟩ => by rw [e]; exact SqL.of h2) (fun i y σ H3 hy h => ?_) (fun σ H3 h => ?_)
    · obtain ⟨b, x, rfl, rfl, hb⟩ := h
      obtain ⟨z, hz, rfl⟩ := map_get hy
      refine ⟨_, rfl, _, _, rfl, rfl, .inr (by constructor <;> decide), _, rfl, _, _, rfl, rfl, (by show (0 : Int) < 2147483549; decide), _, _, rfl, rfl, _, _, rfl, rfl, .inl ⟨_, rfl, _, _, rfl, rfl, (by show (0 : Int) < 2147483647; decide), ?_⟩⟩
      exact ⟨_, _, rfl, rfl, Int.emod_nonneg _ (by decide)⟩
    obtain ⟨b, x, rfl, rfl, hb⟩ := h
    refine ⟨_, rfl, L1, rfl, ⟨_, SqL.of h2⟩, fun L2 hL2 => ?_⟩
    refine it_list (K := K) (a := L1) (xs := cs.map V.int) (fun i H' => Same H3 H' ∧ ∃ ds : List Int, H' L2 = some (.lst (ds.map V.int)) ∧ (∀ z ∈ ds, 0 ≤ z) ∧ ds.length ≤ i) ⟨same_upd hL2, [], upd_same, (fun _ h => nomatch h), Nat.zero_le _⟩ (fun i H' _ h => h.1.seq (SqL.of h2)) (fun i x H4 hx h => ?_) (fun H4 h => ?_)
    · obtain ⟨s4, ds, h4, n4, l4⟩ := h
      obtain ⟨z, hz, rfl⟩ := map_get hx
      have hi := (List.getElem?_eq_some_iff.mp hz).1
      refine ⟨rfl, _, rfl, _, _, rfl, rfl, ⟨by decide, by decide, by decide⟩, _, _, rfl, rfl, _, rfl, ?_⟩
      refine ite2 (fun _ => ?_) (fun _ => ?_)
      · refine ⟨_, rfl, ds.map V.int, h4, ?_, Same.mut s4 hL2, ds ++ [z], ?_, fun y hy => ?_, ?_⟩
        · rw [List.length_map]; exact size_lt (by omega)
        · rw [upd_same, List.map_append]; rfl
        · rcases List.mem_append.mp hy with h | h
          · exact n4 y h
          · rw [List.mem_singleton.mp h]
            exact n2 z (List.mem_of_getElem? hz)
        · rw [List.length_append]; simp only [List.length_cons, List.length_nil]; omega
      · exact ⟨s4, ds, h4, n4, by omega⟩
    obtain ⟨s4, ds, h4, n4, l4⟩ := h
    rw [List.length_map] at l4
    refine ⟨L2, _, rfl, SqL.of h4, fun c hc => ?_⟩
    have s5 := same_upd (o := .lst (ds.map V.int).reverse) hc
    have hc0 : H c = none := (s02.trans s4).free hc
    refine ⟨_, rfl, by show 2 ≤ sizeLine; decide, fun d hd => ?_⟩
    have s6 := same_upd (o := .lst [.ref c, .int b]) hd
    have hd0 : H d = none := (s02.trans (s4.trans s5)).free hd
    refine q d c _ (s02.trans (s4.trans (s5.trans s6))) hd0 hc0 ⟨ds.reverse, b, upd_same, ?_, fun z hz => n4 z (List.mem_reverse.mp hz), hb, by rw [List.length_reverse]; omega, ?_⟩
    · rw [List.map_reverse]
      exact s6 _ _ upd_same
    · intro e
      rw [← e, upd_same] at hd
      cases hd
end
end G
set_option Elab.async false
set_option linter.all false
set_option maxRecDepth 100000
set_option maxHeartbeats 4000000
set_option pp.maxSteps 1200
namespace G
open PySem PySem.Spec PyProof.Rows L2
open Blo (Pr)
/-! ### lists as data, against the empty one -/
theorem intsD_lay : ∀ l : List Int, PyData.canLayAll0 (l.map PyData.int) = true
  | [] => by simp [PyData.canLayAll0]
  | z :: zs => by simp [PyData.canLayAll0, PyData.canLay0, intsD_lay zs]
theorem intsD_depth : ∀ l : List Int, PyData.depthAll (l.map PyData.int) = 0
  | [] => by simp [PyData.depthAll]
  | z :: zs => by simp [PyData.depthAll, PyData.depth, intsD_depth zs]
theorem listOf_shaped {ds : List PyData} (h1 : PyData.canLayAll0 ds = true) (h2 : PyData.depthAll ds ≤ 60) : SeqAt.shaped (.list ds) = true := by
  have h3 : PyData.depth (.list ds) ≤ 64 := by
    simp only [PyData.depth]
    omega
  unfold SeqAt.shaped
  rw [decide_eq_true h3, Bool.and_true]
  simp only [PyData.canLay0]
  exact h1
theorem nil_shaped : SeqAt.shaped (.list []) = true := listOf_shaped (by simp [PyData.canLayAll0]) (by simp [PyData.depthAll])
theorem eqv_nil (ds : List PyData) : PyData.eqv (.list ds) (.list []) = ds.isEmpty := by
  cases ds with
  | nil => simp [PyData.eqv, PyData.eqvAll]
  | cons a b => simp [PyData.eqv, PyData.eqvAll]
section
variable {K : PySem.W.Frag} {H : Hp}
theorem ints_dp : ∀ l : List Int, DpAll K H (l.map V.int) (l.map PyData.int)
  | [] => .nil
  | z :: zs => .cons (.int z) (ints_dp zs)
/-- a list against a new empty one -/
theorem neNil {a e : Addr} {xs : List V} {ds : List PyData} {Q : VK} (ha : SqL K H a xs) (hd : DpAll K H xs ds) (h1 : PyData.canLayAll0 ds = true) (h2 : PyData.depthAll ds ≤ 60) (he : H e = some (.lst [])) (k : Q (.bl (!ds.isEmpty)) H) : rNeD K (.ref a) (.ref e) H Q :=
  ⟨_, _, .lst ha hd, .lst (SqL.of he) .nil, listOf_shaped h1 h2, nil_shaped, by rw [eqv_nil]; exact k⟩
theorem eqNil {a e : Addr} {xs : List V} {ds : List PyData} {Q : VK} (ha : SqL K H a xs) (hd : DpAll K H xs ds) (h1 : PyData.canLayAll0 ds = true) (h2 : PyData.depthAll ds ≤ 60) (he : H e = some (.lst [])) (k : Q (.bl ds.isEmpty) H) : rEqD K (.ref a) (.ref e) H Q :=
  ⟨_, _, .lst ha hd, .lst (SqL.of he) .nil, listOf_shaped h1 h2, nil_shaped, by rw [eqv_nil]; exact k⟩
end

theorem snoc_cases {α : Type} (l : List α) : l = [] ∨ ∃ i z, l = i ++ [z] := by
  rcases List.eq_nil_or_concat l with h | ⟨i, z, h⟩
  · exact .inl h
  · exact .inr ⟨i, z, by simpa using h⟩
theorem snoc_last {α : Type} (g : α → V) (i : List α) (z : α) : ((i ++ [z]).map g)[((i ++ [z]).map g).length - 1]? = some (g z) := by simp
theorem snoc_drop {α : Type} (g : α → V) (i : List α) (z : α) : ((i ++ [z]).map g).dropLast = i.map g := by simp
theorem nextI {D : Ends} {σ : L2.St} {H : Hp} (h : D.nx σ H) : tNext D σ H := h
/-- the deal as it stands -/
structure DealIs (H : Hp) (d c : Addr) (cells : List Int) (b : Int) : Prop where
  hd : H d = some (.lst [.ref c, .int b])
  hc : H c = some (.lst (cells.map V.int))
  nn : ∀ z ∈ cells, 0 ≤ z
  b0 : 0 ≤ b
  len : cells.length ≤ 100
  ne : c ≠ d
section
variable {H H' : Hp} {d c : Addr} {cells ds : List Int} {b b' : Int}
theorem DealIs.deal (D : DealIs H d c cells b) : Deal H d c := ⟨cells, b, D.hd, D.hc, D.nn, D.b0, D.len, D.ne⟩
theorem DealIs.same (D : DealIs H d c cells b) (s : Same H H') : DealIs H' d c cells b := ⟨s _ _ D.hd, s _ _ D.hc, D.nn, D.b0, D.len, D.ne⟩
theorem DealIs.setC (D : DealIs H d c cells b) (h : ∀ z ∈ ds, 0 ≤ z) (hl : ds.length ≤ 100) : DealIs (upd H c (.lst (ds.map V.int))) d c ds b := ⟨by rw [upd_ne D.ne.symm]; exact D.hd, upd_same, h, D.b0, hl, D.ne⟩
theorem DealIs.setD (D : DealIs H d c cells b) (h : 0 ≤ b') : DealIs (upd H d (.lst [.ref c, .int b'])) d c cells b' := ⟨upd_same, by rw [upd_ne D.ne]; exact D.hc, D.nn, h, D.len, D.ne⟩
theorem But.setC {o : HO} : But d c H (upd H c o) := fun x u h _ h2 => by rw [upd_ne h2]; exact h
theorem But.setD {o : HO} : But d c H (upd H d o) := fun x u h h1 _ => by rw [upd_ne h1]; exact h
end
section
variable {P : Program} {w : World} {K : PySem.W.Frag} {mg : Str → Option Value} {base : Heap} {C : Addr}
theorem scAny : FnScope ["_law_deal", "_law_bound", "_law_rest"] ["_law_deal", "_law_bound"] (defScope sAny) := ⟨rfl, rfl, rfl, by decide +kernel, rfl, by decide +kernel, by decide +kernel⟩
def spAny (K : PySem.W.Frag) : Sp := fun vs H Q _ => ∃ (d c : Addr) (k : Nat), vs = [.ref d, .int (k : Nat)] ∧ Deal H d c ∧ 0 < k ∧ k < 1000000 ∧ ∀ (r : Nat) H', r < k → But d c H H' → Deal H' d c → Q (.int (r : Nat)) H'
theorem ok_any (D : Df K mg "_law_any" sAny ["_law_deal", "_law_bound"]) (T : Nm mg) : C8.Cal P w K mg base 1 "_law_any" (spAny K) [] := by
  refine cal_of D scAny (fun vs H Q E h => ?_) (fun f cdv A' outer s H vs Q E hr h => ?_)
  · obtain ⟨d, c, k, rfl, _⟩ := h
    rfl
  · obtain ⟨d, c, k, rfl, DD, hk0, hk, q⟩ := h
    have hu : A'.units + 3 + 64 < cLine := by
      have := hr.un
      have e : (A'.deeper (envOfC "_law_any" (defScope sAny) s.heap.objs.size f cdv)).units = A'.units + 3 := rfl
      omega
    refine ⟨_, pss_cons (ps_while PassesOwn.never (PW.pt (pw_and (pt_cmpR (r := rNeD K) (op_neD hu) (pe_ix ix_list (pv 0) pe_int (fun _ _ => rfl)) (pe_lst pa_nil) (nomark _)) (pw_and1 (pt_cmpR op_eq (pe_ix ix_list (pe_ix ix_list (pv 0) pe_int (fun _ _ => rfl)) (pe_un un_neg pe_int) (fun _ _ => rfl)) pe_int (nomark _)))))
        (pss_one (ps_expr (pe_bm0 PySem.F.plainAttrs_list PySem.F.slot_list_pop PySem.F.type_list_pop mt_pop (pe_ix ix_list (pv 0) pe_int (fun _ _ => rfl))))))
      (pss_cons (ps_if (pt_cmpR (r := rNeD K) (op_neD hu) (pe_ix ix_list (pv 0) pe_int (fun _ _ => rfl)) (pe_lst pa_nil) (nomark _))
        (pss_cons (ps_set (i := 2) scAny.nd rfl (Or.inl rfl) (pe_callTy call_int1 (by rfl) T.int (by decide +kernel) (pa_cons (pe_bm0 PySem.F.plainAttrs_list PySem.F.slot_list_pop PySem.F.type_list_pop mt_pop (pe_ix ix_list (pv 0) pe_int (fun _ _ => rfl))) pa_nil)))
        (pss_cons (ps_expr (pe_bm PySem.F.plainAttrs_list PySem.F.slot_list_append PySem.F.type_list_append mt_append (pe_ix ix_list (pv 0) pe_int (fun _ _ => rfl)) (pa_cons (pe_op op_fdiv (pv 2) (pv 1)) pa_nil)))
        (pss_one (ps_ret (pe_op op_mod (pv 2) (pv 1)))))) pss_nil)
      (pss_cons (ps_asg (pe_op op_mod (pe_callTy call_int1 (by rfl) T.int (by decide +kernel) (pa_cons (pe_op op_add (pe_op op_mul (pe_ix ix_list (pv 0) pe_int (fun _ _ => rfl)) pe_int) pe_int) pa_nil)) pe_int) (pg_sub (pv 0) pe_int set_list))
      (pss_one (ps_ret (pe_op op_mod (pe_callTy call_int1 (by rfl) T.int (by decide +kernel) (pa_cons (pe_op op_fdiv (pe_ix ix_list (pv 0) pe_int (fun _ _ => rfl)) pe_int) pa_nil)) (pv 1)))))), ?_⟩
    obtain ⟨cells, b, e1, e2, e3, e4, e5, e6⟩ := DD.ex
    refine ⟨fun m σ H' => ∃ cells, σ = [some (.ref d), some (.int (k : Nat)), none] ∧ But d c H H' ∧ DealIs H' d c cells b ∧ m = cells.length, ⟨cells.length, cells, rfl, .rfl, ⟨e1, e2, e3, e4, e5, e6⟩, rfl⟩, ?_⟩
    rintro m σ H1 ⟨cells, rfl, b1, I1, rfl⟩
    refine ⟨_, rfl, d, _, 0, _, rfl, rfl, SqL.of I1.hd, rfl, Nat.zero_le _, fun e he => ?_⟩
    have s2 := same_upd (o := .lst []) he
    have h2 : upd H1 e (.lst []) e = some (.lst []) := upd_same
    generalize upd H1 e (.lst []) = H2 at s2 h2 ⊢
    have I2 := I1.same s2
    have b2 := b1.trans (.of s2)
    refine neNil (SqL.of I2.hc) (ints_dp cells) (intsD_lay cells) (by rw [intsD_depth]; omega) h2 ⟨_, rfl, ?_⟩
    rcases snoc_cases cells with rfl | ⟨i, z, rfl⟩
    · refine iteF' _ (by rfl) (iteF ?_)
      refine ⟨_, rfl, d, _, 0, _, rfl, rfl, SqL.of I2.hd, rfl, Nat.zero_le _, fun e' he' => ?_⟩
      have s3 := same_upd (o := .lst []) he'
      have h3 : upd H2 e' (.lst []) e' = some (.lst []) := upd_same
      generalize upd H2 e' (.lst []) = H3 at s3 h3 ⊢
      have I3 := I2.same s3
      have b3 := b2.trans (.of s3)
      refine neNil (SqL.of I3.hc) (ints_dp []) (intsD_lay []) (by rw [intsD_depth]; omega) h3 ⟨_, rfl, ?_⟩
      refine iteF' _ (by rfl) ?_
      refine nextI ?_
      dsimp only
      refine seqI (asgI ⟨_, rfl, d, _, 1, _, rfl, rfl, SqL.of I3.hd, rfl, _, _, rfl, rfl, .inr (by constructor <;> decide), _, _, rfl, rfl, .inl ⟨_, rfl, _, _, rfl, rfl, (by show (0 : Int) < 2147483647; decide), ?_⟩⟩)
      refine ⟨_, rfl, d, _, 1, 1, rfl, rfl, I3.hd, rfl, ?_⟩
      have hb : (0 : Int) ≤ (b * 40693 + 71) % 2147483647 := Int.emod_nonneg _ (by decide)
      have I4 := I3.setD hb
      have b4 := b3.trans (But.setD (c := c) (o := .lst [.ref c, .int ((b * 40693 + 71) % 2147483647)]))
      show _
      refine ⟨_, rfl, d, _, 1, _, rfl, rfl, SqL.of I4.hd, rfl, _, _, rfl, rfl, ⟨by decide, by decide⟩, .inl ⟨_, rfl, _, rfl, _, _, rfl, rfl, (by show (0 : Int) < (k : Int); omega), ?_⟩⟩
      have hm : (((((b * 40693 + 71) % 2147483647) / 64) % (k : Int)).toNat : Int) = (((b * 40693 + 71) % 2147483647) / 64) % (k : Int) := Int.toNat_of_nonneg (Int.emod_nonneg _ (by omega))
      suffices key : Q (.int (((b * 40693 + 71) % 2147483647) / 64 % (k : Int))) (upd H3 d (.lst [.ref c, .int ((b * 40693 + 71) % 2147483647)])) from key
      rw [← hm]
      refine q _ _ ?_ b4 I4.deal
      have := Int.emod_lt_of_pos (((b * 40693 + 71) % 2147483647) / 64) (show (0 : Int) < (k : Int) by omega)
      omega
    · have hne : (!((i ++ [z]).map PyData.int).isEmpty) = true := by simp
      refine iteT' _ hne ?_
      refine ⟨_, rfl, d, _, 0, _, rfl, rfl, SqL.of I2.hd, rfl, 1, rfl, c, _, -1, _, rfl, rfl, SqL.of I2.hc, atI_end (snoc_last V.int i z), rfl, _, rfl, ?_⟩
      by_cases hz : z = 0
      · refine iteT' _ (by subst hz; rfl) ?_
        refine ⟨fun σ H' => ∃ cells, σ = [some (.ref d), some (.int (k : Nat)), none] ∧ But d c H H' ∧ DealIs H' d c cells b ∧ cells.length < (i ++ [z]).length, fun σ' H' ⟨cells, q1, q2, q3, q4⟩ => ⟨_, q4, cells, q1, q2, q3, rfl⟩, ?_⟩
        refine ⟨_, rfl, d, _, 0, _, rfl, rfl, SqL.of I2.hd, rfl, .inl ⟨rfl, _, SqL.of I2.hc⟩, c, _, _, rfl, rfl, I2.hc, snoc_last V.int i z, ?_⟩
        rw [snoc_drop]
        refine ⟨i, rfl, b2.trans .setC, I2.setC (fun y hy => I2.nn y (List.mem_append_left _ hy)) ?_, ?_⟩
        · have := I2.len
          rw [List.length_append] at this
          omega
        · rw [List.length_append]
          simp
      · have hz2 : decide (V.int z = V.int 0) = false := decide_eq_false fun e => hz (V.int.inj e)
        refine iteF' _ hz2 ?_
        refine ⟨_, rfl, d, _, 0, _, rfl, rfl, SqL.of I2.hd, rfl, Nat.zero_le _, fun e' he' => ?_⟩
        have s3 := same_upd (o := .lst []) he'
        have h3 : upd H2 e' (.lst []) e' = some (.lst []) := upd_same
        generalize upd H2 e' (.lst []) = H3 at s3 h3 ⊢
        have I3 := I2.same s3
        have b3 := b2.trans (.of s3)
        refine neNil (SqL.of I3.hc) (ints_dp _) (intsD_lay _) (by rw [intsD_depth]; omega) h3 ⟨_, rfl, ?_⟩
        refine iteT' _ hne ?_
        refine ⟨_, rfl, d, _, 0, _, rfl, rfl, SqL.of I3.hd, rfl, .inl ⟨rfl, _, SqL.of I3.hc⟩, c, _, _, rfl, rfl, I3.hc, snoc_last V.int i z, .inl ⟨z, rfl, ?_⟩⟩
        rw [snoc_drop]
        have hz0 := I3.nn z (List.mem_append_right _ List.mem_cons_self)
        have I4 := I3.setC (ds := i) (fun y hy => I3.nn y (List.mem_append_left _ hy)) (by
          have := I3.len
          rw [List.length_append] at this
          omega)
        have b4 := b3.trans (But.setC (d := d) (o := .lst (i.map V.int)))
        generalize upd H3 c (.lst (i.map V.int)) = H4 at I4 b4 ⊢
        refine gnameI ?_
        dsimp only
        refine seqI (dropI (bmI ⟨_, rfl, d, _, 0, _, rfl, rfl, SqL.of I4.hd, rfl, .inl ⟨rfl, _, SqL.of I4.hc⟩, _, rfl, _, rfl, _, _, rfl, rfl, ⟨(by show (0 : Int) < (k : Int); omega), (by show (k : Int) < 1073741824; omega)⟩, c, _, _, rfl, rfl, I4.hc, ?_, ?_⟩))
        · have := I4.len
          rw [List.length_map]
          exact size_lt (by omega)
        · have ee : i.map V.int ++ [V.int (z / (k : Int))] = (i ++ [z / (k : Int)]).map V.int := by rw [List.map_append]; rfl
          rw [ee]
          have I5 := I4.setC (ds := i ++ [z / (k : Int)]) (fun y hy => by
            rcases List.mem_append.mp hy with h | h
            · exact I4.nn y h
            · rw [List.mem_singleton.mp h]
              exact Int.ediv_nonneg hz0 (by omega)) (by
            have := I3.len
            rw [List.length_append] at this ⊢
            exact this)
          have b5 := b4.trans (But.setC (d := d) (o := .lst ((i ++ [z / (k : Int)]).map V.int)))
          refine ⟨_, rfl, _, rfl, _, _, rfl, rfl, (by show (0 : Int) < (k : Int); omega), ?_⟩
          have hm : ((z % (k : Int)).toNat : Int) = z % (k : Int) := Int.toNat_of_nonneg (Int.emod_nonneg _ (by omega))
          suffices key : Q (.int (z % (k : Int))) (upd H4 c (.lst ((i ++ [z / (k : Int)]).map V.int))) from key
          rw [← hm]
          refine q _ _ ?_ b5 I5.deal
          have := Int.emod_lt_of_pos z (show (0 : Int) < (k : Int) by omega)
          omega
end
end G
set_option Elab.async false
set_option linter.all false
set_option maxRecDepth 100000
set_option maxHeartbeats 4000000
set_option pp.maxSteps 1200
namespace G
open PySem PySem.Spec PyProof.Rows L2
open Blo (Pr)
theorem perm_erase {α : Type} : ∀ (l : List α) (r : Nat) (h : r < l.length), (l[r] :: l.eraseIdx r).Perm l
  | a :: l, 0, _ => List.Perm.refl _
  | a :: l, r + 1, h => (List.Perm.swap a _ _).trans ((perm_erase l r (Nat.lt_of_succ_lt_succ h)).cons a)
/-! ### an int or a plan -/
def Elem (K : PySem.W.Frag) (H : Hp) (v : V) : Prop := (∃ i : Int, v = .int i) ∨ ∃ p, PlanV K H v p
section
variable {K : PySem.W.Frag} {H H' : Hp}
theorem Elem.tk {v : V} (t : Tk K H H') (h : Elem K H v) : Elem K H' v := by
  rcases h with h | ⟨p, h⟩
  · exact .inl h
  · exact .inr ⟨p, h.tk t⟩
theorem Elem.dp {v : V} (h : Elem K H v) : ∃ x, Dp K H v x ∧ x.canLay0 = true ∧ x.depth ≤ 2 := by
  rcases h with ⟨i, rfl⟩ | ⟨p, h⟩
  · exact ⟨_, .int i, by simp [PyData.canLay0], by simp [PyData.depth]⟩
  · exact ⟨_, h.dp, planD_lay p, planD_depth p⟩
theorem elems_dp : ∀ xs : List V, (∀ v ∈ xs, Elem K H v) → ∃ ds, DpAll K H xs ds ∧ PyData.canLayAll0 ds = true ∧ PyData.depthAll ds ≤ 2 ∧ ds.isEmpty = xs.isEmpty
  | [], _ => ⟨[], .nil, by simp [PyData.canLayAll0], by simp [PyData.depthAll], rfl⟩
  | v :: vs, h => by
    obtain ⟨ds, h1, h2, h3, _⟩ := elems_dp vs fun x hx => h x (List.mem_cons_of_mem _ hx)
    obtain ⟨x, g1, g2, g3⟩ := (h v List.mem_cons_self).dp
    refine ⟨x :: ds, .cons g1 h1, by simp [PyData.canLayAll0, g2, h2], ?_, rfl⟩
    simp only [PyData.depthAll]
    omega
theorem But.mut {d c L : Addr} {o : HO} (b : But d c H H') (h : H L = none) : But d c H (upd H' L o) := fun x u hx h1 h2 => by
  rw [upd_ne (ne_of_none hx h)]
  exact b x u hx h1 h2
end

section
variable {P : Program} {w : World} {K : PySem.W.Frag} {mg : Str → Option Value} {base : Heap} {C : Addr}
theorem scOf : FnScope ["_law_deal", "_law_some"] ["_law_deal", "_law_some"] (defScope sOf) := ⟨rfl, rfl, rfl, by decide +kernel, rfl, by decide +kernel, by decide +kernel⟩
def spOf : Sp := fun vs H Q _ => ∃ (d c s : Addr) (xs : List V), vs = [.ref d, .ref s] ∧ Deal H d c ∧ H s = some (.lst xs) ∧ s ≠ d ∧ s ≠ c ∧ 0 < xs.length ∧ xs.length < 1000000 ∧ ∀ x H', x ∈ xs → But d c H H' → Deal H' d c → Q x H'
theorem ok_of (D : Df K mg "_law_of" sOf ["_law_deal", "_law_some"]) (T : Nm mg) (C1 : C8.Cal P w K mg base 1 "_law_any" (spAny K) []) : C8.Cal P w K mg base 2 "_law_of" spOf [] := by
  refine cal_of D scOf (fun vs H Q E h => ?_) (fun f cdv A' outer s H vs Q E hr h => ?_)
  · obtain ⟨d, c, s, xs, rfl, _⟩ := h
    rfl
  · obtain ⟨d, c, s, xs, rfl, DD, hs, hsd, hsc, h0, h1, q⟩ := h
    refine ⟨_, pss_one (ps_ret (pe_ix ix_list (pv 1) (C8.pe_c C1 hr (by decide) (by rfl) (pa_cons (pv 0) (pa_cons (pe_callB call_len_seq (by rfl) T.len PySem.boot_len (pa_cons (pv 1) pa_nil)) pa_nil))) (fun _ _ => rfl))), ?_⟩
    refine ⟨_, rfl, _, rfl, _, rfl, s, xs, rfl, .inl (SqL.of hs), d, c, xs.length, rfl, DD, h0, h1, fun r H' hr' b D' => ?_⟩
    have hx : xs[r]? = some xs[r] := List.getElem?_eq_getElem hr'
    refine ⟨s, xs, r, _, rfl, rfl, SqL.of (b _ _ hs hsd hsc), atI_nat hx, ?_⟩
    exact q _ _ (List.getElem_mem hr') b D'

theorem scMixed : FnScope ["_law_deal", "_law_some", "_law_left", "_law_found"] ["_law_deal", "_law_some"] (defScope sMixed) := ⟨rfl, rfl, rfl, by decide +kernel, rfl, by decide +kernel, by decide +kernel⟩
def spMixed (K : PySem.W.Frag) : Sp := fun vs H Q _ => ∃ (d c s : Addr) (xs : List V), vs = [.ref d, .ref s] ∧ Deal H d c ∧ H s = some (.lst xs) ∧ xs.length ≤ 70000 ∧ (∀ x ∈ xs, Elem K H x) ∧
  ∀ (L : Addr) ys H', H L = none → But d c H H' → Deal H' d c → H' L = some (.lst ys) → ys.Perm xs → Q (.ref L) H'
theorem seq_at {r n : Nat} (h : r < n) : seqIndex? (r : Int) n = some r := by
  unfold seqIndex?
  simp
  omega
theorem ok_mixed (D : Df K mg "_law_mixed" sMixed ["_law_deal", "_law_some"]) (T : Nm mg) (C1 : C8.Cal P w K mg base 1 "_law_any" (spAny K) []) : C8.Cal P w K mg base 2 "_law_mixed" (spMixed K) [] := by
  refine cal_of D scMixed (fun vs H Q E h => ?_) (fun f cdv A' outer s H vs Q E hr h => ?_)
  · obtain ⟨d, c, s, xs, rfl, _⟩ := h
    rfl
  · obtain ⟨d, c, sa, xs, rfl, DD, hs, hlen, hel, q⟩ := h
    have hu : A'.units + 3 + 64 < cLine := by
      have := hr.un
      have e : (A'.deeper (envOfC "_law_mixed" (defScope sMixed) s.heap.objs.size f cdv)).units = A'.units + 3 := rfl
      omega
    refine ⟨_, pss_cons (ps_par (by rfl) scMixed.nd (i := 2) (j := 3) rfl rfl (by decide) rfl rfl (pa_cons (pe_callTy call_list_of (by rfl) T.list (by decide +kernel) (pa_cons (pv 1) pa_nil)) (pa_cons (pe_lst pa_nil) pa_nil)) (by rfl))
      (pss_cons (ps_while PassesOwn.never (pt_cmpR (r := rNeD K) (op_neD hu) (pv 2) (pe_lst pa_nil) (nomark _))
        (pss_one (ps_expr (pe_bm PySem.F.plainAttrs_list PySem.F.slot_list_append PySem.F.type_list_append mt_append (pv 3) (pa_cons
          (pe_bm PySem.F.plainAttrs_list PySem.F.slot_list_pop PySem.F.type_list_pop mt_popAt (pv 2) (pa_cons (C8.pe_c C1 hr (by decide) (by rfl) (pa_cons (pv 0) (pa_cons (pe_callB call_len_seq (by rfl) T.len PySem.boot_len (pa_cons (pv 2) pa_nil)) pa_nil))) pa_nil)) pa_nil)))))
      (pss_one (ps_ret (pv 3)))), ?_⟩
    refine ⟨_, rfl, sa, xs, rfl, .inl (SqL.of hs), fun L hL => ?_⟩
    have s1 := same_upd (o := .lst xs) hL
    have h1 : upd H L (.lst xs) L = some (.lst xs) := upd_same
    have D1 := DD.same s1
    generalize upd H L (.lst xs) = H1 at s1 h1 D1 ⊢
    refine ⟨Nat.zero_le _, fun F hF => ?_⟩
    have hF0 := s1.free hF
    have hLF : L ≠ F := ne_of_none h1 hF
    obtain ⟨nLd, nLc⟩ := DD.ne hL
    obtain ⟨nFd, nFc⟩ := DD.ne hF0
    have s2 := s1.trans (same_upd (o := .lst []) hF)
    have h2 := same_upd (o := .lst []) hF _ _ h1
    have f2 : upd H1 F (.lst []) F = some (.lst []) := upd_same
    have D2 := D1.same (same_upd (o := .lst []) hF)
    generalize upd H1 F (.lst []) = H2 at s2 h2 f2 D2 ⊢
    refine ⟨_, _, rfl, ?_⟩
    refine ⟨fun m σ H' => ∃ left found, σ = [some (.ref d), some (.ref sa), some (.ref L), some (.ref F)] ∧ But d c H H' ∧ Deal H' d c ∧ H' L = some (.lst left) ∧ H' F = some (.lst found) ∧ (found ++ left).Perm xs ∧ m = left.length,
      ⟨_, xs, [], rfl, .of s2, D2, h2, f2, List.Perm.refl _, rfl⟩, ?_⟩
    rintro m σ H3 ⟨left, found, rfl, b3, D3, h3, f3, hp, rfl⟩
    have hl3 := hp.length_eq
    rw [List.length_append] at hl3
    refine ⟨_, rfl, Nat.zero_le _, fun e he => ?_⟩
    have s4 := same_upd (o := .lst []) he
    have e4 : upd H3 e (.lst []) e = some (.lst []) := upd_same
    generalize upd H3 e (.lst []) = H4 at s4 e4 ⊢
    have b4 := b3.trans (.of s4)
    have D4 := D3.same s4
    have h4 := s4 _ _ h3
    have f4 := s4 _ _ f3
    obtain ⟨ds, z1, z2, z3, z4⟩ := elems_dp (K := K) (H := H4) left fun v hv => (hel v (hp.mem_iff.mp (List.mem_append_right _ hv))).tk (DD.tk b4)
    refine neNil (SqL.of h4) z1 z2 (by omega) e4 ⟨_, rfl, ?_⟩
    rw [z4]
    cases left with
    | nil =>
      refine iteF' _ (by rfl) ?_
      rw [List.append_nil] at hp
      exact ⟨_, rfl, q F found H4 hF0 b4 D4 f4 hp⟩
    | cons l0 ls =>
      refine iteT' _ (by rfl) ?_
      refine ⟨fun σ H' => ∃ left found, σ = [some (.ref d), some (.ref sa), some (.ref L), some (.ref F)] ∧ But d c H H' ∧ Deal H' d c ∧ H' L = some (.lst left) ∧ H' F = some (.lst found) ∧ (found ++ left).Perm xs ∧ left.length < (l0 :: ls).length, fun σ' H' ⟨left, found, q1, q2, q3, q4, q5, q6, q7⟩ => ⟨_, q7, left, found, q1, q2, q3, q4, q5, q6, rfl⟩, ?_⟩
      refine ⟨_, rfl, .inl ⟨rfl, _, SqL.of f4⟩, _, rfl, .inl ⟨rfl, _, SqL.of h4⟩, _, rfl, _, rfl, L, _, rfl, .inl (SqL.of h4), d, c, (l0 :: ls).length, rfl, D4, Nat.succ_pos _, by omega, fun r H5 hr5 b5 D5 => ?_⟩
      have h5 := b5 _ _ h4 nLd nLc
      have f5 := b5 _ _ f4 nFd nFc
      refine ⟨L, _, r, r, (l0 :: ls)[r], rfl, rfl, h5, by omega, by omega, seq_at hr5, List.getElem?_eq_getElem hr5, ?_⟩
      have f6 : upd H5 L (.lst ((l0 :: ls).eraseIdx r)) F = some (.lst found) := by rw [upd_ne hLF.symm]; exact f5
      refine ⟨F, found, _, rfl, rfl, f6, size_lt (by omega), ?_⟩
      refine ⟨(l0 :: ls).eraseIdx r, found ++ [(l0 :: ls)[r]], rfl, ((b4.trans b5).mut hL).mut hF0, (D5.mut nLd nLc).mut nFd nFc, by rw [upd_ne hLF]; exact upd_same, upd_same, ?_, ?_⟩
      · rw [List.append_assoc]
        exact (List.Perm.append_left _ (perm_erase (l0 :: ls) r hr5)).trans hp
      · rw [List.length_eraseIdx]
        split <;> simp
end
end G
set_option Elab.async false
set_option linter.all false
set_option maxRecDepth 100000
set_option maxHeartbeats 4000000
set_option pp.maxSteps 1200
namespace G
open PySem PySem.Spec PyProof.Rows L2
open Blo (Pr)
theorem rI0N {f : Int → Int → V} {i j : Int} {z : V} {H : Hp} {Q : VK} (e : f i j = z) (k : Q z H) : rI0 f (.int i) (.int j) H Q := by
  subst e
  exact ⟨i, j, rfl, rfl, k⟩
theorem nodup_len {α : Type} [DecidableEq α] : ∀ (l m : List α), l.Nodup → (∀ x ∈ l, x ∈ m) → l.length ≤ m.length
  | [], m, _, _ => Nat.zero_le _
  | a :: l, m, h, hs => by
    have ha := hs a List.mem_cons_self
    have h1 := nodup_len l (m.erase a) (List.nodup_cons.mp h).2 fun x hx => (List.mem_erase_of_ne (show x ≠ a from fun e => (List.nodup_cons.mp h).1 (by rw [← e]; exact hx))).mpr (hs x (List.mem_cons_of_mem _ hx))
    rw [List.length_erase_of_mem ha] at h1
    have h2 := List.length_pos_of_mem ha
    rw [List.length_cons]
    omega
def toP : List Int → Pr
  | [a, b] => (a.toNat, b.toNat)
  | _ => (0, 0)
theorem pairs_map {K : PySem.W.Frag} {H : Hp} : ∀ L : List (Addr × List Int), (∀ q ∈ L, PairV K H (.ref q.1) (toP q.2)) → PairsV K H (L.map fun q => V.ref q.1) (L.map fun q => toP q.2)
  | [], _ => .nil
  | q :: L, h => .cons (h q List.mem_cons_self) (pairs_map L fun r hr => h r (List.mem_cons_of_mem _ hr))
theorem seqM {t u : TS} {D : Ends} {σ : L2.St} {H : Hp} (M : L2.St → Hp → Prop) (h1 : ∀ N : L2.St → Hp → Prop, (∀ σ' H', M σ' H' → N σ' H') → t { D with nx := N } σ H) (h2 : ∀ σ' H', M σ' H' → u D σ' H') : tSeq t u D σ H := h1 _ h2
theorem But.none {d c L : Addr} {H H' : Hp} (b : But d c H H') (h : H' L = none) (n : L ≠ d ∧ L ≠ c) : H L = none := Classical.byContradiction fun e => by
  cases ee : H L with
  | none => exact e ee
  | some o =>
    have := b _ _ ee n.1 n.2
    rw [h] at this
    cases this
/-- while the pairs are gathered -/
def Gat (K : PySem.W.Frag) (d c : Addr) (H : Hp) (n : Nat) (R : Addr) (rows : List V) (m B : Nat) (σ : L2.St) (H' : Hp) : Prop := ∃ (P : Addr) (pvs : List V) (es : List Pr) (x6 x7 x8 x9 : Option V),
  σ = [some (.ref d), some (.int 8), some (.int (n : Nat)), some (.ref P), some (.ref R), some (.int (m : Nat)), x6, x7, x8, x9] ∧ But d c H H' ∧ Deal H' d c ∧ H' R = some (.lst rows) ∧ H' P = some (.lst pvs) ∧ PairsV K H' pvs es ∧
  H P = none ∧ P ≠ R ∧ (∀ e ∈ es, e.1 < n ∧ e.2 < n) ∧ es.length ≤ B
section
variable {P : Program} {w : World} {K : PySem.W.Frag} {mg : Str → Option Value} {base : Heap} {C : Addr}
abbrev nWeb : List Str := ["_law_deal", "_law_most", "_law_n", "_law_pairs", "_law_row", "_law_form", "_law_at", "_law_size", "_law_turn", "_law_pair"]
theorem scWeb : FnScope nWeb ["_law_deal", "_law_most"] (defScope sWeb) := ⟨rfl, rfl, rfl, by decide +kernel, rfl, by decide +kernel, by decide +kernel⟩
def spLawWeb (K : PySem.W.Frag) : Sp := fun vs H Q _ => ∃ (d c : Addr), vs = [.ref d, .int 8] ∧ Deal H d c ∧
  ∀ (u : V) (n : Nat) (ps : List Pr) H', But d c H H' → Deal H' d c → 1 ≤ n → n ≤ 8 → Blo.WebOk n ps → ps.length ≤ 16 → WebV K H' u n ps → Q u H'
theorem ok_lawWeb (D : Df K mg "_law_web" sWeb ["_law_deal", "_law_most"]) (T : Nm mg) (C1 : C8.Cal P w K mg base 1 "_law_any" (spAny K) []) (C2 : C8.Cal P w K mg base 2 "_law_of" spOf []) (C3 : C8.Cal P w K mg base 2 "_law_mixed" (spMixed K) []) : C8.Cal P w K mg base 3 "_law_web" (spLawWeb K) [] := by
  refine cal_of D scWeb (fun vs H Q E h => ?_) (fun f cdv A' outer s H vs Q E hr h => ?_)
  · obtain ⟨d, c, rfl, _⟩ := h
    rfl
  · obtain ⟨d, c, rfl, DD, q⟩ := h
    have hu : A'.units + 3 + 70 < cLine := by
      have := hr.un
      have e : (A'.deeper (envOfC "_law_web" (defScope sWeb) s.heap.objs.size f cdv)).units = A'.units + 3 := rfl
      omega
    refine ⟨_, (pss_cons (ps_par (by rfl) scWeb.nd (i := 2) (j := 3) rfl rfl (by decide) rfl rfl (pa_cons (pe_op op_add pe_int (C8.pe_c C1 hr (by decide) (by rfl) (pa_cons (pv 0) (pa_cons (pv 1) pa_nil)))) (pa_cons (pe_lst pa_nil) pa_nil)) (by rfl))
      (pss_cons (ps_set (i := 4) scWeb.nd rfl (by first | exact Or.inl rfl | exact Or.inr rfl) (C8.pe_c C3 hr (by decide) (by rfl) (pa_cons (pv 0) (pa_cons (pe_listRg rfl (by rfl) T.list (prg_1 (by rfl) T.range (pv 2))) pa_nil))))
      (pss_cons (ps_set (i := 5) scWeb.nd rfl (by first | exact Or.inl rfl | exact Or.inr rfl) (C8.pe_c C1 hr (by decide) (by rfl) (pa_cons (pv 0) (pa_cons pe_int pa_nil))))
      (pss_cons (ps_if (pt_cmpR op_lt (pv 5) pe_int (nomark _)) (pss_one (ps_setLc (i := 3) (own := [("_law_at", 6)]) (g := gName 6) rfl scWeb.nd rfl rfl (by rfl) (pi_range1 (by rfl) T.range (pa_cons (pe_op op_sub (pv 2) pe_int) pa_nil))
          (blkOk_by (N := nWeb) (sc := defScope sWeb) (by decide +kernel)) (fun _ _ _ _ _ => (pg_name (i := 6) scWeb.nd rfl (by first | exact Or.inl rfl | exact Or.inr rfl)))
          (fun _ _ _ _ _ => pts_one (pt_cmpR op_gt (C8.pe_c C1 hr (by decide) (by rfl) (pa_cons (pv 0) (pa_cons pe_int pa_nil))) pe_int (nomark _)))
          (fun _ _ _ _ _ => (pe_tup (pa_cons (pe_ix (r := rIxL K) ix_list (pv 4) (pv 6) (fun _ _ => rfl)) (pa_cons (pe_ix (r := rIxL K) ix_list (pv 4) (pe_op op_add (pv 6) pe_int) (fun _ _ => rfl)) pa_nil)))))) pss_nil)
      (pss_cons (ps_if (PW.pt (pw_and (pt_cmpR op_eq (pv 5) pe_int (nomark _)) (pw_and1 (pt_cmpR op_gt (pv 2) pe_int (nomark _))))) (pss_cons (ps_set (i := 7) scWeb.nd rfl (by first | exact Or.inl rfl | exact Or.inr rfl) (C8.pe_c C2 hr (by decide) (by rfl) (pa_cons (pv 0) (pa_cons (pe_lst (pa_cons pe_int (pa_cons pe_int (pa_cons pe_int (pa_cons pe_int (pa_cons (pv 2) pa_nil)))))) pa_nil))))
      (pss_one (ps_expr (pe_bm PySem.F.plainAttrs_list PySem.F.slot_list_append PySem.F.type_list_append mt_append (pv 3) (pa_cons (pe_tup (pa_cons (pe_ix ix_list (pv 4) pe_int (fun _ _ => rfl)) (pa_cons (pe_ix ix_list (pv 4) (pe_op op_sub (pe_callB (call_min2 rfl) (by rfl) T.min (by decide +kernel) (pa_cons (pv 7) (pa_cons (pv 2) pa_nil))) pe_int) (fun _ _ => rfl)) pa_nil))) pa_nil))))) pss_nil)
      (pss_cons (ps_for PassesOwn.never rfl (pi_range1 (by rfl) T.range (pa_cons (pe_ifExp (pt_cmpR op_lt (pv 5) pe_int (nomark _)) (C8.pe_c C1 hr (by decide) (by rfl) (pa_cons (pv 0) (pa_cons (pe_op op_add (pv 2) pe_int) pa_nil))) (C8.pe_c C1 hr (by decide) (by rfl) (pa_cons (pv 0) (pa_cons (pe_op op_add (pe_op op_mul pe_int (pv 2)) pe_int) pa_nil)))) pa_nil)) (pg_name (i := 8) scWeb.nd rfl (by first | exact Or.inl rfl | exact Or.inr rfl))
        (pss_one (ps_expr (pe_bm PySem.F.plainAttrs_list PySem.F.slot_list_append PySem.F.type_list_append mt_append (pv 3) (pa_cons (pe_tup (pa_cons (C8.pe_c C1 hr (by decide) (by rfl) (pa_cons (pv 0) (pa_cons (pv 2) pa_nil))) (pa_cons (C8.pe_c C1 hr (by decide) (by rfl) (pa_cons (pv 0) (pa_cons (pv 2) pa_nil))) pa_nil))) pa_nil)))))
      (pss_one (ps_ret (pe_tup (pa_cons (pv 2) (pa_cons (pe_callTy call_tuple_of (by rfl) T.tuple (by decide +kernel) (pa_cons (pe_callB (cr_sortedT rfl) (by rfl) T.sorted (by decide +kernel) (pa_cons (pe_callTy (cr_setOfT rfl (by show A'.units + 3 + 64 < cLine; omega)) (by rfl) T.set (by decide +kernel) (pa_cons (pe_lc (own := [("_law_pair", 9)]) (g := gName 9) (te := tTup (tCons (tCB (rMinT K) (tCons (tVar 9) tNil)) (tCons (tCB (rMaxT K) (tCons (tVar 9) tNil)) tNil))) rfl scWeb.nd (pi_list (pv 3))
          (blkOk_by (N := nWeb) (sc := defScope sWeb) (by decide +kernel)) (fun _ _ _ _ _ => (pg_name (i := 9) scWeb.nd rfl (by first | exact Or.inl rfl | exact Or.inr rfl)))
          (fun _ _ _ _ _ => pts_one (pt_cmpR op_ne (pe_ix (r := rIxT K) ix_tup (pv 9) pe_int (fun _ _ => rfl)) (pe_ix (r := rIxT K) ix_tup (pv 9) pe_int (fun _ _ => rfl)) (nomark _)))
          (fun _ _ _ _ _ => (pe_tup (pa_cons (pe_callB (cr_minT rfl hu) (by rfl) T.min (by decide +kernel) (pa_cons (pv 9) pa_nil)) (pa_cons (pe_callB (cr_maxT rfl hu) (by rfl) T.max (by decide +kernel) (pa_cons (pv 9) pa_nil)) pa_nil))))) pa_nil)) pa_nil)) pa_nil)) pa_nil))))))))))), ?_⟩
    refine ⟨_, rfl, _, rfl, d, c, 8, rfl, DD, by decide, by decide, fun r H1 hr1 b1 D1 => ?_⟩
    refine rI0N (z := .int ((r + 1 : Nat) : Int)) (congrArg V.int (by omega)) ?_
    have hn1 : 1 ≤ r + 1 := by omega
    have hn8 : r + 1 ≤ 8 := by omega
    clear hr1
    generalize r + 1 = n at hn1 hn8 ⊢
    refine ⟨Nat.zero_le _, fun P0 hP => ?_⟩
    have nP := D1.ne hP
    have s2 := same_upd (o := .lst []) hP
    have h2 : upd H1 P0 (.lst []) P0 = some (.lst []) := upd_same
    have D2 := D1.same s2
    have b2 := b1.trans (.of s2)
    have hP0 : H P0 = none := Classical.byContradiction fun e => by
      cases ee : H P0 with
      | none => exact e ee
      | some o =>
        have := b1 _ _ ee nP.1 nP.2
        rw [hP] at this
        cases this
    generalize upd H1 P0 (.lst []) = H2 at s2 h2 D2 b2 ⊢
    refine ⟨_, _, rfl, ?_⟩
    dsimp only
    refine seqI (asgI ?_)
    refine ⟨_, rfl, _, rfl, n, rfl, RgOk.of_le (by omega) (by omega) (by omega) (by omega), fun S hS => ?_⟩
    rw [rgV_map]
    have s3 := same_upd (o := .lst (mapV n fun i => V.int (i : Nat))) hS
    have h3 : upd H2 S (.lst (mapV n fun i => V.int (i : Nat))) S = some (.lst (mapV n fun i => V.int (i : Nat))) := upd_same
    have D3 := D2.same s3
    have b3 := b2.trans (.of s3)
    have p3 := s3 _ _ h2
    generalize upd H2 S (.lst (mapV n fun i => V.int (i : Nat))) = H3 at s3 h3 D3 b3 p3 ⊢
    have hel : ∀ x ∈ mapV n (fun i => V.int (i : Nat)), ∃ k : Nat, x = .int (k : Nat) ∧ k < n := fun x hx => by
      obtain ⟨k, hk, rfl⟩ := List.mem_map.mp hx
      exact ⟨k, rfl, List.mem_range.mp hk⟩
    refine ⟨d, c, S, _, rfl, D3, h3, by rw [mapV_len]; omega, fun x hx => ?_, fun R rows H4 hR b34 D4 h4 hperm => ?_⟩
    · obtain ⟨k, rfl, _⟩ := hel x hx
      exact .inl ⟨_, rfl⟩
    have b4 := b3.trans b34
    have p4 := b34 _ _ p3 nP.1 nP.2
    have hPR : P0 ≠ R := ne_of_none p3 hR
    have nR := D3.ne hR
    have hrl : rows.length = n := by rw [hperm.length_eq, mapV_len]
    have hrow : ∀ i, i < n → ∃ k : Nat, rows[i]? = some (.int (k : Nat)) ∧ k < n := fun i hi => by
      have hx : rows[i]? = some (rows[i]'(by omega)) := List.getElem?_eq_getElem (by omega)
      obtain ⟨k, e, hk⟩ := hel _ (hperm.mem_iff.mp (List.getElem_mem (show i < rows.length by omega)))
      exact ⟨k, by rw [hx, e], hk⟩
    refine gnameI ?_
    dsimp only
    refine seqI (asgI ?_)
    refine ⟨_, rfl, d, c, 4, rfl, D4, by decide, by decide, fun m H5 hm b45 D5 => ?_⟩
    have b5 := b4.trans b45
    have p5 := b45 _ _ p4 nP.1 nP.2
    have r5 := b45 _ _ h4 nR.1 nR.2
    refine gnameI ?_
    dsimp only
    -- pairs that stand beside one another
    refine seqM (Gat K d c H n R rows m (if m < 3 then 7 else 0)) (fun N hN => ?_) (fun σ1 H6 hG => ?_)
    · refine ⟨_, rfl, _, _, rfl, rfl, _, rfl, ?_⟩
      by_cases hm3 : m < 3
      · refine iteT' _ (decide_eq_true (by omega)) ?_
        rw [if_pos hm3] at hN
        refine ⟨_, rfl, _, _, rfl, rfl, _, rfl, by omega, by omega, fun L hL => ?_⟩
        have nL := D5.ne hL
        have hL0 := b5.none hL nL
        have hRL : R ≠ L := ne_of_none r5 hL
        refine it_range (lo := 0) (n := ((n : Int) - 1).toNat) (fun i H' => But d c H H' ∧ Deal H' d c ∧ H' R = some (.lst rows) ∧ ∃ pvs es, H' L = some (.lst pvs) ∧ PairsV K H' pvs es ∧ (∀ e ∈ es, e.1 < n ∧ e.2 < n) ∧ es.length ≤ i)
          ⟨b5.trans (.of (same_upd hL)), D5.same (same_upd hL), same_upd hL _ _ r5, [], [], upd_same, .nil, (fun _ h => nomatch h), Nat.zero_le _⟩ (fun i H6 hi h => ?_) (fun H6 h => ?_)
        · obtain ⟨b6, D6, r6, pvs, es, l6, hp6, he6, hl6⟩ := h
          rw [Int.zero_add]
          have hi2 : i + 1 < n := by omega
          obtain ⟨k1, hk1, hk1n⟩ := hrow i (by omega)
          obtain ⟨k2, hk2, hk2n⟩ := hrow (i + 1) hi2
          refine ⟨rfl, _, rfl, d, c, 8, rfl, D6, by decide, by decide, fun r H7 hr7 b67 D7 => ?_⟩
          have b7 := b6.trans b67
          have r7 := b67 _ _ r6 nR.1 nR.2
          have l7 := b67 _ _ l6 nL.1 nL.2
          have hp7 := pairs_tk (D6.tk b67) hp6
          refine ⟨_, _, rfl, rfl, _, rfl, ?_⟩
          refine ite2 (fun _ => ?_) (fun _ => ?_)
          · refine ⟨_, rfl, _, rfl, R, _, i, _, rfl, rfl, SqL.of r7, atI_nat hk1, ?_⟩
            refine ⟨_, rfl, _, rfl, _, _, rfl, rfl, R, _, _, _, rfl, rfl, SqL.of r7, (show atI rows ((i + 1 : Nat) : Int) = _ from atI_nat hk2), by show 2 ≤ sizeLine; decide, fun t ht => ?_⟩
            have s8 := same_upd (o := .tup [.int (k1 : Nat), .int (k2 : Nat)]) ht
            have t8 : upd H7 t (.tup [.int (k1 : Nat), .int (k2 : Nat)]) t = some (.tup [.int (k1 : Nat), .int (k2 : Nat)]) := upd_same
            refine ⟨pvs, s8 _ _ l7, ?_, (b7.trans (.of s8)).mut hL0, (D7.same s8).mut nL.1 nL.2, by rw [upd_ne hRL]; exact s8 _ _ r7, pvs ++ [.ref t], es ++ [(k1, k2)], upd_same, ?_, fun e he => ?_, ?_⟩
            · rw [hp7.length]
              exact size_lt (by omega)
            · exact Paired.snoc (pairs_tk (Tk.lst (s8 _ _ l7)) (pairs_same s8 hp7)) (PairV.tk (Tk.lst (s8 _ _ l7)) ⟨t, rfl, SqT.of t8⟩)
            · rcases List.mem_append.mp he with h | h
              · exact he6 e h
              · rw [List.mem_singleton.mp h]
                exact ⟨hk1n, hk2n⟩
            · rw [List.length_append]; simp only [List.length_cons, List.length_nil]; omega
          · exact ⟨b7, D7, r7, pvs, es, l7, hp7, he6, by omega⟩
        · obtain ⟨b6, D6, r6, pvs, es, l6, hp6, he6, hl6⟩ := h
          exact hN _ _ ⟨L, pvs, es, _, _, _, _, rfl, b6, D6, r6, l6, hp6, hL0, hRL.symm, he6, by omega⟩
      · refine iteF' _ (decide_eq_false (by omega)) ?_
        exact hN _ _ ⟨P0, [], [], _, _, _, _, rfl, b5, D5, r5, p5, .nil, hP0, hPR, (fun _ h => nomatch h), Nat.zero_le _⟩
    obtain ⟨P1, pvs, es, x6, x7, x8, x9, rfl, b6, D6, r6, p6, hp6, hP1, hPR1, he6, hl6⟩ := hG
    -- one pair more
    refine seqM (Gat K d c H n R rows m (if m < 3 then 8 else 0)) (fun N hN => ?_) (fun σ1 H7 hG => ?_)
    · have hB : (if m < 3 then 7 else 0) ≤ (if m < 3 then 8 else 0) := by split <;> omega
      refine ⟨_, rfl, rfl, _, rfl, ?_⟩
      by_cases hm0 : m = 0
      · refine iteT' _ (by rw [hm0]; rfl) ⟨_, rfl, _, _, rfl, rfl, _, rfl, ?_⟩
        by_cases hn2 : 2 < n
        · refine iteT' _ (decide_eq_true (by omega)) ?_
          rw [if_pos (by omega)] at hl6 hN
          refine seqI (asgI ?_)
          refine ⟨_, rfl, _, rfl, by show 5 ≤ sizeLine; decide, fun S hS => ?_⟩
          have s7 := same_upd (o := .lst [.int 3, .int 3, .int 5, .int 7, .int (n : Nat)]) hS
          have D7 := D6.same s7
          have b7 := b6.trans (.of s7)
          have nS := D6.ne hS
          have r7 := s7 _ _ r6
          have p7 := s7 _ _ p6
          have hp7 := pairs_same s7 hp6
          have q7 : upd H6 S (.lst [.int 3, .int 3, .int 5, .int 7, .int (n : Nat)]) S = some (.lst [.int 3, .int 3, .int 5, .int 7, .int (n : Nat)]) := upd_same
          generalize upd H6 S (.lst [.int 3, .int 3, .int 5, .int 7, .int (n : Nat)]) = H7 at s7 D7 b7 r7 p7 hp7 q7 ⊢
          refine ⟨d, c, S, _, rfl, D7, q7, nS.1, nS.2, by show 0 < 5; decide, by show 5 < 1000000; decide, fun x H8 hx b78 D8 => ?_⟩
          have b8 := b7.trans b78
          have nP1 := D6.ne (L := P1)
          have nP1 : P1 ≠ d ∧ P1 ≠ c := DD.ne hP1
          have r8 := b78 _ _ r7 nR.1 nR.2
          have p8 := b78 _ _ p7 nP1.1 nP1.2
          have hp8 := pairs_tk (D7.tk b78) hp7
          obtain ⟨z, rfl, hz⟩ : ∃ z : Int, x = .int z ∧ 3 ≤ z := by
            simp only [List.mem_cons, List.not_mem_nil, or_false] at hx
            rcases hx with rfl | rfl | rfl | rfl | rfl
            · exact ⟨3, rfl, by decide⟩
            · exact ⟨3, rfl, by decide⟩
            · exact ⟨5, rfl, by decide⟩
            · exact ⟨7, rfl, by decide⟩
            · exact ⟨(n : Int), rfl, by omega⟩
          refine gnameI ?_
          dsimp only
          obtain ⟨k1, hk1, hk1n⟩ := hrow 0 (by omega)
          obtain ⟨j, hj, hjn⟩ : ∃ j : Nat, (if (n : Int) < z then (n : Int) else z) - 1 = (j : Int) ∧ j < n := ⟨((if (n : Int) < z then (n : Int) else z) - 1).toNat, by split <;> omega, by split <;> omega⟩
          obtain ⟨k2, hk2, hk2n⟩ := hrow j hjn
          refine dropI (bmI ⟨_, rfl, .inl ⟨rfl, _, SqL.of p8⟩, _, rfl, R, _, 0, _, rfl, rfl, SqL.of r8, (show atI rows ((0 : Nat) : Int) = _ from atI_nat hk1), ?_⟩)
          refine ⟨_, rfl, _, rfl, _, rfl, _, _, rfl, _, _, rfl, rfl, R, _, _, _, rfl, rfl, SqL.of r8, (show atI rows ((if (n : Int) < z then (n : Int) else z) - 1) = _ by rw [hj]; exact atI_nat hk2), by show 2 ≤ sizeLine; decide, fun t ht => ?_⟩
          have s9 := same_upd (o := .tup [.int (k1 : Nat), .int (k2 : Nat)]) ht
          have t9 : upd H8 t (.tup [.int (k1 : Nat), .int (k2 : Nat)]) t = some (.tup [.int (k1 : Nat), .int (k2 : Nat)]) := upd_same
          refine ⟨P1, pvs, _, rfl, rfl, s9 _ _ p8, ?_, ?_⟩
          · rw [hp8.length]
            exact size_lt (by omega)
          refine hN _ _ ⟨P1, pvs ++ [.ref t], es ++ [(k1, k2)], _, _, _, _, rfl, (b8.trans (.of s9)).mut hP1, (D8.same s9).mut nP1.1 nP1.2, by rw [upd_ne hPR1.symm]; exact s9 _ _ r8, upd_same,
            Paired.snoc (pairs_tk (Tk.lst (s9 _ _ p8)) (pairs_same s9 hp8)) (PairV.tk (Tk.lst (s9 _ _ p8)) ⟨t, rfl, SqT.of t9⟩), hP1, hPR1, fun e he => ?_, ?_⟩
          · rcases List.mem_append.mp he with h | h
            · exact he6 e h
            · rw [List.mem_singleton.mp h]
              exact ⟨hk1n, hk2n⟩
          · rw [List.length_append]; simp only [List.length_cons, List.length_nil]; omega
        · refine iteF' _ (decide_eq_false (by omega)) ?_
          exact hN _ _ ⟨P1, pvs, es, _, _, _, _, rfl, b6, D6, r6, p6, hp6, hP1, hPR1, he6, Nat.le_trans hl6 hB⟩
      · refine iteF' _ (decide_eq_false fun e => hm0 (by have := V.int.inj e; omega)) ?_
        refine iteF ?_
        exact hN _ _ ⟨P1, pvs, es, _, _, _, _, rfl, b6, D6, r6, p6, hp6, hP1, hPR1, he6, Nat.le_trans hl6 hB⟩
    clear r6 D6 b6 p6 hp6 he6 hl6 hP1 hPR1
    obtain ⟨P1, pvs, es, x6, x7, x8, x9, rfl, b6, D6, r6, p6, hp6, hP1, hPR1, he6, hl6⟩ := hG
    -- some pairs more
    have nP1 : P1 ≠ d ∧ P1 ≠ c := DD.ne hP1
    refine seqM (Gat K d c H n R rows m 16) (fun N hN => ?_) (fun σ1 H8 hG => ?_)
    · refine ⟨_, rfl, _, _, rfl, rfl, _, rfl, ?_⟩
      by_cases hm3 : m < 3
      · refine iteT' _ (decide_eq_true (by omega)) ?_
        rw [if_pos hm3] at hl6
        refine ⟨_, rfl, _, rfl, _, _, rfl, rfl, d, c, n + 1, rfl, D6, by omega, by omega, fun r2 H7 hr2 b67 D7 => ?_⟩
        refine ⟨r2, rfl, by omega, by omega, ?_⟩
        have b7 := b6.trans b67
        have r7 := b67 _ _ r6 nR.1 nR.2
        have p7 := b67 _ _ p6 nP1.1 nP1.2
        have hp7 := pairs_tk (D6.tk b67) hp6
        refine for_range (lo := 0) (n := r2) (fun i σ H' => Gat K d c H n R rows m (8 + i) σ H') ⟨P1, pvs, es, _, _, _, _, rfl, b7, D7, r7, p7, hp7, hP1, hPR1, he6, by omega⟩ (fun i σ H8 hi h => ?_) (fun σ H8 h => ?_)
        · obtain ⟨P2, pvs, es, x6, x7, x8, x9, rfl, b8, D8, r8, p8, hp8, hP2, hPR2, he8, hl8⟩ := h
          have nP2 : P2 ≠ d ∧ P2 ≠ c := DD.ne hP2
          refine gnameI ?_
          refine dropI (bmI ⟨_, rfl, .inl ⟨rfl, _, SqL.of p8⟩, _, rfl, _, rfl, d, c, n, rfl, D8, by omega, by omega, fun k1 H9 hk1 b89 D9 => ?_⟩)
          refine ⟨_, rfl, _, rfl, d, c, n, rfl, D9, by omega, by omega, fun k2 H10 hk2 b910 D10 => ⟨by show 2 ≤ sizeLine; decide, fun t ht => ?_⟩⟩
          have b810 := b89.trans b910
          have b10 := b8.trans b810
          have r10 := b810 _ _ r8 nR.1 nR.2
          have p10 := b810 _ _ p8 nP2.1 nP2.2
          have hp10 := pairs_tk (D8.tk b810) hp8
          have s11 := same_upd (o := .tup [.int (k1 : Nat), .int (k2 : Nat)]) ht
          have t11 : upd H10 t (.tup [.int (k1 : Nat), .int (k2 : Nat)]) t = some (.tup [.int (k1 : Nat), .int (k2 : Nat)]) := upd_same
          refine ⟨P2, pvs, _, rfl, rfl, s11 _ _ p10, ?_, ?_⟩
          · rw [hp10.length]
            exact size_lt (by omega)
          refine ⟨P2, pvs ++ [.ref t], es ++ [(k1, k2)], _, _, _, _, rfl, (b10.trans (.of s11)).mut hP2, (D10.same s11).mut nP2.1 nP2.2, by rw [upd_ne hPR2.symm]; exact s11 _ _ r10, upd_same,
            Paired.snoc (pairs_tk (Tk.lst (s11 _ _ p10)) (pairs_same s11 hp10)) (PairV.tk (Tk.lst (s11 _ _ p10)) ⟨t, rfl, SqT.of t11⟩), hP2, hPR2, fun e he => ?_, ?_⟩
          · rcases List.mem_append.mp he with h | h
            · exact he8 e h
            · rw [List.mem_singleton.mp h]
              exact ⟨hk1, hk2⟩
          · rw [List.length_append]; simp only [List.length_cons, List.length_nil]; omega
        · obtain ⟨P2, pvs, es, x6, x7, x8, x9, rfl, b8, D8, r8, p8, hp8, hP2, hPR2, he8, hl8⟩ := h
          exact hN _ _ ⟨P2, pvs, es, _, _, _, _, rfl, b8, D8, r8, p8, hp8, hP2, hPR2, he8, by omega⟩
      · refine iteF' _ (decide_eq_false (by omega)) ?_
        rw [if_neg hm3] at hl6
        refine ⟨_, rfl, _, rfl, _, _, rfl, rfl, .inl ⟨by decide, by decide⟩, _, _, rfl, rfl, d, c, 2 * n + 1, ?_, D6, by omega, by omega, fun r2 H7 hr2 b67 D7 => ?_⟩
        · show [V.ref d, V.int (2 * (n : Int) + 1)] = _
          rw [show (2 * (n : Int) + 1) = ((2 * n + 1 : Nat) : Int) by omega]
        refine ⟨r2, rfl, by omega, by omega, ?_⟩
        have b7 := b6.trans b67
        have r7 := b67 _ _ r6 nR.1 nR.2
        have p7 := b67 _ _ p6 nP1.1 nP1.2
        have hp7 := pairs_tk (D6.tk b67) hp6
        refine for_range (lo := 0) (n := r2) (fun i σ H' => Gat K d c H n R rows m (0 + i) σ H') ⟨P1, pvs, es, _, _, _, _, rfl, b7, D7, r7, p7, hp7, hP1, hPR1, he6, by omega⟩ (fun i σ H8 hi h => ?_) (fun σ H8 h => ?_)
        · obtain ⟨P2, pvs, es, x6, x7, x8, x9, rfl, b8, D8, r8, p8, hp8, hP2, hPR2, he8, hl8⟩ := h
          have nP2 : P2 ≠ d ∧ P2 ≠ c := DD.ne hP2
          refine gnameI ?_
          refine dropI (bmI ⟨_, rfl, .inl ⟨rfl, _, SqL.of p8⟩, _, rfl, _, rfl, d, c, n, rfl, D8, by omega, by omega, fun k1 H9 hk1 b89 D9 => ?_⟩)
          refine ⟨_, rfl, _, rfl, d, c, n, rfl, D9, by omega, by omega, fun k2 H10 hk2 b910 D10 => ⟨by show 2 ≤ sizeLine; decide, fun t ht => ?_⟩⟩
          have b810 := b89.trans b910
          have b10 := b8.trans b810
          have r10 := b810 _ _ r8 nR.1 nR.2
          have p10 := b810 _ _ p8 nP2.1 nP2.2
          have hp10 := pairs_tk (D8.tk b810) hp8
          have s11 := same_upd (o := .tup [.int (k1 : Nat), .int (k2 : Nat)]) ht
          have t11 : upd H10 t (.tup [.int (k1 : Nat), .int (k2 : Nat)]) t = some (.tup [.int (k1 : Nat), .int (k2 : Nat)]) := upd_same
          refine ⟨P2, pvs, _, rfl, rfl, s11 _ _ p10, ?_, ?_⟩
          · rw [hp10.length]
            exact size_lt (by omega)
          refine ⟨P2, pvs ++ [.ref t], es ++ [(k1, k2)], _, _, _, _, rfl, (b10.trans (.of s11)).mut hP2, (D10.same s11).mut nP2.1 nP2.2, by rw [upd_ne hPR2.symm]; exact s11 _ _ r10, upd_same,
            Paired.snoc (pairs_tk (Tk.lst (s11 _ _ p10)) (pairs_same s11 hp10)) (PairV.tk (Tk.lst (s11 _ _ p10)) ⟨t, rfl, SqT.of t11⟩), hP2, hPR2, fun e he => ?_, ?_⟩
          · rcases List.mem_append.mp he with h | h
            · exact he8 e h
            · rw [List.mem_singleton.mp h]
              exact ⟨hk1, hk2⟩
          · rw [List.length_append]; simp only [List.length_cons, List.length_nil]; omega
        · obtain ⟨P2, pvs, es, x6, x7, x8, x9, rfl, b8, D8, r8, p8, hp8, hP2, hPR2, he8, hl8⟩ := h
          exact hN _ _ ⟨P2, pvs, es, _, _, _, _, rfl, b8, D8, r8, p8, hp8, hP2, hPR2, he8, by omega⟩
    clear r6 D6 b6 p6 hp6 he6 hl6 hP1 hPR1 nP1
    obtain ⟨P1, pvs, es, x6, x7, x8, x9, rfl, b6, D6, r6, p6, hp6, hP1, hPR1, he6, hl6⟩ := hG
    refine ⟨_, rfl, _, rfl, P1, rfl, ⟨_, SqL.of p6⟩, fun M hM => ?_⟩
    have hPM : P1 ≠ M := ne_of_none p6 hM
    refine it_list (K := K) (a := P1) (xs := pvs) (fun i H' => Same H8 H' ∧ ∃ ks : List (Addr × List Int), H' M = some (.lst (ks.map fun p => V.ref p.1)) ∧ (∀ p ∈ ks, SqT K H' p.1 (p.2.map V.int) ∧ ∃ a b : Nat, p.2 = [(a : Int), (b : Int)] ∧ a < b ∧ b < n) ∧ ks.length ≤ i)
      ⟨same_upd hM, [], upd_same, (fun _ h => nomatch h), Nat.zero_le _⟩ (fun i H' _ h => h.1.seq (SqL.of p6)) (fun i x H9 hx h => ?_) (fun H9 h => ?_)
    · obtain ⟨s9, ks, m9, hks, hkl⟩ := h
      obtain ⟨e, he, t, rfl, ht⟩ := Paired.get hp6 i x hx
      have hi : i < es.length := (List.getElem?_eq_some_iff.mp he).1
      obtain ⟨hen1, hen2⟩ := he6 e (List.mem_of_getElem? he)
      have ht9 := tup_same s9 ht
      refine ⟨rfl, _, rfl, t, _, 0, _, rfl, rfl, ht9, rfl, _, rfl, t, _, 1, _, rfl, rfl, ht9, rfl, rfl, _, rfl, ?_⟩
      rw [V_int_inj]
      by_cases hee : e.1 = e.2
      · refine iteF' _ (by simp [hee]) ⟨s9, ks, m9, hks, by omega⟩
      · refine iteT' _ (by simp [hee]) ⟨_, rfl, t, _, _, rfl, ht9, _, rfl, t, _, _, rfl, ht9, by show 2 ≤ sizeLine; decide, fun U hU => ?_⟩
        obtain ⟨a, b, hab, hbn, ea, eb⟩ : ∃ a b : Nat, a < b ∧ b < n ∧ (if ((e.2 : Nat) : Int) < (e.1 : Nat) then ((e.2 : Nat) : Int) else (e.1 : Nat)) = (a : Int) ∧ (if ((e.1 : Nat) : Int) < (e.2 : Nat) then ((e.2 : Nat) : Int) else (e.1 : Nat)) = (b : Int) := by
          by_cases c : e.1 < e.2
          · exact ⟨e.1, e.2, c, hen2, by rw [if_neg (by omega)], by rw [if_pos (by omega)]⟩
          · exact ⟨e.2, e.1, by omega, hen1, by rw [if_pos (by omega)], by rw [if_neg (by omega)]⟩
        show ∃ acc, upd H9 U (.tup [V.int (if ((e.2 : Nat) : Int) < (e.1 : Nat) then ((e.2 : Nat) : Int) else (e.1 : Nat)), V.int (if ((e.1 : Nat) : Int) < (e.2 : Nat) then ((e.2 : Nat) : Int) else (e.1 : Nat))]) M = some (.lst acc) ∧ _
        rw [ea, eb]
        have s10 := same_upd (o := .tup [V.int (a : Int), V.int (b : Int)]) hU
        have u10 : upd H9 U (.tup [V.int (a : Int), V.int (b : Int)]) U = some (.tup [V.int (a : Int), V.int (b : Int)]) := upd_same
        generalize upd H9 U (.tup [V.int (a : Int), V.int (b : Int)]) = H10 at s10 u10 ⊢
        refine ⟨_, s10 _ _ m9, ?_, Same.mut (s9.trans s10) hM, ks ++ [(U, [(a : Int), (b : Int)])], ?_, fun p hp => ?_, ?_⟩
        · rw [List.length_map]
          exact size_lt (by omega)
        · rw [upd_same, List.map_append]
          rfl
        · rcases List.mem_append.mp hp with h | h
          · obtain ⟨g1, g2⟩ := hks p h
            exact ⟨Tk.lst (s10 _ _ m9) _ _ (tup_same s10 g1), g2⟩
          · rw [List.mem_singleton.mp h]
            exact ⟨Tk.lst (s10 _ _ m9) _ _ (SqT.of u10), a, b, rfl, hab, hbn⟩
        · rw [List.length_append]; simp only [List.length_cons, List.length_nil]; omega
    obtain ⟨s9, ks, m9, hks, hkl⟩ := h
    rw [hp6.length] at hkl
    refine ⟨M, ks, rfl, SqL.of m9, fun p hp => (hks p hp).1, by omega, fun A L hA hLk hkL => ?_⟩
    have sA := same_upd (o := SetTO P w A L) hA
    refine ⟨A, L, 2, 8, rfl, upd_same, fun p hp => tup_same sA (hks p (hLk p hp)).1, by decide, fun p hp => ?_, fun L' p hperm hnd hlt hpw hp => ?_⟩
    · obtain ⟨_, a, b, e, hab, hbn⟩ := hks p (hLk p hp)
      rw [e]
      refine ⟨rfl, fun m hm => ?_⟩
      simp only [List.mem_cons, List.not_mem_nil, or_false] at hm
      rcases hm with rfl | rfl <;> omega
    have sp := same_upd (o := .lst (L'.map fun q => V.ref q.1)) hp
    refine ⟨p, _, rfl, .inl ⟨SqL.of upd_same, fun B hB => ?_⟩⟩
    have sB := same_upd (o := .tup (L'.map fun q => V.ref q.1)) hB
    refine ⟨by show 2 ≤ sizeLine; decide, fun U hU => ?_⟩
    have sU := same_upd (o := .tup [.int (n : Nat), .ref B]) hU
    have sAll := s9.trans (sA.trans (sp.trans (sB.trans sU)))
    have hmem : ∀ q ∈ L', q ∈ ks := fun q hq => hLk q (hperm.mem_iff.mp hq)
    have hb8 : B ≠ U := by
      intro e
      rw [← e, upd_same] at hU
      cases hU
    refine q (.ref U) n (L'.map fun q => toP q.2) _ (b6.trans (.of sAll)) (D6.same sAll) hn1 hn8 ⟨?_, fun e he => ?_⟩ ?_ ⟨U, B, rfl, SqT.of upd_same, B, L'.map fun q => V.ref q.1, rfl, SqT.of (by rw [upd_ne hb8]; exact upd_same), pairs_map L' fun q hq => ?_⟩
    · rw [List.pairwise_map]
      refine List.Pairwise.imp_of_mem (fun {x y} hx hy hxy => ?_) ((List.pairwise_map.mp hnd).and hpw)
      obtain ⟨h1, h2⟩ := hxy
      obtain ⟨_, a, b, e1, hab, hbn⟩ := hks x (hmem x hx)
      obtain ⟨_, a', b', e2, hab', hbn'⟩ := hks y (hmem y hy)
      rw [e1, e2] at h1 h2
      rw [e1, e2]
      simp only [TS.code, List.length_cons, List.length_nil] at h2
      show a < a' ∨ (a = a' ∧ b < b')
      by_cases c : a = a'
      · right
        refine ⟨c, ?_⟩
        have : b ≠ b' := fun e => h1 (by rw [c, e])
        omega
      · left
        omega
    · obtain ⟨x, hx, rfl⟩ := List.mem_map.mp he
      obtain ⟨_, a, b, e1, hab, hbn⟩ := hks x (hmem x hx)
      rw [e1]
      exact ⟨hab, hbn⟩
    · rw [List.length_map]
      have h1 := nodup_len (L'.map (·.2)) (ks.map (·.2)) hnd fun z hz => by
        obtain ⟨x, hx, rfl⟩ := List.mem_map.mp hz
        exact List.mem_map.mpr ⟨x, hmem x hx, rfl⟩
      rw [List.length_map, List.length_map] at h1
      omega
    · obtain ⟨h1, a, b, e1, hab, hbn⟩ := hks q (hmem q hq)
      have h2 := tup_same (sA.trans (sp.trans (sB.trans sU))) h1
      rw [e1] at h2 ⊢
      exact ⟨q.1, rfl, h2⟩
end
end G
set_option Elab.async false
set_option linter.all false
set_option maxRecDepth 100000
set_option maxHeartbeats 4000000
set_option pp.maxSteps 1200
namespace G
open PySem PySem.Spec PyProof.Rows L2
open Blo (Pr)
abbrev nAll : List Str := ["_law_web_here", "_law_found", "_law_pair", "_law_plan", "_law_one"]
/-- the scope of the outer list in the loop -/
def scIn (d : Scope) : Stmt → Scope
  | .For _ _ [.Assign _ (.BinOp _ _ (.ListComp _ _ sc _) _) _] _ _ => sc
  | _ => d
def apScope : Scope := relabel (scIn (defScope sAllPlans) ((defBody sAllPlans).getD 1 (.Pass ⟨0, 0, 0, 0⟩))) (envOfC "_law_all_plans" (defScope sAllPlans) 0 0 .none)
section
variable {P : Program} {w : World} {K : PySem.W.Frag} {mg : Str → Option Value} {base : Heap} {C : Addr}
theorem scAll : FnScope nAll ["_law_web_here"] (defScope sAllPlans) := ⟨rfl, rfl, rfl, by decide +kernel, rfl, by decide +kernel, by decide +kernel⟩
def spAllPlans (K : PySem.W.Frag) : Sp := fun vs H Q _ => ∃ (u : V) (n : Nat) (ps : List Pr), vs = [u] ∧ WebV K H u n ps ∧ ps.length ≤ 16 ∧
  ∀ (L : Addr) vs' H', H L = none → Same H H' → H' L = some (.lst vs') → Paired (PlanV K H') vs' (Blo.plansM ps) → Q (.ref L) H'
theorem ok_allPlans (D : Df K mg "_law_all_plans" sAllPlans ["_law_web_here"]) (T : Nm mg) : C8.Cal P w K mg base 1 "_law_all_plans" (spAllPlans K) [] := by
  refine cal_of D scAll (fun vs H Q E h => ?_) (fun f cdv A' outer s H vs Q E hr h => ?_)
  · obtain ⟨u, n, ps, rfl, _⟩ := h
    rfl
  · obtain ⟨_, n, ps, rfl, ⟨a, b, rfl, hS, b', xs, e1, hB, hP⟩, hlen, q⟩ := h
    cases e1
    have hu : A'.units + 3 + 64 < cLine := by
      have := hr.un
      have e : (A'.deeper (envOfC "_law_all_plans" (defScope sAllPlans) s.heap.objs.size f cdv)).units = A'.units + 3 := rfl
      omega
    refine ⟨_, (pss_cons (ps_set (i := 1) scAll.nd rfl (by first | exact Or.inl rfl | exact Or.inr rfl) (pe_lst (pa_cons (pe_tup pa_nil) pa_nil)))
      (pss_cons (ps_for PassesOwn.never rfl (pi_tup (pe_ix ix_tup (pv 0) pe_int (fun _ _ => rfl))) (pg_name (i := 2) scAll.nd rfl (by first | exact Or.inl rfl | exact Or.inr rfl))
        (pss_one (ps_set (i := 1) scAll.nd rfl (by first | exact Or.inl rfl | exact Or.inr rfl) (pe_op op_cat (pv 1) (pe_lc (own := [("_law_plan", 3)]) (g := gName 3) rfl scAll.nd (pi_list (pv 1))
          (blkOk_by (N := nAll) (sc := defScope sAllPlans) (by decide +kernel)) (fun _ _ _ _ _ => pg_name (i := 3) scAll.nd rfl (Or.inl rfl))
          (fun _ _ _ _ _ => pts_one (pt_cmpR (r := rEqD K) (op_eqD hu)
            (pe_lc (own := [("_law_one", 4)]) (g := gName 4) (wi := iTup K (tVar 3)) (te := tVar 4) (tt := tOr (tTest (tOp (rIn K false) (tOp (rIxT K) (tVar 4) (tC (.int 0))) (tVar 2))) (tTest (tOp (rIn K false) (tOp (rIxT K) (tVar 4) (tC (.int 1))) (tVar 2)))) rfl scAll.nd (pi_tup (pv 3))
          (blkOk_by (N := nAll) (sc := apScope) (by decide +kernel)) (fun _ _ _ _ _ => pg_name (i := 4) scAll.nd rfl (Or.inl rfl))
          (fun _ _ _ _ _ => pts_one (PW.pt (pw_or (pt_cmpR (r := rIn K false) op_in_seq (pe_ix (r := rIxT K) ix_tup (pv 4) pe_int (fun _ _ => rfl)) (pv 2) (by rfl)) (pw_or1 (pt_cmpR (r := rIn K false) op_in_seq (pe_ix (r := rIxT K) ix_tup (pv 4) pe_int (fun _ _ => rfl)) (pv 2) (by rfl))))))
          (fun _ _ _ _ _ => pv 4)) (pe_lst pa_nil) (nomark _)))
          (fun _ _ _ _ _ => pe_op (r := rCatA K) op_catA (pv 3) (pe_tup (pa_cons (pv 2) pa_nil))))))))
      (pss_one (ps_ret (pv 1))))), ?_⟩
    have hl := hP.length
    -- [()]
    refine ⟨Nat.zero_le _, fun e0 he0 => ?_⟩
    have s1 := same_upd (o := .tup []) he0
    have t1 : upd H e0 (.tup []) e0 = some (.tup []) := upd_same
    generalize upd H e0 (.tup []) = H1 at s1 t1 ⊢
    refine ⟨by show 1 ≤ sizeLine; decide, fun F0 hF0 => ?_⟩
    have s2 := s1.trans (same_upd (o := .lst [.ref e0]) hF0)
    have t2 := same_upd (o := .lst [.ref e0]) hF0 _ _ t1
    have f2 : upd H1 F0 (.lst [.ref e0]) F0 = some (.lst [.ref e0]) := upd_same
    have hF00 := s1.free hF0
    generalize upd H1 F0 (.lst [.ref e0]) = H2 at s2 t2 f2 ⊢
    refine ⟨_, rfl, a, _, 1, _, rfl, rfl, tup_same s2 hS, rfl, b, rfl, ⟨xs, tup_same s2 hB⟩, ?_⟩
    refine for_tup (K := K) (a := b) (xs := xs) (fun i σ H' => ∃ F fvs x y z, σ = [some (.ref a), some (.ref F), x, y, z] ∧ H F = none ∧ Same H H' ∧ H' F = some (.lst fvs) ∧ Paired (PlanV K H') fvs (Blo.plansM (ps.take i)))
      ⟨F0, [.ref e0], none, none, none, rfl, hF00, s2, f2, .cons ⟨e0, [], rfl, SqT.of t2, .nil⟩ .nil⟩ (fun i σ H' _ ⟨_, _, _, _, _, _, _, h, _⟩ => tup_same h hB) (fun i y σ H3 hy h => ?_) (fun σ H3 h => ?_)
    · obtain ⟨F, fvs, z1, z2, z3, rfl, hF, s3, f3, hp3⟩ := h
      obtain ⟨e, he, pr, rfl, hpr⟩ := Paired.get hP i y hy
      have hi := (List.getElem?_eq_some_iff.mp he).1
      have hfl := hp3.length
      have hpl : (Blo.plansM (ps.take (i + 1))).length ≤ 65536 := by
        have h1 := Blo.plans_len (ps.take (i + 1)) [[]]
        rw [List.length_take] at h1
        have h2 : 2 ^ (min (i + 1) ps.length) ≤ 2 ^ 16 := Nat.pow_le_pow_right (by decide) (by omega)
        unfold Blo.plansM
        simp only [List.length_cons, List.length_nil] at h1
        omega
      have hmore : Blo.plansM (ps.take (i + 1)) = Blo.plansM (ps.take i) ++ ((Blo.plansM (ps.take i)).filter fun pl => (pl.filter (Blo.clash e)).isEmpty).map (· ++ [e]) := by
        unfold Blo.plansM
        rw [List.take_add_one, he, List.foldl_append]
        rfl
      rw [hmore] at hpl
      rw [List.length_append] at hpl
      have hfd : ∀ pl ∈ Blo.plansM (ps.take i), pl.length ≤ 16 := fun pl h => by
        have h1 := (Blo.mem_plans.mp h).1.length_le
        rw [List.length_take] at h1
        omega
      generalize Blo.plansM (ps.take i) = fd at hp3 hfl hmore hpl hfd
      refine ⟨_, rfl, _, rfl, F, rfl, ⟨_, SqL.of f3⟩, fun M hM => ?_⟩
      have hFM : F ≠ M := ne_of_none f3 hM
      refine it_list (K := K) (a := F) (xs := fvs) (fun j H' => Same H3 H' ∧ ∃ mvs, H' M = some (.lst mvs) ∧ Paired (PlanV K H') mvs (((fd.take j).filter fun pl => (pl.filter (Blo.clash e)).isEmpty).map (· ++ [e])))
        ⟨same_upd hM, [], upd_same, .nil⟩ (fun j H' _ h => h.1.seq (SqL.of f3)) (fun j x H4 hx h => ?_) (fun H4 h => ?_)
      · obtain ⟨s4, mvs, m4, hp4⟩ := h
        obtain ⟨pl, hpl2, q1⟩ := Paired.get hp3 j x hx
        have hj := (List.getElem?_eq_some_iff.mp hpl2).1
        obtain ⟨c, cvs, rfl, hc, hcp⟩ := q1.same s4
        have hcl := hcp.length
        have hpr4 := tup_same (s3.trans s4) hpr
        -- those in the way
        refine ⟨rfl, _, rfl, c, rfl, ⟨_, hc⟩, fun N hN => ?_⟩
        refine it_tup (K := K) (a := c) (xs := cvs) (fun k H' => Same H4 H' ∧ ∃ nvs, H' N = some (.lst nvs) ∧ PairsV K H' nvs ((pl.take k).filter (Blo.clash e))) ⟨same_upd hN, [], upd_same, .nil⟩ (fun k H' _ h => tup_same h.1 hc) (fun k x H5 hx h => ?_) (fun H5 h => ?_)
        · obtain ⟨s5, nvs, n5, hp5⟩ := h
          obtain ⟨o, ho, t, rfl, ht⟩ := Paired.get hcp k x hx
          have hk := (List.getElem?_eq_some_iff.mp ho).1
          have ht5 := tup_same s5 ht
          have hpr5 := tup_same s5 hpr4
          refine ⟨rfl, _, rfl, t, _, 0, _, rfl, rfl, ht5, rfl, _, rfl, pr, IV [e.1, e.2], rfl, .inr hpr5, rfl, rfl, _, rfl, ?_⟩
          rw [show inV (V.int ((o.1 : Nat) : Int)) (IV [e.1, e.2]) = decide (o.1 ∈ [e.1, e.2]) from inV_IV _ _]
          have yesC : Blo.clash e o = true → ∃ acc, H5 N = some (.lst acc) ∧ acc.length < sizeLine ∧ (Same H4 (upd H5 N (.lst (acc ++ [V.ref t]))) ∧ ∃ nvs, upd H5 N (.lst (acc ++ [V.ref t])) N = some (.lst nvs) ∧ PairsV K (upd H5 N (.lst (acc ++ [V.ref t]))) nvs ((pl.take (k + 1)).filter (Blo.clash e))) := fun hcl2 => by
            refine ⟨nvs, n5, ?_, Same.mut s5 hN, _, upd_same, ?_⟩
            · rw [hp5.length]
              have h1 := List.length_filter_le (Blo.clash e) (pl.take k)
              rw [List.length_take] at h1
              have h2 := hfd pl (List.mem_of_getElem? hpl2)
              exact size_lt (by omega)
            · rw [filter_take _ _ _ ho, if_pos hcl2]
              exact Paired.snoc (pairs_tk (Tk.lst n5) hp5) (PairV.tk (Tk.lst n5) ⟨t, rfl, ht5⟩)
          by_cases c1 : o.1 ∈ [e.1, e.2]
          · refine iteT' _ (decide_eq_true c1) (iteT ⟨_, rfl, yesC ?_⟩)
            simp only [List.mem_cons, List.not_mem_nil, or_false] at c1
            unfold Blo.clash
            simp
            exact Or.inl c1
          · refine iteF' _ (decide_eq_false c1) ?_
            refine ⟨_, rfl, t, _, 1, _, rfl, rfl, ht5, rfl, _, rfl, pr, IV [e.1, e.2], rfl, .inr hpr5, rfl, rfl, _, rfl, ?_⟩
            rw [show inV (V.int ((o.2 : Nat) : Int)) (IV [e.1, e.2]) = decide (o.2 ∈ [e.1, e.2]) from inV_IV _ _]
            by_cases c2 : o.2 ∈ [e.1, e.2]
            · refine iteT' _ (decide_eq_true c2) ⟨_, rfl, yesC ?_⟩
              simp only [List.mem_cons, List.not_mem_nil, or_false] at c2
              unfold Blo.clash
              simp
              exact Or.inr c2
            · refine iteF' _ (decide_eq_false c2) ⟨s5, nvs, n5, ?_⟩
              rw [filter_take _ _ _ ho, if_neg, List.append_nil]
              · exact hp5
              · simp only [List.mem_cons, List.not_mem_nil, or_false] at c1 c2
                unfold Blo.clash
                simp
                exact ⟨not_or.mp c1, not_or.mp c2⟩
        obtain ⟨s5, nvs, n5, hp5⟩ := h
        rw [hcl, List.take_length] at hp5
        refine ⟨Nat.zero_le _, fun Z hZ => ?_⟩
        have s6 := s5.trans (same_upd (o := .lst []) hZ)
        have z6 : upd H5 Z (.lst []) Z = some (.lst []) := upd_same
        have n6 := same_upd (o := .lst []) hZ _ _ n5
        have hp6 := pairs_same (same_upd (o := .lst []) hZ) hp5
        generalize upd H5 Z (.lst []) = H6 at s6 z6 n6 hp6 ⊢
        refine eqNil (SqL.of n6) (pairs_dp hp6) (prDs_lay _) (Nat.le_trans (prDs_depth _) (by decide)) z6 ⟨_, rfl, ?_⟩
        have s36 := s4.trans s6
        have hmv := hp4.length
        have hmv2 : mvs.length < 100000 := by
          rw [hmv, List.length_map]
          have h1 := List.length_filter_le (fun pl => (pl.filter (Blo.clash e)).isEmpty) (fd.take j)
          rw [List.length_take] at h1
          omega
        have m6 := s6 _ _ m4
        have hp46 : Paired (PlanV K H6) mvs (((fd.take j).filter fun pl => (pl.filter (Blo.clash e)).isEmpty).map (· ++ [e])) := Paired.mono (fun _ _ q => PlanV.same s6 q) hp4
        by_cases hc2 : (pl.filter (Blo.clash e)).isEmpty = true
        · have hc3 : ((pl.filter (Blo.clash e)).map prD).isEmpty = true := by rw [List.isEmpty_map]; exact hc2
          refine iteT' _ hc3 ?_
          have fin : ∀ (v : V) (H7 : Hp), Same H6 H7 → PlanV K H7 v (pl ++ [e]) → ∃ acc, H7 M = some (.lst acc) ∧ acc.length < sizeLine ∧ (Same H3 (upd H7 M (.lst (acc ++ [v]))) ∧ ∃ mvs, upd H7 M (.lst (acc ++ [v])) M = some (.lst mvs) ∧
              Paired (PlanV K (upd H7 M (.lst (acc ++ [v])))) mvs (((fd.take (j + 1)).filter fun pl => (pl.filter (Blo.clash e)).isEmpty).map (· ++ [e]))) := fun v H7 s7 hv => by
            refine ⟨mvs, s7 _ _ m6, size_lt hmv2, Same.mut (s36.trans s7) hM, _, upd_same, ?_⟩
            rw [filter_take _ _ _ hpl2, if_pos hc2, List.map_append]
            exact Paired.snoc (Paired.mono (fun _ _ q => (PlanV.same s7 q).tk (Tk.lst (s7 _ _ m6))) hp46) (hv.tk (Tk.lst (s7 _ _ m6)))
          have hc6 := tup_same s6 hc
          have hcp6 := pairs_same s6 hcp
          have hpr6 := tup_same s6 hpr4
          refine ⟨_, rfl, _, rfl, by show 1 ≤ sizeLine; decide, fun U hU => ?_⟩
          have s7 := same_upd (o := .tup [.ref pr]) hU
          have u7 : upd H6 U (.tup [.ref pr]) U = some (.tup [.ref pr]) := upd_same
          generalize upd H6 U (.tup [.ref pr]) = H7 at s7 u7 ⊢
          refine ⟨c, U, cvs, [.ref pr], rfl, rfl, tup_same s7 hc6, SqT.of u7, ?_, fun hx => ?_, fun _ hy => (by cases hy), fun _ _ p hp => ?_⟩
          · have h2 := hfd pl (List.mem_of_getElem? hpl2)
            rw [hcl]
            exact size_le (by simp only [List.length_cons, List.length_nil]; omega)
          · have hpl0 : pl = [] := by
              rw [hx] at hcl
              exact List.eq_nil_of_length_eq_zero hcl.symm
            refine fin _ H7 s7 ?_
            rw [hpl0]
            exact ⟨U, [.ref pr], rfl, SqT.of u7, .cons ⟨pr, rfl, tup_same s7 hpr6⟩ .nil⟩
          · have s8 := s7.trans (same_upd (o := .tup (cvs ++ [.ref pr])) hp)
            refine fin _ _ s8 ⟨p, _, rfl, SqT.of upd_same, ?_⟩
            exact Paired.app (pairs_same s8 hcp6) (.cons ⟨pr, rfl, tup_same s8 hpr6⟩ .nil)
        · have hc3 : ((pl.filter (Blo.clash e)).map prD).isEmpty = false := by rw [List.isEmpty_map]; simpa using hc2
          refine iteF' _ hc3 ?_
          refine ⟨s36, mvs, m6, ?_⟩
          rw [filter_take _ _ _ hpl2, if_neg hc2, List.append_nil]
          exact hp46
      · obtain ⟨s4, mvs, m4, hp4⟩ := h
        rw [hfl, List.take_length] at hp4
        have f4 := s4 _ _ f3
        have hp34 : Paired (PlanV K H4) fvs fd := Paired.mono (fun _ _ q => PlanV.same s4 q) hp3
        refine ⟨F, M, _, _, rfl, rfl, f4, m4, by rw [hp4.length, hfl]; exact size_le (by omega), fun p hp => ?_⟩
        have s5 := same_upd (o := .lst (fvs ++ mvs)) hp
        refine ⟨p, _, _, _, _, rfl, (s3.trans s4).free hp, (s3.trans s4).trans s5, upd_same, ?_⟩
        rw [hmore]
        exact Paired.app (Paired.mono (fun _ _ q => PlanV.same s5 q) hp34) (Paired.mono (fun _ _ q => PlanV.same s5 q) hp4)
    · obtain ⟨F, fvs, z1, z2, z3, rfl, hF, s3, f3, hp3⟩ := h
      rw [hl, List.take_length] at hp3
      exact ⟨_, rfl, q F fvs H3 hF s3 f3 hp3⟩
end
end G
set_option Elab.async false
set_option linter.all false
set_option maxRecDepth 100000
set_option maxHeartbeats 4000000
set_option pp.maxSteps 1200
namespace G
open PySem PySem.Spec PyProof.Rows L2
open Blo (Pr)
abbrev nLServed : List Str := ["_law_plan", "_law_pair"]
abbrev nWithin : List Str := ["_law_lot", "_law_other", "_law_one"]
abbrev nIsPlan : List Str := ["_law_web_here", "_law_value", "_law_people", "_law_pair", "_law_one"]
def rLenK (K : PySem.W.Frag) : List V → Hp → VK → Prop := fun xs H Q => ∃ p ys, xs = [.ref p] ∧ (SqL K H p ys ∨ SqT K H p ys) ∧ Q (.int ys.length) H
section
variable {P : Program} {w : World} {K : PySem.W.Frag} {mg : Str → Option Value} {base : Heap} {C : Addr}
theorem retI {te : TE} {D : Ends} {σ : L2.St} {H : Hp} (h : te σ H D.rt) : tRet te D σ H := h
theorem cbI {r : List V → Hp → VK → Prop} {t : TA} {σ : L2.St} {H : Hp} {Q : VK} (h : t σ H fun vs H1 => r vs H1 Q) : tCB r t σ H Q := h
theorem consI {te : TE} {t : TA} {σ : L2.St} {H : Hp} {Q : List V → Hp → Prop} (h : te σ H fun x H1 => t σ H1 fun vs H2 => Q (x :: vs) H2) : tCons te t σ H Q := h
theorem opI2 {r : R2} {ta tb : TE} {σ : L2.St} {H : Hp} {Q : VK} (h : ta σ H fun x H1 => tb σ H1 fun y H2 => r x y H2 Q) : tOp r ta tb σ H Q := h
/-- a column of a plan -/
theorem lc_col {i j : Nat} {k : Int} {g : Pr → Nat} {σ : L2.St} {H : Hp} {Q : VK} {a : Addr} {xs : List V} {p : List Pr} (hg : ∀ e : Pr, atI [V.int (e.1 : Nat), V.int (e.2 : Nat)] k = some (.int (g e : Nat))) (hσ : σ[i]? = some (some (.ref a))) (hj : j < σ.length) (hS : SqT K H a xs) (hP : PairsV K H xs p) (hl : p.length ≤ 1000)
    (q : ∀ (D : Addr) H', H D = none → Same H H' → H' D = some (.lst (IV (p.map g))) → Q (.ref D) H') : tLc (iTup K (tVar i)) (gName j) tYes (tOp (rIxT K) (tVar j) (tC (.int k))) [j] σ H Q := by
  refine ⟨_, hσ, a, rfl, ⟨xs, hS⟩, fun D hD => ?_⟩
  refine it_tup (K := K) (a := a) (xs := xs) (fun i H' => Same H H' ∧ H' D = some (.lst (IV ((p.take i).map g)))) ⟨same_upd hD, upd_same⟩ (fun i H' _ h => tup_same h.1 hS) (fun n x H1 hx h => ?_) (fun H1 h => ?_)
  · obtain ⟨s1, h1⟩ := h
    obtain ⟨e, he, t, rfl, ht⟩ := Paired.get hP n x hx
    have hn := (List.getElem?_eq_some_iff.mp he).1
    refine ⟨?_, yes (iteT ⟨_, ?_, t, _, k, _, rfl, rfl, tup_same s1 ht, hg e, _, h1, ?_, Same.mut s1 hD, ?_⟩)⟩
    · show (((σ.set j none).set j _).set j none) = σ.set j none
      rw [List.set_set, List.set_set]
    · show ((σ.set j none).set j _)[j]? = _
      rw [List.set_set, List.getElem?_set_self hj]
    · rw [IV_length, List.length_map, List.length_take]
      exact size_lt (by omega)
    · rw [upd_same, List.take_add_one, he, List.map_append, IV_append]
      rfl
  · obtain ⟨s1, h1⟩ := h
    rw [hP.length, List.take_length] at h1
    exact q D H1 hD s1 h1

theorem scLServed : FnScope nLServed ["_law_plan"] (defScope sLawServed) := ⟨rfl, rfl, rfl, by decide +kernel, rfl, by decide +kernel, by decide +kernel⟩
theorem mem_cols (p : List Pr) (z : Nat) : z ∈ p.map (·.1) ++ p.map (·.2) ↔ z ∈ Blo.servedL p := by
  unfold Blo.servedL
  simp only [List.mem_append, List.mem_map, List.mem_flatMap, List.mem_cons, List.not_mem_nil, or_false]
  constructor
  · rintro (⟨e, h, rfl⟩ | ⟨e, h, rfl⟩)
    · exact ⟨e, h, .inl rfl⟩
    · exact ⟨e, h, .inr rfl⟩
  · rintro ⟨e, h, rfl | rfl⟩
    · exact .inl ⟨e, h, rfl⟩
    · exact .inr ⟨e, h, rfl⟩
theorem ok_lawServed (D : Df K mg "_law_served" sLawServed ["_law_plan"]) (T : Nm mg) : C8.Cal P w K mg base 1 "_law_served" (spServed K) [] := by
  refine cal_of D scLServed (fun vs H Q E h => ?_) (fun f cdv A' outer s H vs Q E hr h => ?_)
  · obtain ⟨v, p, rfl, _⟩ := h
    rfl
  · obtain ⟨_, p, rfl, ⟨a, xs, rfl, hS, hP⟩, hlen, q⟩ := h
    refine ⟨_, (pss_one (ps_ret (pe_callTy call_tuple_of (by rfl) T.tuple (by decide +kernel) (pa_cons (pe_callB cr_sortedI (by rfl) T.sorted (by decide +kernel) (pa_cons (pe_op op_cat (pe_lc (own := [("_law_pair", 1)]) (g := gName 1) (tt := tYes) (te := tOp (rIxT K) (tVar 1) (tC (.int 0))) rfl scLServed.nd (pi_tup (pv 0))
          (blkOk_by (N := nLServed) (sc := defScope sLawServed) (by decide +kernel)) (fun _ _ _ _ _ => (pg_name (i := 1) scLServed.nd rfl (by first | exact Or.inl rfl | exact Or.inr rfl)))
          (fun _ _ _ _ _ => pts_nil)
          (fun _ _ _ _ _ => (pe_ix (r := rIxT K) ix_tup (pv 1) pe_int (fun _ _ => rfl)))) (pe_lc (own := [("_law_pair", 1)]) (g := gName 1) (tt := tYes) (te := tOp (rIxT K) (tVar 1) (tC (.int 1))) rfl scLServed.nd (pi_tup (pv 0))
          (blkOk_by (N := nLServed) (sc := defScope sLawServed) (by decide +kernel)) (fun _ _ _ _ _ => (pg_name (i := 1) scLServed.nd rfl (by first | exact Or.inl rfl | exact Or.inr rfl)))
          (fun _ _ _ _ _ => pts_nil)
          (fun _ _ _ _ _ => (pe_ix (r := rIxT K) ix_tup (pv 1) pe_int (fun _ _ => rfl))))) pa_nil)) pa_nil)))), ?_⟩
    refine retI (cbI (consI (cbI (consI (opI2 ?_)))))
    refine lc_col (i := 0) (j := 1) (k := 0) (g := (·.1)) (fun e => rfl) (by rfl) (by show 1 < 2; decide) hS hP hlen fun D1 H1 hD1 s1 h1 => ?_
    refine lc_col (i := 0) (j := 1) (k := 1) (g := (·.2)) (fun e => rfl) (by rfl) (by show 1 < 2; decide) (tup_same s1 hS) (pairs_same s1 hP) hlen fun D2 H2 hD2 s2 h2 => ?_
    refine ⟨D1, D2, _, _, rfl, rfl, s2 _ _ h1, h2, ?_, fun D3 hD3 => ?_⟩
    · rw [IV_length, IV_length, List.length_map, List.length_map]
      exact size_le (by omega)
    rw [← IV_append]
    have s3 := same_upd (o := .lst (IV (p.map (·.1) ++ p.map (·.2)))) hD3
    refine ⟨D3, (p.map (·.1) ++ p.map (·.2)).map (fun (k : Nat) => (k : Int)), rfl, SqL.of (by rw [upd_same]; unfold IV; rw [List.map_map]; rfl), fun ns' t hp _ ht => ?_⟩
    obtain ⟨m, e1, e2⟩ := ints_of_perm hp
    have s4 := same_upd (o := .lst (ns'.map V.int)) ht
    refine ⟨t, ns'.map V.int, rfl, .inl ⟨SqL.of upd_same, fun u hu => ?_⟩⟩
    exact q _ _ (s1.trans (s2.trans (s3.trans (s4.trans (same_upd hu))))) ⟨u, m, rfl, SqT.of (by rw [upd_same, e1]), fun z => e2.mem_iff.trans (mem_cols p z)⟩

theorem scWithin : FnScope nWithin ["_law_lot", "_law_other"] (defScope sWithin) := ⟨rfl, rfl, rfl, by decide +kernel, rfl, by decide +kernel, by decide +kernel⟩
def spWithin (K : PySem.W.Frag) : Sp := fun vs H Q _ => ∃ (u v : V) (p q : List Pr), vs = [u, v] ∧ LotV K H u p ∧ LotV K H v q ∧ (∀ z ∈ Blo.servedL p, z ∈ Blo.servedL q) ∧ ∀ H', Same H H' → Q (.bl true) H'
theorem ok_within (D : Df K mg "_law_within" sWithin ["_law_lot", "_law_other"]) (T : Nm mg) : C8.Cal P w K mg base 1 "_law_within" (spWithin K) [] := by
  refine cal_of D scWithin (fun vs H Q E h => ?_) (fun f cdv A' outer s H vs Q E hr h => ?_)
  · obtain ⟨u, v, p, q, rfl, _⟩ := h
    rfl
  · obtain ⟨_, _, p, p', rfl, ⟨a, l, rfl, hA, hl⟩, ⟨b, m, rfl, hB, hm⟩, hsub, q⟩ := h
    have hu : A'.units + 3 + 64 < cLine := by
      have := hr.un
      have e : (A'.deeper (envOfC "_law_within" (defScope sWithin) s.heap.objs.size f cdv)).units = A'.units + 3 := rfl
      omega
    refine ⟨_, (pss_one (ps_ret (pe_cmpR (op_eqD hu) (pe_lc (own := [("_law_one", 2)]) (g := gName 2) rfl scWithin.nd (pi_tup (pv 0))
          (blkOk_by (N := nWithin) (sc := defScope sWithin) (by decide +kernel)) (fun _ _ _ _ _ => (pg_name (i := 2) scWithin.nd rfl (by first | exact Or.inl rfl | exact Or.inr rfl)))
          (fun _ _ _ _ _ => pts_one (pt_cmpR (r := rIn K true) op_notIn_seq (pv 2) (pv 1) (by rfl)))
          (fun _ _ _ _ _ => (pv 2))) (pe_lst pa_nil) (nomark _)))), ?_⟩
    refine ⟨_, rfl, a, rfl, ⟨_, hA⟩, fun L hL => ?_⟩
    refine it_tup (K := K) (a := a) (xs := IV l) (fun i H' => Same H H' ∧ H' L = some (.lst [])) ⟨same_upd hL, upd_same⟩ (fun i H' _ h => tup_same h.1 hA) (fun i x H1 hx h => ?_) (fun H1 h => ?_)
    · obtain ⟨s1, h1⟩ := h
      obtain ⟨z, hz, rfl⟩ := IV_get hx
      have hzm : z ∈ m := (hm z).mpr (hsub z ((hl z).mp (List.mem_of_getElem? hz)))
      refine ⟨rfl, _, rfl, _, rfl, b, IV m, rfl, .inr (tup_same s1 hB), rfl, flat_IV m, _, rfl, ?_⟩
      rw [inV_IV]
      exact iteF' _ (by simp [hzm]) ⟨s1, h1⟩
    obtain ⟨s1, h1⟩ := h
    refine ⟨Nat.zero_le _, fun Z hZ => ?_⟩
    have s2 := same_upd (o := .lst []) hZ
    exact eqNil (SqL.of (s2 _ _ h1)) .nil (by simp [PyData.canLayAll0]) (by simp [PyData.depthAll]) upd_same (q _ (s1.trans s2))

theorem cols_perm : ∀ p : List Pr, (p.map (·.1) ++ p.map (·.2)).Perm (Blo.servedL p)
  | [] => List.Perm.refl _
  | e :: p => by
    show (e.1 :: (p.map (·.1) ++ e.2 :: p.map (·.2))).Perm (e.1 :: e.2 :: Blo.servedL p)
    exact (List.perm_middle.trans ((cols_perm p).cons _)).cons _
theorem filter_sub {p ps : List Pr} (h : p.Sublist ps) : ps.Nodup → ps.filter (fun x => decide (x ∈ p)) = p := by
  induction h with
  | slnil => intro _; rfl
  | cons a h ih =>
    intro nd
    obtain ⟨n1, n2⟩ := List.nodup_cons.mp nd
    rw [List.filter_cons_of_neg (by simpa using fun e => n1 (h.subset e))]
    exact ih n2
  | cons_cons a h ih =>
    intro nd
    obtain ⟨n1, n2⟩ := List.nodup_cons.mp nd
    rw [List.filter_cons_of_pos (by simp)]
    congr 1
    rw [← ih n2]
    refine List.filter_congr fun x hx => ?_
    have hne : x ≠ a := fun e => n1 (e ▸ hx)
    rw [ih n2]
    simp [hne]
theorem eqv_pairs (p : List Pr) : PyData.eqv (.list (p.map prD)) (.list (p.map prD)) = true := by
  have h : ∀ p : List Pr, PyData.eqvAll (p.map prD) (p.map prD) = true := fun p => by
    induction p with
    | nil => simp [PyData.eqvAll]
    | cons e p ih => simp [PyData.eqvAll, ih, prD_eqv]
  simp only [PyData.eqv]
  exact h p
theorem scIsPlan : FnScope nIsPlan ["_law_web_here", "_law_value"] (defScope sIsPlan) := ⟨rfl, rfl, rfl, by decide +kernel, rfl, by decide +kernel, by decide +kernel⟩
def spIsPlan (K : PySem.W.Frag) : Sp := fun vs H Q _ => ∃ (u v : V) (n : Nat) (ps p : List Pr), vs = [u, v] ∧ WebV K H u n ps ∧ PlanV K H v p ∧ Blo.WebOk n ps ∧ Blo.IsPlan ps p ∧ n ≤ 20 ∧ ps.length ≤ 1000 ∧ ∀ H', Same H H' → Q (.bl true) H'
theorem ok_isPlan (D : Df K mg "_law_is_plan" sIsPlan ["_law_web_here", "_law_value"]) (T : Nm mg) : C8.Cal P w K mg base 1 "_law_is_plan" (spIsPlan K) [] := by
  refine cal_of D scIsPlan (fun vs H Q E h => ?_) (fun f cdv A' outer s H vs Q E hr h => ?_)
  · obtain ⟨u, v, n, ps, p, rfl, _⟩ := h
    rfl
  · obtain ⟨_, _, n, ps, p, rfl, ⟨wa, wb, rfl, hW, wb', wxs, we, hWB, hWP⟩, ⟨a, xs, rfl, hS, hP⟩, W, PL, hn, hps, q⟩ := h
    cases we
    have hu : A'.units + 3 + 64 < cLine := by
      have := hr.un
      have e : (A'.deeper (envOfC "_law_is_plan" (defScope sIsPlan) s.heap.objs.size f cdv)).units = A'.units + 3 := rfl
      omega
    have hu2 : A'.units + 3 + 65 < cLine := by
      have := hr.un
      have e : (A'.deeper (envOfC "_law_is_plan" (defScope sIsPlan) s.heap.objs.size f cdv)).units = A'.units + 3 := rfl
      omega
    have pl := Blo.plan_len W PL
    refine ⟨_, (pss_cons (ps_if (PW.pt (pw_or (pt_not (pt_val (pe_callB call_isi (by rfl) T.isi (by decide +kernel) (pa_cons (pv 1) (pa_cons (pe_bltn (v := .ty "tuple") (by rfl) T.tuple (by decide +kernel) rfl) pa_nil))))) (pw_or1 (pt_cmpR (op_neD hu) (pe_lc (own := [("_law_pair", 3)]) (g := gName 3) rfl scIsPlan.nd (pi_tup (pv 1))
          (blkOk_by (N := nIsPlan) (sc := defScope sIsPlan) (by decide +kernel)) (fun _ _ _ _ _ => (pg_name (i := 3) scIsPlan.nd rfl (by first | exact Or.inl rfl | exact Or.inr rfl)))
          (fun _ _ _ _ _ => pts_one (PW.pt (pw_or (pt_not (pt_val (pe_callB (r := rIsi K) call_isi (by rfl) T.isi (by decide +kernel) (pa_cons (pv 3) (pa_cons (pe_bltn (v := .ty "tuple") (by rfl) T.tuple (by decide +kernel) rfl) pa_nil))))) (pw_or1 (pt_cmpR op_ne (pe_callB (r := rLenK K) call_len_seq (by rfl) T.len PySem.boot_len (pa_cons (pv 3) pa_nil)) pe_int (nomark _))))))
          (fun _ _ _ _ _ => (pv 3))) (pe_lst pa_nil) (nomark _))))) (pss_one (ps_ret pe_bl)) pss_nil)
      (pss_cons (ps_set (i := 2) scIsPlan.nd rfl (by first | exact Or.inl rfl | exact Or.inr rfl) (pe_op op_cat (pe_lc (own := [("_law_pair", 3)]) (g := gName 3) (tt := tYes) (te := tOp (rIxT K) (tVar 3) (tC (.int 0))) rfl scIsPlan.nd (pi_tup (pv 1))
          (blkOk_by (N := nIsPlan) (sc := defScope sIsPlan) (by decide +kernel)) (fun _ _ _ _ _ => (pg_name (i := 3) scIsPlan.nd rfl (by first | exact Or.inl rfl | exact Or.inr rfl)))
          (fun _ _ _ _ _ => pts_nil)
          (fun _ _ _ _ _ => (pe_ix (r := rIxT K) ix_tup (pv 3) pe_int (fun _ _ => rfl)))) (pe_lc (own := [("_law_pair", 3)]) (g := gName 3) (tt := tYes) (te := tOp (rIxT K) (tVar 3) (tC (.int 1))) rfl scIsPlan.nd (pi_tup (pv 1))
          (blkOk_by (N := nIsPlan) (sc := defScope sIsPlan) (by decide +kernel)) (fun _ _ _ _ _ => (pg_name (i := 3) scIsPlan.nd rfl (by first | exact Or.inl rfl | exact Or.inr rfl)))
          (fun _ _ _ _ _ => pts_nil)
          (fun _ _ _ _ _ => (pe_ix (r := rIxT K) ix_tup (pv 3) pe_int (fun _ _ => rfl))))))
      (pss_cons (ps_if (PW.pt (pw_or (pt_cmpR (op_neD hu) (pe_lc (own := [("_law_one", 4)]) (g := gName 4) rfl scIsPlan.nd (pi_list (pv 2))
          (blkOk_by (N := nIsPlan) (sc := defScope sIsPlan) (by decide +kernel)) (fun _ _ _ _ _ => (pg_name (i := 4) scIsPlan.nd rfl (by first | exact Or.inl rfl | exact Or.inr rfl)))
          (fun _ _ _ _ _ => pts_one (PW.pt (pw_or (pt_not (pt_val (pe_callB (r := rIsi K) call_isi (by rfl) T.isi (by decide +kernel) (pa_cons (pv 4) (pa_cons (pe_bltn (v := .ty "int") (by rfl) T.int (by decide +kernel) rfl) pa_nil))))) (pw_or1 (pt_val (pe_callB (r := rIsi K) call_isi (by rfl) T.isi (by decide +kernel) (pa_cons (pv 4) (pa_cons (pe_bltn (v := .ty "bool") (by rfl) T.bool (by decide +kernel) rfl) pa_nil))))))))
          (fun _ _ _ _ _ => (pv 4))) (pe_lst pa_nil) (nomark _)) (pw_or1 (pt_cmpR op_ne (pe_lenSetI rfl (by rfl) T.len (by rfl) T.set (pv 2)) (pe_callB call_len_seq (by rfl) T.len PySem.boot_len (pa_cons (pv 2) pa_nil)) (nomark _))))) (pss_one (ps_ret pe_bl)) pss_nil)
      (pss_one (ps_ret (pe_cmpR (op_eqD hu) (pe_callTy call_list_of (by rfl) T.list (by decide +kernel) (pa_cons (pv 1) pa_nil)) (pe_lc (own := [("_law_pair", 3)]) (g := gName 3) rfl scIsPlan.nd (pi_tup (pe_ix ix_tup (pv 0) pe_int (fun _ _ => rfl)))
          (blkOk_by (N := nIsPlan) (sc := defScope sIsPlan) (by decide +kernel)) (fun _ _ _ _ _ => (pg_name (i := 3) scIsPlan.nd rfl (by first | exact Or.inl rfl | exact Or.inr rfl)))
          (fun _ _ _ _ _ => pts_one (pt_cmpR (r := rInT K) (op_inT hu2) (pv 3) (pv 1) (by rfl)))
          (fun _ _ _ _ _ => (pv 3))) (nomark _))))))), ?_⟩
    -- pairs only
    refine ⟨_, rfl, _, _, _, _, true, rfl, .ty "tuple", tyTup hS, kit_ty (by decide +kernel), true, rfl, ?_⟩
    refine iteF ⟨_, rfl, a, rfl, ⟨_, hS⟩, fun L hL => ?_⟩
    refine it_tup (K := K) (a := a) (xs := xs) (fun i H' => Same H H' ∧ H' L = some (.lst [])) ⟨same_upd hL, upd_same⟩ (fun i H' _ h => tup_same h.1 hS) (fun i x H1 hx h => ?_) (fun H1 h => ?_)
    · obtain ⟨s1, h1⟩ := h
      obtain ⟨e, he, t, rfl, ht⟩ := Paired.get hP i x hx
      have ht1 := tup_same s1 ht
      refine ⟨rfl, _, rfl, _, _, _, _, true, rfl, .ty "tuple", tyTup ht1, kit_ty (by decide +kernel), true, rfl, iteF ⟨_, rfl, t, _, rfl, .inr ht1, rfl, _, rfl, ?_⟩⟩
      exact iteF' _ (by rfl) ⟨s1, h1⟩
    obtain ⟨s1, h1⟩ := h
    refine ⟨Nat.zero_le _, fun Z hZ => ?_⟩
    have s2 := s1.trans (same_upd (o := .lst []) hZ)
    have h2 := same_upd (o := .lst []) hZ _ _ h1
    have z2 : upd H1 Z (.lst []) Z = some (.lst []) := upd_same
    generalize upd H1 Z (.lst []) = H2 at s2 h2 z2 ⊢
    refine neNil (SqL.of h2) .nil (by simp [PyData.canLayAll0]) (by simp [PyData.depthAll]) z2 ⟨_, rfl, ?_⟩
    refine iteF' _ (by rfl) ?_
    refine nextI ?_
    dsimp only
    -- the people
    refine seqI (asgI (opI2 ?_))
    refine lc_col (i := 1) (j := 3) (k := 0) (g := (·.1)) (fun e => rfl) (by rfl) (by show 3 < 5; decide) (tup_same s2 hS) (pairs_same s2 hP) (by omega) fun D1 H3 hD1 s23 h3 => ?_
    have s3 := s2.trans s23
    refine lc_col (i := 1) (j := 3) (k := 1) (g := (·.2)) (fun e => rfl) (by rfl) (by show 3 < 5; decide) (tup_same s3 hS) (pairs_same s3 hP) (by omega) fun D2 H4 hD2 s34 h4 => ?_
    have s4 := s3.trans s34
    refine ⟨D1, D2, _, _, rfl, rfl, s34 _ _ h3, h4, ?_, fun D3 hD3 => ?_⟩
    · rw [IV_length, IV_length, List.length_map, List.length_map]
      exact size_le (by omega)
    rw [← IV_append]
    have s5 := s4.trans (same_upd (o := .lst (IV (p.map (·.1) ++ p.map (·.2)))) hD3)
    have h5 : upd H4 D3 (.lst (IV (p.map (·.1) ++ p.map (·.2)))) D3 = some (.lst (IV (p.map (·.1) ++ p.map (·.2)))) := upd_same
    generalize upd H4 D3 (.lst (IV (p.map (·.1) ++ p.map (·.2)))) = H5 at s5 h5 ⊢
    refine gnameI ?_
    dsimp only
    refine ⟨_, rfl, D3, rfl, ⟨_, SqL.of h5⟩, fun L2 hL2 => ?_⟩
    refine it_list (K := K) (a := D3) (xs := IV (p.map (·.1) ++ p.map (·.2))) (fun i H' => Same H5 H' ∧ H' L2 = some (.lst [])) ⟨same_upd hL2, upd_same⟩ (fun i H' _ h => h.1.seq (SqL.of h5)) (fun i x H6 hx h => ?_) (fun H6 h => ?_)
    · obtain ⟨s6, h6⟩ := h
      obtain ⟨z, hz, rfl⟩ := IV_get hx
      refine ⟨rfl, _, rfl, _, _, _, _, true, rfl, .ty "int", tyInt _, kit_ty (by decide +kernel), true, rfl, iteF ⟨_, rfl, _, _, _, _, false, rfl, .ty "bool", tyInt _, kit_ty (by decide +kernel), false, rfl, ?_⟩⟩
      exact iteF ⟨s6, h6⟩
    obtain ⟨s6', h6⟩ := h
    have s6 := s5.trans s6'
    have d6 := s6' _ _ h5
    refine ⟨Nat.zero_le _, fun Z2 hZ2 => ?_⟩
    have s7 := s6.trans (same_upd (o := .lst []) hZ2)
    have h7 := same_upd (o := .lst []) hZ2 _ _ h6
    have d7 := same_upd (o := .lst []) hZ2 _ _ d6
    have z7 : upd H6 Z2 (.lst []) Z2 = some (.lst []) := upd_same
    generalize upd H6 Z2 (.lst []) = H7 at s7 h7 d7 z7 ⊢
    refine neNil (SqL.of h7) .nil (by simp [PyData.canLayAll0]) (by simp [PyData.depthAll]) z7 ⟨_, rfl, ?_⟩
    refine iteF' _ (by rfl) ?_
    have hnd : ((p.map (·.1) ++ p.map (·.2)).map (fun (k : Nat) => (k : Int))).Nodup := by
      have h1 := (cols_perm p).nodup_iff.mpr (Blo.served_nodup p PL.2 fun e he => (W.lt e (PL.1.subset he)).1)
      refine List.pairwise_map.mpr (h1.imp fun {x y} hxy e => hxy (by omega))
    have e7 : IV (p.map (·.1) ++ p.map (·.2)) = ((p.map (·.1) ++ p.map (·.2)).map (fun (k : Nat) => (k : Int))).map V.int := by
      unfold IV
      rw [List.map_map]
      rfl
    refine ⟨_, rfl, D3, _, rfl, SqL.of (by rw [d7, e7]), ?_, hnd, ?_⟩
    · rw [List.length_map, List.length_append, List.length_map, List.length_map]
      omega
    refine ⟨_, rfl, D3, _, rfl, .inl (SqL.of d7), rfl, _, rfl, ?_⟩
    refine iteF' _ ?_ ?_
    · rw [IV_length, List.length_map]
      simp
    -- the pairs of the web
    refine ⟨_, rfl, a, xs, rfl, .inr (tup_same s7 hS), fun L3 hL3 => ?_⟩
    have s8 := s7.trans (same_upd (o := .lst xs) hL3)
    have h8 : upd H7 L3 (.lst xs) L3 = some (.lst xs) := upd_same
    generalize upd H7 L3 (.lst xs) = H8 at s8 h8 ⊢
    refine ⟨_, rfl, wa, _, 1, _, rfl, rfl, tup_same s8 hW, rfl, wb, rfl, ⟨_, tup_same s8 hWB⟩, fun L4 hL4 => ?_⟩
    refine it_tup (K := K) (a := wb) (xs := wxs) (fun i H' => Same H8 H' ∧ ∃ ys, H' L4 = some (.lst ys) ∧ PairsV K H' ys ((ps.take i).filter fun e => decide (e ∈ p))) ⟨same_upd hL4, [], upd_same, .nil⟩ (fun i H' _ h => tup_same (s8.trans h.1) hWB) (fun i x H9 hx h => ?_) (fun H9 h => ?_)
    · obtain ⟨s9, ys, h9, hp9⟩ := h
      obtain ⟨e, he, hpv⟩ := Paired.get hWP i x hx
      have hi := (List.getElem?_eq_some_iff.mp he).1
      have s09 := s8.trans s9
      refine ⟨rfl, _, rfl, _, rfl, prD e, p.map prD, (hpv.same s09).dp, .tup (tup_same s09 hS) (pairs_dp (pairs_same s09 hP)), prD_shaped e, planD_shaped p, _, rfl, ?_⟩
      rw [any_eqv]
      by_cases hep : e ∈ p
      · refine iteT' _ (decide_eq_true hep) ⟨_, rfl, ys, h9, ?_, Same.mut s9 hL4, _, upd_same, ?_⟩
        · rw [hp9.length]
          have := filter_take_len ps (fun e => decide (e ∈ p)) i
          exact size_lt (by omega)
        · rw [filter_take _ _ _ he, if_pos (decide_eq_true hep)]
          exact Paired.snoc (pairs_tk (Tk.lst h9) hp9) (PairV.tk (Tk.lst h9) (hpv.same s09))
      · refine iteF' _ (decide_eq_false hep) ⟨s9, ys, h9, ?_⟩
        rw [filter_take _ _ _ he, if_neg (by simpa using hep), List.append_nil]
        exact hp9
    obtain ⟨s9, ys, h9, hp9⟩ := h
    rw [hWP.length, List.take_length, filter_sub PL.1 W.nodup] at hp9
    refine ⟨_, _, .lst (SqL.of (s9 _ _ h8)) (pairs_dp (pairs_same (s8.trans s9) hP)), .lst (SqL.of h9) (pairs_dp hp9), listD_shaped p, listD_shaped p, ?_⟩
    rw [eqv_pairs]
    exact q _ (s8.trans s9)
end
end G
set_option Elab.async false
set_option linter.all false
set_option maxRecDepth 100000
set_option maxHeartbeats 4000000
set_option pp.maxSteps 1200
namespace G
open PySem PySem.Spec PyProof.Rows L2
section
variable {P : Program} {w : World} {K : PySem.W.Frag} {mg mb : Str → Option Value} {base : Heap}
/-- the law's def as the outermost caller calls it: what its body keeps, the call keeps -/
theorem lawRun {st : Stmt} {fa a : Addr} {fd : FuncData} {N : List Str} {x : Str} {s : Shared} {H : Hp} {Q : VK} {E : XK} (F : Fun K "law" "law" st fa fd) (S : FnScope N [x] (defScope st)) (b : ∀ (z : Shared) (u : Value), BindsTo z fd ⟨[u], []⟩ [(x, u)]) (room : Room 9 callerA)
    (e0 : Env0 P w K mg base callerA [] s H)
    (body : ∀ cd : Value, ∃ t, PSs (cxOf CX0 P w K mg base N "law" (defScope st) fa cd callerA [] s H E).nox (defBody st) t ∧ t { nx := fun _ G => Q .non G, rt := Q } (start N [.ref a]) H) :
    codeAny (model P w) callerA (.call (.ref fa) ⟨[.ref a], []⟩) (CR CX0 [] P w H s Q E) s := by
  rcases F.ex with ⟨c1, c2, kv, dc, prm, ann, code, ct, slots, rfl, look, isCode⟩
  have inK : K.In s.heap := e0.mod.kin.keeps fun p o q => (e0.bs p o q).1
  have noLim : s.heap.NoLimit := e0.mod.nolimit.keeps fun p o q => (e0.bs p o q).1
  have kinds : ∀ y ∈ [(x, Value.ref a)], (defScope st).names.lookup y.1 = some .local ∨ ((defScope st).names.lookup y.1 = some .cell ∧ ((cellsFrom (s.heap.objs.size + 1) (defScope st).names []).lookup y.1).isSome = true) := by
    intro y hy
    cases List.mem_singleton.mp hy
    exact (S.par x List.mem_cons_self).imp id fun q => ⟨q, PySem.W.cellsFrom_some _ _ _ (.inl q)⟩
  refine codeAny_call_function (by have := room.dp; omega) (inK _ _ look) rfl S.co S.gen rfl (PySem.W.codeRec_of inK isCode) (b _ _ _ _ _ _ ?_)
  refine wpAny_newFunctionEnv_cells S.kind kinds ?_
  rintro _ rfl s1 call
  refine ⟨noLim.keeps call.toInCall.keep, codeAny_func ?_⟩
  obtain ⟨t, ht, hq⟩ := body code
  refine wpAny_mono (ht.nox.run [] s1 _ H _ (inv_start (ps := [x]) (us := [Value.ref a]) (vs := [V.ref a]) S rfl e0 rfl (.cons rfl .nil) call) hq) ?_ fun _ _ z => z
  intro fl z hz
  cases fl with
  | ret u =>
    obtain ⟨v, τ, G, J, rv, q⟩ := hz
    exact ⟨v, G, J.os, J.bare, J.base, J.hok, rv, q⟩
  | next =>
    obtain ⟨τ, G, J, q⟩ := hz
    exact ⟨.non, G, J.os, J.bare, J.base, J.hok, rfl, q⟩
  | brk => exact hz.elim fun _ h => h.elim fun _ h => h.2.elim
  | cont => exact hz.elim fun _ h => h.elim fun _ h => h.2.elim
/-- what is wanted of the law's call at a heap and a script -/
def Kept (P : Program) (w : World) (fa a : Addr) (s : Shared) : Prop :=
  codeAny (model P w) callerA (.call (.ref fa) ⟨[.ref a], []⟩) (fun r z => r = .ok (.ret (.bool true)) ∧ PySem.OldK s.heap z.heap ∧ z.os = s.os ∧ AllBare z.gens) s
/-- the script alone may be held, and only as what stays -/
def HeldS (K : PySem.W.Frag) (a : Addr) (H : Hp) : Prop := ∀ p u, H p = some u → p = a ∧ K.lookup a = none ∧ ∃ o xs, u = .frz o (.lst xs)
theorem kept_at {fa a : Addr} {s : Shared} {H : Hp} {script : List Value} (inK : K.In s.heap) (gl : s.heap.Ns mainGlobals mg) (bt : s.heap.Ns builtinsNs mb) (bb : ∀ y : Str, y ≠ "__name__" → mb y = bootBuiltins y) (nl : s.heap.NoLimit) (ng : s.gens = #[])
    (list : s.heap.get? a = some { cls := .type "list", data := .seq script.toArray }) (held : HeldS K a H) (ok : HOk P w H s.heap)
    (run : ∀ below : Heap, Env0 P w K mg below callerA [] s H → codeAny (model P w) callerA (.call (.ref fa) ⟨[.ref a], []⟩) (CR CX0 [] P w H s (fun v _ => v = .bl true) fun _ _ _ => False) s) : Kept P w fa a s := by
  have free : ∀ {p : Addr}, p ≠ a → H p = none := fun {p} ne => by
    cases e : H p with
    | none => rfl
    | some u => exact absurd (held p u e).1 ne
  have low : ∀ {p : Addr} {o : Obj}, s.heap.get? p = some o → p ≠ a → (hidT s.heap H).get? p = some o := fun e ne => hidT_get e (free ne)
  have dicts : ∀ {p : Addr} {m : Str → Option Value}, s.heap.Ns p m → (hidT s.heap H).Ns p m := by
    rintro p m ⟨o, rows, n, e, d, r⟩
    refine ⟨o, rows, n, low e fun ne => ?_, d, r⟩
    rw [ne, list] at e
    cases e
    cases d
  have lowK : K.In (hidT s.heap H) := by
    intro p o e
    cases q : H p with
    | none => exact hidT_get (inK p o e) q
    | some u =>
      obtain ⟨rfl, no, _⟩ := held p u q
      rw [no] at e
      cases e
  have md : Mod K mg (hidT s.heap H) := by
    obtain ⟨mc, l1, l2⟩ := nl
    exact ⟨lowK, dicts gl, ⟨mb, dicts bt, bb⟩, ⟨mc, dicts l1, l2⟩⟩
  have at0 : Env0 P w K mg (hidT s.heap H) callerA [] s H := by
    refine ⟨rfl, md, fun p o q => of_hidT q, Nat.le_of_eq (hidT_size _ _), trivial, ?_, ok, .of_eq ng⟩
    intro p hp
    cases hp
  refine codeAny_mono (run _ at0) ?_
  intro r z hz
  cases r with
  | error e => exact False.elim hz
  | ok fl =>
    cases fl with
    | ret u =>
      obtain ⟨v, H', sameOs, bare, un, ok', rv, rfl⟩ := hz
      cases (show u = Value.bool true from rv)
      refine ⟨rfl, PySem.OldK.of_keep fun p o e => ?_, sameOs, bare⟩
      cases q : H p with
      | none => exact un.keep p o e q nofun nofun
      | some x =>
        obtain ⟨_, _, ob, xs, rfl⟩ := held p x q
        have h1 := (ok p _ q).1
        have h2 := (ok' p _ (un.frzs p ob _ q)).1
        rw [e] at h1
        cases h1
        exact h2
    | next => exact False.elim hz
    | brk => exact False.elim hz
    | cont => exact False.elim hz
theorem kept {fa a : Addr} {s : Shared} {script : List Value} {ns : List Int} (inK : K.In s.heap) (gl : s.heap.Ns mainGlobals mg) (bt : s.heap.Ns builtinsNs mb) (bb : ∀ y : Str, y ≠ "__name__" → mb y = bootBuiltins y) (nl : s.heap.NoLimit) (ng : s.gens = #[])
    (list : s.heap.get? a = some { cls := .type "list", data := .seq script.toArray }) (nums : IntsAre script ns) (few : ns.length ≤ sizeLine)
    (run : ∀ (H : Hp) (below : Heap), SqL K H a (ns.map V.int) → Env0 P w K mg below callerA [] s H → codeAny (model P w) callerA (.call (.ref fa) ⟨[.ref a], []⟩) (CR CX0 [] P w H s (fun v _ => v = .bl true) fun _ _ _ => False) s) : Kept P w fa a s := by
  have vals := vals_ints nums
  cases own : K.lookup a with
  | some o =>
    have e := inK a o own
    rw [list] at e
    cases e
    refine kept_at (H := fun _ => none) inK gl bt bb nl ng list (fun p u q => nomatch q) (fun p u q => nomatch q) fun below => run _ below (.inr ⟨_, script.toArray, _, own, rfl, rfl, rfl, ?_, ?_⟩)
    · rw [List.size_toArray, nums.length]
      exact few
    · simpa using vals
  | none =>
    have here : ∀ p u, (fun p => if p = a then some (HO.frz { cls := .type "list", data := .seq script.toArray } (.lst (ns.map V.int))) else none) p = some u → p = a ∧ u = .frz { cls := .type "list", data := .seq script.toArray } (.lst (ns.map V.int)) := fun p u q => by
      by_cases c : p = a
      · exact ⟨c, (Option.some.inj ((if_pos c).symm.trans q)).symm⟩
      · exact nomatch (if_neg c).symm.trans q
    refine kept_at (H := fun p => if p = a then some (.frz { cls := .type "list", data := .seq script.toArray } (.lst (ns.map V.int))) else none) inK gl bt bb nl ng list (fun p u q => ?_) (fun p u q => ?_) fun below => run _ below (.inl (.inr ⟨_, if_pos rfl⟩))
    · obtain ⟨e1, rfl⟩ := here p u q
      exact ⟨e1, own, _, _, rfl⟩
    · obtain ⟨rfl, rfl⟩ := here p u q
      exact ⟨list, by rw [List.length_map]; exact few, script, _, vals, list⟩
end
end G
set_option Elab.async false
set_option linter.all false
set_option maxRecDepth 100000
set_option maxHeartbeats 4000000
set_option pp.maxSteps 1200
namespace G
open PySem PySem.Spec PyProof.Rows L2
open Blo (Pr)
theorem digit_len : ∀ k : Nat, k < 8 → (PyData.shown (.int (k : Int))).length ≤ 1 ∧ PyData.showable (.int (k : Int)) = true
  | 0, _ => by simp only [PyData.shown, PyData.showable]; decide
  | 1, _ => by simp only [PyData.shown, PyData.showable]; decide
  | 2, _ => by simp only [PyData.shown, PyData.showable]; decide
  | 3, _ => by simp only [PyData.shown, PyData.showable]; decide
  | 4, _ => by simp only [PyData.shown, PyData.showable]; decide
  | 5, _ => by simp only [PyData.shown, PyData.showable]; decide
  | 6, _ => by simp only [PyData.shown, PyData.showable]; decide
  | 7, _ => by simp only [PyData.shown, PyData.showable]; decide
  | k + 8, h => absurd h (by omega)
theorem join_le (m : Nat) : ∀ ts : List Str, (∀ t ∈ ts, t.length ≤ m) → (Str.join ", " ts).length ≤ ts.length * (m + 2)
  | [], _ => Nat.zero_le _
  | [x], h => by
    have := h x List.mem_cons_self
    show x.length ≤ 1 * (m + 2)
    omega
  | x :: y :: r, h => by
    have h1 := h x List.mem_cons_self
    have ih := join_le m (y :: r) fun t ht => h t (List.mem_cons_of_mem _ ht)
    show (x ++ ", " ++ Str.join ", " (y :: r)).length ≤ _
    rw [strLen_append, strLen_append]
    have e : ((", " : String) : Str).length = 2 := rfl
    rw [List.length_cons, Nat.succ_mul]
    omega
theorem tuple_le (m : Nat) (ts : List Str) (h : ∀ t ∈ ts, t.length ≤ m) : (tupleText ts).length ≤ ts.length * (m + 2) + 3 := by
  have := join_le m ts h
  unfold tupleText
  rw [strLen_append, strLen_append]
  have e1 : ((("(" : Str))).length = 1 := rfl
  have e2 : ∀ b : Bool, (((if b = true then ",)" else ")" : String)) : Str).length ≤ 2 := by intro b; cases b <;> decide
  have := e2 (ts.length == 1)
  omega
theorem prD_show {e : Pr} (h1 : e.1 < 8) (h2 : e.2 < 8) : (PyData.shown (prD e)).length ≤ 9 ∧ PyData.showable (prD e) = true := by
  obtain ⟨a1, a2⟩ := digit_len e.1 h1
  obtain ⟨b1, b2⟩ := digit_len e.2 h2
  constructor
  · have := tuple_le 1 [PyData.shown (.int (e.1 : Nat)), PyData.shown (.int (e.2 : Nat))] (fun t ht => by
      simp only [List.mem_cons, List.not_mem_nil, or_false] at ht
      rcases ht with rfl | rfl
      · exact a1
      · exact b1)
    simp only [prD, PyData.shown, PyData.shownAll]
    simp only [PyData.shown] at this
    exact this
  · simp only [prD, PyData.showable, PyData.showableAll]
    simp only [PyData.showable] at a2 b2
    rw [a2, b2]
    rfl
theorem prDs_show : ∀ p : List Pr, (∀ e ∈ p, e.1 < 8 ∧ e.2 < 8) → (∀ t ∈ PyData.shownAll (p.map prD), t.length ≤ 9) ∧ PyData.showableAll (p.map prD) = true ∧ (PyData.shownAll (p.map prD)).length = p.length
  | [], _ => ⟨fun t ht => by simp [PyData.shownAll] at ht, by simp [PyData.showableAll], by simp [PyData.shownAll]⟩
  | e :: p, h => by
    obtain ⟨i1, i2, i3⟩ := prDs_show p fun x hx => h x (List.mem_cons_of_mem _ hx)
    obtain ⟨g1, g2⟩ := h e List.mem_cons_self
    obtain ⟨q1, q2⟩ := prD_show g1 g2
    refine ⟨fun t ht => ?_, ?_, ?_⟩
    · simp only [List.map_cons, PyData.shownAll, List.mem_cons] at ht
      rcases ht with rfl | ht
      · exact q1
      · exact i1 t ht
    · simp only [List.map_cons, PyData.showableAll, q2, i2, Bool.and_self]
    · simp only [List.map_cons, PyData.shownAll, List.length_cons, i3]
theorem planD_show {p : List Pr} (h : ∀ e ∈ p, e.1 < 8 ∧ e.2 < 8) (hl : p.length ≤ 100) : (planD p).showable = true ∧ (planD p).hasDict = false ∧ (planD p).depth ≤ 64 ∧ (planD p).shown.length ≤ sizeLine := by
  obtain ⟨i1, i2, i3⟩ := prDs_show p h
  refine ⟨?_, PyData.hasDict_of_canLay _ (planD_lay p), Nat.le_trans (planD_depth p) (by decide), ?_⟩
  · simp only [planD, PyData.showable]
    exact i2
  · have := tuple_le 9 _ i1
    rw [i3] at this
    refine size_le ?_
    simp only [planD, PyData.shown]
    omega
section
variable {K : PySem.W.Frag}
/-- repr of a plan -/
theorem reprI {H : Hp} {v : V} {p : List Pr} {Q : VK} (hv : PlanV K H v p) (h : ∀ e ∈ p, e.1 < 8 ∧ e.2 < 8) (hl : p.length ≤ 100) (q : Q (.str (planD p).shown) H) : rRepr K [v] H Q := by
  obtain ⟨a, vs, rfl, h1, h2⟩ := id hv
  obtain ⟨s1, s2, s3, s4⟩ := planD_show h hl
  exact .inr ⟨a, planD p, rfl, hv.dp, s1, s2, s3, s4, q⟩
end
end G
set_option Elab.async false
set_option linter.all false
set_option maxRecDepth 100000
set_option maxHeartbeats 4000000
set_option pp.maxSteps 1200
namespace G
open PySem PySem.Spec PyProof.Rows L2
open Blo (Pr)
abbrev nLaw : List Str := ["_law_script", "_law_deal", "_law_web_here", "_law_plans", "_law_most", "_law_best", "_law_plan", "_law_more"]
section
variable {P : Program} {w : World} {K : PySem.W.Frag} {mg : Str → Option Value} {base : Heap} {C : Addr}
theorem nilI {σ : L2.St} {H : Hp} {Q : List V → Hp → Prop} (h : Q [] H) : tNil σ H Q := h
theorem kb_largest {f : Addr} {fd : FuncData} (F : Fun K "largest_plan" "largest_plan" sLargest f fd) : KBinds K fd ["web"] ["web"] (fun us ws => us ++ ws) (fun vs zs => vs ++ zs) := by
  rcases F.ex with ⟨c1, c2, kv, dc, prm, ann, code, ct, slots, rfl, look, isCode⟩
  exact ⟨fun s us ws _ hl => .of_eq (match us, ws, hl with | [], [_], _ => rfl | [_], [], _ => rfl), fun r z => r.append z⟩
theorem vals_rev : ∀ {zs : List V} {ws : List Value}, Vals zs ws → Vals zs.reverse ws.reverse
  | _, _, .nil => .nil
  | _, _, .cons r t => by
    rw [List.reverse_cons, List.reverse_cons]
    exact (vals_rev t).append (.cons r .nil)
theorem kb_grown {f : Addr} {fd : FuncData} (F : Fun K "grown_plan" "grown_plan" sGrown f fd) : KBinds K fd ["web", "plan"] ["plan", "web"] (fun us ws => us ++ ws.reverse) (fun vs zs => vs ++ zs.reverse) := by
  rcases F.ex with ⟨c1, c2, kv, dc, prm, ann, code, ct, slots, rfl, look, isCode⟩
  refine ⟨fun s us ws _ hl => ?_, fun r z => r.append (vals_rev z)⟩
  have hl2 : (us ++ ws).length = 2 := by rw [List.length_append, List.length_reverse] at hl; rw [List.length_append]; exact hl
  exact .of_eq (match us, ws, hl2 with | [], [_, _], _ => rfl | [_], [_], _ => rfl | [_, _], [], _ => rfl)
theorem pe_kw {X : Cx} {j k : Nat} {x : Str} {st : Stmt} {ps ks : List Str} {sp : Sp} {g : List Value → List Value → List Value} {gV : List V → List V → List V} {p pos : Pos} {kws : List Keyword} {tk : TA} (c : CalK X.prog X.w X.K X.mg X.base k x st ps sp)
    (kb : ∀ {f : Addr} {fd : FuncData}, Fun X.K x x st f fd → KBinds X.K fd ps ks g gV) (hr : Room j X.A) (hk : k ≤ j) (hg : Gl X x) (hkw : PK X kws tk)
    (hall : (backToKw pos (keywordEach kws X.env)).all (·.1.isSome) = true := by rfl) (hks : (backToKw pos (keywordEach kws X.env)).filterMap (·.1) = ks := by rfl) (hdb : (x == ("__debug__" : Str)) = false := by decide)
    (hpl : ((backTo pos (starEach [] X.env)).any (·.1) || (backToKw pos (keywordEach kws X.env)).any (·.1.isNone)) = false := by rfl) : PE X (.Call (.Name x p) [] kws pos) (tCallK sp gV C8.E0 tNil tk) := by
  obtain ⟨f, fd, F, hm, b, ok⟩ := c.ex
  exact pe_callK0 ok (hr.mono hk) hg hm F.kp (kb F) C8.pass0 hkw hall hks hdb hpl
theorem scLaw : FnScope nLaw ["_law_script"] (defScope sLaw) := ⟨rfl, rfl, rfl, by decide +kernel, rfl, by decide +kernel, by decide +kernel⟩
theorem law_body {fa a : Addr} {ns : List Int} {s : Shared} {H : Hp} {E : XK} (T : Nm mg) (room : Room 9 callerA) (hS : SqL K H a (ns.map V.int)) (hn : ns.length ≤ 63)
    (C1 : C8.Cal P w K mg base 1 "_law_draw" (spDraw K) []) (C2 : C8.Cal P w K mg base 3 "_law_web" (spLawWeb K) []) (C3 : C8.Cal P w K mg base 1 "_law_all_plans" (spAllPlans K) []) (CL : CalK P w K mg base 8 "largest_plan" sLargest ["web"] (spLargest K))
    (CG : CalK P w K mg base 7 "grown_plan" sGrown ["web", "plan"] (spGrown K)) (CP : C8.Cal P w K mg base 1 "_law_is_plan" (spIsPlan K) []) (CM : C8.Cal P w K mg base 2 "_law_mixed" (spMixed K) []) (CW : C8.Cal P w K mg base 1 "_law_within" (spWithin K) [])
    (CS : C8.Cal P w K mg base 1 "_law_served" (spServed K) []) (cd : Value) :
    ∃ t, PSs (cxOf CX0 P w K mg base nLaw "law" (defScope sLaw) fa cd callerA [] s H E).nox (defBody sLaw) t ∧ t { nx := fun _ G => (.non : V) = .bl true, rt := fun v _ => v = .bl true } (start nLaw [.ref a]) H := by
  have hr : Room 8 (callerA.deeper (envOfC "law" (defScope sLaw) s.heap.objs.size fa cd)) := Room.deeper (k := 8) room _
  have hu : callerA.units + 3 + 70 < cLine := by
    have := room.un
    omega
  refine ⟨_, (pss_cons (ps_set (i := 1) scLaw.nd rfl (by first | exact Or.inl rfl | exact Or.inr rfl) (C8.pe_c C1 hr (by decide) (by rfl) (pa_cons (pv 0) (pa_cons pe_int pa_nil))))
      (pss_cons (ps_set (i := 2) scLaw.nd rfl (by first | exact Or.inl rfl | exact Or.inr rfl) (C8.pe_c C2 hr (by decide) (by rfl) (pa_cons (pv 1) (pa_cons pe_int pa_nil))))
      (pss_cons (ps_set (i := 3) scLaw.nd rfl (by first | exact Or.inl rfl | exact Or.inr rfl) (C8.pe_c C3 hr (by decide) (by rfl) (pa_cons (pv 2) pa_nil)))
      (pss_cons (ps_set (i := 4) scLaw.nd rfl (by first | exact Or.inl rfl | exact Or.inr rfl) (pe_callB (cr_max rfl) (by rfl) T.max (by decide +kernel) (pa_cons (pe_lc (own := [("_law_plan", 6)]) (g := gName 6) (tt := tYes) rfl scLaw.nd (pi_list (pv 3))
          (blkOk_by (N := nLaw) (sc := defScope sLaw) (by decide +kernel)) (fun _ _ _ _ _ => (pg_name (i := 6) scLaw.nd rfl (by first | exact Or.inl rfl | exact Or.inr rfl)))
          (fun _ _ _ _ _ => pts_nil)
          (fun _ _ _ _ _ => (pe_callB (r := rLenK K) call_len_seq (by rfl) T.len PySem.boot_len (pa_cons (pv 6) pa_nil)))) pa_nil)))
      (pss_cons (ps_set (i := 5) scLaw.nd rfl (by first | exact Or.inl rfl | exact Or.inr rfl) (pe_kw CL kb_largest hr (by decide) (by rfl) (pk_cons (pv 2) pk_nil)))
      (pss_cons (ps_if (PW.pt (pw_or (pt_not (pt_val (C8.pe_c CP hr (by decide) (by rfl) (pa_cons (pv 2) (pa_cons (pv 5) pa_nil))))) (pw_or (pt_cmpR op_ne (pe_callB call_len_seq (by rfl) T.len PySem.boot_len (pa_cons (pv 5) pa_nil)) (pv 4) (nomark _)) (pw_or1 (pt_cmpR op_ne (pe_callB (cr_repr rfl hu) (by rfl) T.repr (by decide +kernel) (pa_cons (C8.pe_c CL.cal hr (by decide) (by rfl) (pa_cons (pv 2) pa_nil)) pa_nil)) (pe_callB (cr_repr rfl hu) (by rfl) T.repr (by decide +kernel) (pa_cons (pv 5) pa_nil)) (nomark _)))))) (pss_one (ps_ret pe_bl)) pss_nil)
      (pss_cons (ps_for PassesOwn.never rfl (pi_list (pe_op op_cat (pe_slice sl_list (C8.pe_c CM hr (by decide) (by rfl) (pa_cons (pv 1) (pa_cons (pv 3) pa_nil))) po_none (po_some pe_int)) (pe_lst (pa_cons (pe_tup pa_nil) (pa_cons (pv 5) (pa_cons (pe_ix ix_list (pv 3) (pe_un un_neg pe_int) (fun _ _ => rfl)) pa_nil)))))) (pg_name (i := 6) scLaw.nd rfl (by first | exact Or.inl rfl | exact Or.inr rfl))
        (pss_cons (ps_set (i := 7) scLaw.nd rfl (by first | exact Or.inl rfl | exact Or.inr rfl) (C8.pe_c CG.cal hr (by decide) (by rfl) (pa_cons (pv 2) (pa_cons (pv 6) pa_nil))))
      (pss_cons (ps_if (PW.pt (pw_or (pt_cmpR op_ne (pe_cmp (pc_isN (pv 7))) (pe_cmpR op_eq (pe_callB call_len_seq (by rfl) T.len PySem.boot_len (pa_cons (pv 6) pa_nil)) (pv 4) (nomark _)) (nomark _)) (pw_or1 (pt_cmpR op_ne (pe_callB (cr_repr rfl hu) (by rfl) T.repr (by decide +kernel) (pa_cons (pe_kw CG kb_grown hr (by decide) (by rfl) (pk_cons (pv 6) (pk_cons (pv 2) pk_nil))) pa_nil)) (pe_callB (cr_repr rfl hu) (by rfl) T.repr (by decide +kernel) (pa_cons (pv 7) pa_nil)) (nomark _))))) (pss_one (ps_ret pe_bl)) pss_nil)
      (pss_one (ps_if (pt_cmp (pc_notN (pv 7))) (pss_one (ps_if (PW.pt (pw_or (pt_not (pt_val (C8.pe_c CP hr (by decide) (by rfl) (pa_cons (pv 2) (pa_cons (pv 7) pa_nil))))) (pw_or (pt_cmpR op_ne (pe_callB call_len_seq (by rfl) T.len PySem.boot_len (pa_cons (pv 7) pa_nil)) (pe_op op_add (pe_callB call_len_seq (by rfl) T.len PySem.boot_len (pa_cons (pv 6) pa_nil)) pe_int) (nomark _)) (pw_or1 (pt_not (pt_val (C8.pe_c CW hr (by decide) (by rfl) (pa_cons (C8.pe_c CS hr (by decide) (by rfl) (pa_cons (pv 6) pa_nil)) (pa_cons (C8.pe_c CS hr (by decide) (by rfl) (pa_cons (pv 7) pa_nil)) pa_nil))))))))) (pss_one (ps_ret pe_bl)) pss_nil)) pss_nil)))))
      (pss_one (ps_ret pe_bl))))))))), ?_⟩
  -- draw
  refine ⟨_, rfl, a, ns, rfl, hS, hn, fun d c H1 s1 hd hc D1 => ?_⟩
  -- the web
  refine ⟨_, rfl, d, c, rfl, D1, fun u n ps H2 b2 D2 hn1 hn8 W hps hW => ?_⟩
  -- all plans
  refine ⟨_, rfl, u, n, ps, rfl, hW, hps, fun L vs H3 hL s3 h3 hp3 => ?_⟩
  have nL := D2.ne hL
  have D3 := D2.same s3
  have hW3 := hW.same s3
  have hvl := hp3.length
  have hpl : (Blo.plansM ps).length ≤ 65536 := by
    have h1 := Blo.plans_len ps [[]]
    have h2 : 2 ^ ps.length ≤ 2 ^ 16 := Nat.pow_le_pow_right (by decide) hps
    unfold Blo.plansM
    simp only [List.length_cons, List.length_nil] at h1
    omega
  have hnil : ([] : List Pr) ∈ Blo.plansM ps := Blo.mem_plans.mpr Blo.plan_nil
  have hpos : 0 < (Blo.plansM ps).length := List.length_pos_of_mem hnil
  have small : ∀ p, Blo.IsPlan ps p → (∀ e ∈ p, e.1 < 8 ∧ e.2 < 8) ∧ p.length ≤ 100 := fun p PL => by
    refine ⟨fun e he => ?_, ?_⟩
    · have := W.lt e (PL.1.subset he)
      omega
    · have := Blo.plan_len W PL
      omega
  -- the most pairs
  refine ⟨_, rfl, L, rfl, ⟨_, SqL.of h3⟩, fun M hM => ?_⟩
  refine it_list (K := K) (a := L) (xs := vs) (fun i H' => Same H3 H' ∧ H' M = some (.lst (IV (((Blo.plansM ps).take i).map List.length)))) ⟨same_upd hM, upd_same⟩ (fun i H' _ h => h.1.seq (SqL.of h3)) (fun i x H4 hx h => ?_) (fun H4 h => ?_)
  · obtain ⟨s4, m4⟩ := h
    obtain ⟨p, hp, q1⟩ := Paired.get hp3 i x hx
    obtain ⟨pa, pvs, rfl, hpa, hpp⟩ := q1.same s4
    have hi := (List.getElem?_eq_some_iff.mp hp).1
    refine ⟨rfl, yes (iteT ⟨_, rfl, pa, pvs, rfl, .inr hpa, _, m4, ?_, Same.mut s4 hM, ?_⟩)⟩
    · rw [IV_length, List.length_map, List.length_take]
      exact size_lt (by omega)
    · rw [upd_same, hpp.length, List.take_add_one, hp, List.map_append, IV_append]
      rfl
  obtain ⟨s4, m4⟩ := h
  rw [hvl, List.take_length] at m4
  refine ⟨M, ((Blo.plansM ps).map List.length).map (fun (k : Nat) => (k : Int)), rfl, SqL.of (by rw [m4]; unfold IV; simp only [List.map_map]; rfl), by rw [List.length_map, List.length_map]; exact hpos, fun most hmost hmax => ?_⟩
  obtain ⟨p0, P0, rfl, hle⟩ : ∃ p0, Blo.IsPlan ps p0 ∧ most = ((p0.length : Nat) : Int) ∧ ∀ q, Blo.IsPlan ps q → q.length ≤ p0.length := by
    obtain ⟨k, hk, rfl⟩ := List.mem_map.mp hmost
    obtain ⟨p0, hp0, rfl⟩ := List.mem_map.mp hk
    refine ⟨p0, Blo.mem_plans.mp hp0, rfl, fun q Q => ?_⟩
    have := hmax ((q.length : Nat) : Int) (List.mem_map.mpr ⟨q.length, List.mem_map.mpr ⟨q, Blo.mem_plans.mpr Q, rfl⟩, rfl⟩)
    omega
  have s34 := s4
  have D4 := D3.same s34
  have h4 := s34 _ _ h3
  have hW4 := hW3.same s34
  -- a largest one
  have bud : 1 + n * (ps.length * (n + 1)) ≤ 90000 := by
    have h1 : ps.length * (n + 1) ≤ 16 * 9 := Nat.mul_le_mul hps (by omega)
    have h2 : n * (ps.length * (n + 1)) ≤ 8 * (16 * 9) := Nat.mul_le_mul hn8 h1
    omega
  obtain ⟨b, hb, PB, hbm⟩ := Blo.largest_ok W
  have hbl : b.length = p0.length := Nat.le_antisymm (hle b PB) (hbm p0 P0)
  refine ⟨_, rfl, u, n, ps, b, rfl, hW4, W, by omega, by omega, bud, hb, fun vb H5 s5 hvb => ?_⟩
  have hW5 := hW4.same s5
  refine ⟨_, rfl, _, rfl, u, vb, n, ps, b, rfl, hW5, hvb, W, PB, by omega, by omega, fun H6 s6 => ⟨true, rfl, iteF ?_⟩⟩
  have hvb6 := hvb.same s6
  have hW6 := hW5.same s6
  obtain ⟨ba, bvs, rfl, hb1, hb2⟩ := id hvb6
  refine ⟨_, rfl, ba, bvs, rfl, .inr hb1, _, rfl, rfl, _, rfl, ?_⟩
  refine iteF' _ (by rw [hb2.length, hbl]; simp) ?_
  refine ⟨_, rfl, u, n, ps, b, rfl, hW6, W, by omega, by omega, bud, hb, fun v2 H7 s7 hv2 => ?_⟩
  obtain ⟨sb1, sb2⟩ := small b PB
  refine nilI (reprI hv2 sb1 sb2 ?_)
  have hvb7 := hvb6.same s7
  refine ⟨_, rfl, nilI (reprI hvb7 sb1 sb2 ⟨rfl, _, rfl, ?_⟩)⟩
  refine iteF' _ (by simp) ?_
  refine nextI ?_
  dsimp only
  -- the plans that are looked at
  have s37 := s34.trans (s5.trans (s6.trans s7))
  have D7 := D3.same s37
  have h7 := s37 _ _ h3
  have hW7 := hW3.same s37
  have hp7 : Paired (PlanV K H7) vs (Blo.plansM ps) := Paired.mono (fun _ _ q => PlanV.same s37 q) hp3
  have plans : ∀ x ∈ vs, ∃ p, PlanV K H7 x p ∧ Blo.IsPlan ps p := fun x hx => by
    obtain ⟨i, hi⟩ := List.mem_iff_getElem?.mp hx
    obtain ⟨p, hp, q⟩ := Paired.get hp7 i x hi
    exact ⟨p, q, Blo.mem_plans.mp (List.mem_of_getElem? hp)⟩
  refine ⟨_, rfl, _, rfl, d, c, L, vs, rfl, D7, h7, by omega, fun x hx => ?_, fun R ys H8 hR b78 D8 h8 hperm => ?_⟩
  · obtain ⟨p, q, _⟩ := plans x hx
    exact .inr ⟨p, q⟩
  have tk8 : Tk K H7 H8 := D7.tk b78
  have hW8 := hW7.tk tk8
  have hvb8 := hvb7.tk tk8
  have l8 := b78 _ _ h7 nL.1 nL.2
  refine ⟨5, rfl, R, ys, rfl, SqL.of h8, fun S hS2 => ?_⟩
  have s9 := same_upd (o := .lst (cutV ys none (some 5))) hS2
  have r9 : upd H8 S (.lst (cutV ys none (some 5))) S = some (.lst (cutV ys none (some 5))) := upd_same
  have hcut : ∀ x ∈ cutV ys none (some 5), x ∈ vs := fun x hx => by
    unfold cutV at hx
    exact hperm.mem_iff.mp (List.mem_of_mem_drop (List.mem_of_mem_take hx))
  have hcl := cutV_length ys none (some 5)
  have hyl := hperm.length_eq
  generalize cutV ys none (some 5) = cs at s9 r9 hcut hcl ⊢
  generalize upd H8 S (.lst cs) = H9 at s9 r9 ⊢
  refine ⟨Nat.zero_le _, fun e he => ?_⟩
  have s10 := s9.trans (same_upd (o := .tup []) he)
  have e10 : upd H9 e (.tup []) e = some (.tup []) := upd_same
  have r10 := same_upd (o := .tup []) he _ _ r9
  generalize upd H9 e (.tup []) = H10 at s10 e10 r10 ⊢
  have hlast : ∃ x, vs[vs.length - 1]? = some x ∧ x ∈ vs := by
    have hlt : vs.length - 1 < vs.length := by omega
    exact ⟨vs[vs.length - 1], List.getElem?_eq_getElem hlt, List.getElem_mem hlt⟩
  obtain ⟨xl, hxl, hxlm⟩ := hlast
  refine ⟨_, rfl, _, rfl, 1, rfl, L, _, -1, _, rfl, rfl, SqL.of (s10 _ _ l8), atI_end hxl, by show 3 ≤ sizeLine; decide, fun T3 hT3 => ?_⟩
  have s11 := s10.trans (same_upd (o := .lst [.ref e, .ref ba, xl]) hT3)
  have e11 := same_upd (o := .lst [.ref e, .ref ba, xl]) hT3 _ _ e10
  have r11 := same_upd (o := .lst [.ref e, .ref ba, xl]) hT3 _ _ r10
  have t11 : upd H10 T3 (.lst [.ref e, .ref ba, xl]) T3 = some (.lst [.ref e, .ref ba, xl]) := upd_same
  generalize upd H10 T3 (.lst [.ref e, .ref ba, xl]) = H11 at s11 e11 r11 t11 ⊢
  refine ⟨S, T3, _, _, rfl, rfl, r11, t11, by rw [hyl] at hcl; exact size_le (by simp only [List.length_cons, List.length_nil]; omega), fun Z hZ => ?_⟩
  have s12 := s11.trans (same_upd (o := .lst (cs ++ [.ref e, .ref ba, xl])) hZ)
  have e12 := same_upd (o := .lst (cs ++ [.ref e, .ref ba, xl])) hZ _ _ e11
  have z12 : upd H11 Z (.lst (cs ++ [.ref e, .ref ba, xl])) Z = some (.lst (cs ++ [.ref e, .ref ba, xl])) := upd_same
  generalize upd H11 Z (.lst (cs ++ [.ref e, .ref ba, xl])) = H12 at s12 e12 z12 ⊢
  have hW12 := hW8.same s12
  have asked : ∀ x ∈ cs ++ [.ref e, .ref ba, xl], ∃ p, PlanV K H12 x p ∧ Blo.IsPlan ps p := fun x hx => by
    have of_vs : x ∈ vs → ∃ p, PlanV K H12 x p ∧ Blo.IsPlan ps p := fun h => by
      obtain ⟨p, q, PL⟩ := plans x h
      exact ⟨p, (q.tk tk8).same s12, PL⟩
    rcases List.mem_append.mp hx with h | h
    · exact of_vs (hcut x h)
    · simp only [List.mem_cons, List.not_mem_nil, or_false] at h
      rcases h with rfl | rfl | rfl
      · exact ⟨[], ⟨e, [], rfl, SqT.of e12, .nil⟩, Blo.plan_nil⟩
      · exact ⟨b, hvb8.same s12, PB⟩
      · exact of_vs hxlm
  refine ⟨Z, rfl, ⟨_, SqL.of z12⟩, ?_⟩
  refine for_list (K := K) (a := Z) (xs := cs ++ [.ref e, .ref ba, xl]) (fun i σ H' => ∃ x y, σ = [some (.ref a), some (.ref d), some u, some (.ref L), some (.int ((p0.length : Nat) : Int)), some (.ref ba), x, y] ∧ Same H12 H')
    ⟨none, none, rfl, fun _ _ h => h⟩ (fun i σ H' _ ⟨_, _, _, h⟩ => h.seq (SqL.of z12)) (fun i x σ H13 hx h => ?_) (fun σ H13 h => ?_)
  · obtain ⟨x0, y0, rfl, s13⟩ := h
    obtain ⟨p, hv12, PL⟩ := asked x (List.mem_of_getElem? hx)
    have hv := hv12.same s13
    have hW13 := hW12.same s13
    obtain ⟨sp1, sp2⟩ := small p PL
    obtain ⟨g, hg, hg2⟩ := Blo.grown_ok W PL
    refine ⟨_, rfl, _, rfl, u, x, n, ps, p, g, rfl, hW13, hv, W, PL, by omega, by omega, bud, hg, fun vm H14 s14 hm => ?_⟩
    have hv14 := hv.same s14
    have hW14 := hW13.same s14
    obtain ⟨xa, xvs, rfl, hx1, hx2⟩ := id hv14
    have hxl2 := hx2.length
    refine ⟨_, rfl, _, rfl, xa, xvs, rfl, .inr hx1, _, rfl, rfl, ?_⟩
    cases g with
    | none =>
      have hvm : vm = .non := hm
      subst hvm
      have hpp0 : p.length = p0.length := by
        rcases hg2 with ⟨_, h⟩ | ⟨q, h, _⟩
        · exact Nat.le_antisymm (hle p PL) (h p0 P0)
        · cases h
      refine ⟨rfl, _, rfl, ?_⟩
      refine iteF' _ (by rw [hxl2, hpp0]; simp) ?_
      refine ⟨_, rfl, _, rfl, u, .ref xa, n, ps, p, none, rfl, hW14, hv14, W, PL, by omega, by omega, bud, hg, fun v2 H15 s15 hm2 => ?_⟩
      have hv2 : v2 = .non := hm2
      subst hv2
      refine nilI (.inl ⟨rfl, ?_⟩)
      refine ⟨_, rfl, nilI (.inl ⟨rfl, rfl, _, rfl, ?_⟩)⟩
      refine iteF' _ (by simp) ?_
      refine nextI ?_
      dsimp only
      refine ⟨_, rfl, _, rfl, ?_⟩
      refine iteF' _ (by rfl) ?_
      exact ⟨_, _, rfl, s13.trans (s14.trans s15)⟩
    | some q =>
      have hmq : PlanV K H14 vm q := hm
      obtain ⟨QL, hql, hsub⟩ : Blo.IsPlan ps q ∧ q.length = p.length + 1 ∧ ∀ z ∈ Blo.servedL p, z ∈ Blo.servedL q := by
        rcases hg2 with ⟨h, _⟩ | ⟨q', h, h1, h2, h3⟩
        · cases h
        · cases h
          exact ⟨h1, h2, h3⟩
      have hlt : p.length ≠ p0.length := by
        have := hle q QL
        omega
      obtain ⟨sq1, sq2⟩ := small q QL
      obtain ⟨ma, mvs, rfl, hm1, hm2⟩ := id hmq
      refine ⟨rfl, _, rfl, ?_⟩
      refine iteF' _ ?_ ?_
      · rw [V_int_inj, hxl2, decide_eq_false hlt]
        rfl
      refine ⟨_, rfl, _, rfl, u, .ref xa, n, ps, p, some q, rfl, hW14, hv14, W, PL, by omega, by omega, bud, hg, fun v2 H15 s15 hmq2 => ?_⟩
      refine nilI (reprI (show PlanV K H15 v2 q from hmq2) sq1 sq2 ?_)
      have hmq15 := hmq.same s15
      refine ⟨_, rfl, nilI (reprI hmq15 sq1 sq2 ⟨rfl, _, rfl, ?_⟩)⟩
      refine iteF' _ (by simp) ?_
      refine nextI ?_
      dsimp only
      refine ⟨_, rfl, _, rfl, ?_⟩
      refine iteT' _ (by rfl) ?_
      have hW15 := hW14.same s15
      refine ⟨_, rfl, _, rfl, u, .ref ma, n, ps, q, rfl, hW15, hmq15, W, QL, by omega, by omega, fun H16 s16 => ⟨true, rfl, iteF ?_⟩⟩
      have hm16 := tup_same (s15.trans s16) hm1
      have hx16 := tup_same (s15.trans s16) hx1
      refine ⟨_, rfl, ma, mvs, rfl, .inr hm16, _, rfl, xa, xvs, rfl, .inr hx16, _, _, rfl, rfl, rfl, _, rfl, ?_⟩
      refine iteF' _ ?_ ?_
      · rw [hm2.length, hxl2, hql]
        simp
      have pl := Blo.plan_len W PL
      have ql := Blo.plan_len W QL
      refine ⟨_, rfl, .ref xa, p, rfl, hv14.same (s15.trans s16), by omega, fun v1 H17 s17 lot1 => ?_⟩
      refine ⟨_, rfl, .ref ma, q, rfl, hmq15.same (s16.trans s17), by omega, fun v2' H18 s18 lot2 => ?_⟩
      have lot1' : LotV K H18 v1 p := by
        obtain ⟨l1, l2, e1, e2, e3⟩ := lot1
        exact ⟨l1, l2, e1, tup_same s18 e2, e3⟩
      refine ⟨v1, v2', p, q, rfl, lot1', lot2, hsub, fun H19 s19 => ⟨true, rfl, ?_⟩⟩
      refine iteF ?_
      exact ⟨_, _, rfl, s13.trans (s14.trans (s15.trans (s16.trans (s17.trans (s18.trans s19)))))⟩
  · exact rfl
end
end G
set_option Elab.async false
set_option linter.all false
set_option maxRecDepth 100000
set_option maxHeartbeats 4000000
set_option pp.maxSteps 1200
namespace G
open PySem PySem.Spec PyProof.Rows L2
theorem all_mk {P : Program} {w : World} {K : PySem.W.Frag} {h : Heap} {mg : Str → Option Value} {fa C kt : Addr} {odK : Option Addr} {nK : Nat} {slK : Array (Option Value)} {t1 t2 : Tok} (X : K.In h) (G : h.Ns mainGlobals mg) (hfa : mg "law" = some (.ref fa))
    {f1 : Addr} {od1 an1 : Option Addr} {sl1 : Array (Option Value)} {oc1 kV1 dc1 pm1 cd1 ct1 : Value} {f2 : Addr} {od2 an2 : Option Addr} {sl2 : Array (Option Value)} {oc2 kV2 dc2 pm2 cd2 ct2 : Value} {f3 : Addr} {od3 an3 : Option Addr} {sl3 : Array (Option Value)} {oc3 kV3 dc3 pm3 cd3 ct3 : Value} {f4 : Addr} {od4 an4 : Option Addr} {sl4 : Array (Option Value)} {oc4 kV4 dc4 pm4 cd4 ct4 : Value} {f5 : Addr} {od5 an5 : Option Addr} {sl5 : Array (Option Value)} {oc5 kV5 dc5 pm5 cd5 ct5 : Value} {f6 : Addr} {od6 an6 : Option Addr} {sl6 : Array (Option Value)} {oc6 kV6 dc6 pm6 cd6 ct6 : Value} {f7 : Addr} {od7 an7 : Option Addr} {sl7 : Array (Option Value)} {oc7 kV7 dc7 pm7 cd7 ct7 : Value} {f8 : Addr} {od8 an8 : Option Addr} {sl8 : Array (Option Value)} {oc8 kV8 dc8 pm8 cd8 ct8 : Value} {f9 : Addr} {od9 an9 : Option Addr} {sl9 : Array (Option Value)} {oc9 kV9 dc9 pm9 cd9 ct9 : Value} {f10 : Addr} {od10 an10 : Option Addr} {sl10 : Array (Option Value)} {oc10 kV10 dc10 pm10 cd10 ct10 : Value} {f11 : Addr} {od11 an11 : Option Addr} {sl11 : Array (Option Value)} {oc11 kV11 dc11 pm11 cd11 ct11 : Value} {f12 : Addr} {od12 an12 : Option Addr} {sl12 : Array (Option Value)} {oc12 kV12 dc12 pm12 cd12 ct12 : Value} {f13 : Addr} {od13 an13 : Option Addr} {sl13 : Array (Option Value)} {oc13 kV13 dc13 pm13 cd13 ct13 : Value} {f14 : Addr} {od14 an14 : Option Addr} {sl14 : Array (Option Value)} {oc14 kV14 dc14 pm14 cd14 ct14 : Value} {f15 : Addr} {od15 an15 : Option Addr} {sl15 : Array (Option Value)} {oc15 kV15 dc15 pm15 cd15 ct15 : Value} {f16 : Addr} {od16 an16 : Option Addr} {sl16 : Array (Option Value)} {oc16 kV16 dc16 pm16 cd16 ct16 : Value} {f17 : Addr} {od17 an17 : Option Addr} {sl17 : Array (Option Value)} {oc17 kV17 dc17 pm17 cd17 ct17 : Value} {f18 : Addr} {od18 an18 : Option Addr} {sl18 : Array (Option Value)} {oc18 kV18 dc18 pm18 cd18 ct18 : Value} {f19 : Addr} {od19 an19 : Option Addr} {sl19 : Array (Option Value)} {oc19 kV19 dc19 pm19 cd19 ct19 : Value} {f20 : Addr} {od20 an20 : Option Addr} {sl20 : Array (Option Value)} {oc20 kV20 dc20 pm20 cd20 ct20 : Value} {f21 : Addr} {od21 an21 : Option Addr} {sl21 : Array (Option Value)} {oc21 kV21 dc21 pm21 cd21 ct21 : Value} {f22 : Addr} {od22 an22 : Option Addr} {sl22 : Array (Option Value)} {oc22 kV22 dc22 pm22 cd22 ct22 : Value} {f23 : Addr} {od23 an23 : Option Addr} {sl23 : Array (Option Value)} {oc23 kV23 dc23 pm23 cd23 ct23 : Value} {f24 : Addr} {od24 an24 : Option Addr} {sl24 : Array (Option Value)} {oc24 kV24 dc24 pm24 cd24 ct24 : Value} {f25 : Addr} {od25 an25 : Option Addr} {sl25 : Array (Option Value)} {oc25 kV25 dc25 pm25 cd25 ct25 : Value} {f26 : Addr} {od26 an26 : Option Addr} {sl26 : Array (Option Value)} {oc26 kV26 dc26 pm26 cd26 ct26 : Value} {f27 : Addr} {od27 an27 : Option Addr} {sl27 : Array (Option Value)} {oc27 kV27 dc27 pm27 cd27 ct27 : Value} {f28 : Addr} {od28 an28 : Option Addr} {sl28 : Array (Option Value)} {oc28 kV28 dc28 pm28 cd28 ct28 : Value} {f29 : Addr} {od29 an29 : Option Addr} {sl29 : Array (Option Value)} {oc29 kV29 dc29 pm29 cd29 ct29 : Value} {f30 : Addr} {od30 an30 : Option Addr} {sl30 : Array (Option Value)} {oc30 kV30 dc30 pm30 cd30 ct30 : Value}
    (a1 : PySem.W.nsIn K mainGlobals "is_integer" = some (some (.ref f1))) (l1 : K.lookup f1 = some ⟨oc1, od1, .func (PySem.W.fnOf "is_integer" "is_integer" (defArgs sIsInteger) (defBody sIsInteger) (defScope sIsInteger) .none kV1 dc1 pm1 an1 cd1 ct1), sl1⟩) (c1 : PySem.W.codeIn K cd1 "is_integer" = true) (k1 : PySem.W.keepIn K (.ref f1) = true)
    (a2 : PySem.W.nsIn K mainGlobals "is_number" = some (some (.ref f2))) (l2 : K.lookup f2 = some ⟨oc2, od2, .func (PySem.W.fnOf "is_number" "is_number" (defArgs sIsNumber) (defBody sIsNumber) (defScope sIsNumber) .none kV2 dc2 pm2 an2 cd2 ct2), sl2⟩) (c2 : PySem.W.codeIn K cd2 "is_number" = true) (k2 : PySem.W.keepIn K (.ref f2) = true)
    (a3 : PySem.W.nsIn K mainGlobals "is_index" = some (some (.ref f3))) (l3 : K.lookup f3 = some ⟨oc3, od3, .func (PySem.W.fnOf "is_index" "is_index" (defArgs sIsIndex) (defBody sIsIndex) (defScope sIsIndex) .none kV3 dc3 pm3 an3 cd3 ct3), sl3⟩) (c3 : PySem.W.codeIn K cd3 "is_index" = true) (k3 : PySem.W.keepIn K (.ref f3) = true)
    (a4 : PySem.W.nsIn K mainGlobals "is_row_of" = some (some (.ref f4))) (l4 : K.lookup f4 = some ⟨oc4, od4, .func (PySem.W.fnOf "is_row_of" "is_row_of" (defArgs sIsRowOf) (defBody sIsRowOf) (defScope sIsRowOf) .none kV4 dc4 pm4 an4 cd4 ct4), sl4⟩) (c4 : PySem.W.codeIn K cd4 "is_row_of" = true) (k4 : PySem.W.keepIn K (.ref f4) = true)
    (a5 : PySem.W.nsIn K mainGlobals "is_word_of" = some (some (.ref f5))) (l5 : K.lookup f5 = some ⟨oc5, od5, .func (PySem.W.fnOf "is_word_of" "is_word_of" (defArgs sIsWordOf) (defBody sIsWordOf) (defScope sIsWordOf) .none kV5 dc5 pm5 an5 cd5 ct5), sl5⟩) (c5 : PySem.W.codeIn K cd5 "is_word_of" = true) (k5 : PySem.W.keepIn K (.ref f5) = true)
    (a6 : PySem.W.nsIn K mainGlobals "served" = some (some (.ref f6))) (l6 : K.lookup f6 = some ⟨oc6, od6, .func (PySem.W.fnOf "served" "served" (defArgs sServed) (defBody sServed) (defScope sServed) .none kV6 dc6 pm6 an6 cd6 ct6), sl6⟩) (c6 : PySem.W.codeIn K cd6 "served" = true) (k6 : PySem.W.keepIn K (.ref f6) = true)
    (a7 : PySem.W.nsIn K mainGlobals "unserved" = some (some (.ref f7))) (l7 : K.lookup f7 = some ⟨oc7, od7, .func (PySem.W.fnOf "unserved" "unserved" (defArgs sUnserved) (defBody sUnserved) (defScope sUnserved) .none kV7 dc7 pm7 an7 cd7 ct7), sl7⟩) (c7 : PySem.W.codeIn K cd7 "unserved" = true) (k7 : PySem.W.keepIn K (.ref f7) = true)
    (a8 : PySem.W.nsIn K mainGlobals "steps_of" = some (some (.ref f8))) (l8 : K.lookup f8 = some ⟨oc8, od8, .func (PySem.W.fnOf "steps_of" "steps_of" (defArgs sStepsOf) (defBody sStepsOf) (defScope sStepsOf) .none kV8 dc8 pm8 an8 cd8 ct8), sl8⟩) (c8 : PySem.W.codeIn K cd8 "steps_of" = true) (k8 : PySem.W.keepIn K (.ref f8) = true)
    (a9 : PySem.W.nsIn K mainGlobals "are_people" = some (some (.ref f9))) (l9 : K.lookup f9 = some ⟨oc9, od9, .func (PySem.W.fnOf "are_people" "are_people" (defArgs sArePeople) (defBody sArePeople) (defScope sArePeople) .none kV9 dc9 pm9 an9 cd9 ct9), sl9⟩) (c9 : PySem.W.codeIn K cd9 "are_people" = true) (k9 : PySem.W.keepIn K (.ref f9) = true)
    (a10 : PySem.W.nsIn K mainGlobals "is_turn" = some (some (.ref f10))) (l10 : K.lookup f10 = some ⟨oc10, od10, .func (PySem.W.fnOf "is_turn" "is_turn" (defArgs sIsTurn) (defBody sIsTurn) (defScope sIsTurn) .none kV10 dc10 pm10 an10 cd10 ct10), sl10⟩) (c10 : PySem.W.codeIn K cd10 "is_turn" = true) (k10 : PySem.W.keepIn K (.ref f10) = true)
    (a11 : PySem.W.nsIn K mainGlobals "turned" = some (some (.ref f11))) (l11 : K.lookup f11 = some ⟨oc11, od11, .func (PySem.W.fnOf "turned" "turned" (defArgs sTurned) (defBody sTurned) (defScope sTurned) .none kV11 dc11 pm11 an11 cd11 ct11), sl11⟩) (c11 : PySem.W.codeIn K cd11 "turned" = true) (k11 : PySem.W.keepIn K (.ref f11) = true)
    (a12 : PySem.W.nsIn K mainGlobals "neighbours" = some (some (.ref f12))) (l12 : K.lookup f12 = some ⟨oc12, od12, .func (PySem.W.fnOf "neighbours" "neighbours" (defArgs sNeighbours) (defBody sNeighbours) (defScope sNeighbours) .none kV12 dc12 pm12 an12 cd12 ct12), sl12⟩) (c12 : PySem.W.codeIn K cd12 "neighbours" = true) (k12 : PySem.W.keepIn K (.ref f12) = true)
    (a13 : PySem.W.nsIn K mainGlobals "near_of" = some (some (.ref f13))) (l13 : K.lookup f13 = some ⟨oc13, od13, .func (PySem.W.fnOf "near_of" "near_of" (defArgs sNearOf) (defBody sNearOf) (defScope sNearOf) .none kV13 dc13 pm13 an13 cd13 ct13), sl13⟩) (c13 : PySem.W.codeIn K cd13 "near_of" = true) (k13 : PySem.W.keepIn K (.ref f13) = true)
    (a14 : PySem.W.nsIn K mainGlobals "grown_plan" = some (some (.ref f14))) (l14 : K.lookup f14 = some ⟨oc14, od14, .func (PySem.W.fnOf "grown_plan" "grown_plan" (defArgs sGrown) (defBody sGrown) (defScope sGrown) .none kV14 dc14 pm14 an14 cd14 ct14), sl14⟩) (c14 : PySem.W.codeIn K cd14 "grown_plan" = true) (k14 : PySem.W.keepIn K (.ref f14) = true)
    (a15 : PySem.W.nsIn K mainGlobals "largest_plan" = some (some (.ref f15))) (l15 : K.lookup f15 = some ⟨oc15, od15, .func (PySem.W.fnOf "largest_plan" "largest_plan" (defArgs sLargest) (defBody sLargest) (defScope sLargest) .none kV15 dc15 pm15 an15 cd15 ct15), sl15⟩) (c15 : PySem.W.codeIn K cd15 "largest_plan" = true) (k15 : PySem.W.keepIn K (.ref f15) = true)
    (a16 : PySem.W.nsIn K mainGlobals "_law_draw" = some (some (.ref f16))) (l16 : K.lookup f16 = some ⟨oc16, od16, .func (PySem.W.fnOf "_law_draw" "_law_draw" (defArgs sDraw) (defBody sDraw) (defScope sDraw) .none kV16 dc16 pm16 an16 cd16 ct16), sl16⟩) (c16 : PySem.W.codeIn K cd16 "_law_draw" = true) (k16 : PySem.W.keepIn K (.ref f16) = true)
    (a17 : PySem.W.nsIn K mainGlobals "_law_any" = some (some (.ref f17))) (l17 : K.lookup f17 = some ⟨oc17, od17, .func (PySem.W.fnOf "_law_any" "_law_any" (defArgs sAny) (defBody sAny) (defScope sAny) .none kV17 dc17 pm17 an17 cd17 ct17), sl17⟩) (c17 : PySem.W.codeIn K cd17 "_law_any" = true) (k17 : PySem.W.keepIn K (.ref f17) = true)
    (a18 : PySem.W.nsIn K mainGlobals "_law_of" = some (some (.ref f18))) (l18 : K.lookup f18 = some ⟨oc18, od18, .func (PySem.W.fnOf "_law_of" "_law_of" (defArgs sOf) (defBody sOf) (defScope sOf) .none kV18 dc18 pm18 an18 cd18 ct18), sl18⟩) (c18 : PySem.W.codeIn K cd18 "_law_of" = true) (k18 : PySem.W.keepIn K (.ref f18) = true)
    (a19 : PySem.W.nsIn K mainGlobals "_law_mixed" = some (some (.ref f19))) (l19 : K.lookup f19 = some ⟨oc19, od19, .func (PySem.W.fnOf "_law_mixed" "_law_mixed" (defArgs sMixed) (defBody sMixed) (defScope sMixed) .none kV19 dc19 pm19 an19 cd19 ct19), sl19⟩) (c19 : PySem.W.codeIn K cd19 "_law_mixed" = true) (k19 : PySem.W.keepIn K (.ref f19) = true)
    (a20 : PySem.W.nsIn K mainGlobals "_law_web" = some (some (.ref f20))) (l20 : K.lookup f20 = some ⟨oc20, od20, .func (PySem.W.fnOf "_law_web" "_law_web" (defArgs sWeb) (defBody sWeb) (defScope sWeb) .none kV20 dc20 pm20 an20 cd20 ct20), sl20⟩) (c20 : PySem.W.codeIn K cd20 "_law_web" = true) (k20 : PySem.W.keepIn K (.ref f20) = true)
    (a21 : PySem.W.nsIn K mainGlobals "_law_all_plans" = some (some (.ref f21))) (l21 : K.lookup f21 = some ⟨oc21, od21, .func (PySem.W.fnOf "_law_all_plans" "_law_all_plans" (defArgs sAllPlans) (defBody sAllPlans) (defScope sAllPlans) .none kV21 dc21 pm21 an21 cd21 ct21), sl21⟩) (c21 : PySem.W.codeIn K cd21 "_law_all_plans" = true) (k21 : PySem.W.keepIn K (.ref f21) = true)
    (a22 : PySem.W.nsIn K mainGlobals "_law_served" = some (some (.ref f22))) (l22 : K.lookup f22 = some ⟨oc22, od22, .func (PySem.W.fnOf "_law_served" "_law_served" (defArgs sLawServed) (defBody sLawServed) (defScope sLawServed) .none kV22 dc22 pm22 an22 cd22 ct22), sl22⟩) (c22 : PySem.W.codeIn K cd22 "_law_served" = true) (k22 : PySem.W.keepIn K (.ref f22) = true)
    (a23 : PySem.W.nsIn K mainGlobals "_law_within" = some (some (.ref f23))) (l23 : K.lookup f23 = some ⟨oc23, od23, .func (PySem.W.fnOf "_law_within" "_law_within" (defArgs sWithin) (defBody sWithin) (defScope sWithin) .none kV23 dc23 pm23 an23 cd23 ct23), sl23⟩) (c23 : PySem.W.codeIn K cd23 "_law_within" = true) (k23 : PySem.W.keepIn K (.ref f23) = true)
    (a24 : PySem.W.nsIn K mainGlobals "_law_is_plan" = some (some (.ref f24))) (l24 : K.lookup f24 = some ⟨oc24, od24, .func (PySem.W.fnOf "_law_is_plan" "_law_is_plan" (defArgs sIsPlan) (defBody sIsPlan) (defScope sIsPlan) .none kV24 dc24 pm24 an24 cd24 ct24), sl24⟩) (c24 : PySem.W.codeIn K cd24 "_law_is_plan" = true) (k24 : PySem.W.keepIn K (.ref f24) = true)
    (a25 : PySem.W.findIn K (.ref C) "__init__" = some (some (.ref f25))) (i25 : PySem.W.isFn K (.ref f25) = true) (l25 : K.lookup f25 = some ⟨oc25, od25, .func (PySem.W.fnOf "__init__" "Search.__init__" (defArgs sInit) (defBody sInit) (defScope sInit) .none kV25 dc25 pm25 an25 cd25 ct25), sl25⟩) (c25 : PySem.W.codeIn K cd25 "Search.__init__" = true) (k25 : PySem.W.keepIn K (.ref f25) = true)
    (a26 : PySem.W.findIn K (.ref C) "run" = some (some (.ref f26))) (i26 : PySem.W.isFn K (.ref f26) = true) (l26 : K.lookup f26 = some ⟨oc26, od26, .func (PySem.W.fnOf "run" "Search.run" (defArgs sRun) (defBody sRun) (defScope sRun) .none kV26 dc26 pm26 an26 cd26 ct26), sl26⟩) (c26 : PySem.W.codeIn K cd26 "Search.run" = true) (k26 : PySem.W.keepIn K (.ref f26) = true)
    (a27 : PySem.W.findIn K (.ref C) "meeting" = some (some (.ref f27))) (i27 : PySem.W.isFn K (.ref f27) = true) (l27 : K.lookup f27 = some ⟨oc27, od27, .func (PySem.W.fnOf "meeting" "Search.meeting" (defArgs sMeeting) (defBody sMeeting) (defScope sMeeting) .none kV27 dc27 pm27 an27 cd27 ct27), sl27⟩) (c27 : PySem.W.codeIn K cd27 "Search.meeting" = true) (k27 : PySem.W.keepIn K (.ref f27) = true)
    (a28 : PySem.W.findIn K (.ref C) "shrink" = some (some (.ref f28))) (i28 : PySem.W.isFn K (.ref f28) = true) (l28 : K.lookup f28 = some ⟨oc28, od28, .func (PySem.W.fnOf "shrink" "Search.shrink" (defArgs sShrink) (defBody sShrink) (defScope sShrink) .none kV28 dc28 pm28 an28 cd28 ct28), sl28⟩) (c28 : PySem.W.codeIn K cd28 "Search.shrink" = true) (k28 : PySem.W.keepIn K (.ref f28) = true)
    (a29 : PySem.W.findIn K (.ref C) "way" = some (some (.ref f29))) (i29 : PySem.W.isFn K (.ref f29) = true) (l29 : K.lookup f29 = some ⟨oc29, od29, .func (PySem.W.fnOf "way" "Search.way" (defArgs sWay) (defBody sWay) (defScope sWay) .none kV29 dc29 pm29 an29 cd29 ct29), sl29⟩) (c29 : PySem.W.codeIn K cd29 "Search.way" = true) (k29 : PySem.W.keepIn K (.ref f29) = true)
    (aC : PySem.W.nsIn K mainGlobals "Search" = some (some (.ref C))) (pg : PySem.W.plainGet K C Str.empty = true) (hd : PySem.W.hasDictIn K C = true) (po : PySem.W.plainOver K C = true) (sa : PySem.W.findIn K (.ref C) "__setattr__" = some (some (.builtin "object.__setattr__"))) (mk : PySem.W.makesIn K C = true) (kc : PySem.W.keepIn K (.ref C) = true)
    (n0 : PySem.W.findIn K (.ref C) "near" = some none) (n1 : PySem.W.findIn K (.ref C) "root" = some none) (n2 : PySem.W.findIn K (.ref C) "mates" = some none) (n3 : PySem.W.findIn K (.ref C) "back" = some none) (n4 : PySem.W.findIn K (.ref C) "base" = some none) (n5 : PySem.W.findIn K (.ref C) "even" = some none) (n6 : PySem.W.findIn K (.ref C) "left" = some none)
    (z0 : PySem.W.nsIn K mainGlobals "isinstance" = some none) (z1 : PySem.W.nsIn K mainGlobals "int" = some none) (z2 : PySem.W.nsIn K mainGlobals "bool" = some none) (z3 : PySem.W.nsIn K mainGlobals "tuple" = some none) (z4 : PySem.W.nsIn K mainGlobals "str" = some none) (z5 : PySem.W.nsIn K mainGlobals "len" = some none) (z6 : PySem.W.nsIn K mainGlobals "all" = some none) (z7 : PySem.W.nsIn K mainGlobals "any" = some none) (z8 : PySem.W.nsIn K mainGlobals "set" = some none) (z9 : PySem.W.nsIn K mainGlobals "sorted" = some none) (z10 : PySem.W.nsIn K mainGlobals "range" = some none) (z11 : PySem.W.nsIn K mainGlobals "min" = some none) (z12 : PySem.W.nsIn K mainGlobals "max" = some none) (z13 : PySem.W.nsIn K mainGlobals "zip" = some none) (z14 : PySem.W.nsIn K mainGlobals "list" = some none) (z15 : PySem.W.nsIn K mainGlobals "abs" = some none) (z16 : PySem.W.nsIn K mainGlobals "repr" = some none)
    (aK : PySem.W.nsIn K mainGlobals "KINDS" = some (some (.ref kt))) (lK : K.lookup kt = some ⟨.type "tuple", odK, .seq #[.str "way" t1, .str "ring" t2] nK, slK⟩)
    (aL : PySem.W.nsIn K mainGlobals "law" = some (some (.ref f30))) (lL : K.lookup f30 = some ⟨oc30, od30, .func (PySem.W.fnOf "law" "law" (defArgs sLaw) (defBody sLaw) (defScope sLaw) .none kV30 dc30 pm30 an30 cd30 ct30), sl30⟩) (cL : PySem.W.codeIn K cd30 "law" = true) (kL : PySem.W.keepIn K (.ref f30) = true) :
    ∀ (s : Shared) (H : Hp) (a : Addr) (ns : List Int) (below : Heap), SqL K H a (ns.map V.int) → ns.length ≤ 63 → Env0 P w K mg below callerA [] s H →
      codeAny (model P w) callerA (.call (.ref fa) ⟨[.ref a], []⟩) (CR CX0 [] P w H s (fun v _ => v = .bl true) fun _ _ _ => False) s := by
    intro s H a ns below hS hn e0
    have room : Room 9 callerA := ⟨rfl, by decide, by decide⟩
    have e := hfa.symm.trans (PySem.W.mg_of X G aL)
    cases e
    have T : Nm mg := ⟨PySem.W.mg_none_of X G z0, PySem.W.mg_none_of X G z1, PySem.W.mg_none_of X G z2, PySem.W.mg_none_of X G z3, PySem.W.mg_none_of X G z4, PySem.W.mg_none_of X G z5, PySem.W.mg_none_of X G z6, PySem.W.mg_none_of X G z7, PySem.W.mg_none_of X G z8, PySem.W.mg_none_of X G z9, PySem.W.mg_none_of X G z10, PySem.W.mg_none_of X G z11, PySem.W.mg_none_of X G z12, PySem.W.mg_none_of X G z13, PySem.W.mg_none_of X G z14, PySem.W.mg_none_of X G z15, PySem.W.mg_none_of X G z16⟩
    have TC : Ct K C := ⟨⟨pg, hd, po, sa⟩, n0, n1, n2, n3, n4, n5, n6⟩
    have TK : Kin K mg kt := ⟨PySem.W.mg_of X G aK, fun H => .inr ⟨_, _, _, lK, rfl, rfl, by show 2 ≤ sizeLine; decide, .cons ⟨_, rfl⟩ (.cons ⟨_, rfl⟩ .nil)⟩⟩
    have d1 : Df K mg "is_integer" sIsInteger ["value"] := ⟨f1, _, fun_mk (st := sIsInteger) l1 c1 k1, PySem.W.mg_of X G a1, (fun_mk (st := sIsInteger) l1 c1 k1).binds (ps := ["value"]) fun _ _ _ _ _ _ us hl => match us, hl with | [_], _ => rfl⟩
    have d2 : Df K mg "is_number" sIsNumber ["value"] := ⟨f2, _, fun_mk (st := sIsNumber) l2 c2 k2, PySem.W.mg_of X G a2, (fun_mk (st := sIsNumber) l2 c2 k2).binds (ps := ["value"]) fun _ _ _ _ _ _ us hl => match us, hl with | [_], _ => rfl⟩
    have d3 : Df K mg "is_index" sIsIndex ["value", "many"] := ⟨f3, _, fun_mk (st := sIsIndex) l3 c3 k3, PySem.W.mg_of X G a3, (fun_mk (st := sIsIndex) l3 c3 k3).binds (ps := ["value", "many"]) fun _ _ _ _ _ _ us hl => match us, hl with | [_, _], _ => rfl⟩
    have d4 : Df K mg "is_row_of" sIsRowOf ["value", "sizes"] := ⟨f4, _, fun_mk (st := sIsRowOf) l4 c4 k4, PySem.W.mg_of X G a4, (fun_mk (st := sIsRowOf) l4 c4 k4).binds (ps := ["value", "sizes"]) fun _ _ _ _ _ _ us hl => match us, hl with | [_, _], _ => rfl⟩
    have d5 : Df K mg "is_word_of" sIsWordOf ["value", "words"] := ⟨f5, _, fun_mk (st := sIsWordOf) l5 c5 k5, PySem.W.mg_of X G a5, (fun_mk (st := sIsWordOf) l5 c5 k5).binds (ps := ["value", "words"]) fun _ _ _ _ _ _ us hl => match us, hl with | [_, _], _ => rfl⟩
    have d6 : Df K mg "served" sServed ["plan"] := ⟨f6, _, fun_mk (st := sServed) l6 c6 k6, PySem.W.mg_of X G a6, (fun_mk (st := sServed) l6 c6 k6).binds (ps := ["plan"]) fun _ _ _ _ _ _ us hl => match us, hl with | [_], _ => rfl⟩
    have d7 : Df K mg "unserved" sUnserved ["web", "plan"] := ⟨f7, _, fun_mk (st := sUnserved) l7 c7 k7, PySem.W.mg_of X G a7, (fun_mk (st := sUnserved) l7 c7 k7).binds (ps := ["web", "plan"]) fun _ _ _ _ _ _ us hl => match us, hl with | [_, _], _ => rfl⟩
    have d8 : Df K mg "steps_of" sStepsOf ["turn"] := ⟨f8, _, fun_mk (st := sStepsOf) l8 c8 k8, PySem.W.mg_of X G a8, (fun_mk (st := sStepsOf) l8 c8 k8).binds (ps := ["turn"]) fun _ _ _ _ _ _ us hl => match us, hl with | [_], _ => rfl⟩
    have d9 : Df K mg "are_people" sArePeople ["web", "value", "least"] := ⟨f9, _, fun_mk (st := sArePeople) l9 c9 k9, PySem.W.mg_of X G a9, (fun_mk (st := sArePeople) l9 c9 k9).binds (ps := ["web", "value", "least"]) fun _ _ _ _ _ _ us hl => match us, hl with | [_, _, _], _ => rfl⟩
    have d10 : Df K mg "is_turn" sIsTurn ["web", "plan", "value"] := ⟨f10, _, fun_mk (st := sIsTurn) l10 c10 k10, PySem.W.mg_of X G a10, (fun_mk (st := sIsTurn) l10 c10 k10).binds (ps := ["web", "plan", "value"]) fun _ _ _ _ _ _ us hl => match us, hl with | [_, _, _], _ => rfl⟩
    have d11 : Df K mg "turned" sTurned ["web", "plan", "turn"] := ⟨f11, _, fun_mk (st := sTurned) l11 c11 k11, PySem.W.mg_of X G a11, (fun_mk (st := sTurned) l11 c11 k11).binds (ps := ["web", "plan", "turn"]) fun _ _ _ _ _ _ us hl => match us, hl with | [_, _, _], _ => rfl⟩
    have d12 : Df K mg "neighbours" sNeighbours ["web", "person"] := ⟨f12, _, fun_mk (st := sNeighbours) l12 c12 k12, PySem.W.mg_of X G a12, (fun_mk (st := sNeighbours) l12 c12 k12).binds (ps := ["web", "person"]) fun _ _ _ _ _ _ us hl => match us, hl with | [_, _], _ => rfl⟩
    have d13 : Df K mg "near_of" sNearOf ["web"] := ⟨f13, _, fun_mk (st := sNearOf) l13 c13 k13, PySem.W.mg_of X G a13, (fun_mk (st := sNearOf) l13 c13 k13).binds (ps := ["web"]) fun _ _ _ _ _ _ us hl => match us, hl with | [_], _ => rfl⟩
    have d14 : Df K mg "grown_plan" sGrown ["web", "plan"] := ⟨f14, _, fun_mk (st := sGrown) l14 c14 k14, PySem.W.mg_of X G a14, (fun_mk (st := sGrown) l14 c14 k14).binds (ps := ["web", "plan"]) fun _ _ _ _ _ _ us hl => match us, hl with | [_, _], _ => rfl⟩
    have d15 : Df K mg "largest_plan" sLargest ["web"] := ⟨f15, _, fun_mk (st := sLargest) l15 c15 k15, PySem.W.mg_of X G a15, (fun_mk (st := sLargest) l15 c15 k15).binds (ps := ["web"]) fun _ _ _ _ _ _ us hl => match us, hl with | [_], _ => rfl⟩
    have d16 : Df K mg "_law_draw" sDraw ["_law_script", "_law_salt"] := ⟨f16, _, fun_mk (st := sDraw) l16 c16 k16, PySem.W.mg_of X G a16, (fun_mk (st := sDraw) l16 c16 k16).binds (ps := ["_law_script", "_law_salt"]) fun _ _ _ _ _ _ us hl => match us, hl with | [_, _], _ => rfl⟩
    have d17 : Df K mg "_law_any" sAny ["_law_deal", "_law_bound"] := ⟨f17, _, fun_mk (st := sAny) l17 c17 k17, PySem.W.mg_of X G a17, (fun_mk (st := sAny) l17 c17 k17).binds (ps := ["_law_deal", "_law_bound"]) fun _ _ _ _ _ _ us hl => match us, hl with | [_, _], _ => rfl⟩
    have d18 : Df K mg "_law_of" sOf ["_law_deal", "_law_some"] := ⟨f18, _, fun_mk (st := sOf) l18 c18 k18, PySem.W.mg_of X G a18, (fun_mk (st := sOf) l18 c18 k18).binds (ps := ["_law_deal", "_law_some"]) fun _ _ _ _ _ _ us hl => match us, hl with | [_, _], _ => rfl⟩
    have d19 : Df K mg "_law_mixed" sMixed ["_law_deal", "_law_some"] := ⟨f19, _, fun_mk (st := sMixed) l19 c19 k19, PySem.W.mg_of X G a19, (fun_mk (st := sMixed) l19 c19 k19).binds (ps := ["_law_deal", "_law_some"]) fun _ _ _ _ _ _ us hl => match us, hl with | [_, _], _ => rfl⟩
    have d20 : Df K mg "_law_web" sWeb ["_law_deal", "_law_most"] := ⟨f20, _, fun_mk (st := sWeb) l20 c20 k20, PySem.W.mg_of X G a20, (fun_mk (st := sWeb) l20 c20 k20).binds (ps := ["_law_deal", "_law_most"]) fun _ _ _ _ _ _ us hl => match us, hl with | [_, _], _ => rfl⟩
    have d21 : Df K mg "_law_all_plans" sAllPlans ["_law_web_here"] := ⟨f21, _, fun_mk (st := sAllPlans) l21 c21 k21, PySem.W.mg_of X G a21, (fun_mk (st := sAllPlans) l21 c21 k21).binds (ps := ["_law_web_here"]) fun _ _ _ _ _ _ us hl => match us, hl with | [_], _ => rfl⟩
    have d22 : Df K mg "_law_served" sLawServed ["_law_plan"] := ⟨f22, _, fun_mk (st := sLawServed) l22 c22 k22, PySem.W.mg_of X G a22, (fun_mk (st := sLawServed) l22 c22 k22).binds (ps := ["_law_plan"]) fun _ _ _ _ _ _ us hl => match us, hl with | [_], _ => rfl⟩
    have d23 : Df K mg "_law_within" sWithin ["_law_lot", "_law_other"] := ⟨f23, _, fun_mk (st := sWithin) l23 c23 k23, PySem.W.mg_of X G a23, (fun_mk (st := sWithin) l23 c23 k23).binds (ps := ["_law_lot", "_law_other"]) fun _ _ _ _ _ _ us hl => match us, hl with | [_, _], _ => rfl⟩
    have d24 : Df K mg "_law_is_plan" sIsPlan ["_law_web_here", "_law_value"] := ⟨f24, _, fun_mk (st := sIsPlan) l24 c24 k24, PySem.W.mg_of X G a24, (fun_mk (st := sIsPlan) l24 c24 k24).binds (ps := ["_law_web_here", "_law_value"]) fun _ _ _ _ _ _ us hl => match us, hl with | [_, _], _ => rfl⟩
    have d25 : Dk K mg C sInit ["self", "near", "plan", "root"] := ⟨f25, _, fun_mk (st := sInit) l25 c25 k25, ⟨mk, a25, i25, kc⟩, PySem.W.mg_of X G aC, (fun_mk (st := sInit) l25 c25 k25).binds (ps := ["self", "near", "plan", "root"]) fun _ _ _ _ _ _ us hl => match us, hl with | [_, _, _, _], _ => rfl⟩
    have d26 : Dm K C "run" "Search.run" sRun ["self", "is_growing"] := ⟨f26, _, fun_mk (st := sRun) l26 c26 k26, ⟨a26, i26, k26⟩, (fun_mk (st := sRun) l26 c26 k26).binds (ps := ["self", "is_growing"]) fun _ _ _ _ _ _ us hl => match us, hl with | [_, _], _ => rfl⟩
    have d27 : Dm K C "meeting" "Search.meeting" sMeeting ["self", "one", "other"] := ⟨f27, _, fun_mk (st := sMeeting) l27 c27 k27, ⟨a27, i27, k27⟩, (fun_mk (st := sMeeting) l27 c27 k27).binds (ps := ["self", "one", "other"]) fun _ _ _ _ _ _ us hl => match us, hl with | [_, _, _], _ => rfl⟩
    have d28 : Dm K C "shrink" "Search.shrink" sShrink ["self", "one", "other"] := ⟨f28, _, fun_mk (st := sShrink) l28 c28 k28, ⟨a28, i28, k28⟩, (fun_mk (st := sShrink) l28 c28 k28).binds (ps := ["self", "one", "other"]) fun _ _ _ _ _ _ us hl => match us, hl with | [_, _, _], _ => rfl⟩
    have d29 : Dm K C "way" "Search.way" sWay ["self", "person"] := ⟨f29, _, fun_mk (st := sWay) l29 c29 k29, ⟨a29, i29, k29⟩, (fun_mk (st := sWay) l29 c29 k29).binds (ps := ["self", "person"]) fun _ _ _ _ _ _ us hl => match us, hl with | [_, _], _ => rfl⟩
    have r1 := ok_isInteger (P := P) (w := w) (base := below) d1 T
    have r2 := ok_isNumber d2 r1
    have r3 := ok_isIndex d3 r2
    have r4 := ok_isRowOf (P := P) (w := w) (base := below) d4 T
    have r5 := ok_isWordOf (P := P) (w := w) (base := below) d5 T
    have r6 := ok_served (P := P) (w := w) (base := below) d6 T
    have r7 := ok_unserved d7 T r6
    have r8 := ok_neighbours (P := P) (w := w) (base := below) d12 T
    have r9 := ok_nearOf d13 T r8
    have r10 := ok_stepsOf (P := P) (w := w) (base := below) d8 T
    have r11 := ok_arePeople d9 T r3
    have r12 := ok_isTurn d10 T TK r4 r5 r11 r10 r6
    have r13 := ok_turned d11 T r12 r10
    have m1 := ok_way (P := P) (w := w) (base := below) d29 T TC
    have m2 := ok_meeting (P := P) (w := w) (base := below) d27 T TC
    have m3 := ok_shrink d28 T TC m2
    have m4 := ok_run d26 T TC m3
    have m5 := ok_init (P := P) (w := w) (base := below) d25 T TC
    have r14 := ok_grown d14 T TC r9 r7 m5 m4 m1 r13
    have r15 := ok_largest d15 T r14.cal
    have g1 := ok_draw (P := P) (w := w) (base := below) d16 T
    have g2 := ok_any (P := P) (w := w) (base := below) d17 T
    have g3 := ok_of d18 T g2
    have g4 := ok_mixed d19 T g2
    have g5 := ok_lawWeb d20 T g2 g3 g4
    have g6 := ok_allPlans (P := P) (w := w) (base := below) d21 T
    have g7 := ok_lawServed (P := P) (w := w) (base := below) d22 T
    have g8 := ok_within (P := P) (w := w) (base := below) d23 T
    have g9 := ok_isPlan (P := P) (w := w) (base := below) d24 T
    refine lawRun (fun_mk (st := sLaw) lL cL kL) scLaw (fun z u => .of_eq rfl) room e0 fun cd => ?_
    exact law_body T room hS hn g1 g5 g6 r15 r14 g9 g4 g8 g7 cd

/-- the walk from the head's goal -/
theorem walk {l : PySem.W.OpenLaw} {q : Program} {loose : List Str} {XP : (Str → Option Value) → Heap → Prop} {YP : World → Heap → Prop} {d : DefRec} {K : Params → PySem.W.Frag} (hn : l.most = some 63) (hdf : d.params.defaults = [])
    (hY : ∀ (w : World) (h : Heap), YP w h → (K w.params).In h)
    (F : ∀ (w : World) (mg : Str → Option Value) (fa : Addr) (h : Heap), (K w.params).In h → h.Ns mainGlobals mg → mg d.name = some (.ref fa) →
      ∀ (s : Shared) (H : Hp) (a : Addr) (ns : List Int) (below : Heap), SqL (K w.params) H a (ns.map V.int) → ns.length ≤ 63 → Env0 l.prog w (K w.params) mg below callerA [] s H →
        codeAny (model l.prog w) callerA (.call (.ref fa) ⟨[.ref a], []⟩) (CR CX0 [] l.prog w H s (fun v _ => v = .bl true) fun _ _ _ => False) s) :
    PySem.W.WalkO q loose XP YP l.row.toRowW d [] (fun f vs => PySem.call f vs) := by
  refine Att.attach_call hn hdf ?_
  intro w z0 z1 mg mb fa o pm cd doc a script ns gr yy _ _ _ hmg list nums few ng
  exact kept (hY w _ yy) gr.T.g gr.T.b gr.T.builtins gr.T.nolimit ng list nums (Nat.le_trans few (by decide)) fun H below hS e0 => F w mg fa _ (hY w _ yy) gr.T.g hmg z1 H a ns below hS few e0
end G
set_option Elab.async false
set_option linter.all false
set_option pp.maxSteps 600

open PySem PySem.W PyProof.Rows in
set_option maxRecDepth 100000 in
set_option maxHeartbeats 0 in
theorem PySem.Challenge.cw_givesifgets_k15_whole_plans_grown_holds : PySem.Challenge.rw_givesifgets_k15_whole_plans_grown.Holds := by
  w_on; o_law; k_head; (case hw => w_witness2)
  k_fill
  refine G.walk (l := PySem.Challenge.rw_givesifgets_k15_whole_plans_grown) rfl rfl (fun w h Y => PySem.W.kIn_of Y) ?F
  case F =>
    intro w mg fa h KX Gm hmg
    refine' G.all_mk KX Gm hmg ?a1 ?l1 ?c1 ?k1 ?a2 ?l2 ?c2 ?k2 ?a3 ?l3 ?c3 ?k3 ?a4 ?l4 ?c4 ?k4 ?a5 ?l5 ?c5 ?k5 ?a6 ?l6 ?c6 ?k6 ?a7 ?l7 ?c7 ?k7 ?a8 ?l8 ?c8 ?k8 ?a9 ?l9 ?c9 ?k9 ?a10 ?l10 ?c10 ?k10 ?a11 ?l11 ?c11 ?k11 ?a12 ?l12 ?c12 ?k12 ?a13 ?l13 ?c13 ?k13 ?a14 ?l14 ?c14 ?k14 ?a15 ?l15 ?c15 ?k15 ?a16 ?l16 ?c16 ?k16 ?a17 ?l17 ?c17 ?k17 ?a18 ?l18 ?c18 ?k18 ?a19 ?l19 ?c19 ?k19 ?a20 ?l20 ?c20 ?k20 ?a21 ?l21 ?c21 ?k21 ?a22 ?l22 ?c22 ?k22 ?a23 ?l23 ?c23 ?k23 ?a24 ?l24 ?c24 ?k24 ?a25 ?i25 ?l25 ?c25 ?k25 ?a26 ?i26 ?l26 ?c26 ?k26 ?a27 ?i27 ?l27 ?c27 ?k27 ?a28 ?i28 ?l28 ?c28 ?k28 ?a29 ?i29 ?l29 ?c29 ?k29 ?aC ?pg ?hd ?po ?sa ?mk ?kc ?n0 ?n1 ?n2 ?n3 ?n4 ?n5 ?n6 ?z0 ?z1 ?z2 ?z3 ?z4 ?z5 ?z6 ?z7 ?z8 ?z9 ?z10 ?z11 ?z12 ?z13 ?z14 ?z15 ?z16 ?aK ?lK ?aL ?lL ?cL ?kL
    (case aC => k_is)
    (case a1 => k_is)
    (case l1 => k_is)
    (case c1 => k_is)
    (case k1 => k_is)
    (case a2 => k_is)
    (case l2 => k_is)
    (case c2 => k_is)
    (case k2 => k_is)
    (case a3 => k_is)
    (case l3 => k_is)
    (case c3 => k_is)
    (case k3 => k_is)
    (case a4 => k_is)
    (case l4 => k_is)
    (case c4 => k_is)
    (case k4 => k_is)
    (case a5 => k_is)
    (case l5 => k_is)
    (case c5 => k_is)
    (case k5 => k_is)
    (case a6 => k_is)
    (case l6 => k_is)
    (case c6 => k_is)
    (case k6 => k_is)
    (case a7 => k_is)
    (case l7 => k_is)
    (case c7 => k_is)
    (case k7 => k_is)
    (case a8 => k_is)
    (case l8 => k_is)
    (case c8 => k_is)
    (case k8 => k_is)
    (case a9 => k_is)
    (case l9 => k_is)
    (case c9 => k_is)
    (case k9 => k_is)
    (case a10 => k_is)
    (case l10 => k_is)
    (case c10 => k_is)
    (case k10 => k_is)
    (case a11 => k_is)
    (case l11 => k_is)
    (case c11 => k_is)
    (case k11 => k_is)
    (case a12 => k_is)
    (case l12 => k_is)
    (case c12 => k_is)
    (case k12 => k_is)
    (case a13 => k_is)
    (case l13 => k_is)
    (case c13 => k_is)
    (case k13 => k_is)
    (case a14 => k_is)
    (case l14 => k_is)
    (case c14 => k_is)
    (case k14 => k_is)
    (case a15 => k_is)
    (case l15 => k_is)
    (case c15 => k_is)
    (case k15 => k_is)
    (case a16 => k_is)
    (case l16 => k_is)
    (case c16 => k_is)
    (case k16 => k_is)
    (case a17 => k_is)
    (case l17 => k_is)
    (case c17 => k_is)
    (case k17 => k_is)
    (case a18 => k_is)
    (case l18 => k_is)
    (case c18 => k_is)
    (case k18 => k_is)
    (case a19 => k_is)
    (case l19 => k_is)
    (case c19 => k_is)
    (case k19 => k_is)
    (case a20 => k_is)
    (case l20 => k_is)
    (case c20 => k_is)
    (case k20 => k_is)
    (case a21 => k_is)
    (case l21 => k_is)
    (case c21 => k_is)
    (case k21 => k_is)
    (case a22 => k_is)
    (case l22 => k_is)
    (case c22 => k_is)
    (case k22 => k_is)
    (case a23 => k_is)
    (case l23 => k_is)
    (case c23 => k_is)
    (case k23 => k_is)
    (case a24 => k_is)
    (case l24 => k_is)
    (case c24 => k_is)
    (case k24 => k_is)
    (case a25 => k_is)
    (case i25 => k_is)
    (case l25 => k_is)
    (case c25 => k_is)
    (case k25 => k_is)
    (case a26 => k_is)
    (case i26 => k_is)
    (case l26 => k_is)
    (case c26 => k_is)
    (case k26 => k_is)
    (case a27 => k_is)
    (case i27 => k_is)
    (case l27 => k_is)
    (case c27 => k_is)
    (case k27 => k_is)
    (case a28 => k_is)
    (case i28 => k_is)
    (case l28 => k_is)
    (case c28 => k_is)
    (case k28 => k_is)
    (case a29 => k_is)
    (case i29 => k_is)
    (case l29 => k_is)
    (case c29 => k_is)
    (case k29 => k_is)
    (case pg => k_is)
    (case hd => k_is)
    (case po => k_is)
    (case sa => k_is)
    (case mk => k_is)
    (case kc => k_is)
    (case n0 => k_is)
    (case n1 => k_is)
    (case n2 => k_is)
    (case n3 => k_is)
    (case n4 => k_is)
    (case n5 => k_is)
    (case n6 => k_is)
    (case z0 => k_is)
    (case z1 => k_is)
    (case z2 => k_is)
    (case z3 => k_is)
    (case z4 => k_is)
    (case z5 => k_is)
    (case z6 => k_is)
    (case z7 => k_is)
    (case z8 => k_is)
    (case z9 => k_is)
    (case z10 => k_is)
    (case z11 => k_is)
    (case z12 => k_is)
    (case z13 => k_is)
    (case z14 => k_is)
    (case z15 => k_is)
    (case z16 => k_is)
    (case aK => k_is)
    (case lK => k_is)
    (case aL => k_is)
    (case lL => k_is)
    (case cL => k_is)
    (case kL => k_is)
