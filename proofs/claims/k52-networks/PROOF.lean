import PyProof.Rows.All
import Wide.All
import OpenK.AllK
import Wide.FinOn
import HandS.ForMost
import HandS.TupAny
import HandS.Wide
import HandS.SortKw
import HandS.Evl
import PySem.Challenge.RW_orrery_k52_whole_networks_and_their_boun
set_option Elab.async false
set_option linter.all false
set_option maxRecDepth 100000
set_option maxHeartbeats 4000000
/-! Plain mathematics of the law: choices, the plan's table, going through all choices, groups. No program in sight. -/
namespace Orr
/-- a contact's numbers -/
structure Ct where
  cr : Int
  si : Int
  be : Int
  en : Int
  we : Int
deriving DecidableEq

/-- a contact within its bounds -/
structure Gd (c : Ct) : Prop where
  be0 : 0 ≤ c.be
  beN : c.be ≤ c.en
  enN : c.en ≤ 100
  we0 : 0 ≤ c.we
  weN : c.we ≤ 1000000000000
  cr0 : 0 ≤ c.cr
  crN : c.cr < 4
  si0 : 0 ≤ c.si
  siN : c.si < 4

def rdy (g : Int) (c : Ct) : Int := c.en + 1 + g
def Ap (g : Int) (a b : Ct) : Prop := a.en + 1 + g ≤ b.be ∨ b.en + 1 + g ≤ a.be
instance (g : Int) (a b : Ct) : Decidable (Ap g a b) := inferInstanceAs (Decidable (_ ∨ _))
/-- mixed: contacts of a network -/
def Tg (m : Bool) (g : Int) (a b : Ct) : Prop := (m = true ∧ a.cr ≠ b.cr ∧ a.si ≠ b.si) ∨ Ap g a b
instance (m : Bool) (g : Int) (a b : Ct) : Decidable (Tg m g a b) := inferInstanceAs (Decidable (_ ∨ _))
theorem Ap.symm {g : Int} {a b : Ct} (h : Ap g a b) : Ap g b a := Or.symm h
theorem Tg.symm {m : Bool} {g : Int} {a b : Ct} (h : Tg m g a b) : Tg m g b a := by
  rcases h with ⟨h1, h2, h3⟩ | h
  · exact .inl ⟨h1, fun e => h2 e.symm, fun e => h3 e.symm⟩
  · exact .inr h.symm
theorem Tg.of_false {g : Int} {a b : Ct} (h : Tg false g a b) : Ap g a b := by
  rcases h with ⟨h1, _⟩ | h
  · cases h1
  · exact h
theorem ap_irrefl {g : Int} {a : Ct} (hg : 0 ≤ g) (h : Gd a) : ¬ Ap g a a := by
  intro z
  have h1 := h.beN
  unfold Ap at z
  omega
theorem tg_irrefl {m : Bool} {g : Int} {a : Ct} (hg : 0 ≤ g) (h : Gd a) : ¬ Tg m g a a := by
  rintro (⟨_, h1, _⟩ | z)
  · exact h1 rfl
  · exact ap_irrefl hg h z

section
variable {α : Type} [DecidableEq α] {d : α → Ct}
def wsum (d : α → Ct) (xs : List α) : Int := (xs.map fun x => (d x).we).sum
theorem sub_one {z : α} {l : List α} (s : l.Sublist [z]) : l = [] ∨ l = [z] := by
  cases s with
  | cons _ s => exact .inl (List.sublist_nil.mp s)
  | cons_cons _ s => exact .inr (by rw [List.sublist_nil.mp s])
theorem wsum_nil : wsum d ([] : List α) = 0 := rfl
theorem wsum_cons (x : α) (xs : List α) : wsum d (x :: xs) = (d x).we + wsum d xs := by unfold wsum; rw [List.map_cons, List.sum_cons]
theorem wsum_app : ∀ (xs ys : List α), wsum d (xs ++ ys) = wsum d xs + wsum d ys
  | [], ys => by rw [List.nil_append, wsum_nil]; omega
  | x :: xs, ys => by rw [List.cons_append, wsum_cons, wsum_cons, wsum_app xs ys]; omega
theorem wsum_perm {xs ys : List α} (p : xs.Perm ys) : wsum d xs = wsum d ys := by
  induction p with
  | nil => rfl
  | cons x _ ih => rw [wsum_cons, wsum_cons, ih]
  | swap x y l => rw [wsum_cons, wsum_cons, wsum_cons, wsum_cons]; omega
  | trans _ _ h1 h2 => exact h1.trans h2

/-! ### sublists -/
theorem sub_of_nodup : ∀ {m l : List α}, l.Nodup → (∀ x ∈ l, x ∈ m) → ∃ l' : List α, l'.Perm l ∧ l'.Sublist m
  | [], l, _, h => by
    cases l with
    | nil => exact ⟨[], .refl _, .slnil⟩
    | cons x r => exact absurd (h x List.mem_cons_self) (by simp)
  | a :: m, l, nd, h => by
    by_cases ha : a ∈ l
    · have p := List.perm_cons_erase ha
      have nd2 : (a :: l.erase a).Nodup := p.nodup_iff.mp nd
      obtain ⟨n1, n2⟩ := List.nodup_cons.mp nd2
      obtain ⟨l', p', s'⟩ := sub_of_nodup (m := m) n2 fun x hx => by
        have hxl : x ∈ l := p.mem_iff.mpr (List.mem_cons_of_mem _ hx)
        rcases List.mem_cons.mp (h x hxl) with e | e
        · exact absurd (e ▸ hx) n1
        · exact e
      exact ⟨a :: l', (p'.cons a).trans p.symm, s'.cons_cons a⟩
    · obtain ⟨l', p', s'⟩ := sub_of_nodup (m := m) nd fun x hx => by
        rcases List.mem_cons.mp (h x hx) with e | e
        · exact absurd (e ▸ hx) ha
        · exact e
      exact ⟨l', p', s'.cons a⟩
/-- the contacts of l are of xs, and each two of them go together -/
structure NetOk (d : α → Ct) (R : Ct → Ct → Prop) (xs l : List α) : Prop where
  mem : ∀ y ∈ l, y ∈ xs
  pw : l.Pairwise fun x y => R (d x) (d y)
theorem NetOk.nil {R : Ct → Ct → Prop} {xs : List α} : NetOk d R xs [] := ⟨fun y h => absurd h (by simp), .nil⟩
theorem NetOk.nodup {R : Ct → Ct → Prop} {xs l : List α} (h : NetOk d R xs l) (ir : ∀ x ∈ xs, ¬ R (d x) (d x)) : l.Nodup := by
  have hm := h.mem
  have hp := h.pw
  clear h
  induction l with
  | nil => exact List.nodup_nil
  | cons a r ih =>
    obtain ⟨p1, p2⟩ := List.pairwise_cons.mp hp
    refine List.nodup_cons.mpr ⟨fun z => ir a (hm a List.mem_cons_self) (p1 a z), ih (fun y hy => hm y (List.mem_cons_of_mem _ hy)) p2⟩
theorem NetOk.sub {R : Ct → Ct → Prop} {xs l : List α} (h : NetOk d R xs l) (ir : ∀ x ∈ xs, ¬ R (d x) (d x)) : ∃ l' : List α, l'.Perm l ∧ l'.Sublist xs := sub_of_nodup (h.nodup ir) h.mem
theorem NetOk.len {R : Ct → Ct → Prop} {xs l : List α} (h : NetOk d R xs l) (ir : ∀ x ∈ xs, ¬ R (d x) (d x)) : l.length ≤ xs.length := by
  obtain ⟨l', p, s⟩ := h.sub ir
  rw [← p.length_eq]
  exact s.length_le

/-! ### best choices -/
/-- b is the greatest weight of choices out of xs -/
structure BestOf (d : α → Ct) (R : Ct → Ct → Prop) (xs : List α) (b : Int) : Prop where
  is : ∃ l : List α, l.Sublist xs ∧ (l.Pairwise fun x y => R (d x) (d y)) ∧ wsum d l = b
  up : ∀ l : List α, l.Sublist xs → (l.Pairwise fun x y => R (d x) (d y)) → wsum d l ≤ b
theorem BestOf.uniq {R : Ct → Ct → Prop} {xs : List α} {a b : Int} (h : BestOf d R xs a) (k : BestOf d R xs b) : a = b := by
  obtain ⟨l1, s1, p1, e1⟩ := h.is
  obtain ⟨l2, s2, p2, e2⟩ := k.is
  have h1 := k.up l1 s1 p1
  have h2 := h.up l2 s2 p2
  omega
theorem BestOf.le {R : Ct → Ct → Prop} {xs l : List α} {b : Int} (h : BestOf d R xs b) (sy : ∀ a b, R a b → R b a) (ir : ∀ x ∈ xs, ¬ R (d x) (d x)) (n : NetOk d R xs l) : wsum d l ≤ b := by
  obtain ⟨l', p, s⟩ := n.sub ir
  rw [← wsum_perm p]
  exact h.up l' s ((p.pairwise_iff fun {x y} => sy (d x) (d y)).mpr n.pw)
/-- what the plan's choice and weight are -/
structure PlanOk (d : α → Ct) (g : Int) (xs ys : List α) (b : Int) : Prop where
  net : NetOk d (Ap g) xs ys
  wt : wsum d ys = b
  up : ∀ l : List α, l.Sublist xs → (l.Pairwise fun x y => Ap g (d x) (d y)) → wsum d l ≤ b
theorem PlanOk.best {g : Int} {xs ys : List α} {b : Int} (h : PlanOk d g xs ys b) (ir : ∀ x ∈ xs, ¬ Ap g (d x) (d x)) : BestOf d (Ap g) xs b := by
  obtain ⟨l', p, s⟩ := h.net.sub ir
  exact ⟨⟨l', s, (p.pairwise_iff fun {x y} => Ap.symm).mpr h.net.pw, by rw [wsum_perm p]; exact h.wt⟩, h.up⟩
theorem PlanOk.perm {g : Int} {xs zs ys : List α} {b : Int} (h : PlanOk d g zs ys b) (p : zs.Perm xs) : PlanOk d g xs ys b := by
  refine ⟨⟨fun y hy => p.mem_iff.mp (h.net.mem y hy), h.net.pw⟩, h.wt, fun l s hp => ?_⟩
  obtain ⟨l', p', s'⟩ := List.exists_perm_sublist s p.symm
  rw [← wsum_perm p']
  exact h.up l' s' ((p'.pairwise_iff fun {x y} => Ap.symm).mpr hp)

/-! ### the plan's table -/
structure Ent (α β : Type) where
  t : Int
  w : Int
  ys : List α
  p : β
  q : β
section
variable {β : Type}
def byE (T : Int) : List (Ent α β) → Option (Ent α β) → Option (Ent α β)
  | [], acc => acc
  | e :: r, acc => byE T r (if e.t ≤ T then some e else acc)
theorem byE_app (T : Int) : ∀ (es fs : List (Ent α β)) (acc : Option (Ent α β)), byE T (es ++ fs) acc = byE T fs (byE T es acc)
  | [], _, _ => rfl
  | e :: es, fs, acc => by show byE T (es ++ fs) _ = byE T fs (byE T es _); exact byE_app T es fs _
theorem byE_snoc (T : Int) (es : List (Ent α β)) (f : Ent α β) (acc : Option (Ent α β)) : byE T (es ++ [f]) acc = if f.t ≤ T then some f else byE T es acc := by
  rw [byE_app]
  rfl
theorem byE_some {T : Int} {e : Ent α β} : ∀ {es : List (Ent α β)} {acc : Option (Ent α β)}, byE T es acc = some e → (e ∈ es ∧ e.t ≤ T) ∨ acc = some e
  | [], _, h => .inr h
  | f :: r, acc, h => by
    rcases byE_some (es := r) h with ⟨h1, h2⟩ | h1
    · exact .inl ⟨List.mem_cons_of_mem _ h1, h2⟩
    · split at h1
      · rename_i hf
        cases h1
        exact .inl ⟨List.mem_cons_self, hf⟩
      · exact .inr h1
def lastE (es : List (Ent α β)) : Option (Ent α β) := es.getLast?
theorem byE_all {T : Int} : ∀ {es : List (Ent α β)} {acc : Option (Ent α β)}, (∀ e ∈ es, e.t ≤ T) → byE T es acc = (es.getLast?).or acc
  | [], _, _ => rfl
  | f :: r, acc, h => by
    have hf : f.t ≤ T := h f List.mem_cons_self
    show byE T r (if f.t ≤ T then some f else acc) = _
    rw [if_pos hf, byE_all (es := r) fun e he => h e (List.mem_cons_of_mem _ he)]
    cases r with
    | nil => rfl
    | cons x s =>
      rw [List.getLast?_cons_cons]
      cases e : (x :: s).getLast? with
      | none => simp at e
      | some z => rfl
/-- an entry's weight, 0 without one -/
def wO (o : Option (Ent α β)) : Int := match o with
  | none => 0
  | some e => e.w
def yO (o : Option (Ent α β)) : List α := match o with
  | none => []
  | some e => e.ys
/-- the table over the contacts zs looked at so far -/
structure TI (d : α → Ct) (g : Int) (zs : List α) (es : List (Ent α β)) : Prop where
  own : ∀ e ∈ es, NetOk d (Ap g) zs e.ys ∧ (∀ y ∈ e.ys, rdy g (d y) ≤ e.t) ∧ wsum d e.ys = e.w ∧ e.ys.length ≤ zs.length
  tim : ∀ e ∈ es, ∃ z ∈ zs, e.t = rdy g (d z)
  ord : es.Pairwise fun e f => e.w < f.w
  pos : ∀ e ∈ es, 0 < e.w
  opt : ∀ (T : Int) (l : List α), l.Sublist zs → (l.Pairwise fun x y => Ap g (d x) (d y)) → (∀ y ∈ l, rdy g (d y) ≤ T) → wsum d l ≤ wO (byE T es none)
  len : es.length ≤ zs.length
theorem TI.nil {g : Int} : TI d g ([] : List α) ([] : List (Ent α β)) := by
  refine ⟨fun e h => absurd h (by simp), fun e h => absurd h (by simp), .nil, fun e h => absurd h (by simp), fun T l s _ _ => ?_, Nat.le_refl _⟩
  rw [List.sublist_nil.mp s]
  exact Int.le_refl _
theorem last_w {es : List (Ent α β)} (o : es.Pairwise fun e f => e.w < f.w) : ∀ e ∈ es, e.w ≤ wO es.getLast? := by
  induction es with
  | nil => intro e h; exact absurd h (by simp)
  | cons f r ih =>
    intro e he
    obtain ⟨o1, o2⟩ := List.pairwise_cons.mp o
    cases r with
    | nil =>
      have : e = f := by simpa using he
      rw [this]
      exact Int.le_refl _
    | cons x s =>
      rw [List.getLast?_cons_cons]
      rcases List.mem_cons.mp he with rfl | he
      · exact Int.le_of_lt (Int.lt_of_lt_of_le (o1 x List.mem_cons_self) (ih o2 x List.mem_cons_self))
      · exact ih o2 e he
theorem TI.lastPos {g : Int} {zs : List α} {es : List (Ent α β)} (I : TI d g zs es) : 0 ≤ wO es.getLast? := by
  cases e : es.getLast? with
  | none => exact Int.le_refl _
  | some z => exact Int.le_of_lt (I.pos z (List.mem_of_getLast? e))
theorem TI.by_le {g : Int} {zs : List α} {es : List (Ent α β)} (I : TI d g zs es) (T : Int) : wO (byE T es none) ≤ wO es.getLast? := by
  cases e : byE T es none with
  | none => exact I.lastPos
  | some z =>
    rcases byE_some e with ⟨h, _⟩ | h
    · exact last_w I.ord z h
    · cases h
theorem TI.ylen {g : Int} {zs : List α} {es : List (Ent α β)} (I : TI d g zs es) (T : Int) : (yO (byE T es none)).length ≤ zs.length := by
  cases e : byE T es none with
  | none => exact Nat.zero_le _
  | some z =>
    rcases byE_some e with ⟨h, _⟩ | h
    · exact (I.own z h).2.2.2
    · cases h
theorem TI.stay {g : Int} {zs : List α} {z : α} {es : List (Ent α β)} (I : TI d g zs es) (hg : 0 ≤ g) (hz : ∀ y ∈ zs ++ [z], Gd (d y)) (ho : ∀ y ∈ zs, (d y).en ≤ (d z).en)
    (h : wO (byE (d z).be es none) + (d z).we ≤ wO es.getLast?) : TI d g (zs ++ [z]) es := by
  have mm : ∀ y, y ∈ zs → y ∈ zs ++ [z] := fun y hy => List.mem_append_left _ hy
  refine ⟨fun e he => ?_, fun e he => ?_, I.ord, I.pos, fun T l s hp hT => ?_, ?_⟩
  · obtain ⟨h1, h2, h3, h4⟩ := I.own e he
    exact ⟨⟨fun y hy => mm y (h1.mem y hy), h1.pw⟩, h2, h3, by rw [List.length_append]; omega⟩
  · obtain ⟨y, hy, e1⟩ := I.tim e he
    exact ⟨y, mm y hy, e1⟩
  · obtain ⟨l1, l2, rfl, s1, s2⟩ := List.sublist_append_iff.mp s
    obtain ⟨p1, p2, p3⟩ := List.pairwise_append.mp hp
    have h1 := fun T hT => I.opt T l1 s1 p1 hT
    rcases sub_one s2 with rfl | rfl
    · rw [List.append_nil]
      exact h1 T fun y hy => hT y (List.mem_append_left _ hy)
    · have hzT : rdy g (d z) ≤ T := hT z (by simp)
      have hall : ∀ e ∈ es, e.t ≤ T := fun e he => by
        obtain ⟨y, hy, e1⟩ := I.tim e he
        have := ho y hy
        rw [e1]
        unfold rdy at hzT ⊢
        omega
      rw [byE_all hall, Option.or_none]
      have h2 := h1 (d z).be fun y hy => by
        have h3 := p3 y hy z (by simp)
        have h4 := ho y (s1.subset hy)
        have h5 := (hz y (mm y (s1.subset hy))).beN
        unfold Ap at h3
        unfold rdy
        omega
      rw [wsum_app, wsum_cons, wsum_nil]
      omega
  · rw [List.length_append]
    have := I.len
    omega
theorem TI.add {g : Int} {zs : List α} {z : α} {es : List (Ent α β)} {f : Ent α β} (I : TI d g zs es) (hg : 0 ≤ g) (hz : ∀ y ∈ zs ++ [z], Gd (d y)) (ho : ∀ y ∈ zs, (d y).en ≤ (d z).en)
    (ht : f.t = rdy g (d z)) (hw : f.w = wO (byE (d z).be es none) + (d z).we) (hy : f.ys = yO (byE (d z).be es none) ++ [z]) (h : wO es.getLast? < f.w) : TI d g (zs ++ [z]) (es ++ [f]) := by
  have mm : ∀ y, y ∈ zs → y ∈ zs ++ [z] := fun y hy => List.mem_append_left _ hy
  have hby := I.by_le (d z).be
  have hbe : (d z).be ≤ (d z).en := (hz z (by simp)).beN
  have tle : ∀ e ∈ es, e.t ≤ rdy g (d z) := fun e he => by
    obtain ⟨y, hy, e1⟩ := I.tim e he
    have := ho y hy
    rw [e1]
    unfold rdy
    omega
  refine ⟨fun e he => ?_, fun e he => ?_, ?_, fun e he => ?_, fun T l s hp hT => ?_, ?_⟩
  · rcases List.mem_append.mp he with he | he
    · obtain ⟨h1, h2, h3, h4⟩ := I.own e he
      exact ⟨⟨fun y hy => mm y (h1.mem y hy), h1.pw⟩, h2, h3, by rw [List.length_append]; omega⟩
    · have ef : e = f := by simpa using he
      rw [ef, hy, ht, hw]
      have pv : NetOk d (Ap g) zs (yO (byE (d z).be es none)) ∧ (∀ y ∈ yO (byE (d z).be es none), rdy g (d y) ≤ (d z).be) ∧ wsum d (yO (byE (d z).be es none)) = wO (byE (d z).be es none) ∧ (yO (byE (d z).be es none)).length ≤ zs.length := by
        cases e1 : byE (d z).be es none with
        | none => exact ⟨.nil, fun y h => absurd h (by simp [yO]), rfl, Nat.zero_le _⟩
        | some x =>
          rcases byE_some e1 with ⟨m1, m2⟩ | m1
          · obtain ⟨h1, h2, h3, h4⟩ := I.own x m1
            exact ⟨h1, fun y hy => Int.le_trans (h2 y hy) m2, h3, h4⟩
          · cases m1
      obtain ⟨n1, n2, n3, n4⟩ := pv
      refine ⟨⟨fun y hy => ?_, ?_⟩, fun y hy => ?_, ?_, ?_⟩
      · rcases List.mem_append.mp hy with hy | hy
        · exact mm y (n1.mem y hy)
        · exact List.mem_append_right _ hy
      · refine List.pairwise_append.mpr ⟨n1.pw, List.pairwise_singleton _ _, fun y hy w hw => ?_⟩
        have ew : w = z := by simpa using hw
        rw [ew]
        exact .inl (n2 y hy)
      · rcases List.mem_append.mp hy with hy | hy
        · have := n2 y hy
          unfold rdy at this ⊢
          omega
        · have ew : y = z := by simpa using hy
          rw [ew]
          exact Int.le_refl _
      · rw [wsum_app, wsum_cons, wsum_nil, n3]
        omega
      · rw [List.length_append, List.length_append]
        simp only [List.length_cons, List.length_nil]
        omega
  · rcases List.mem_append.mp he with he | he
    · obtain ⟨y, hy, e1⟩ := I.tim e he
      exact ⟨y, mm y hy, e1⟩
    · have ef : e = f := by simpa using he
      rw [ef]
      exact ⟨z, by simp, ht⟩
  · refine List.pairwise_append.mpr ⟨I.ord, List.pairwise_singleton _ _, fun e he x hx => ?_⟩
    have ex : x = f := by simpa using hx
    rw [ex]
    exact Int.lt_of_le_of_lt (last_w I.ord e he) h
  · rcases List.mem_append.mp he with he | he
    · exact I.pos e he
    · have ef : e = f := by simpa using he
      rw [ef]
      exact Int.lt_of_le_of_lt I.lastPos h
  · rw [byE_snoc]
    obtain ⟨l1, l2, rfl, s1, s2⟩ := List.sublist_append_iff.mp s
    obtain ⟨p1, p2, p3⟩ := List.pairwise_append.mp hp
    have h1 := fun T hT => I.opt T l1 s1 p1 hT
    rcases sub_one s2 with rfl | rfl
    · rw [List.append_nil]
      have h2 := h1 T fun y hy => hT y (List.mem_append_left _ hy)
      split
      · have h3 := I.by_le T
        show wsum d l1 ≤ f.w
        omega
      · exact h2
    · have hzT : rdy g (d z) ≤ T := hT z (by simp)
      rw [if_pos (by rw [ht]; exact hzT)]
      have h2 := h1 (d z).be fun y hy => by
        have h3 := p3 y hy z (by simp)
        have h4 := ho y (s1.subset hy)
        have h5 := (hz y (mm y (s1.subset hy))).beN
        unfold Ap at h3
        unfold rdy
        omega
      rw [wsum_app, wsum_cons, wsum_nil]
      show _ ≤ f.w
      omega
  · rw [List.length_append, List.length_append]
    have := I.len
    simp only [List.length_cons, List.length_nil]
    omega
theorem rdy_bound (g : Int) : ∀ zs : List α, ∃ T : Int, ∀ z ∈ zs, rdy g (d z) ≤ T
  | [] => ⟨0, fun z h => absurd h (by simp)⟩
  | x :: zs => by
    obtain ⟨T, h⟩ := rdy_bound g zs
    refine ⟨max T (rdy g (d x)), fun z hz => ?_⟩
    rcases List.mem_cons.mp hz with rfl | hz
    · exact Int.le_max_right _ _
    · exact Int.le_trans (h z hz) (Int.le_max_left _ _)
/-- the table's last entry is the plan -/
theorem TI.plan {g : Int} {zs : List α} {es : List (Ent α β)} (I : TI d g zs es) : PlanOk d g zs (yO es.getLast?) (wO es.getLast?) := by
  have up : ∀ l : List α, l.Sublist zs → (l.Pairwise fun x y => Ap g (d x) (d y)) → wsum d l ≤ wO es.getLast? := fun l s hp => by
    obtain ⟨T, hT⟩ := rdy_bound (d := d) g zs
    have h := I.opt T l s hp fun y hy => hT y (s.subset hy)
    rw [byE_all fun e he => by
      obtain ⟨y, hy, e1⟩ := I.tim e he
      rw [e1]
      exact hT y hy, Option.or_none] at h
    exact h
  cases e : es.getLast? with
  | none =>
    rw [e] at up
    exact ⟨.nil, rfl, up⟩
  | some x =>
    rw [e] at up
    obtain ⟨h1, _, h3, _⟩ := I.own x (List.mem_of_getLast? e)
    exact ⟨h1, h3, up⟩
end

/-! ### going through all choices -/
def sel : List α → Nat → List α
  | [], _ => []
  | x :: xs, n => if n % 2 = 1 then x :: sel xs (n / 2) else sel xs (n / 2)
theorem sel_sub : ∀ (xs : List α) (n : Nat), (sel xs n).Sublist xs
  | [], _ => .slnil
  | x :: xs, n => by
    unfold sel
    split
    · exact (sel_sub xs _).cons_cons x
    · exact (sel_sub xs _).cons x
theorem sel_has : ∀ {xs l : List α}, l.Sublist xs → ∃ n, n < 2 ^ xs.length ∧ sel xs n = l
  | [], l, s => ⟨0, by simp, (List.sublist_nil.mp s).symm⟩
  | x :: xs, l, s => by
    cases s with
    | cons _ s =>
      obtain ⟨n, hn, e⟩ := sel_has s
      refine ⟨2 * n, by rw [List.length_cons, Nat.pow_succ]; omega, ?_⟩
      unfold sel
      rw [if_neg (by omega), show 2 * n / 2 = n by omega]
      exact e
    | cons_cons _ s =>
      obtain ⟨n, hn, e⟩ := sel_has s
      refine ⟨2 * n + 1, by rw [List.length_cons, Nat.pow_succ]; omega, ?_⟩
      unfold sel
      rw [if_pos (by omega), show (2 * n + 1) / 2 = n by omega, e]
theorem sel_snoc : ∀ (xs : List α) (x : α) (n : Nat), sel (xs ++ [x]) n = sel xs n ++ if n / 2 ^ xs.length % 2 = 1 then [x] else []
  | [], x, n => by
    show (if n % 2 = 1 then x :: [] else []) = _
    rw [List.length_nil, Nat.pow_zero, Nat.div_one]
    rfl
  | y :: xs, x, n => by
    have e : n / 2 / 2 ^ xs.length = n / 2 ^ (y :: xs).length := by rw [Nat.div_div_eq_div_mul, List.length_cons, Nat.pow_succ, Nat.mul_comm]
    show (if n % 2 = 1 then y :: sel (xs ++ [x]) (n / 2) else sel (xs ++ [x]) (n / 2)) = (if n % 2 = 1 then y :: sel xs (n / 2) else sel xs (n / 2)) ++ _
    rw [sel_snoc xs x (n / 2), e]
    split <;> rfl
/-- the greatest weight of the choices of the first n codes -/
def brute (d : α → Ct) (R : Ct → Ct → Prop) [DecidableRel R] (xs : List α) : Nat → Int
  | 0 => 0
  | n + 1 => if n / 2 ^ xs.length = 0 ∧ (sel xs n).Pairwise (fun x y => R (d x) (d y)) then max (brute d R xs n) (wsum d (sel xs n)) else brute d R xs n
section
variable {R : Ct → Ct → Prop} [DecidableRel R]
theorem brute_mono (xs : List α) (n : Nat) : brute d R xs n ≤ brute d R xs (n + 1) := by
  show _ ≤ if _ then _ else _
  split
  · exact Int.le_max_left _ _
  · exact Int.le_refl _
theorem brute_up (xs : List α) : ∀ {n k : Nat}, k < n → k < 2 ^ xs.length → (sel xs k).Pairwise (fun x y => R (d x) (d y)) → wsum d (sel xs k) ≤ brute d R xs n
  | n + 1, k, h, hk, hp => by
    by_cases e : k = n
    · subst e
      show _ ≤ if _ then _ else _
      rw [if_pos ⟨Nat.div_eq_of_lt hk, hp⟩]
      exact Int.le_max_right _ _
    · exact Int.le_trans (brute_up xs (n := n) (by omega) hk hp) (brute_mono xs n)
theorem brute_is (xs : List α) : ∀ n : Nat, ∃ l : List α, l.Sublist xs ∧ (l.Pairwise fun x y => R (d x) (d y)) ∧ wsum d l = brute d R xs n
  | 0 => ⟨[], List.nil_sublist _, .nil, rfl⟩
  | n + 1 => by
    obtain ⟨l, h1, h2, h3⟩ := brute_is xs n
    by_cases c : n / 2 ^ xs.length = 0 ∧ (sel xs n).Pairwise (fun x y => R (d x) (d y))
    · by_cases m : brute d R xs n ≤ wsum d (sel xs n)
      · refine ⟨sel xs n, sel_sub xs n, c.2, ?_⟩
        show _ = if _ then _ else _
        rw [if_pos c, Int.max_eq_right m]
      · refine ⟨l, h1, h2, ?_⟩
        show _ = if _ then _ else _
        rw [if_pos c, Int.max_eq_left (by omega)]
        exact h3
    · refine ⟨l, h1, h2, ?_⟩
      show _ = if _ then _ else _
      rw [if_neg c]
      exact h3
theorem brute_best {xs : List α} {n : Nat} (h : 2 ^ xs.length ≤ n) : BestOf d R xs (brute d R xs n) := by
  refine ⟨brute_is xs n, fun l s hp => ?_⟩
  obtain ⟨k, hk, rfl⟩ := sel_has s
  exact brute_up xs (Nat.lt_of_lt_of_le hk h) hk hp
end

/-! ### groups -/
def four : List Int := [0, 1, 2, 3]
theorem sum_split {key : α → Int} : ∀ (l : List α), (∀ x ∈ l, key x ∈ four) → wsum d l = (four.map fun n => wsum d (l.filter fun x => key x == n)).sum
  | [], _ => by simp [four, wsum]
  | x :: l, h => by
    have ih := sum_split l fun y hy => h y (List.mem_cons_of_mem _ hy)
    have hx := h x List.mem_cons_self
    have e : ∀ n : Int, wsum d ((x :: l).filter fun y => key y == n) = (if key x = n then (d x).we else 0) + wsum d (l.filter fun y => key y == n) := fun n => by
      rw [List.filter_cons]
      by_cases c : key x = n
      · rw [if_pos (by simp [c]), if_pos c, wsum_cons]
      · rw [if_neg (by simp [c]), if_neg c]
        omega
    rw [wsum_cons, ih]
    unfold four at hx ⊢
    simp only [List.map_cons, List.map_nil, List.sum_cons, List.sum_nil, e]
    simp only [List.mem_cons, List.not_mem_nil, or_false] at hx
    rcases hx with c | c | c | c <;> rw [c] <;> simp <;> omega
theorem sum_le : ∀ (l : List Int) {f h : Int → Int}, (∀ n ∈ l, f n ≤ h n) → (l.map f).sum ≤ (l.map h).sum
  | [], _, _, _ => Int.le_refl _
  | x :: l, f, h, k => by
    rw [List.map_cons, List.map_cons, List.sum_cons, List.sum_cons]
    have h1 := k x List.mem_cons_self
    have h2 := sum_le l fun n hn => k n (List.mem_cons_of_mem _ hn)
    omega
theorem sum_perm {l m : List Int} (p : l.Perm m) : l.sum = m.sum := by
  induction p with
  | nil => rfl
  | cons x _ ih => rw [List.sum_cons, List.sum_cons, ih]
  | swap x y l => simp only [List.sum_cons]; omega
  | trans _ _ h1 h2 => exact h1.trans h2
theorem sum_skip {P : Int → Bool} {f : Int → Int} : ∀ (l : List Int), (∀ n ∈ l, P n = false → f n = 0) → ((l.filter P).map f).sum = (l.map f).sum
  | [], _ => rfl
  | x :: l, h => by
    have ih := sum_skip l fun n hn => h n (List.mem_cons_of_mem _ hn)
    rw [List.filter_cons]
    cases c : P x with
    | true => rw [if_pos rfl, List.map_cons, List.map_cons, List.sum_cons, List.sum_cons, ih]
    | false =>
      rw [if_neg (by simp), List.map_cons, List.sum_cons, ih, h x List.mem_cons_self c]
      omega
/-- the groups' numbers as they occur, or 0 to 3: the same sum -/
theorem sum_groups {ns : List Int} {f : Int → Int} (nd : ns.Nodup) (hm : ∀ n ∈ ns, n ∈ four) (hz : ∀ n ∈ four, n ∉ ns → f n = 0) : (ns.map f).sum = (four.map f).sum := by
  have p : ns.Perm (four.filter fun n => decide (n ∈ ns)) := by
    refine (List.perm_ext_iff_of_nodup nd (List.Pairwise.filter _ (show four.Nodup by decide))).mpr fun a => ?_
    simp only [List.mem_filter, decide_eq_true_eq]
    exact ⟨fun h => ⟨hm a h, h⟩, fun h => h.2⟩
  rw [sum_perm (p.map f)]
  exact sum_skip four fun n hn c => hz n hn (of_decide_eq_false c)
/-- the greatest weight of a group -/
def bst (d : α → Ct) (m : Bool) (g : Int) (xs : List α) : Int := brute d (Tg m g) xs 256
theorem pw256 {n : Nat} (h : n ≤ 8) : 2 ^ n ≤ 256 := Nat.le_trans (Nat.pow_le_pow_right (by decide) h) (by decide)
theorem bst_best {m : Bool} {g : Int} {xs : List α} (h : xs.length ≤ 8) : BestOf d (Tg m g) xs (bst d m g xs) := brute_best (pw256 h)
theorem bst_nil {m : Bool} {g : Int} : bst d m g ([] : List α) = 0 :=
  BestOf.uniq (bst_best (Nat.zero_le _)) ⟨⟨[], .slnil, .nil, rfl⟩, fun l s _ => by rw [List.sublist_nil.mp s]; exact Int.le_refl _⟩
theorem BestOf.imp {R S : Ct → Ct → Prop} {xs : List α} {b : Int} (h : BestOf d R xs b) (e : ∀ a b, R a b ↔ S a b) : BestOf d S xs b := by
  obtain ⟨l, s, p, w⟩ := h.is
  exact ⟨⟨l, s, p.imp fun {x y} => (e (d x) (d y)).mp, w⟩, fun l s p => h.up l s (p.imp fun {x y} => (e (d x) (d y)).mpr)⟩
theorem plan_bst {g : Int} {xs ys : List α} {b : Int} (hg : 0 ≤ g) (hx : ∀ x ∈ xs, Gd (d x)) (hl : xs.length ≤ 8) (h : PlanOk d g xs ys b) : b = bst d false g xs :=
  BestOf.uniq (h.best fun x m => ap_irrefl hg (hx x m)) ((bst_best hl).imp fun _ _ => ⟨Tg.of_false, .inr⟩)
/-- the groups' sum of greatest weights, by 0 to 3 -/
def grp (d : α → Ct) (g : Int) (key : Ct → Int) (xs : List α) : Int := (four.map fun n => bst d false g (xs.filter fun x => key (d x) == n)).sum
theorem grp_occ {g : Int} {key : Ct → Int} {xs : List α} {ns : List Int} (nd : ns.Nodup) (hk : ∀ x ∈ xs, key (d x) ∈ four) (hm : ∀ n, n ∈ ns ↔ ∃ x ∈ xs, key (d x) = n) :
    (ns.map fun n => bst d false g (xs.filter fun x => key (d x) == n)).sum = grp d g key xs := by
  refine sum_groups nd (fun n hn => ?_) fun n _ hn => ?_
  · obtain ⟨x, hx, e⟩ := (hm n).mp hn
    rw [← e]
    exact hk x hx
  · have e : (xs.filter fun x => key (d x) == n) = [] := by
      refine List.filter_eq_nil_iff.mpr fun x hx c => hn ((hm n).mpr ⟨x, hx, by simpa using c⟩)
    rw [e, bst_nil]
/-- no network choice weighs more than the groups' sum -/
theorem best_le_grp {g : Int} {key : Ct → Int} {xs : List α} (hl : xs.length ≤ 8) (hk : ∀ x ∈ xs, key (d x) ∈ four) (ht : ∀ a b : Ct, key a = key b → Tg true g a b → Ap g a b) : bst d true g xs ≤ grp d g key xs := by
  obtain ⟨l, s, p, w⟩ := (bst_best (d := d) (m := true) (g := g) hl).is
  rw [← w, sum_split l fun x hx => hk x (s.subset hx)]
  refine sum_le four fun n _ => ?_
  have sl : (l.filter fun x => key (d x) == n).Sublist (xs.filter fun x => key (d x) == n) := s.filter _
  have hl2 : (xs.filter fun x => key (d x) == n).length ≤ 8 := Nat.le_trans (List.length_filter_le _ _) hl
  refine (bst_best hl2).up _ sl ?_
  have pf := p.filter fun x => key (d x) == n
  refine List.Pairwise.imp_of_mem (fun {a b} ha hb h => ?_) pf
  have ea : key (d a) = n := by simpa using (List.mem_filter.mp ha).2
  have eb : key (d b) = n := by simpa using (List.mem_filter.mp hb).2
  exact .inr (ht _ _ (ea.trans eb.symm) h)
theorem cr_same {g : Int} (a b : Ct) (e : a.cr = b.cr) (h : Tg true g a b) : Ap g a b := by
  rcases h with ⟨_, h, _⟩ | h
  · exact absurd e h
  · exact h
theorem si_same {g : Int} (a b : Ct) (e : a.si = b.si) (h : Tg true g a b) : Ap g a b := by
  rcases h with ⟨_, _, h⟩ | h
  · exact absurd e h
  · exact h
theorem four_cr {c : Ct} (h : Gd c) : c.cr ∈ four := by
  have h1 := h.cr0
  have h2 := h.crN
  have : c.cr = 0 ∨ c.cr = 1 ∨ c.cr = 2 ∨ c.cr = 3 := by omega
  unfold four
  simp only [List.mem_cons, List.not_mem_nil, or_false]
  exact this
theorem four_si {c : Ct} (h : Gd c) : c.si ∈ four := by
  have h1 := h.si0
  have h2 := h.siN
  have : c.si = 0 ∨ c.si = 1 ∨ c.si = 2 ∨ c.si = 3 := by omega
  unfold four
  simp only [List.mem_cons, List.not_mem_nil, or_false]
  exact this
/-- the law: told weight, best, bound -/
theorem law_holds {g : Int} {xs l : List α} (hg : 0 ≤ g) (hx : ∀ x ∈ xs, Gd (d x)) (hl : xs.length ≤ 8) (n : NetOk d (Tg true g) xs l) :
    wsum d l ≤ bst d true g xs ∧ bst d true g xs ≤ min (grp d g Ct.si xs) (grp d g Ct.cr xs) := by
  refine ⟨(bst_best hl).le (fun a b => Tg.symm) (fun x m => tg_irrefl hg (hx x m)) n, ?_⟩
  have h1 := best_le_grp (g := g) (key := Ct.si) hl (fun x m => four_si (hx x m)) si_same
  have h2 := best_le_grp (g := g) (key := Ct.cr) hl (fun x m => four_cr (hx x m)) cr_same
  omega
end
end Orr
/-! The text by places, the names of each def, contacts on the heap. -/
namespace Orr
open PySem PySem.Spec PyProof.Rows L2
def top (i : Nat) : Stmt := PySem.Challenge.pw_orrery_k52_whole_networks_and_their_boun.main.body.getD i (.Pass ⟨0, 0, 0, 0⟩)
abbrev sCheck : Stmt := top 5
abbrev sTick : Stmt := top 6
abbrev sCkC : Stmt := top 9
abbrev sCkG : Stmt := top 10
abbrev sReady : Stmt := top 11
abbrev sApart : Stmt := top 12
abbrev sWeight : Stmt := top 13
abbrev sBy : Stmt := top 14
abbrev sEnd : Stmt := top 15
abbrev sTable : Stmt := top 16
abbrev sBest : Stmt := top 17
abbrev sGo : Stmt := top 21
abbrev sFits : Stmt := top 22
abbrev sGroups : Stmt := top 23
abbrev sByG : Stmt := top 24
abbrev sExch : Stmt := top 25
abbrev sBetter : Stmt := top 26
abbrev sImpr : Stmt := top 27
abbrev sBas : Stmt := top 28
abbrev sBound : Stmt := top 29
abbrev sNet : Stmt := top 30
abbrev sRow : Stmt := top 32
abbrev sSum : Stmt := top 33
abbrev sLReady : Stmt := top 34
abbrev sLApart : Stmt := top 35
abbrev sLCont : Stmt := top 36
abbrev sLBest : Stmt := top 37
abbrev sLChoice : Stmt := top 38
abbrev sLSob : Stmt := top 39
abbrev sLaw : Stmt := top 40
theorem scCheck : FnScope ["good", "name"] ["good", "name"] (defScope sCheck) := ⟨rfl, rfl, rfl, by decide +kernel, rfl, by decide +kernel, by decide +kernel⟩
theorem scTick : FnScope ["number"] ["number"] (defScope sTick) := ⟨rfl, rfl, rfl, by decide +kernel, rfl, by decide +kernel, by decide +kernel⟩
theorem scCkC : FnScope ["contacts", "most", "craft", "site", "begin", "end", "weight"] ["contacts", "most"] (defScope sCkC) := ⟨rfl, rfl, rfl, by decide +kernel, rfl, by decide +kernel, by decide +kernel⟩
theorem scCkG : FnScope ["gap"] ["gap"] (defScope sCkG) := ⟨rfl, rfl, rfl, by decide +kernel, rfl, by decide +kernel, by decide +kernel⟩
theorem scReady : FnScope ["contact", "gap"] ["contact", "gap"] (defScope sReady) := ⟨rfl, rfl, rfl, by decide +kernel, rfl, by decide +kernel, by decide +kernel⟩
theorem scApart : FnScope ["first", "second", "gap"] ["first", "second", "gap"] (defScope sApart) := ⟨rfl, rfl, rfl, by decide +kernel, rfl, by decide +kernel, by decide +kernel⟩
theorem scWeight : FnScope ["contacts", "contact"] ["contacts"] (defScope sWeight) := ⟨rfl, rfl, rfl, by decide +kernel, rfl, by decide +kernel, by decide +kernel⟩
theorem scBy : FnScope ["table", "tick", "weight", "choice", "time", "found_weight", "found_choice"] ["table", "tick"] (defScope sBy) := ⟨rfl, rfl, rfl, by decide +kernel, rfl, by decide +kernel, by decide +kernel⟩
theorem scEnd : FnScope ["contact"] ["contact"] (defScope sEnd) := ⟨rfl, rfl, rfl, by decide +kernel, rfl, by decide +kernel, by decide +kernel⟩
theorem scTable : FnScope ["contacts", "gap", "table", "contact", "weight", "choice"] ["contacts", "gap"] (defScope sTable) := ⟨rfl, rfl, rfl, by decide +kernel, rfl, by decide +kernel, by decide +kernel⟩
theorem scBest : FnScope ["contacts", "gap", "table", "prices", "before", "tick", "weight", "choice"] ["contacts", "gap"] (defScope sBest) := ⟨rfl, rfl, rfl, by decide +kernel, rfl, by decide +kernel, by decide +kernel⟩
theorem scGo : FnScope ["first", "second", "gap"] ["first", "second", "gap"] (defScope sGo) := ⟨rfl, rfl, rfl, by decide +kernel, rfl, by decide +kernel, by decide +kernel⟩
theorem scFits : FnScope ["contact", "taken", "gap", "other"] ["contact", "taken", "gap"] (defScope sFits) := ⟨rfl, rfl, rfl, by decide +kernel, rfl, by decide +kernel, by decide +kernel⟩
theorem scGroups : FnScope ["contacts", "part", "numbers", "contact", "number"] ["contacts", "part"] (defScope sGroups) := ⟨rfl, rfl, rfl, by decide +kernel, rfl, by decide +kernel, by decide +kernel⟩
theorem scByG : FnScope ["contacts", "part", "gap", "taken", "group", "free", "contact"] ["contacts", "part", "gap"] (defScope sByG) := ⟨rfl, rfl, rfl, by decide +kernel, rfl, by decide +kernel, by decide +kernel⟩
theorem scExch : FnScope ["contacts", "taken", "contact", "gap", "result", "other"] ["contacts", "taken", "contact", "gap"] (defScope sExch) := ⟨rfl, rfl, rfl, by decide +kernel, rfl, by decide +kernel, by decide +kernel⟩
theorem scBetter : FnScope ["contacts", "taken", "gap", "contact", "result"] ["contacts", "taken", "gap"] (defScope sBetter) := ⟨rfl, rfl, rfl, by decide +kernel, rfl, by decide +kernel, by decide +kernel⟩
theorem scImpr : FnScope ["contacts", "taken", "gap", "turn", "result"] ["contacts", "taken", "gap"] (defScope sImpr) := ⟨rfl, rfl, rfl, by decide +kernel, rfl, by decide +kernel, by decide +kernel⟩
theorem scBas : FnScope ["contact"] ["contact"] (defScope sBas) := ⟨rfl, rfl, rfl, by decide +kernel, rfl, by decide +kernel, by decide +kernel⟩
theorem scBound : FnScope ["contacts", "part", "gap", "group"] ["contacts", "part", "gap"] (defScope sBound) := ⟨rfl, rfl, rfl, by decide +kernel, rfl, by decide +kernel, by decide +kernel⟩
theorem scNet : FnScope ["contacts", "gap", "by_sites", "by_craft", "choice", "bound"] ["contacts", "gap"] (defScope sNet) := ⟨rfl, rfl, rfl, by decide +kernel, rfl, by decide +kernel, by decide +kernel⟩
theorem scRow : FnScope ["_law_script", "_law_k", "_law_row_here"] ["_law_script", "_law_k"] (defScope sRow) := ⟨rfl, rfl, rfl, by decide +kernel, rfl, by decide +kernel, by decide +kernel⟩
theorem scSum : FnScope ["_law_numbers", "_law_total", "_law_number"] ["_law_numbers"] (defScope sSum) := ⟨rfl, rfl, rfl, by decide +kernel, rfl, by decide +kernel, by decide +kernel⟩
theorem scLReady : FnScope ["_law_contact", "_law_gap"] ["_law_contact", "_law_gap"] (defScope sLReady) := ⟨rfl, rfl, rfl, by decide +kernel, rfl, by decide +kernel, by decide +kernel⟩
theorem scLApart : FnScope ["_law_one", "_law_other", "_law_gap"] ["_law_one", "_law_other", "_law_gap"] (defScope sLApart) := ⟨rfl, rfl, rfl, by decide +kernel, rfl, by decide +kernel, by decide +kernel⟩
theorem scLCont : FnScope ["_law_script", "_law_k", "_law_many", "_law_numbers", "_law_contacts_here", "_law_j", "_law_row_here", "_law_begin", "_law_end", "_law_weight"] ["_law_script", "_law_k", "_law_many", "_law_numbers"] (defScope sLCont) := ⟨rfl, rfl, rfl, by decide +kernel, rfl, by decide +kernel, by decide +kernel⟩
theorem scLBest : FnScope ["_law_contacts_here", "_law_gap", "_law_mixed", "_law_best_here", "_law_code", "_law_chosen", "_law_rest", "_law_contact"] ["_law_contacts_here", "_law_gap", "_law_mixed"] (defScope sLBest) := ⟨rfl, rfl, rfl, by decide +kernel, rfl, by decide +kernel, by decide +kernel⟩
theorem scLChoice : FnScope ["_law_chosen", "_law_gap", "_law_mixed", "_law_j", "_law_i", "_law_one", "_law_other", "_law_free"] ["_law_chosen", "_law_gap", "_law_mixed"] (defScope sLChoice) := ⟨rfl, rfl, rfl, by decide +kernel, rfl, by decide +kernel, by decide +kernel⟩
theorem scLSob : FnScope ["_law_contacts_here", "_law_part", "_law_gap", "_law_total", "_law_number", "_law_contact"] ["_law_contacts_here", "_law_part", "_law_gap"] (defScope sLSob) := ⟨rfl, rfl, rfl, by decide +kernel, rfl, by decide +kernel, by decide +kernel⟩
theorem scLaw : FnScope ["_law_script", "_law_row_here", "_law_gap", "_law_contacts_here", "_law_actual", "_law_best_here"] ["_law_script"] (defScope sLaw) := ⟨rfl, rfl, rfl, by decide +kernel, rfl, by decide +kernel, by decide +kernel⟩
/-! ### a def of the text; a def that keeps a promise -/
/-- the def stands in the text and its name names it -/
def Def (K : PySem.W.Frag) (mg : Str → Option Value) (x : Str) (st : Stmt) : Prop := ∃ (f : Addr) (fd : FuncData), Fun K x x st f fd ∧ mg x = some (.ref f)
def Cal (P : Program) (w : World) (K : PySem.W.Frag) (mg : Str → Option Value) (base : Heap) (k : Nat) (x : Str) (ps : List Str) (sp : Sp) : Prop :=
  ∃ (f : Addr) (fd : FuncData), FnOk P w K mg base CX0 k f fd ps sp ∧ mg x = some (.ref f) ∧ PySem.W.keepIn K (.ref f) = true ∧ Binds K fd ps []
section
variable {P : Program} {w : World} {K : PySem.W.Frag} {mg : Str → Option Value} {base : Heap} {j k : Nat} {x : Str} {st : Stmt} {ps N : List Str} {sp : Sp}
theorem Cal.mono (C : Cal P w K mg base j x ps sp) (h : j ≤ k) : Cal P w K mg base k x ps sp := by
  obtain ⟨f, fd, G, r⟩ := C
  exact ⟨f, fd, G.mono h, r⟩
theorem Def.cal (D : Def K mg x st)
    (hb : ∀ (kV doc pm : Value) (an : Option Addr) (cdv ct : Value) (us : List Value), us.length = ps.length → bindArgs (PySem.W.fnOf x x (defArgs st) (defBody st) (defScope st) .none kV doc pm an cdv ct) ⟨us, []⟩ = pure (ps.zip us))
    (h : ∀ (f : Addr) (fd : FuncData), Fun K x x st f fd → FnOk P w K mg base CX0 k f fd ps sp) : Cal P w K mg base k x ps sp := by
  obtain ⟨f, fd, F, m⟩ := D
  exact ⟨f, fd, h f fd F, m, F.kp, F.binds hb⟩
end
section
variable {X : Cx} {k : Nat} {sp : Sp} {x : Str} {ps : List Str} {p pos : Pos} {e : Expr} {es : List Expr} {t : TA}
theorem pe_cal (C : Cal X.prog X.w X.K X.mg X.base k x ps sp) (hr : Room k X.A) (hg : Gl X x)
    (ha : PA X (e :: es) t) (hdb : (x == ("__debug__" : Str)) = false := by decide) (he : starEach (e :: es) X.env = (false, eval e X.env) :: starEach es X.env := by rfl) (hpl : (backTo pos (starEach es X.env)).any (·.1) = false := by rfl) :
    PE X (.Call (.Name x p) (e :: es) [] pos) (tCall sp [] E0 t) := by
  obtain ⟨f, fd, G, m, kp, b⟩ := C
  exact pe_call G hr hg m kp b .nil pass0 ha hdb he hpl
end
/-! ### answers of comparisons -/
theorem dT {c : Prop} [Decidable c] (h : c) : V.bl (decide c) = V.bl true := congrArg V.bl (decide_eq_true h)
theorem dF {c : Prop} [Decidable c] (h : ¬ c) : V.bl (decide c) = V.bl false := congrArg V.bl (decide_eq_false h)
theorem lT {c : Prop} [Decidable c] {z : List V} (h : c) : V.bl (decide c) :: z = V.bl true :: z := congrArg (· :: z) (dT h)
theorem dQ {c : Prop} [Decidable c] {Q : VK} {H : Hp} (h : c) (q : Q (.bl true) H) : Q (.bl (decide c)) H := by
  rw [dT h]
  exact q
theorem dN {c : Prop} [Decidable c] {Q : VK} {H : Hp} (h : ¬ c) (q : Q (.bl false) H) : Q (.bl (decide c)) H := by
  rw [dF h]
  exact q
/-! ### contacts on the heap -/
def ctV (c : Ct) : List V := [.int c.cr, .int c.si, .int c.be, .int c.en, .int c.we]
/-- x is a tuple that holds the numbers d x -/
def IsCt (d : V → Ct) (H : Hp) (x : V) : Prop := ∃ t : Addr, x = .ref t ∧ H t = some (.tup (ctV (d x)))
def AreCt (d : V → Ct) (H : Hp) (xs : List V) : Prop := ∀ x ∈ xs, IsCt d H x
section
variable {K : PySem.W.Frag} {d : V → Ct} {H H' H1 H2 : Hp} {x : V} {xs ys : List V} {a p : Addr} {o : HO}
theorem same_upd (h : H p = none) : Same H (upd H p o) := fun b x e => by
  rw [upd_ne (ne_of_none e h)]
  exact e
theorem same_add (s : Same H H1) (h : H1 p = none) : Same H (L2.upd H1 p o) := s.trans (same_upd h)
/-- a store at an object that is newer than H -/
theorem same_wr (s : Same H H1) (h : H p = none) : Same H (L2.upd H1 p o) := fun b x e => by
  rw [upd_ne (ne_of_none e h)]
  exact s b x e
theorem IsCt.ix0 {R : V → Prop} (h : IsCt d H x) (q : R (.int (d x).cr)) : ∃ p xs i v, x = .ref p ∧ V.int 0 = .int i ∧ SqT K H p xs ∧ atI xs i = some v ∧ R v := by
  obtain ⟨t, e, ht⟩ := h
  exact ⟨t, _, _, _, e, rfl, SqT.of ht, atI_nat (j := 0) rfl, q⟩
theorem IsCt.ix1 {R : V → Prop} (h : IsCt d H x) (q : R (.int (d x).si)) : ∃ p xs i v, x = .ref p ∧ V.int 1 = .int i ∧ SqT K H p xs ∧ atI xs i = some v ∧ R v := by
  obtain ⟨t, e, ht⟩ := h
  exact ⟨t, _, _, _, e, rfl, SqT.of ht, atI_nat (j := 1) rfl, q⟩
theorem IsCt.ix2 {R : V → Prop} (h : IsCt d H x) (q : R (.int (d x).be)) : ∃ p xs i v, x = .ref p ∧ V.int 2 = .int i ∧ SqT K H p xs ∧ atI xs i = some v ∧ R v := by
  obtain ⟨t, e, ht⟩ := h
  exact ⟨t, _, _, _, e, rfl, SqT.of ht, atI_nat (j := 2) rfl, q⟩
theorem IsCt.ix3 {R : V → Prop} (h : IsCt d H x) (q : R (.int (d x).en)) : ∃ p xs i v, x = .ref p ∧ V.int 3 = .int i ∧ SqT K H p xs ∧ atI xs i = some v ∧ R v := by
  obtain ⟨t, e, ht⟩ := h
  exact ⟨t, _, _, _, e, rfl, SqT.of ht, atI_nat (j := 3) rfl, q⟩
theorem IsCt.ix4 {R : V → Prop} (h : IsCt d H x) (q : R (.int (d x).we)) : ∃ p xs i v, x = .ref p ∧ V.int 4 = .int i ∧ SqT K H p xs ∧ atI xs i = some v ∧ R v := by
  obtain ⟨t, e, ht⟩ := h
  exact ⟨t, _, _, _, e, rfl, SqT.of ht, atI_nat (j := 4) rfl, q⟩
theorem IsCt.mono (h : IsCt d H x) (s : Same H H') : IsCt d H' x := by
  obtain ⟨t, e, ht⟩ := h
  exact ⟨t, e, s _ _ ht⟩
theorem AreCt.mono (h : AreCt d H xs) (s : Same H H') : AreCt d H' xs := fun x m => (h x m).mono s
theorem AreCt.nil : AreCt d H [] := fun x m => absurd m (by simp)
theorem AreCt.app (h : AreCt d H xs) (k : AreCt d H ys) : AreCt d H (xs ++ ys) := fun x m => (List.mem_append.mp m).elim (h x) (k x)
theorem AreCt.one (h : IsCt d H x) : AreCt d H [x] := fun y m => by
  have e : y = x := by simpa using m
  rw [e]
  exact h
theorem AreCt.sub (h : AreCt d H xs) (s : ∀ y ∈ ys, y ∈ xs) : AreCt d H ys := fun y m => h y (s y m)
theorem AreCt.at {i : Nat} (h : AreCt d H xs) (e : xs[i]? = some x) : IsCt d H x := h x (List.mem_of_getElem? e)
end
end Orr
/-! Small defs: check, is_tick, check_gap, ready, apart, end_of, begin_and_site, go_together, fits_with, weight_of, check_contacts. -/
namespace Orr
open PySem PySem.Spec PyProof.Rows L2
section
variable {P : Program} {w : World} {K : PySem.W.Frag} {mg : Str → Option Value} {base : Heap}
/-! ### check -/
def spCheck : Sp := fun vs H Q _ => ∃ z : Str, vs = [.bl true, .str z] ∧ Q .non H
theorem c_check (D : Def K mg "check" sCheck) : Cal P w K mg base 1 "check" ["good", "name"] spCheck := by
  refine D.cal (fun _ _ _ _ _ _ us hl => match us, hl with | [_, _], _ => rfl) fun f fd F => F.ok scCheck (fun vs H Q E h => ?_) (fun cdv A outer s H vs Q E hr h => ?_)
  · obtain ⟨z, rfl, _⟩ := h
    rfl
  · obtain ⟨z, rfl, q⟩ := h
    refine ⟨_, pss_one (ps_if (pt_not (pt_val (pv 0))) (pss_one ps_never) pss_nil), ?_⟩
    refine ⟨.bl true, rfl, true, rfl, ?_⟩
    exact iteF q
/-! ### is_tick -/
def spTick : Sp := fun vs H Q _ => ∃ n : Int, vs = [.int n] ∧ (0 ≤ n ∧ n ≤ 100000) ∧ Q (.bl true) H
theorem c_tick {tk : Tok} (D : Def K mg "is_tick" sTick) (mT : mg "LAST_TICK" = some (.int 100000 tk)) : Cal P w K mg base 1 "is_tick" ["number"] spTick := by
  refine D.cal (fun _ _ _ _ _ _ us hl => match us, hl with | [_], _ => rfl) fun f fd F => F.ok scTick (fun vs H Q E h => ?_) (fun cdv A outer s H vs Q E hr h => ?_)
  · obtain ⟨n, rfl, _⟩ := h
    rfl
  · obtain ⟨n, rfl, ⟨h0, h1⟩, q⟩ := h
    refine ⟨_, pss_one (ps_ret (pe_chain op_le op_le pe_int (pv 0) (pe_glob (v := .int 100000) rfl mT ⟨_, rfl⟩))), ?_⟩
    exact ⟨.int n, rfl, 0, n, rfl, rfl, true, dT h0, iteT ⟨n, 100000, rfl, rfl, dQ h1 q⟩⟩
/-! ### check_gap -/
def spCkG : Sp := fun vs H Q _ => ∃ n : Int, vs = [.int n] ∧ (0 ≤ n ∧ n ≤ 100000) ∧ Q .non H
theorem c_ckg (D : Def K mg "check_gap" sCkG) (C1 : Cal P w K mg base 1 "check" ["good", "name"] spCheck) (C2 : Cal P w K mg base 1 "is_tick" ["number"] spTick) : Cal P w K mg base 2 "check_gap" ["gap"] spCkG := by
  refine D.cal (fun _ _ _ _ _ _ us hl => match us, hl with | [_], _ => rfl) fun f fd F => F.ok scCkG (fun vs H Q E h => ?_) (fun cdv A outer s H vs Q E hr h => ?_)
  · obtain ⟨n, rfl, _⟩ := h
    rfl
  · obtain ⟨n, rfl, h0, q⟩ := h
    refine ⟨_, pss_one (ps_expr (pe_cal C1 hr rfl (pa_cons (pe_cal C2 hr rfl (pa_cons (pv 0) pa_nil)) (pa_cons pe_str pa_nil)))), ?_⟩
    exact ⟨.int n, rfl, n, rfl, h0, _, rfl, q⟩
/-! ### ready -/
def spReady : Sp := fun vs H Q _ => ∃ (d : V → Ct) (x : V) (g : Int), vs = [x, .int g] ∧ IsCt d H x ∧ Q (.int ((d x).en + 1 + g)) H
theorem c_ready (D : Def K mg "ready" sReady) : Cal P w K mg base 1 "ready" ["contact", "gap"] spReady := by
  refine D.cal (fun _ _ _ _ _ _ us hl => match us, hl with | [_, _], _ => rfl) fun f fd F => F.ok scReady (fun vs H Q E h => ?_) (fun cdv A outer s H vs Q E hr h => ?_)
  · obtain ⟨d, x, g, rfl, _⟩ := h
    rfl
  · obtain ⟨d, x, g, rfl, hx, q⟩ := h
    refine ⟨_, pss_one (ps_ret (pe_op op_add (pe_op op_add (pe_ix ix_tup (pv 0) pe_int (fun _ _ => rfl)) pe_int) (pv 1))), ?_⟩
    exact ⟨x, rfl, hx.ix3 ⟨_, _, rfl, rfl, _, rfl, _, _, rfl, rfl, q⟩⟩
/-! ### end_of -/
def spEnd : Sp := fun vs H Q _ => ∃ (d : V → Ct) (x : V), vs = [x] ∧ IsCt d H x ∧ Q (.int (d x).en) H
theorem c_end (D : Def K mg "end_of" sEnd) : Cal P w K mg base 1 "end_of" ["contact"] spEnd := by
  refine D.cal (fun _ _ _ _ _ _ us hl => match us, hl with | [_], _ => rfl) fun f fd F => F.ok scEnd (fun vs H Q E h => ?_) (fun cdv A outer s H vs Q E hr h => ?_)
  · obtain ⟨d, x, rfl, _⟩ := h
    rfl
  · obtain ⟨d, x, rfl, hx, q⟩ := h
    refine ⟨_, pss_one (ps_ret (pe_ix ix_tup (pv 0) pe_int (fun _ _ => rfl))), ?_⟩
    exact ⟨x, rfl, hx.ix3 q⟩
/-! ### begin_and_site -/
def spBas : Sp := fun vs H Q _ => ∃ (d : V → Ct) (x : V), vs = [x] ∧ IsCt d H x ∧ ∀ p, H p = none → Q (.ref p) (upd H p (.tup [.int (d x).be, .int (d x).si]))
theorem c_bas (D : Def K mg "begin_and_site" sBas) : Cal P w K mg base 1 "begin_and_site" ["contact"] spBas := by
  refine D.cal (fun _ _ _ _ _ _ us hl => match us, hl with | [_], _ => rfl) fun f fd F => F.ok scBas (fun vs H Q E h => ?_) (fun cdv A outer s H vs Q E hr h => ?_)
  · obtain ⟨d, x, rfl, _⟩ := h
    rfl
  · obtain ⟨d, x, rfl, hx, q⟩ := h
    refine ⟨_, pss_one (ps_ret (pe_tup (pa_cons (pe_ix ix_tup (pv 0) pe_int (fun _ _ => rfl)) (pa_cons (pe_ix ix_tup (pv 0) pe_int (fun _ _ => rfl)) pa_nil)))), ?_⟩
    exact ⟨x, rfl, hx.ix2 ⟨x, rfl, hx.ix1 ⟨by show 2 ≤ sizeLine; decide, q⟩⟩⟩
/-! ### apart -/
def spApart : Sp := fun vs H Q _ => ∃ (d : V → Ct) (x y : V) (g : Int), vs = [x, y, .int g] ∧ IsCt d H x ∧ IsCt d H y ∧ Q (.bl (decide (Ap g (d x) (d y)))) H
theorem c_apart (D : Def K mg "apart" sApart) (C1 : Cal P w K mg base 1 "ready" ["contact", "gap"] spReady) : Cal P w K mg base 2 "apart" ["first", "second", "gap"] spApart := by
  refine D.cal (fun _ _ _ _ _ _ us hl => match us, hl with | [_, _, _], _ => rfl) fun f fd F => F.ok scApart (fun vs H Q E h => ?_) (fun cdv A outer s H vs Q E hr h => ?_)
  · obtain ⟨d, x, y, g, rfl, _⟩ := h
    rfl
  · obtain ⟨d, x, y, g, rfl, hx, hy, q⟩ := h
    refine ⟨_, pss_one (ps_ret (pe_or (pe_cmpR op_le (pe_cal C1 hr rfl (pa_cons (pv 0) (pa_cons (pv 2) pa_nil))) (pe_ix ix_tup (pv 1) pe_int (fun _ _ => rfl)) (nomark _))
      (pe_one (pe_cmpR op_le (pe_cal C1 hr rfl (pa_cons (pv 1) (pa_cons (pv 2) pa_nil))) (pe_ix ix_tup (pv 0) pe_int (fun _ _ => rfl)) (nomark _))))), ?_⟩
    refine ⟨x, rfl, .int g, rfl, d, x, g, rfl, hx, y, rfl, hy.ix2 ⟨_, _, rfl, rfl, _, rfl, ?_⟩⟩
    refine ite2 (fun e => ?_) (fun e => ?_)
    · have e1 := of_decide_eq_true e
      have : Ap g (d x) (d y) := .inl e1
      rw [decide_eq_true this] at q
      exact q
    · refine ⟨y, rfl, .int g, rfl, d, y, g, rfl, hy, x, rfl, hx.ix2 ⟨_, _, rfl, rfl, ?_⟩⟩
      have e1 : ¬ ((d x).en + 1 + g ≤ (d y).be) := fun z => e (decide_eq_true z)
      by_cases c : (d y).en + 1 + g ≤ (d x).be
      · rw [decide_eq_true (show Ap g (d x) (d y) from .inr c)] at q
        exact dQ c q
      · rw [decide_eq_false (show ¬ Ap g (d x) (d y) from fun z => z.elim e1 c)] at q
        exact dN c q
/-! ### go_together -/
def spGo : Sp := fun vs H Q _ => ∃ (d : V → Ct) (x y : V) (g : Int), vs = [x, y, .int g] ∧ IsCt d H x ∧ IsCt d H y ∧ Q (.bl (decide (Tg true g (d x) (d y)))) H
theorem c_go (D : Def K mg "go_together" sGo) (C1 : Cal P w K mg base 2 "apart" ["first", "second", "gap"] spApart) : Cal P w K mg base 3 "go_together" ["first", "second", "gap"] spGo := by
  refine D.cal (fun _ _ _ _ _ _ us hl => match us, hl with | [_, _, _], _ => rfl) fun f fd F => F.ok scGo (fun vs H Q E h => ?_) (fun cdv A outer s H vs Q E hr h => ?_)
  · obtain ⟨d, x, y, g, rfl, _⟩ := h
    rfl
  · obtain ⟨d, x, y, g, rfl, hx, hy, q⟩ := h
    refine ⟨_, pss_cons (ps_if (PW.pt (pw_and (pt_cmpR op_ne (pe_ix ix_tup (pv 0) pe_int (fun _ _ => rfl)) (pe_ix ix_tup (pv 1) pe_int (fun _ _ => rfl)) (nomark _))
        (pw_and1 (pt_cmpR op_ne (pe_ix ix_tup (pv 0) pe_int (fun _ _ => rfl)) (pe_ix ix_tup (pv 1) pe_int (fun _ _ => rfl)) (nomark _))))) (pss_one (ps_ret pe_bl)) pss_nil)
      (pss_one (ps_ret (pe_cal C1 hr rfl (pa_cons (pv 0) (pa_cons (pv 1) (pa_cons (pv 2) pa_nil)))))), ?_⟩
    have last : ¬ ((d x).cr ≠ (d y).cr ∧ (d x).si ≠ (d y).si) → Q (.bl (decide (Ap g (d x) (d y)))) H := fun n => by
      by_cases c : Ap g (d x) (d y)
      · rw [decide_eq_true (show Tg true g (d x) (d y) from .inr c)] at q
        exact dQ c q
      · rw [decide_eq_false (show ¬ Tg true g (d x) (d y) from fun z => z.elim (fun z => n ⟨z.2.1, z.2.2⟩) c)] at q
        exact dN c q
    refine ⟨x, rfl, hx.ix0 ⟨y, rfl, hy.ix0 ⟨rfl, _, rfl, ?_⟩⟩⟩
    by_cases c0 : (d x).cr = (d y).cr
    · rw [show (!decide (V.int (d x).cr = V.int (d y).cr)) = false by rw [c0]; simp]
      refine iteF ?_
      exact iteF ⟨x, rfl, y, rfl, .int g, rfl, d, x, y, g, rfl, hx, hy, last fun z => z.1 c0⟩
    · rw [show (!decide (V.int (d x).cr = V.int (d y).cr)) = true by simp [c0]]
      refine iteT ?_
      refine ⟨x, rfl, hx.ix1 ⟨y, rfl, hy.ix1 ⟨rfl, _, rfl, ?_⟩⟩⟩
      by_cases c1 : (d x).si = (d y).si
      · rw [show (!decide (V.int (d x).si = V.int (d y).si)) = false by rw [c1]; simp]
        exact iteF ⟨x, rfl, y, rfl, .int g, rfl, d, x, y, g, rfl, hx, hy, last fun z => z.2 c1⟩
      · rw [show (!decide (V.int (d x).si = V.int (d y).si)) = true by simp [c1]]
        refine iteT ?_
        rw [decide_eq_true (show Tg true g (d x) (d y) from .inl ⟨rfl, c0, c1⟩)] at q
        exact q
end
end Orr
/-! fits_with, weight_of, check_contacts, best_by. -/
namespace Orr
open PySem PySem.Spec PyProof.Rows L2
section
variable {P : Program} {w : World} {K : PySem.W.Frag} {mg : Str → Option Value} {base : Heap}
theorem takeM {α : Type} {l : List α} {i : Nat} {x : α} (h : l[i]? = some x) : l.take (i + 1) = l.take i ++ [x] := by
  rw [List.take_add_one, h]
  rfl
theorem takeAll {α : Type} (l : List α) : l.take l.length = l := List.take_length
theorem take_le {α : Type} (l : List α) (i : Nat) {n : Nat} (h : l.length ≤ n) : (l.take i).length ≤ n := Nat.le_trans (List.length_take_le' i l) h
/-! ### fits_with -/
def Fits (d : V → Ct) (g : Int) (x : V) (ys : List V) : Prop := ∀ y ∈ ys, Tg true g (d x) (d y)
instance (d : V → Ct) (g : Int) (x : V) (ys : List V) : Decidable (Fits d g x ys) := inferInstanceAs (Decidable (∀ y ∈ ys, Tg true g (d x) (d y)))
def spFits (K : PySem.W.Frag) : Sp := fun vs H Q _ => ∃ (d : V → Ct) (x : V) (a : Addr) (ys : List V) (g : Int), vs = [x, .ref a, .int g] ∧ IsCt d H x ∧ SqL K H a ys ∧ AreCt d H ys ∧ Q (.bl (decide (Fits d g x ys))) H
theorem c_fits (D : Def K mg "fits_with" sFits) (C1 : Cal P w K mg base 3 "go_together" ["first", "second", "gap"] spGo) : Cal P w K mg base 4 "fits_with" ["contact", "taken", "gap"] (spFits K) := by
  refine D.cal (fun _ _ _ _ _ _ us hl => match us, hl with | [_, _, _], _ => rfl) fun f fd F => F.ok scFits (fun vs H Q E h => ?_) (fun cdv A outer s H vs Q E hr h => ?_)
  · obtain ⟨d, x, a, ys, g, rfl, _⟩ := h
    rfl
  · obtain ⟨d, x, a, ys, g, rfl, hx, hS, hys, q⟩ := h
    refine ⟨_, pss_cons (ps_for PassesOwn.never rfl (pi_list (pv 1)) (pg_name (i := 3) scFits.nd rfl (.inl rfl))
        (pss_one (ps_if (pt_not (pt_val (pe_cal C1 hr rfl (pa_cons (pv 0) (pa_cons (pv 3) (pa_cons (pv 2) pa_nil)))))) (pss_one (ps_ret pe_bl)) pss_nil)))
      (pss_one (ps_ret pe_bl)), ?_⟩
    refine ⟨_, rfl, a, rfl, ⟨_, hS⟩, for_list (xs := ys) (fun i σ H' => H' = H ∧ (∃ v, σ = [some x, some (.ref a), some (.int g), v]) ∧ ∀ y ∈ ys.take i, Tg true g (d x) (d y)) ⟨rfl, ⟨none, rfl⟩, fun y hy => absurd hy (by simp)⟩
      (fun i σ H' _ p => by rw [p.1]; exact hS) ?_ ?_⟩
    · rintro i y σ H' hi ⟨rfl, ⟨v, rfl⟩, hp⟩
      refine ⟨x, rfl, y, rfl, .int g, rfl, d, x, y, g, rfl, hx, hys.at hi, _, rfl, ?_⟩
      by_cases c : Tg true g (d x) (d y)
      · rw [decide_eq_true c]
        refine iteF ⟨rfl, ⟨_, rfl⟩, fun z hz => ?_⟩
        rw [takeM hi] at hz
        rcases List.mem_append.mp hz with hz | hz
        · exact hp z hz
        · have e : z = y := by simpa using hz
          rw [e]
          exact c
      · rw [decide_eq_false c]
        refine iteT ?_
        rw [decide_eq_false (show ¬ Fits d g x ys from fun z => c (z y (List.mem_of_getElem? hi)))] at q
        exact q
    · rintro σ H' ⟨rfl, ⟨v, rfl⟩, hp⟩
      rw [takeAll] at hp
      rw [decide_eq_true (show Fits d g x ys from hp)] at q
      exact q
/-! ### weight_of -/
def spWt (K : PySem.W.Frag) : Sp := fun vs H Q _ => ∃ (d : V → Ct) (a : Addr) (ys : List V), vs = [.ref a] ∧ SqL K H a ys ∧ AreCt d H ys ∧ ys.length ≤ 1000 ∧ ∀ H', Same H H' → Q (.int (wsum d ys)) H'
theorem c_wt (D : Def K mg "weight_of" sWeight) (mS : mg "sum" = none) : Cal P w K mg base 1 "weight_of" ["contacts"] (spWt K) := by
  refine D.cal (fun _ _ _ _ _ _ us hl => match us, hl with | [_], _ => rfl) fun f fd F => F.ok scWeight (fun vs H Q E h => ?_) (fun cdv A outer s H vs Q E hr h => ?_)
  · obtain ⟨d, a, ys, rfl, _⟩ := h
    rfl
  · obtain ⟨d, a, ys, rfl, hS, hys, hl, q⟩ := h
    refine ⟨_, pss_one (ps_ret (pe_callB (cr_sum rfl) (by rfl) mS (by decide +kernel) (pa_cons
      (pe_lc (own := [("contact", 1)]) (g := gName 1) (tt := tYes) rfl scWeight.nd (pi_list (pv 0)) (blkOk_by (N := ["contacts", "contact"]) (sc := defScope sWeight) (by decide +kernel))
        (fun _ _ _ _ _ => pg_name (i := 1) scWeight.nd rfl (Or.inl rfl)) (fun _ _ _ _ _ => pts_nil) (fun _ _ _ _ _ => pe_ix (r := rIxT K) ix_tup (pv 1) pe_int (fun _ _ => rfl))) pa_nil))), ?_⟩
    refine ⟨_, rfl, a, rfl, ⟨_, hS⟩, fun D nD => lc_list (K := K) (a := a) (xs := ys) (fun i H' => Same H H' ∧ H' D = some (.lst ((ys.take i).map fun x => .int (d x).we))) ⟨same_upd nD, upd_same⟩ (fun i H' _ p => p.1.seq hS) ?_ ?_⟩
    · rintro i x H' hi ⟨sm, hD⟩
      refine ⟨rfl, x, rfl, ((hys.at hi).mono sm).ix4 ⟨_, hD, ?_, ?_, ?_⟩⟩
      · rw [List.length_map]
        exact small1000 (take_le _ _ hl)
      · exact same_wr sm nD
      · rw [upd_same, takeM hi, List.map_append]
        rfl
    · rintro H' ⟨sm, hD⟩
      rw [takeAll] at hD
      refine ⟨D, ys.map fun x => (d x).we, rfl, ?_, q H' sm⟩
      rw [List.map_map]
      exact SqL.of hD
/-! ### check_contacts -/
def spCkC (K : PySem.W.Frag) : Sp := fun vs H Q _ => ∃ (d : V → Ct) (a : Addr) (ys : List V) (m : Int), vs = [.ref a, .int m] ∧ SqL K H a ys ∧ AreCt d H ys ∧ (ys.length : Int) ≤ m ∧ (∀ y ∈ ys, Gd (d y)) ∧ Q .non H
theorem c_ckc {t1 t2 : Tok} (D : Def K mg "check_contacts" sCkC) (C1 : Cal P w K mg base 1 "check" ["good", "name"] spCheck) (C2 : Cal P w K mg base 1 "is_tick" ["number"] spTick) (mL : mg "len" = none)
    (mT : mg "LAST_TICK" = some (.int 100000 t1)) (mW : mg "MOST_WEIGHT" = some (.int 1000000000000 t2)) : Cal P w K mg base 2 "check_contacts" ["contacts", "most"] (spCkC K) := by
  refine D.cal (fun _ _ _ _ _ _ us hl => match us, hl with | [_, _], _ => rfl) fun f fd F => F.ok scCkC (fun vs H Q E h => ?_) (fun cdv A outer s H vs Q E hr h => ?_)
  · obtain ⟨d, a, ys, m, rfl, _⟩ := h
    rfl
  · obtain ⟨d, a, ys, m, rfl, hS, hys, hl, hg, q⟩ := h
    refine ⟨_, pss_cons (ps_expr (pe_cal C1 hr rfl (pa_cons (pe_cmpR op_le (pe_callB call_len_seq (by rfl) mL PySem.boot_len (pa_cons (pv 0) pa_nil)) (pv 1) (nomark _)) (pa_cons pe_str pa_nil))))
      (pss_one (ps_for PassesOwn.never rfl (pi_list (pv 0))
        (pg_tup rfl (pgs_cons (pg_name (i := 2) scCkC.nd rfl (.inl rfl)) (pgs_cons (pg_name (i := 3) scCkC.nd rfl (.inl rfl)) (pgs_cons (pg_name (i := 4) scCkC.nd rfl (.inl rfl)) (pgs_cons (pg_name (i := 5) scCkC.nd rfl (.inl rfl)) (pgs_cons (pg_name (i := 6) scCkC.nd rfl (.inl rfl)) pgs_nil))))))
        (pss_cons (ps_expr (pe_cal C1 hr rfl (pa_cons (pe_and (pe_chain op_le op_le pe_int (pv 2) pe_int) (pe_one (pe_chain op_le op_le pe_int (pv 3) pe_int))) (pa_cons pe_str pa_nil))))
        (pss_cons (ps_expr (pe_cal C1 hr rfl (pa_cons (pe_and (pe_cal C2 hr rfl (pa_cons (pv 4) pa_nil)) (pe_one (pe_chain op_le op_le (pv 4) (pv 5) (pe_glob (v := .int 100000) rfl mT ⟨_, rfl⟩)))) (pa_cons pe_str pa_nil))))
        (pss_one (ps_expr (pe_cal C1 hr rfl (pa_cons (pe_chain op_le op_le pe_int (pv 6) (pe_glob (v := .int 1000000000000) rfl mW ⟨_, rfl⟩)) (pa_cons pe_str pa_nil))))))))), ?_⟩
    refine ⟨_, rfl, a, ys, rfl, .inl hS, _, rfl, _, _, rfl, rfl, _, lT hl, ?_⟩
    refine ⟨_, rfl, a, rfl, ⟨_, hS⟩, for_list (xs := ys) (fun i σ H' => H' = H ∧ ∃ v2 v3 v4 v5 v6, σ = [some (.ref a), some (.int m), v2, v3, v4, v5, v6]) ⟨rfl, none, none, none, none, none, rfl⟩
      (fun i σ H' _ p => by rw [p.1]; exact hS) ?_ ?_⟩
    · rintro i y σ H' hi ⟨rfl, v2, v3, v4, v5, v6, rfl⟩
      obtain ⟨t, rfl, ht⟩ := hys.at hi
      have G := hg _ (List.mem_of_getElem? hi)
      have g1 := G.cr0
      have g2 := G.crN
      have g3 := G.si0
      have g4 := G.siN
      have g5 := G.be0
      have g6 := G.beN
      have g7 := G.enN
      have g8 := G.we0
      have g9 := G.weN
      refine ⟨t, _, rfl, SqT.of ht, rfl, _, _, rfl, _, _, rfl, _, _, rfl, _, _, rfl, _, _, rfl, rfl, ?_⟩
      refine ⟨_, rfl, _, _, rfl, rfl, true, dT g1, iteT ⟨_, _, rfl, rfl, true, dT (by omega), iteT ?_⟩⟩
      refine ⟨_, rfl, _, _, rfl, rfl, true, dT g3, iteT ⟨_, _, rfl, rfl, _, lT (by omega), ?_⟩⟩
      refine ⟨_, rfl, _, rfl, ⟨g5, by omega⟩, true, rfl, iteT ?_⟩
      refine ⟨_, rfl, _, rfl, _, _, rfl, rfl, true, dT g6, iteT ⟨_, _, rfl, rfl, _, lT (by omega), ?_⟩⟩
      refine ⟨_, rfl, _, _, rfl, rfl, true, dT g8, iteT ⟨_, _, rfl, rfl, _, lT g9, ?_⟩⟩
      exact ⟨rfl, _, _, _, _, _, rfl⟩
    · rintro σ H' ⟨rfl, _⟩
      exact q
end
end Orr
/-! sorted(xs, key=f), f a def that keeps a promise: a rule over the hand layer. -/
namespace Orr
open PySem PySem.Spec PyProof.Rows L2
/-- while sorted runs: the new list at a is empty, the keys so far stand at kS, Hc is what is tracked by now -/
structure KS (X : Cx) (H : Hp) (s : Shared) (a kS : Addr) (e1 : Nat) (keys : List Value) (Hc : Hp) (s' : Shared) : Prop where
  os : s'.os = s.os
  bare : AllBare s'.gens
  un : Un (frs X.stack) [] H Hc s.heap s'.heap
  hok : HOk X.prog X.w Hc s'.heap
  la : s'.heap.get? a = some (seqObj "list" #[] e1)
  lk : ∃ n, s'.heap.get? kS = some (seqObj "list" keys.toArray n)
  na : Hc a = none
  nk : Hc kS = none
  same : Same H Hc
section
variable {X : Cx} {pins : List (Addr × Obj)} {σ : L2.St} {H Hc : Hp} {s s' : Shared} {a kS : Addr} {e1 : Nat} {keys : List Value}
theorem KS.inv (I : Inv X pins σ H s) (k : KS X H s a kS e1 keys Hc s') : Inv X pins σ Hc s' := by
  obtain ⟨hh, g, dr, t, os'⟩ := s'
  obtain rfl : os' = s.os := k.os
  exact I.call (h' := hh) (g' := g) (d' := dr) (t' := t) (ch := []) k.un k.hok k.bare (fun b z => absurd z (by simp))
theorem nofr (I : Inv X pins σ H s) {b : Addr} (h : s.heap.objs.size ≤ b) : b ∉ frs X.stack := fun hb => by
  rcases List.mem_cons.mp (I.stkSub b hb) with e | e
  · exact absurd I.lt (by rw [← e]; exact Nat.not_lt.mpr h)
  · exact I.nofs h e
/-- the key of one item is asked -/
theorem KS.ask {k : Nat} {f : Addr} {fd : FuncData} {p : Str} {sp : Sp} {R : V → V → Hp → Prop} {x : V} {u : Value} (I : Inv X pins σ H s) (K : KS X H s a kS e1 keys Hc s') (ha : s.heap.objs.size ≤ a) (hk : s.heap.objs.size ≤ kS)
    (F : FnOk X.prog X.w X.K X.mg X.base CX0 k f fd [p] sp) (hb : Binds X.K fd [p] []) (hr : Room k X.A.in1.in1) (rx : RelV x u) (h : sp [x] Hc (fun v H2 => Same Hc H2 ∧ R x v H2) E0) :
    wpAny (model X.prog X.w) X.A.in1.in1 (call (.ref f) [u]) (fun kv s2 => ∃ v Hd, KS X H s a kS e1 keys Hd s2 ∧ RelV v kv ∧ Same Hc Hd ∧ R x v Hd) (fun _ _ => False) s' := by
  have I' := K.inv I
  refine wpAny_call (codeAny_mono (F.run X.A.in1.in1 X.stack s' Hc ⟨[u], []⟩ [u] [x] _ E0 hr I'.env0.in1.in1 (hb s' [u] I'.kIn rfl) (.cons rx .nil) h) fun r s2 hq => ?_)
  cases r with
  | error e => exact False.elim hq
  | ok fl =>
    cases fl with
    | next => exact False.elim hq
    | brk => exact False.elim hq
    | cont => exact False.elim hq
    | ret kv =>
      obtain ⟨v, H2, os, bare, un, hok, rv, sm, q⟩ := hq
      obtain ⟨n, hn⟩ := K.lk
      have na : a ∉ frs X.stack := nofr I ha
      have nk : kS ∉ frs X.stack := nofr I hk
      exact ⟨v, H2, ⟨os.trans K.os, bare, K.un.trans un, hok, un.keep a _ K.la K.na na (by simp), ⟨n, un.keep kS _ hn K.nk nk (by simp)⟩, un.free a _ K.la K.na (by simp), un.free kS _ hn K.nk (by simp), K.same.trans sm⟩, rv, sm, q⟩
/-- a key is put behind -/
theorem KS.push {kv : Value} (K : KS X H s a kS e1 keys Hc s') (hk : s.heap.objs.size ≤ kS) (hak : a ≠ kS) : KS X H s a kS e1 (keys ++ [kv]) Hc { s' with heap := s'.heap.update kS (Obj.mapSeq (·.push kv)) } := by
  obtain ⟨n, hn⟩ := K.lk
  have sb := Heap.SameBut.update s'.heap kS (Obj.mapSeq (·.push kv))
  have old : ∀ b o, s.heap.get? b = some o → b ≠ kS := fun b o e => Nat.ne_of_lt (Nat.lt_of_lt_of_le (Heap.lt_size e) hk)
  have e2 : (keys.toArray).push kv = (keys ++ [kv]).toArray := by simp
  refine ⟨K.os, K.bare, ⟨fun b o q m h1 h2 => (sb.2 b (old b o q)).trans (K.un.keep b o q m h1 h2), fun b o q m h1 h2 => ?_, K.un.free, fun b o q h1 => ?_, K.un.tups, K.un.frzs, K.un.tbls⟩, fun b o e => ?_, (sb.2 a hak).trans K.la, ⟨_, by rw [← e2]; exact get?_update_seq hn (·.push kv)⟩, K.na, K.nk, K.same⟩
  · obtain ⟨sl, e⟩ := K.un.slot b o q m h1 h2
    exact ⟨sl, (sb.2 b (old b o q)).trans e⟩
  · obtain ⟨o', e⟩ := K.un.there b o q h1
    exact ⟨o', (sb.2 b (old b o q)).trans e⟩
  · refine (K.hok b o e).stay (fun c v hc q => (sb.2 c ?_).trans q) (fun _ q => q) fun _ _ q => q
    rcases hc with z | z
    · rw [z]
      intro w
      rw [w, K.nk] at e
      cases e
    · intro w
      rw [w, K.nk] at z
      cases z
end
/-- how the keys are compared -/
def KeySort (X : Cx) (R : V → V → Hp → Prop) (xs : List V) (LT : V → V → Bool) : Prop :=
  ∀ (s1 : Shared) (Hc : Hp) (a : Addr) (e1 : Nat) (kvs : List V) (keys : List Value), HOk X.prog X.w Hc s1.heap → s1.heap.get? a = some (seqObj "list" #[] e1) → Vals kvs keys → kvs.length = xs.length → (∀ (i : Nat) (x v : V), xs[i]? = some x → kvs[i]? = some v → R x v Hc) → 2 ≤ keys.length →
    ∃ ltv : Value → Value → Bool, SrtO.Swo ltv ∧ SrtO.SortableO X.prog X.w X.A.in1.in1 s1 a keys ltv ∧
      ∀ (i j : Nat) (x y : V) (u v : Value), xs[i]? = some x → xs[j]? = some y → keys[i]? = some u → keys[j]? = some v → ltv u v = LT x y
/-- sorted(xs, key=f) -/
def rSortF (K : PySem.W.Frag) (f : Addr) (sp : Sp) (G : (V → V → Hp → Prop) → List V → (V → V → Bool) → Prop) : List V → List V → Hp → VK → Prop := fun vs zs H Q => ∃ (a : Addr) (xs : List V) (R : V → V → Hp → Prop) (LT : V → V → Bool), vs = [.ref a] ∧ zs = [.ref f] ∧ SqL K H a xs ∧
  (∀ x ∈ xs, ∃ t, x = .ref t) ∧ (∀ x v H1 H2, R x v H1 → Same H1 H2 → R x v H2) ∧ (∀ x ∈ xs, ∀ H1, Same H H1 → sp [x] H1 (fun v H2 => Same H1 H2 ∧ R x v H2) E0) ∧ G R xs LT ∧
  ∀ (ys : List V) (p : Addr) (H' : Hp), Same H H' → H p = none → H' p = some (.lst ys) → ys.Perm xs → ys.Pairwise (fun x y => LT y x = false) → Q (.ref p) H'
section
variable {X : Cx} {pins : List (Addr × Obj)} {σ : L2.St} {H Hc : Hp} {s s' : Shared} {a kS : Addr} {e1 : Nat}
theorem zip_at {keys its : List Value} {p : Value × Value} (h : p ∈ keys.zip its) : ∃ i : Nat, keys[i]? = some p.1 ∧ its[i]? = some p.2 := by
  obtain ⟨i, hi⟩ := List.mem_iff_getElem?.mp h
  exact ⟨i, List.getElem?_zip_eq_some.mp hi⟩
/-- the sorted items are put back -/
theorem KS.tail {its keys : List Value} {kvs xs : List V} {R : V → V → Hp → Prop} {LT : V → V → Bool} {ltv : Value → Value → Bool} {st : SortSt} {Q : VK} {E : Value → Shared → Prop} (I : Inv X pins σ H s) (K : KS X H s a kS e1 keys Hc s') (ha : s.heap.objs.size ≤ a) (hk : s.heap.objs.size ≤ kS) (hak : a ≠ kS)
    (rv : Vals xs its) (href : ∀ x ∈ xs, ∃ t, x = V.ref t) (hz : its.length ≤ sizeLine) (hkl : keys.length = its.length)
    (hc : ∀ (i j : Nat) (x y : V) (u v : Value), xs[i]? = some x → xs[j]? = some y → keys[i]? = some u → keys[j]? = some v → ltv u v = LT x y)
    (h1 : SrtO.Srtd (SrtO.lt2 ltv) (arrOf st).toList) (h2 : (arrOf st).toList.Perm (keys.zip its)) (hf : failedOf st = none)
    (q : ∀ (ys : List V) (p : Addr) (H' : Hp), Same H H' → H p = none → H' p = some (.lst ys) → ys.Perm xs → ys.Pairwise (fun x y => LT y x = false) → Q (.ref p) H') :
    wpAny (model X.prog X.w) X.A.in1.in1 (ksk_tail a false e1 (.ref kS) st) (fun fin s2 => ∃ v, fin = .done (.ret v) ∧ EP X pins σ Q (.ref a) s2) E s' := by
  obtain ⟨n, hn⟩ := K.lk
  obtain ⟨x1, x2⟩ := refs_back rv href
  have p2 : ((arrOf st).toList.map (fun p : Keyed => p.2)).Perm its := by
    have e : (keys.zip its).map (fun p : Keyed => p.2) = its := List.map_snd_zip (by omega)
    have := h2.map (fun p : Keyed => p.2)
    rw [e] at this
    exact this
  have hso : (((arrOf st).map (·.2)).toList) = (arrOf st).toList.map (fun p : Keyed => p.2) := by rw [Array.toList_map]
  have hsz : ((arrOf st).map (·.2)).size = its.length := by
    rw [← Array.length_toList, hso]
    exact p2.length_eq
  have hr : ∀ u ∈ (arrOf st).toList.map (fun p : Keyed => p.2), ∃ t, u = Value.ref t := fun u hu => x2 u (p2.mem_iff.mp hu)
  have s1 := Heap.SameBut.update s'.heap kS (Obj.mapSeq fun _ => (#[] : Array Value))
  have na1 : (s'.heap.update kS (Obj.mapSeq fun _ => (#[] : Array Value))).get? a = some (seqObj "list" #[] e1) := (s1.2 a hak).trans K.la
  have s2 := Heap.SameBut.update (s'.heap.update kS (Obj.mapSeq fun _ => (#[] : Array Value))) a (Obj.mapSeq fun _ => (arrOf st).map (·.2))
  obtain ⟨c2, hc2⟩ : ∃ c2, ((s'.heap.update kS (Obj.mapSeq fun _ => (#[] : Array Value))).update a (Obj.mapSeq fun _ => (arrOf st).map (·.2))).get? a = some (seqObj "list" ((arrOf st).map (·.2)) c2) := ⟨_, get?_update_seq na1 fun _ => (arrOf st).map (·.2)⟩
  have hb : keys.toArray.size ≤ sizeLine := by
    rw [List.size_toArray]
    omega
  unfold ksk_tail
  try dsimp only
  refine wpAny_bind (listUpdate_at hn rfl ?_ hb (Nat.zero_le _))
  refine wpAny_bind (wpAny_letGo ?_)
  refine wpAny_bind (seqEpoch_at na1 rfl ?_)
  simp only [Bool.false_eq_true, if_false]
  refine wpAny_bind (listUpdate_at na1 rfl ?_ (Nat.zero_le _) (Nat.le_trans (Nat.le_of_eq hsz) (Nat.le_succ_of_le hz)))
  rw [hf]
  simp only [bne_self_eq_false, Bool.false_eq_true, if_false]
  refine wpAny_pure ⟨_, rfl, ?_⟩
  have old : ∀ b o, s.heap.get? b = some o → b ≠ a := fun b o e => Nat.ne_of_lt (Nat.lt_of_lt_of_le (Heap.lt_size e) ha)
  have trkA : ∀ b o, Hc b = some o → b ≠ a := fun b o e z => by
    rw [z, K.na] at e
    cases e
  have trkK : ∀ b o, Hc b = some o → b ≠ kS := fun b o e z => by
    rw [z, K.nk] at e
    cases e
  have hys : (((arrOf st).toList.map (fun p : Keyed => p.2)).map backV).Perm xs := by
    rw [x1]
    exact p2.map backV
  have hHa : H a = none := I.hok.fresh ha
  have nk0 : ∀ b o, s.heap.get? b = some o → H b = none → b ≠ kS ∨ True := fun _ _ _ _ => .inr trivial
  have far : ∀ b o, b ≠ a → b ≠ kS → s'.heap.get? b = some o → ((s'.heap.update kS (Obj.mapSeq fun _ => (#[] : Array Value))).update a (Obj.mapSeq fun _ => (arrOf st).map (·.2))).get? b = some o := fun b o h1 h2 e => (s2.2 b h1).trans ((s1.2 b h2).trans e)
  have hok : HOk X.prog X.w (upd Hc a (.lst (((arrOf st).toList.map (fun p : Keyed => p.2)).map backV))) ((s'.heap.update kS (Obj.mapSeq fun _ => (#[] : Array Value))).update a (Obj.mapSeq fun _ => (arrOf st).map (·.2))) := fun b o e => by
    by_cases hba : b = a
    · subst hba
      rw [upd_same] at e
      cases e
      refine ⟨?_, (arrOf st).toList.map (fun p : Keyed => p.2), c2, vals_back hr, ?_⟩
      · rw [List.length_map, p2.length_eq]
        exact hz
      · rw [← hso, Array.toArray_toList]
        exact hc2
    · rw [upd_ne hba] at e
      refine (K.hok b o e).stay (fun c v hc q => far c v ?_ ?_ q) (fun c q => by rw [upd_ne (trkA c _ q)]; exact q) fun c ws q => by rw [upd_ne (trkA c _ q)]; exact q
      · rcases hc with z | z
        · rw [z]; exact hba
        · exact trkA c _ z
      · rcases hc with z | z
        · rw [z]; exact trkK b o e
        · exact trkK c _ z
  have oldK : ∀ b o, s.heap.get? b = some o → b ≠ kS := fun b o e => Nat.ne_of_lt (Nat.lt_of_lt_of_le (Heap.lt_size e) hk)
  have un2 : Un (frs X.stack) [] H (upd Hc a (.lst (((arrOf st).toList.map (fun p : Keyed => p.2)).map backV))) s.heap ((s'.heap.update kS (Obj.mapSeq fun _ => (#[] : Array Value))).update a (Obj.mapSeq fun _ => (arrOf st).map (·.2))) := by
    refine ⟨fun b o q m h1 h2 => far b o (old b o q) (oldK b o q) (K.un.keep b o q m h1 h2), fun b o q m h1 h2 => ?_, fun b o q m h => by rw [upd_ne (old b o q)]; exact K.un.free b o q m h, fun b o q h => ?_,
      fun b ws q => by rw [upd_ne (trkA b _ (K.un.tups b ws q))]; exact K.un.tups b ws q, fun b o u q => by rw [upd_ne (trkA b _ (K.un.frzs b o u q))]; exact K.un.frzs b o u q, fun b ps q => ?_⟩
    · obtain ⟨sl, e⟩ := K.un.slot b o q m h1 h2
      exact ⟨sl, far b _ (old b o q) (oldK b o q) e⟩
    · obtain ⟨o', e⟩ := K.un.there b o q h
      exact ⟨o', far b _ (old b o q) (oldK b o q) e⟩
    · obtain ⟨m, e⟩ := K.un.tbls b ps q
      exact ⟨m, by rw [upd_ne (trkA b _ e)]; exact e⟩
  have hpw : ((((arrOf st).toList.map (fun p : Keyed => p.2)).map backV)).Pairwise (fun x y => LT y x = false) := by
    refine List.pairwise_map.mpr (List.pairwise_map.mpr (List.Pairwise.imp_of_mem (fun {u v} hu hv h => ?_) h1))
    obtain ⟨i, i1, i2⟩ := zip_at (h2.mem_iff.mp hu)
    obtain ⟨j, j1, j2⟩ := zip_at (h2.mem_iff.mp hv)
    have xi : xs[i]? = some (backV u.2) := by rw [x1, List.getElem?_map, i2]; rfl
    have xj : xs[j]? = some (backV v.2) := by rw [x1, List.getElem?_map, j2]; rfl
    rw [← hc j i _ _ _ _ xj xi j1 i1]
    exact h
  have sm2 : Same H (upd Hc a (.lst (((arrOf st).toList.map (fun p : Keyed => p.2)).map backV))) := fun b o e => by
    rw [upd_ne (trkA b o (K.same b o e))]
    exact K.same b o e
  obtain ⟨hh, g, dr, t, os'⟩ := s'
  obtain rfl : os' = s.os := K.os
  exact ⟨.ref a, _, I.call (h' := (hh.update kS (Obj.mapSeq fun _ => (#[] : Array Value))).update a (Obj.mapSeq fun _ => (arrOf st).map (·.2))) (g' := g) (d' := dr) (t' := t) (ch := []) un2 hok K.bare (fun b z => absurd z (by simp)), rfl, q _ a _ sm2 hHa upd_same hys hpw⟩
end
end Orr
/-! sorted(xs, key=f): the rule itself. -/
namespace Orr
open PySem PySem.Spec PyProof.Rows L2
section
variable {X : Cx} {pins : List (Addr × Obj)} {σ : L2.St} {H Hc : Hp} {s s' : Shared} {a kS : Addr} {e1 : Nat}
theorem KS.fin {its keys : List Value} {kvs xs : List V} {R : V → V → Hp → Prop} {LT : V → V → Bool} {Q : VK} {E : Value → Shared → Prop} (I : Inv X pins σ H s) (K : KS X H s a kS e1 keys Hc s') (ha : s.heap.objs.size ≤ a) (hk : s.heap.objs.size ≤ kS) (hak : a ≠ kS)
    (rv : Vals xs its) (href : ∀ x ∈ xs, ∃ t, x = V.ref t) (hz : its.length ≤ sizeLine) (rk : Vals kvs keys) (hkl : kvs.length = xs.length) (hR : ∀ (i : Nat) (x v : V), xs[i]? = some x → kvs[i]? = some v → R x v Hc) (hG : KeySort X R xs LT)
    (q : ∀ (ys : List V) (p : Addr) (H' : Hp), Same H H' → H p = none → H' p = some (.lst ys) → ys.Perm xs → ys.Pairwise (fun x y => LT y x = false) → Q (.ref p) H') :
    wpAny (model X.prog X.w) X.A.in1.in1 (ksk_end a false its.toArray e1 (.ref kS) keys.toArray) (fun fin s2 => ∃ v, fin = .done (.ret v) ∧ EP X pins σ Q (.ref a) s2) E s' := by
  have l1 : keys.length = its.length := by
    rw [← rk.length, hkl]
    exact rv.length
  have ez : (keys.toArray.zip its.toArray).toList = keys.zip its := by rw [ksk_zip]
  unfold ksk_end
  try dsimp only
  simp only [Bool.false_eq_true, if_false]
  by_cases h2 : its.toArray.size < 2
  · rw [if_pos h2, if_pos h2]
    refine wpAny_bind (wpAny_pure ?_)
    rw [StateT.run_pure]
    refine wpAny_bind (wpAny_pure ?_)
    try dsimp only
    rw [List.size_toArray] at h2
    have h2' := h2
    refine K.tail (kvs := kvs) (R := R) (LT := fun _ _ => false) (ltv := fun u v => false) (st := SortSt.mk' general' (keys.toArray.zip its.toArray) #[] 7 none) I ha hk hak rv href hz l1 (fun i j x y u v hi hj _ _ => rfl) ?_ ?_ rfl fun ys p H' h1 h2 h3 h4 h5 => q ys p H' h1 h2 h3 h4 ?_
    · exact List.pairwise_iff_forall_sublist.mpr fun _ => rfl
    · show (keys.toArray.zip its.toArray).toList.Perm (keys.zip its)
      rw [ez]
    · have hl : ys.length < 2 := by
        rw [h4.length_eq, rv.length]
        exact h2'
      match ys, hl with
      | [], _ => exact .nil
      | [x], _ => exact List.pairwise_singleton _ _
      | _ :: _ :: l, h => exact absurd h (by rw [List.length_cons, List.length_cons]; omega)
  · rw [if_neg h2, if_neg h2]
    rw [List.size_toArray] at h2
    obtain ⟨ltv, O, hS, hc⟩ := hG s' Hc a e1 kvs keys K.hok K.la rk hkl hR (by omega)
    obtain ⟨κ, hkind, hT⟩ := hS s'.heap fun b o _ e => e
    refine wpAny_bind (hkind _ _ ?_)
    have hall : SrtO.AllL (fun p : Keyed => p.1 ∈ keys) (keys.toArray.zip its.toArray).toList := fun p hm => by
      rw [ez] at hm
      exact (List.of_mem_zip hm).1
    refine wpAny_bind (wpAny_mono (SrtO.wpS_sortO (st0 := SortSt.mk' κ (keys.toArray.zip its.toArray) #[] 7 none)
      (Q := fun _ st' => SrtO.Srtd (SrtO.lt2 ltv) (arrOf st').toList ∧ SrtO.Stb (SrtO.lt2 ltv) (arrOf st').toList (keys.toArray.zip its.toArray).toList ∧ failedOf st' = none) (SrtO.swo2 O) hT rfl hall rfl rfl fun st' a1 a2 a3 => ⟨a1, a2, a3⟩) ?_ fun _ _ e => e)
    rintro ⟨⟨⟩, st'⟩ s2 ⟨rfl, hp1, hp2, hf⟩
    try dsimp only
    have pp := hp2.perm
    rw [ez] at pp
    exact K.tail (kvs := kvs) (R := R) I ha hk hak rv href hz l1 hc hp1 pp hf q
theorem KS.rest {k : Nat} {f : Addr} {fd : FuncData} {p : Str} {sp : Sp} {its : List Value} {xs : List V} {R : V → V → Hp → Prop} {LT : V → V → Bool} {Q : VK} {E : Value → Shared → Prop} (I : Inv X pins σ H s) (K : KS X H s a kS e1 [] H s') (ha : s.heap.objs.size ≤ a) (hk : s.heap.objs.size ≤ kS) (hak : a ≠ kS)
    (F : FnOk X.prog X.w X.K X.mg X.base CX0 k f fd [p] sp) (hb : L2.Binds X.K fd [p] []) (hr : Room k X.A.in1.in1)
    (rv : Vals xs its) (href : ∀ x ∈ xs, ∃ t, x = V.ref t) (hz : its.length ≤ sizeLine) (hmono : ∀ x v H1 H2, R x v H1 → Same H1 H2 → R x v H2) (hkey : ∀ x ∈ xs, ∀ H1, Same H H1 → sp [x] H1 (fun v H2 => Same H1 H2 ∧ R x v H2) E0) (hG : KeySort X R xs LT)
    (q : ∀ (ys : List V) (p : Addr) (H' : Hp), Same H H' → H p = none → H' p = some (.lst ys) → ys.Perm xs → ys.Pairwise (fun x y => LT y x = false) → Q (.ref p) H') :
    wpAny (model X.prog X.w) X.A.in1.in1 (ksk_rest a (.ref f) false its.toArray e1 (.ref kS)) (fun fin s2 => ∃ v, fin = .done (.ret v) ∧ EP X pins σ Q (.ref a) s2) E s' := by
  have hlen : xs.length = its.length := rv.length
  unfold ksk_rest
  refine wpAny_bind (wpAny_rule ?_)
  first
    | rw [List.forIn_toArray]
    | (rw [← Array.forIn_toList]; simp only [List.toList_toArray])
    | rw [← Array.forIn_toList]
  refine wpAny_bind (ksk_fold (fun i s2 => ∃ (Hc : Hp) (kvs : List V) (keys : List Value), KS X H s a kS e1 keys Hc s2 ∧ Vals kvs keys ∧ kvs.length = i ∧ ∀ (j : Nat) (x v : V), xs[j]? = some x → kvs[j]? = some v → R x v Hc) its 0 s'
    ⟨H, [], [], K, .nil, rfl, fun j x v _ h => absurd h (by simp)⟩ ?step ?done)
  case step =>
    rintro j u s2 hu ⟨Hc, kvs, keys, K2, rk, lk, hR⟩
    rw [Nat.zero_add] at lk
    have hj : j < its.length := (List.getElem?_eq_some_iff.mp hu).1
    have hx : xs[j]? = some xs[j] := List.getElem?_eq_getElem (by omega)
    obtain ⟨u2, hu2, rx⟩ := rv.get hx
    have eu : u2 = u := Option.some.inj (hu2.symm.trans hu)
    subst eu
    have kl : keys.length = j := by rw [← rk.length]; exact lk
    refine wpAny_bind (wpAny_attempt (wpAny_mono (K2.ask (R := R) I ha hk F hb hr rx (hkey _ (List.mem_of_getElem? hx) Hc K2.same)) (fun kv s3 hq => ?_) fun _ _ hF => hF.elim))
    obtain ⟨v, Hd, K3, rkv, sm, hv⟩ := hq
    obtain ⟨n, hn⟩ := K3.lk
    try dsimp only
    refine wpAny_bind (listUpdate_at hn rfl ?_ (by rw [List.size_toArray]; omega) (Nat.le_trans (Nat.le_of_eq (Array.size_push ..)) (by rw [List.size_toArray]; omega)))
    refine wpAny_pure ⟨rfl, Hd, kvs ++ [v], keys ++ [kv], K3.push hk hak, rk.append (.cons rkv .nil), by rw [List.length_append, lk]; simp, fun i x y hx2 hy => ?_⟩
    by_cases hi : i < kvs.length
    · rw [List.getElem?_append_left hi] at hy
      exact hmono _ _ _ _ (hR i x y hx2 hy) sm
    · have hi2 : i < (kvs ++ [v]).length := (List.getElem?_eq_some_iff.mp hy).1
      rw [List.length_append, List.length_singleton] at hi2
      have e : i = kvs.length := by omega
      subst e
      rw [List.getElem?_concat_length] at hy
      rw [lk, hx] at hx2
      cases hx2
      cases hy
      exact hv
  case done =>
    rintro s2 ⟨Hc, kvs, keys, K2, rk, lk, hR⟩
    rw [Nat.zero_add] at lk
    obtain ⟨n, hn⟩ := K2.lk
    try dsimp only
    refine wpAny_bind (listItems_at hn rfl ?_)
    exact K2.fin I ha hk hak rv href hz rk (by omega) hR hG q
end
/-- the heap with a list that was filled with the items A, and a list of them beside it -/
def twoLists (h : Heap) (A : Array Value) : Heap := ((h.push (seqObj "list" #[] 0)).update h.objs.size (Obj.mapSeq (· ++ A))).push (seqObj "list" A 0)
theorem first_list (h : Heap) (A : Array Value) : ((h.push (seqObj "list" #[] 0)).update h.objs.size (Obj.mapSeq (· ++ A))).objs.size = h.objs.size + 1 :=
  (Heap.size_update _ _ _).trans (size_push' _ _)
theorem two_lists (h : Heap) (A : Array Value) : (twoLists h A).objs.size = h.objs.size + 2 ∧ (twoLists h A).get? (h.objs.size + 1) = some (seqObj "list" A 0) ∧ ∀ b o, h.get? b = some o → b ≠ h.objs.size + 1 ∧ (twoLists h A).get? b = some o := by
  have e := first_list h A
  refine ⟨(size_push' _ _).trans (congrArg (· + 1) e), e ▸ Heap.get?_push_size _ rfl, fun b o q => ?_⟩
  have l : b < h.objs.size := Heap.lt_size q
  exact ⟨Nat.ne_of_lt (Nat.lt_succ_of_lt l), Heap.get?_push_of_some _ ((Heap.get?_update_ne _ _ _ _ (Nat.ne_of_lt l)).trans (Heap.get?_push_of_some _ q))⟩
section
variable {X : Cx} {k : Nat} {f : Addr} {fd : FuncData} {p : Str} {sp : Sp} {G : (V → V → Hp → Prop) → List V → (V → V → Bool) → Prop}
theorem cr_sortF (F : FnOk X.prog X.w X.K X.mg X.base CX0 k f fd [p] sp) (hb : L2.Binds X.K fd [p] []) (hr : Room (k + 2) X.A) (hG : ∀ R xs LT, G R xs LT → KeySort X R xs LT) : CallRK X (.builtin "sorted") [Str.ofString "key"] (rSortF X.K f sp G) := by
  intro pins s σ H vs zs us ws Q I r rz h
  obtain ⟨l, xs, R, LT, rfl, rfl, hs, href, hmono, hkey, g, q⟩ := h
  obtain rfl := Vals.ref1 r
  obtain ⟨w1, rfl, ew⟩ := vals1 rz
  obtain rfl : w1 = Value.ref f := ew
  obtain ⟨its, rv, hl0, hz0⟩ := I.list hs
  have hz : its.length ≤ sizeLine := by rw [← rv.length]; exact hz0
  have hl := hl0.isList
  obtain ⟨hs1, hoL, keep⟩ := two_lists s.heap its.toArray
  have hsz := first_list s.heap its.toArray
  refine call_function_entry_kw kind_sorted plain_sorted entry_sorted (ksk_s1 _ _) ?_
  unfold Builtin.«sorted»
  -- the items are counted and collected into a list; a copy of that list is the answer
  refine wpAny_bind (wpAny_pure (wpAny_bind (collect_list hl (wpAny_bind (wpAny_newList ?_ hz)) hz)))
  show wpAny _ _ _ _ _ { s with heap := twoLists s.heap its.toArray }
  rw [hsz]
  generalize twoLists s.heap its.toArray = h1 at hs1 hoL keep ⊢
  refine wpAny_bind (wpAny_holding (wpAny_call_entry_kw slot_list_sort ⟨_, hoL, rfl⟩ entry_list_sort (wpAny_mono (Q := fun fin s2 => ∃ v, fin = .done (.ret v) ∧ EP X pins σ Q (.ref (s.heap.objs.size + 1)) s2) (E := X.xe) ?body (fun fin s2 hf => ?post) fun _ _ e => e) (ksk_l1 _ _)))
  case post =>
    obtain ⟨v, e, hq⟩ := hf
    exact ⟨v, e, wpAny_pure ⟨_, rfl, hq⟩⟩
  case body =>
    show wpAny _ _ (Builtin.«list.sort» ⟨[.ref (s.heap.objs.size + 1)], [(Str.ofString "key", .ref f)]⟩) _ _ _
    rw [ksk_t1]
    obtain ⟨e1, ho1⟩ : ∃ e1, (h1.update (s.heap.objs.size + 1) (Obj.mapSeq fun _ => (#[] : Array Value))).get? (s.heap.objs.size + 1) = some (seqObj "list" #[] e1) := ⟨_, get?_update_seq hoL fun _ => #[]⟩
    have sb := Heap.SameBut.update h1 (s.heap.objs.size + 1) (Obj.mapSeq fun _ => (#[] : Array Value))
    have hs2 : ((h1.update (s.heap.objs.size + 1) (Obj.mapSeq fun _ => (#[] : Array Value))).push (seqObj "tuple" its.toArray 0)).objs.size = s.heap.objs.size + 3 := by rw [size_push', Heap.size_update, hs1]
    unfold ksk_tree
    refine wpAny_bind (listItems_at hoL rfl ?_)
    refine wpAny_bind (listUpdate_at hoL rfl ?_ (by rw [List.size_toArray]; exact hz) (Nat.zero_le _))
    refine wpAny_bind (seqEpoch_at ho1 rfl ?_)
    refine wpAny_bind (wpAny_newTuple ?_ (by show its.length ≤ _; exact hz))
    refine wpAny_bind (wpAny_newList ?_ (Nat.zero_le _))
    refine wpAny_holding ?_
    show wpAny _ _ _ _ _ { s with heap := ((h1.update (s.heap.objs.size + 1) (Obj.mapSeq fun _ => (#[] : Array Value))).push (seqObj "tuple" its.toArray 0)).push (seqObj "list" #[] 0) }
    have kp : ∀ b o, s.heap.get? b = some o → (((h1.update (s.heap.objs.size + 1) (Obj.mapSeq fun _ => (#[] : Array Value))).push (seqObj "tuple" its.toArray 0)).push (seqObj "list" #[] 0)).get? b = some o := fun b o e =>
      Heap.get?_push_of_some _ (Heap.get?_push_of_some _ ((sb.2 b (keep b o e).1).trans (keep b o e).2))
    refine KS.rest (xs := xs) (R := R) (LT := LT) I ⟨rfl, I.bare, Un.kept kp, I.hok.kept kp, Heap.get?_push_of_some _ (Heap.get?_push_of_some _ ho1), ⟨0, ?_⟩, I.hok.fresh (Nat.le_succ _), I.hok.fresh ?_, fun _ _ e => e⟩ (Nat.le_succ _) ?_ ?_ F hb (hr.in1.in1) rv href hz hmono hkey (hG R xs LT g) q
    · exact Heap.get?_push_size _ rfl
    · rw [hs2]
      exact Nat.le_add_right _ 3
    · rw [hs2]
      exact Nat.le_add_right _ 3
    · rw [hs2]
      exact Nat.ne_of_lt (Nat.add_lt_add_left (by decide) _)
end
/-! ### keys that are ints; keys that are pairs of ints -/
def GInt (R : V → V → Hp → Prop) (xs : List V) (LT : V → V → Bool) : Prop := ∃ kf : V → Int, R = (fun x v _ => v = .int (kf x)) ∧ LT = fun x y => decide (kf x < kf y)
theorem keys_int {X : Cx} (R : V → V → Hp → Prop) (xs : List V) (LT : V → V → Bool) (g : GInt R xs LT) : KeySort X R xs LT := by
  obtain ⟨kf, rfl, rfl⟩ := g
  intro s1 Hc a e1 kvs keys hok la rk hl hR h2
  have e : kvs = (xs.map kf).map V.int := by
    refine List.ext_getElem? fun i => ?_
    rw [List.map_map, List.getElem?_map]
    by_cases hi : i < xs.length
    · have hx := List.getElem?_eq_getElem hi
      have hk : kvs[i]? = some (kvs[i]'(by omega)) := List.getElem?_eq_getElem (by omega)
      have := hR i _ _ hx hk
      rw [hk, hx, this]
      rfl
    · rw [List.getElem?_eq_none (by omega), List.getElem?_eq_none (by omega)]
      rfl
  rw [e] at rk
  have hI := rk.ints
  refine ⟨SrtO.ltIv, SrtO.swo_int, SrtO.ints_sortable hI h2, fun i j x y u v hx hy hu hv => ?_⟩
  have at1 : ∀ (i : Nat) (x : V) (u : Value), xs[i]? = some x → keys[i]? = some u → SrtO.iv u = kf x := fun i x u hx hu => by
    have hk : ((xs.map kf).map V.int)[i]? = some (.int (kf x)) := by
      rw [List.getElem?_map, List.getElem?_map, hx]
      rfl
    obtain ⟨u2, e1, r⟩ := rk.get hk
    obtain ⟨t, rfl⟩ := r
    have e2 : u = Value.int (kf x) t := Option.some.inj (hu.symm.trans e1)
    rw [e2]
    rfl
  show decide (SrtO.iv u < SrtO.iv v) = _
  rw [at1 i x u hx hu, at1 j y v hy hv]
def GPair (R : V → V → Hp → Prop) (xs : List V) (LT : V → V → Bool) : Prop := ∃ kf : V → Int × Int, R = (fun x v H => ∃ t : Addr, v = .ref t ∧ H t = some (.tup [.int (kf x).1, .int (kf x).2])) ∧ LT = fun x y => SrtO.lexB (kf x) (kf y)
def pairIn (H : Hp) (v : V) : Int × Int := match v with
  | .ref a => match H a with
    | some (.tup [.int i, .int j]) => (i, j)
    | _ => (0, 0)
  | _ => (0, 0)
theorem keys_pair {X : Cx} (R : V → V → Hp → Prop) (xs : List V) (LT : V → V → Bool) (g : GPair R xs LT) : KeySort X R xs LT := by
  obtain ⟨kf, rfl, rfl⟩ := g
  intro s1 Hc a e1 kvs keys hok la rk hl hR h2
  have at1 : ∀ (i : Nat) (x : V) (u : Value), xs[i]? = some x → keys[i]? = some u → ∃ t : Addr, u = .ref t ∧ Hc t = some (.tup [.int (kf x).1, .int (kf x).2]) := fun i x u hx hu => by
    have hi : i < kvs.length := by
      rw [hl]
      exact (List.getElem?_eq_some_iff.mp hx).1
    have hk : kvs[i]? = some kvs[i] := List.getElem?_eq_getElem hi
    obtain ⟨t, e, ht⟩ := hR i x _ hx hk
    obtain ⟨u2, e1, r⟩ := rk.get hk
    rw [e] at r
    have e2 : u = u2 := Option.some.inj (hu.symm.trans e1)
    exact ⟨t, e2.trans r, ht⟩
  have kk : ∀ (i : Nat) (x : V) (u : Value), xs[i]? = some x → keys[i]? = some u → pairIn Hc (backV u) = kf x := fun i x u hx hu => by
    obtain ⟨t, rfl, ht⟩ := at1 i x u hx hu
    show (match Hc t with | some (.tup [.int i, .int j]) => (i, j) | _ => (0, 0)) = kf x
    rw [ht]
  refine ⟨fun u v => SrtO.lexB (pairIn Hc (backV u)) (pairIn Hc (backV v)), SrtO.swo_lex fun u => pairIn Hc (backV u), ?_, fun i j x y u v hx hy hu hv => ?_⟩
  · refine SrtO.pairs_sortableO (k := fun u => pairIn Hc (backV u)) (by omega) (fun v hv => ?_) fun o ho => ?_
    · obtain ⟨i, hi⟩ := List.mem_iff_getElem?.mp hv
      have hil : i < xs.length := by
        rw [← hl, rk.length]
        exact (List.getElem?_eq_some_iff.mp hi).1
      have hx := List.getElem?_eq_getElem hil
      have ek := kk i _ v hx hi
      obtain ⟨t, rfl, ht⟩ := at1 i _ v hx hi
      show Srt.IsPair s1.heap (.ref t) (pairIn Hc (backV (.ref t))).1 (pairIn Hc (backV (.ref t))).2
      rw [ek]
      obtain ⟨_, its2, r2, o, ho, hc, n, hd⟩ := hok _ _ ht
      obtain ⟨u1, u2, rfl, ri, rj⟩ := vals2 r2
      obtain ⟨t1, rfl⟩ := ri
      obtain ⟨t2, rfl⟩ := rj
      exact ⟨t, o, t1, t2, n, rfl, ho, hc, hd⟩
    · rw [la] at ho
      cases ho
      intro z
      injection z with z2
      exact absurd z2 (by decide)
  · show SrtO.lexB (pairIn Hc (backV u)) (pairIn Hc (backV v)) = _
    rw [kk i x u hx hu, kk j y v hy hv]
/-! ### with a def of the text -/
theorem cr_sortI {X : Cx} {k : Nat} {f : Addr} {fd : FuncData} {p : Str} {sp : Sp} (F : FnOk X.prog X.w X.K X.mg X.base CX0 k f fd [p] sp) (hb : L2.Binds X.K fd [p] []) (hr : Room (k + 2) X.A) : CallRK X (.builtin "sorted") [Str.ofString "key"] (rSortF X.K f sp GInt) :=
  cr_sortF F hb hr keys_int
theorem cr_sortP {X : Cx} {k : Nat} {f : Addr} {fd : FuncData} {p : Str} {sp : Sp} (F : FnOk X.prog X.w X.K X.mg X.base CX0 k f fd [p] sp) (hb : L2.Binds X.K fd [p] []) (hr : Room (k + 2) X.A) : CallRK X (.builtin "sorted") [Str.ofString "key"] (rSortF X.K f sp GPair) :=
  cr_sortF F hb hr keys_pair
end Orr
/-! best_by, plan_table, best_choice. -/
namespace Orr
open PySem PySem.Spec PyProof.Rows L2
abbrev En := Ent V Addr
def entV (e : En) : V := .ref e.p
/-- the entries of a table on the heap -/
def EntsAt (H : Hp) (es : List En) : Prop := ∀ e ∈ es, H e.p = some (.tup [.int e.t, .int e.w, .ref e.q]) ∧ H e.q = some (.tup e.ys)
theorem EntsAt.nil {H : Hp} : EntsAt H [] := fun e h => absurd h (by simp)
theorem EntsAt.mono {H H' : Hp} {es : List En} (h : EntsAt H es) (s : Same H H') : EntsAt H' es := fun e m => ⟨s _ _ (h e m).1, s _ _ (h e m).2⟩
theorem EntsAt.wr {H : Hp} {es : List En} {T : Addr} {xs ys : List V} (h : EntsAt H es) (hT : H T = some (.lst xs)) : EntsAt (upd H T (.lst ys)) es := fun e m => by
  obtain ⟨h1, h2⟩ := h e m
  refine ⟨?_, ?_⟩
  · rw [upd_ne (ne_of h1 hT (by intro z; cases z))]
    exact h1
  · rw [upd_ne (ne_of h2 hT (by intro z; cases z))]
    exact h2
section
variable {P : Program} {w : World} {K : PySem.W.Frag} {mg : Str → Option Value} {base : Heap}
/-! ### best_by -/
def spBy (K : PySem.W.Frag) : Sp := fun vs H Q _ => ∃ (a : Addr) (es : List En) (T : Int), vs = [.ref a, .int T] ∧ SqL K H a (es.map entV) ∧ EntsAt H es ∧
  ∀ (H' : Hp) (p q : Addr), Same H H' → H' p = some (.tup [.int (wO (byE T es none)), .ref q]) → H' q = some (.tup (yO (byE T es none))) → Q (.ref p) H'
theorem c_by (D : Def K mg "best_by" sBy) : Cal P w K mg base 1 "best_by" ["table", "tick"] (spBy K) := by
  refine D.cal (fun _ _ _ _ _ _ us hl => match us, hl with | [_, _], _ => rfl) fun f fd F => F.ok scBy (fun vs H Q E h => ?_) (fun cdv A outer s H vs Q E hr h => ?_)
  · obtain ⟨a, es, T, rfl, _⟩ := h
    rfl
  · obtain ⟨a, es, T, rfl, hS, hE, q⟩ := h
    refine ⟨_, pss_cons (ps_set (i := 2) scBy.nd rfl (.inl rfl) pe_int)
      (pss_cons (ps_set (i := 3) scBy.nd rfl (.inl rfl) (pe_tup pa_nil))
      (pss_cons (ps_for PassesOwn.never rfl (pi_list (pv 0))
        (pg_tup rfl (pgs_cons (pg_name (i := 4) scBy.nd rfl (.inl rfl)) (pgs_cons (pg_name (i := 5) scBy.nd rfl (.inl rfl)) (pgs_cons (pg_name (i := 6) scBy.nd rfl (.inl rfl)) pgs_nil))))
        (pss_one (ps_if (pt_cmpR op_le (pv 4) (pv 1) (nomark _)) (pss_cons (ps_set (i := 2) scBy.nd rfl (.inl rfl) (pv 5)) (pss_one (ps_set (i := 3) scBy.nd rfl (.inl rfl) (pv 6)))) pss_nil)))
      (pss_one (ps_ret (pe_tup (pa_cons (pv 2) (pa_cons (pv 3) pa_nil))))))), ?_⟩
    refine ⟨Nat.zero_le _, fun u nu => ?_⟩
    have s1 : Same H (upd H u (.tup [])) := same_upd nu
    refine ⟨_, rfl, a, rfl, ⟨_, s1.seq hS⟩, for_list (K := K) (a := a) (xs := es.map entV) (fun i σ H' => H' = upd H u (.tup []) ∧ ∃ q v4 v5 v6, σ = [some (.ref a), some (.int T), some (.int (wO (byE T (es.take i) none))), some (.ref q), v4, v5, v6] ∧ H' q = some (.tup (yO (byE T (es.take i) none))))
      ⟨rfl, u, none, none, none, rfl, upd_same⟩ (fun i σ H' _ p => by rw [p.1]; exact s1.seq hS) ?_ ?_⟩
    · rintro i y σ H' hi ⟨rfl, q', v4, v5, v6, rfl, hq⟩
      rw [List.getElem?_map] at hi
      cases he : es[i]? with
      | none => rw [he] at hi; cases hi
      | some e =>
        rw [he] at hi
        cases hi
        obtain ⟨h1, h2⟩ := hE.mono s1 e (List.mem_of_getElem? he)
        refine ⟨e.p, _, rfl, SqT.of h1, rfl, _, _, rfl, _, _, rfl, _, _, rfl, rfl, ?_⟩
        refine ⟨_, rfl, _, rfl, _, _, rfl, rfl, _, rfl, ite2 (fun c => ?_) (fun c => ?_)⟩
        · have c1 : e.t ≤ T := of_decide_eq_true c
          have eb : byE T (es.take (i + 1)) none = some e := by
            rw [takeM he, byE_snoc, if_pos c1]
          refine ⟨_, rfl, _, rfl, rfl, e.q, some (.int e.t), some (.int e.w), some (.ref e.q), ?_, ?_⟩
          · rw [eb]
            rfl
          · rw [eb]
            exact h2
        · have c1 : ¬ e.t ≤ T := fun z => c (decide_eq_true z)
          have eb : byE T (es.take (i + 1)) none = byE T (es.take i) none := by
            rw [takeM he, byE_snoc, if_neg c1]
          refine ⟨rfl, q', some (.int e.t), some (.int e.w), some (.ref e.q), ?_, ?_⟩
          · rw [eb]
            rfl
          · rw [eb]
            exact hq
    · rintro σ H' ⟨rfl, q', v4, v5, v6, rfl, hq⟩
      rw [List.length_map, takeAll] at hq ⊢
      refine ⟨_, rfl, _, rfl, by show 2 ≤ sizeLine; decide, fun p np => ?_⟩
      exact q _ p q' (same_add s1 np) upd_same (by rw [upd_ne (ne_of_none hq np)]; exact hq)
end
end Orr
/-! plan_table. -/
namespace Orr
open PySem PySem.Spec PyProof.Rows L2
section
variable {P : Program} {w : World} {K : PySem.W.Frag} {mg : Str → Option Value} {base : Heap}
theorem snoc_last {α : Type} {l : List α} {e : α} (h : l.getLast? = some e) : ∃ r, l = r ++ [e] := by
  cases l with
  | nil => cases h
  | cons x r =>
    have h2 := List.getLast?_eq_some_iff.mp h
    exact h2
/-- table[-1][1] if table else 0 -/
theorem lastw {i : Nat} {σ : L2.St} {H : Hp} {T : Addr} {es : List En} {Q : VK} (hi : σ[i]? = some (some (.ref T))) (hT : H T = some (.lst (es.map entV))) (hE : EntsAt H es) (q : Q (.int (wO es.getLast?)) H) :
    tIf (fun σ H Q => tVar i σ H fun x H' => ∃ k, TruV K x H' k ∧ Q k H') (tOp (rIxT K) (tOp (rIxL K) (tVar i) (tUn (rU fun i => .int (-i)) (tC (.int 1)))) (tC (.int 1))) (tC (.int 0)) σ H Q := by
  refine ⟨_, hi, !(es.map entV).isEmpty, .inl ⟨_, SqL.of hT, rfl⟩, ?_⟩
  cases e : es.getLast? with
  | none =>
    rw [e] at q
    have e0 : es = [] := by simpa using e
    rw [e0]
    exact q
  | some z =>
    rw [e] at q
    obtain ⟨r, er⟩ := snoc_last e
    have hz := hE z (by rw [er]; simp)
    have ev : es.map entV = r.map entV ++ [entV z] := by rw [er, List.map_append]; rfl
    have em : (!(es.map entV).isEmpty) = true := by rw [ev]; simp
    rw [em]
    refine iteT ⟨_, hi, 1, rfl, T, es.map entV, -1, entV z, rfl, rfl, SqL.of hT, by rw [ev]; exact atI_last _ _, z.p, _, 1, .int z.w, rfl, rfl, SqT.of hz.1, atI_nat (j := 1) rfl, q⟩
/-! ### plan_table -/
def spTable (K : PySem.W.Frag) : Sp := fun vs H Q _ => ∃ (d : V → Ct) (g : Int) (a : Addr) (xs : List V), vs = [.ref a, .int g] ∧ SqL K H a xs ∧ AreCt d H xs ∧ (∀ x ∈ xs, Gd (d x)) ∧ xs.length ≤ 100 ∧ 0 ≤ g ∧
  ∀ (H' : Hp) (p : Addr) (es : List En) (zs : List V), Same H H' → H' p = some (.lst (es.map entV)) → EntsAt H' es → zs.Perm xs → TI d g zs es → Q (.ref p) H'
/-- the loop over the sorted contacts zs, i of them looked at -/
structure TabPv (d : V → Ct) (g : Int) (a T L : Addr) (zs : List V) (H : Hp) (i : Nat) (σ : L2.St) (H' : Hp) (es : List En) : Prop where
  sl : ∃ v3 v4 v5, σ = [some (.ref a), some (.int g), some (.ref T), v3, v4, v5]
  sm : Same H H'
  tb : H' T = some (.lst (es.map entV))
  en : EntsAt H' es
  ti : TI d g (zs.take i) es
  so : H' L = some (.lst zs)
theorem c_table (D : Def K mg "plan_table" sTable) (CB : Cal P w K mg base 1 "best_by" ["table", "tick"] (spBy K)) (CR : Cal P w K mg base 1 "ready" ["contact", "gap"] spReady) (CE : Cal P w K mg base 1 "end_of" ["contact"] spEnd) (mS : mg "sorted" = none) :
    Cal P w K mg base 4 "plan_table" ["contacts", "gap"] (spTable K) := by
  obtain ⟨fE, fdE, GE, mE, kE, bE⟩ := CE
  refine D.cal (fun _ _ _ _ _ _ us hl => match us, hl with | [_, _], _ => rfl) fun f fd F => F.ok scTable (fun vs H Q E h => ?_) (fun cdv A outer s H vs Q E hr h => ?_)
  · obtain ⟨d, g, a, xs, rfl, _⟩ := h
    rfl
  · obtain ⟨d, g, a, xs, rfl, hS, hxs, hG, hl, hg, q⟩ := h
    have hr1 : Room 1 _ := hr.mono (by decide)
    refine ⟨_, pss_cons (ps_set (i := 2) scTable.nd rfl (.inl rfl) (pe_lst pa_nil))
      (pss_cons (ps_for PassesOwn.never rfl (pi_list (pe_callBK (cr_sortI GE bE hr) (by rfl) mS (by decide +kernel) (pa_cons (pv 0) pa_nil) (pk_cons (pe_glob (v := .ref fE) rfl mE rfl) pk_nil))) (pg_name (i := 3) scTable.nd rfl (.inl rfl))
        (pss_cons (ps_asg (pe_cal CB hr1 rfl (pa_cons (pv 2) (pa_cons (pe_ix ix_tup (pv 3) pe_int (fun _ _ => rfl)) pa_nil))) (pg_tup (by rfl) (pgs_cons (pg_name (i := 4) scTable.nd rfl (.inl rfl)) (pgs_cons (pg_name (i := 5) scTable.nd rfl (.inl rfl)) pgs_nil))))
        (pss_cons (ps_set (i := 4) scTable.nd rfl (.inl rfl) (pe_op op_add (pv 4) (pe_ix ix_tup (pv 3) pe_int (fun _ _ => rfl))))
        (pss_one (ps_if (pt_cmpR op_gt (pv 4) (pe_ifExp (pt_truth (pv 2) (by intro _; rfl)) (pe_ix ix_tup (pe_ix ix_list (pv 2) (pe_un un_neg pe_int) (fun _ _ => rfl)) pe_int (fun _ _ => rfl)) pe_int) (nomark _))
          (pss_one (ps_expr (pe_bm PySem.F.plainAttrs_list PySem.F.slot_list_append PySem.F.type_list_append mt_append (pv 2) (pa_cons (pe_tup (pa_cons (pe_cal CR hr1 rfl (pa_cons (pv 3) (pa_cons (pv 1) pa_nil))) (pa_cons (pv 4) (pa_cons (pe_op op_catA (pv 5) (pe_tup (pa_cons (pv 3) pa_nil))) pa_nil)))) pa_nil)))) pss_nil)))))
      (pss_one (ps_ret (pv 2)))), ?_⟩
    -- table = []
    refine ⟨Nat.zero_le _, fun T nT => ?_⟩
    have s1 : Same H (upd H T (.lst [])) := same_upd nT
    -- sorted(contacts, key=end_of)
    refine ⟨_, rfl, a, xs, _, _, rfl, rfl, s1.seq hS, fun x m => ?_, ?_, ?_, ⟨fun x => (d x).en, rfl, rfl⟩, ?_⟩
    · obtain ⟨t, e, _⟩ := hxs x m
      exact ⟨t, e⟩
    · intro x v H1 H2 h _
      exact h
    · intro x m H1 sm
      exact ⟨d, x, rfl, (hxs x m).mono (s1.trans sm), Same.refl _, rfl⟩
    · intro zs L H2 s2 nL hL hp ho
      have hT2 : H2 T = some (.lst []) := s2 _ _ upd_same
      have nLT : L ≠ T := fun e => by
        rw [e, upd_same] at nL
        cases nL
      have hzs : ∀ z ∈ zs, z ∈ xs := fun z hz => hp.mem_iff.mp hz
      have hlz : zs.length ≤ 100 := by
        rw [hp.length_eq]
        exact hl
      have ho2 : zs.Pairwise fun x y => (d x).en ≤ (d y).en := ho.imp fun {x y} h => by
        have h2 : ¬ (d y).en < (d x).en := of_decide_eq_false h
        omega
      refine ⟨L, rfl, ⟨_, SqL.of hL⟩, for_list (K := K) (a := L) (xs := zs) (fun i σ H' => ∃ es, TabPv d g a T L zs H i σ H' es)
        ⟨[], ⟨none, none, none, rfl⟩, s1.trans s2, hT2, .nil, TI.nil, hL⟩ (fun i σ H' _ p => by obtain ⟨es, p⟩ := p; exact SqL.of p.so) ?_ ?_⟩
      · rintro i z σ H' hi ⟨es, ⟨v3, v4, v5, rfl⟩, sm, tb, en, ti, so⟩
        have hz : IsCt d H' z := (hxs z (hzs z (List.mem_of_getElem? hi))).mono sm
        have il : i < zs.length := (List.getElem?_eq_some_iff.mp hi).1
        have hgd : ∀ y ∈ zs.take i ++ [z], Gd (d y) := fun y hy => by
          rw [← takeM hi] at hy
          exact hG y (hzs y (List.mem_of_mem_take hy))
        have hlow : ∀ y ∈ zs.take i, (d y).en ≤ (d z).en := fun y hy => by
          have hp3 := ho2.sublist (List.take_sublist (i + 1) zs)
          rw [takeM hi] at hp3
          exact (List.pairwise_append.mp hp3).2.2 y hy z (by simp)
        -- weight, choice = best_by(table, contact[2])
        refine ⟨_, rfl, z, rfl, hz.ix2 ⟨T, es, (d z).be, rfl, SqL.of tb, en, fun H3 p3 q3 s3 h3p h3q => ?_⟩⟩
        have hz3 := hz.mono s3
        have tb3 := s3 _ _ tb
        have en3 := en.mono s3
        refine ⟨p3, _, rfl, SqT.of h3p, rfl, _, _, rfl, _, _, rfl, rfl, ?_⟩
        -- weight = weight + contact[4]
        refine ⟨_, rfl, z, rfl, hz3.ix4 ⟨_, _, rfl, rfl, ?_⟩⟩
        -- if weight > (table[-1][1] if table else 0)
        refine ⟨_, rfl, lastw rfl tb3 en3 ⟨_, _, rfl, rfl, _, rfl, ite2 (fun c => ?_) (fun c => ?_)⟩⟩
        · have cw : wO es.getLast? < wO (byE (d z).be es none) + (d z).we := of_decide_eq_true c
          have fin : ∀ (q' : Addr) (H4 : Hp), Same H3 H4 → H4 q' = some (.tup (yO (byE (d z).be es none) ++ [z])) → ∀ p2, H4 p2 = none →
              ∃ es', TabPv d g a T L zs H (i + 1) [some (.ref a), some (.int g), some (.ref T), some z, some (.int (wO (byE (d z).be es none) + (d z).we)), some (.ref q3)]
                (upd (upd H4 p2 (.tup [.int ((d z).en + 1 + g), .int (wO (byE (d z).be es none) + (d z).we), .ref q'])) T (.lst (es.map entV ++ [.ref p2]))) es' := fun q' H4 s4 hq' p2 n2 => by
            have tb5 : (upd H4 p2 (.tup [.int ((d z).en + 1 + g), .int (wO (byE (d z).be es none) + (d z).we), .ref q'])) T = some (.lst (es.map entV)) := same_add s4 n2 _ _ tb3
            refine ⟨es ++ [⟨(d z).en + 1 + g, wO (byE (d z).be es none) + (d z).we, yO (byE (d z).be es none) ++ [z], p2, q'⟩], ⟨_, _, _, rfl⟩, same_wr (same_add (sm.trans (s3.trans s4)) n2) nT, ?_, EntsAt.wr (fun e he => ?_) tb5, ?_, ?_⟩
            · rw [upd_same, List.map_append]
              rfl
            · rcases List.mem_append.mp he with he | he
              · exact (en3.mono (same_add s4 n2)) e he
              · have ee := List.mem_singleton.mp he
                subst ee
                exact ⟨upd_same, by rw [upd_ne (ne_of_none hq' n2)]; exact hq'⟩
            · rw [takeM hi]
              exact ti.add hg hgd hlow rfl rfl rfl cw
            · rw [upd_ne nLT]
              exact same_add (s3.trans s4) n2 _ _ so
          have hyl := ti.ylen (d z).be
          have htl : (zs.take i).length ≤ 100 := take_le zs i hlz
          refine ⟨_, rfl, .inl ⟨rfl, _, SqL.of tb3⟩, z, rfl, _, rfl, d, z, g, rfl, hz3, _, rfl, .ref q3, rfl, z, rfl, by show 1 ≤ sizeLine; decide, fun c1 n1 => ?_⟩
          have lt1 : (es.map entV).length < sizeLine := by
            rw [List.length_map]
            have := ti.len
            exact small1000 (by omega)
          refine ⟨q3, c1, _, [z], rfl, rfl, SqT.of (same_upd n1 _ _ h3q), SqT.of upd_same, Nat.le_of_lt (small1000 (by rw [List.length_singleton]; omega)), fun e0 => ?_, fun _ e => absurd e (by simp), fun _ _ q4 n4 => ?_⟩
          · refine ⟨by show 3 ≤ sizeLine; decide, fun p2 n2 => ⟨T, _, _, rfl, rfl, same_add (same_upd n1) n2 _ _ tb3, lt1, ?_⟩⟩
            exact fin c1 _ (same_upd n1) (by rw [e0]; exact upd_same) p2 n2
          · refine ⟨by show 3 ≤ sizeLine; decide, fun p2 n2 => ⟨T, _, _, rfl, rfl, same_add (same_add (same_upd n1) n4) n2 _ _ tb3, lt1, ?_⟩⟩
            exact fin q4 _ (same_add (same_upd n1) n4) upd_same p2 n2
        · have cw : wO (byE (d z).be es none) + (d z).we ≤ wO es.getLast? := Int.not_lt.mp fun x => c (decide_eq_true x)
          refine ⟨es, ⟨_, _, _, rfl⟩, sm.trans s3, tb3, en3, ?_, s3 _ _ so⟩
          rw [takeM hi]
          exact ti.stay hg hgd hlow cw
      · rintro σ H' ⟨es, ⟨v3, v4, v5, rfl⟩, sm, tb, en, ti, so⟩
        rw [takeAll] at ti
        exact ⟨_, rfl, q H' T es zs sm tb en hp ti⟩
end
end Orr
/-! best_choice. -/
namespace Orr
open PySem PySem.Spec PyProof.Rows L2
section
variable {P : Program} {w : World} {K : PySem.W.Frag} {mg : Str → Option Value} {base : Heap}
def spBest (K : PySem.W.Frag) : Sp := fun vs H Q _ => ∃ (d : V → Ct) (g : Int) (a : Addr) (xs : List V), vs = [.ref a, .int g] ∧ SqL K H a xs ∧ AreCt d H xs ∧ (∀ x ∈ xs, Gd (d x)) ∧ xs.length ≤ 100 ∧ 0 ≤ g ∧
  ∀ (H' : Hp) (p l r : Addr) (ys : List V) (b : Int), Same H H' → H' p = some (.tup [.ref l, .int b, .ref r]) → H l = none → H' l = some (.lst ys) → PlanOk d g xs ys b → Q (.ref p) H'
theorem c_best (D : Def K mg "best_choice" sBest) (CT : Cal P w K mg base 4 "plan_table" ["contacts", "gap"] (spTable K)) (mL : mg "list" = none) : Cal P w K mg base 5 "best_choice" ["contacts", "gap"] (spBest K) := by
  refine D.cal (fun _ _ _ _ _ _ us hl => match us, hl with | [_, _], _ => rfl) fun f fd F => F.ok scBest (fun vs H Q E h => ?_) (fun cdv A outer s H vs Q E hr h => ?_)
  · obtain ⟨d, g, a, xs, rfl, _⟩ := h
    rfl
  · obtain ⟨d, g, a, xs, rfl, hS, hxs, hG, hl, hg, q⟩ := h
    refine ⟨_, pss_cons (ps_set (i := 2) scBest.nd rfl (.inl rfl) (pe_cal CT hr rfl (pa_cons (pv 0) (pa_cons (pv 1) pa_nil))))
      (pss_cons (ps_set (i := 3) scBest.nd rfl (.inl rfl) (pe_lst pa_nil))
      (pss_cons (ps_set (i := 4) scBest.nd rfl (.inl rfl) pe_int)
      (pss_cons (ps_for PassesOwn.never rfl (pi_list (pv 2))
        (pg_tup (by rfl) (pgs_cons (pg_name (i := 5) scBest.nd rfl (.inl rfl)) (pgs_cons (pg_name (i := 6) scBest.nd rfl (.inl rfl)) (pgs_cons (pg_name (i := 7) scBest.nd rfl (.inl rfl)) pgs_nil))))
        (pss_cons (ps_expr (pe_bm PySem.F.plainAttrs_list PySem.F.slot_list_append PySem.F.type_list_append mt_append (pv 3) (pa_cons (pe_tup (pa_cons (pv 5) (pa_cons (pe_op op_sub (pv 6) (pv 4)) pa_nil))) pa_nil)))
        (pss_one (ps_set (i := 4) scBest.nd rfl (.inl rfl) (pv 6)))))
      (pss_cons (ps_if (pt_not (pt_truth (pv 2) (by intro _; rfl))) (pss_one (ps_ret (pe_tup (pa_cons (pe_lst pa_nil) (pa_cons pe_int (pa_cons (pe_lst pa_nil) pa_nil)))))) pss_nil)
      (pss_one (ps_ret (pe_tup (pa_cons (pe_callTy call_list_of (by rfl) mL (by decide +kernel) (pa_cons (pe_ix ix_tup (pe_ix ix_list (pv 2) (pe_un un_neg pe_int) (fun _ _ => rfl)) pe_int (fun _ _ => rfl)) pa_nil)) (pa_cons (pv 4) (pa_cons (pv 3) pa_nil)))))))))), ?_⟩
    -- table = plan_table(contacts, gap)
    refine ⟨_, rfl, _, rfl, d, g, a, xs, rfl, hS, hxs, hG, hl, hg, fun H2 T es zs s2 tb en hp ti => ?_⟩
    have pl := ti.plan.perm hp
    have hel : es.length ≤ 100 := by
      have h1 := ti.len
      rw [hp.length_eq] at h1
      omega
    -- prices = []; before = 0
    refine ⟨Nat.zero_le _, fun R nR => ?_⟩
    have s3 : Same H2 (upd H2 R (.lst [])) := same_upd nR
    refine ⟨_, rfl, T, rfl, ⟨_, SqL.of (s3 _ _ tb)⟩, for_list (K := K) (a := T) (xs := es.map entV) (fun i σ H' => (∃ v5 v6 v7, σ = [some (.ref a), some (.int g), some (.ref T), some (.ref R), some (.int (wO (es.take i).getLast?)), v5, v6, v7]) ∧ Same H2 H' ∧ ∃ ps, H' R = some (.lst ps) ∧ ps.length = i)
      ⟨⟨none, none, none, rfl⟩, s3, [], upd_same, rfl⟩ (fun i σ H' _ p => SqL.of (p.2.1 _ _ tb)) ?_ ?_⟩
    · rintro i y σ H' hi ⟨⟨v5, v6, v7, rfl⟩, sm, ps, hR, hpl⟩
      have il : i < (es.map entV).length := (List.getElem?_eq_some_iff.mp hi).1
      rw [List.length_map] at il
      rw [List.getElem?_map] at hi
      cases he : es[i]? with
      | none => rw [he] at hi; cases hi
      | some e =>
        rw [he] at hi
        cases hi
        obtain ⟨h1, h2⟩ := en.mono sm e (List.mem_of_getElem? he)
        refine ⟨e.p, _, rfl, SqT.of h1, rfl, _, _, rfl, _, _, rfl, _, _, rfl, rfl, ?_⟩
        refine ⟨_, rfl, .inl ⟨rfl, _, SqL.of hR⟩, _, rfl, _, rfl, _, rfl, _, _, rfl, rfl, by show 2 ≤ sizeLine; decide, fun c nc => ?_⟩
        refine ⟨R, ps, _, rfl, rfl, same_upd nc _ _ hR, small1000 (by omega), ?_⟩
        refine ⟨_, rfl, ⟨some (.int e.t), some (.int e.w), some (.ref e.q), ?_⟩, same_wr (same_add sm nc) nR, _, upd_same, by rw [List.length_append, hpl]; rfl⟩
        rw [takeM he, List.getLast?_concat]
        rfl
    · rintro σ H' ⟨⟨v5, v6, v7, rfl⟩, sm, ps, hR, hpl⟩
      rw [List.length_map, takeAll]
      have tb' := sm _ _ tb
      -- if not table
      refine ⟨_, rfl, !(es.map entV).isEmpty, .inl ⟨_, SqL.of tb', rfl⟩, ?_⟩
      cases e : es.getLast? with
      | none =>
        have e0 : es = [] := by simpa using e
        rw [e] at pl
        subst e0
        refine iteT ⟨Nat.zero_le _, fun l1 n1 => ⟨Nat.zero_le _, fun l2 n2 => ⟨by show 3 ≤ sizeLine; decide, fun p np => ?_⟩⟩⟩
        exact q _ p l1 l2 [] 0 (same_add (same_add (same_add (s2.trans sm) n1) n2) np) upd_same ((s2.trans sm).free n1) (same_add (same_upd n2) np _ _ upd_same) pl
      | some z =>
        rw [e] at pl
        obtain ⟨r, er⟩ := snoc_last e
        have hz := en.mono sm z (by rw [er]; simp)
        have ev : es.map entV = r.map entV ++ [entV z] := by rw [er, List.map_append]; rfl
        have em : (!(!(es.map entV).isEmpty)) = false := by rw [ev]; simp
        rw [em]
        refine iteF ?_
        -- return (list(table[-1][2]), before, prices)
        refine ⟨_, rfl, 1, rfl, T, es.map entV, -1, entV z, rfl, rfl, SqL.of tb', by rw [ev]; exact atI_last _ _, z.p, _, 2, .ref z.q, rfl, rfl, SqT.of hz.1, atI_nat (j := 2) rfl, z.q, z.ys, rfl, .inr (SqT.of hz.2), fun l nl => ?_⟩
        refine ⟨_, rfl, _, rfl, by show 3 ≤ sizeLine; decide, fun p np => ?_⟩
        exact q _ p l R z.ys z.w (same_add (same_add (s2.trans sm) nl) np) upd_same ((s2.trans sm).free nl) (same_upd np _ _ upd_same) pl
end
end Orr
/-! groups_by. -/
namespace Orr
open PySem PySem.Spec PyProof.Rows L2
/-- which number of a contact the groups go by -/
def Part (p : Int) (ky : Ct → Int) : Prop := (p = 0 ∧ ky = Ct.cr) ∨ (p = 1 ∧ ky = Ct.si)
theorem Part.mem {p : Int} {ky : Ct → Int} (h : Part p ky) {c : Ct} (g : Gd c) : ky c ∈ four := by
  rcases h with ⟨_, rfl⟩ | ⟨_, rfl⟩
  · exact four_cr g
  · exact four_si g
theorem Part.same {p : Int} {ky : Ct → Int} (h : Part p ky) {g : Int} (a b : Ct) (e : ky a = ky b) (t : Tg true g a b) : Ap g a b := by
  rcases h with ⟨_, rfl⟩ | ⟨_, rfl⟩
  · exact cr_same a b e t
  · exact si_same a b e t
theorem IsCt.ixP {K : PySem.W.Frag} {d : V → Ct} {H : Hp} {x : V} {p0 : Int} {ky : Ct → Int} {R : V → Prop} (h : IsCt d H x) (hp : Part p0 ky) (q : R (.int (ky (d x)))) :
    ∃ p xs i v, x = .ref p ∧ V.int p0 = .int i ∧ SqT K H p xs ∧ atI xs i = some v ∧ R v := by
  rcases hp with ⟨rfl, rfl⟩ | ⟨rfl, rfl⟩
  · exact h.ix0 q
  · exact h.ix1 q
theorem inV_ints (k : Int) : ∀ ns : List Int, inV (.int k) (ns.map V.int) = decide (k ∈ ns)
  | [] => by simp [inV]
  | n :: ns => by
    have ih := inV_ints k ns
    unfold inV at ih ⊢
    rw [List.map_cons, List.any_cons, ih]
    have e : eqV (.int n) (.int k) = (n == k) := rfl
    rw [e]
    by_cases c : n = k
    · subst c
      simp
    · have c2 : ¬ k = n := fun z => c z.symm
      simp [c, c2]
theorem flat_ints : ∀ ns : List Int, (ns.map V.int).all flatV = true
  | [] => rfl
  | n :: ns => by rw [List.map_cons, List.all_cons, flat_ints ns]; rfl
/-- the groups: lists at ls, one a number of ns -/
structure GrAt (d : V → Ct) (ky : Ct → Int) (xs : List V) (H : Hp) (ns : List Int) (ls : List Addr) : Prop where
  nd : ns.Nodup
  oc : ∀ n, n ∈ ns ↔ ∃ x ∈ xs, ky (d x) = n
  ln : ls.length = ns.length
  at_ : ∀ (i : Nat) (l : Addr) (n : Int), ls[i]? = some l → ns[i]? = some n → H l = some (.lst (xs.filter fun x => ky (d x) == n))
theorem ns_len {d : V → Ct} {ky : Ct → Int} {xs : List V} {H : Hp} {ns : List Int} {ls : List Addr} (g : GrAt d ky xs H ns ls) (hk : ∀ x ∈ xs, ky (d x) ∈ four) : ns.length ≤ 4 := by
  obtain ⟨l', p, s⟩ := sub_of_nodup (m := four) g.nd fun n hn => by
    obtain ⟨x, m, e⟩ := (g.oc n).mp hn
    rw [← e]
    exact hk x m
  rw [← p.length_eq]
  exact s.length_le
def gScope : Scope := match (defBody sGroups).getD 2 (.Pass ⟨0, 0, 0, 0⟩) with
  | .Return (some (.ListComp _ _ sc _)) _ => sc
  | _ => { kind := .function, names := [], isGenerator := false, isCoroutine := false }
section
variable {P : Program} {w : World} {K : PySem.W.Frag} {mg : Str → Option Value} {base : Heap}
def spGroups (K : PySem.W.Frag) : Sp := fun vs H Q _ => ∃ (d : V → Ct) (a : Addr) (xs : List V) (p : Int) (ky : Ct → Int), vs = [.ref a, .int p] ∧ SqL K H a xs ∧ AreCt d H xs ∧ Part p ky ∧ xs.length ≤ 100 ∧
  ∀ (H' : Hp) (L : Addr) (ns : List Int) (ls : List Addr), Same H H' → H L = none → H' L = some (.lst (ls.map V.ref)) → GrAt d ky xs H' ns ls → Q (.ref L) H'
theorem c_groups (D : Def K mg "groups_by" sGroups) : Cal P w K mg base 1 "groups_by" ["contacts", "part"] (spGroups K) := by
  refine D.cal (fun _ _ _ _ _ _ us hl => match us, hl with | [_, _], _ => rfl) fun f fd F => F.ok scGroups (fun vs H Q E h => ?_) (fun cdv A outer s H vs Q E hr h => ?_)
  · obtain ⟨d, a, xs, p, ky, rfl, _⟩ := h
    rfl
  · obtain ⟨d, a, xs, p, ky, rfl, hS, hxs, hp, hl, q⟩ := h
    refine ⟨_, pss_cons (ps_set (i := 2) scGroups.nd rfl (.inl rfl) (pe_lst pa_nil))
      (pss_cons (ps_for PassesOwn.never rfl (pi_list (pv 0)) (pg_name (i := 3) scGroups.nd rfl (.inl rfl))
        (pss_one (ps_if (pt_cmpR op_notIn_seq (pe_ix ix_tup (pv 3) (pv 1) (fun _ _ => rfl)) (pv 2) (by rfl))
          (pss_one (ps_expr (pe_bm PySem.F.plainAttrs_list PySem.F.slot_list_append PySem.F.type_list_append mt_append (pv 2) (pa_cons (pe_ix ix_tup (pv 3) (pv 1) (fun _ _ => rfl)) pa_nil)))) pss_nil)))
      (pss_one (ps_ret (pe_lc (own := [("number", 4)]) (g := gName 4) (tt := tYes) (te := tLc (iList K (tVar 0)) (gName 3) (tTest (tOp rEq (tOp (rIxT K) (tVar 3) (tVar 1)) (tVar 4))) (tVar 3) [3]) rfl scGroups.nd (pi_list (pv 2))
        (blkOk_by (own := [("number", 4)]) (N := ["contacts", "part", "numbers", "contact", "number"]) (sc := defScope sGroups) (by decide +kernel))
        (fun _ _ _ _ _ => pg_name (i := 4) scGroups.nd rfl (Or.inr rfl)) (fun _ _ _ _ _ => pts_nil)
        (fun _ _ _ _ _ => pe_lc (own := [("contact", 3)]) (g := gName 3) rfl scGroups.nd (pi_list (pv 0))
          (blkOk_by (own := [("contact", 3)]) (N := ["contacts", "part", "numbers", "contact", "number"]) (sc := relS gScope (defScope sGroups)) (by decide +kernel))
          (fun _ _ _ _ _ => pg_name (i := 3) scGroups.nd rfl (Or.inl rfl)) (fun _ _ _ _ _ => pts_one (pt_cmpR op_eq (pe_ix (r := rIxT K) ix_tup (pv 3) (pv 1) (fun _ _ => rfl)) (pv 4) (nomark _)))
          (fun _ _ _ _ _ => pv 3)))))), ?_⟩
    refine ⟨Nat.zero_le _, fun N nN => ?_⟩
    have s1 : Same H (upd H N (.lst [])) := same_upd nN
    refine ⟨_, rfl, a, rfl, ⟨_, s1.seq hS⟩, for_list (K := K) (a := a) (xs := xs) (fun i σ H' => ∃ ns v3, σ = [some (.ref a), some (.int p), some (.ref N), v3, none] ∧ Same H H' ∧ H' N = some (.lst (ns.map V.int)) ∧ ns.Nodup ∧ (∀ n, n ∈ ns ↔ ∃ x ∈ xs.take i, ky (d x) = n) ∧ ns.length ≤ i)
      ⟨[], none, rfl, s1, upd_same, List.nodup_nil, fun n => by simp, Nat.le_refl _⟩ (fun i σ H' _ p => by obtain ⟨ns, v3, _, sm, _⟩ := p; exact sm.seq hS) ?_ ?_⟩
    · rintro i x σ H' hi ⟨ns, v3, rfl, sm, hN, nd, oc, ln⟩
      have hx := (hxs.at hi).mono sm
      have il : i < xs.length := (List.getElem?_eq_some_iff.mp hi).1
      have oc2 : ∀ n, (∃ y ∈ xs.take (i + 1), ky (d y) = n) ↔ n ∈ ns ∨ n = ky (d x) := fun n => by
        rw [takeM hi, oc n]
        constructor
        · rintro ⟨y, hy, e⟩
          rcases List.mem_append.mp hy with hy | hy
          · exact .inl ⟨y, hy, e⟩
          · have ey : y = x := by simpa using hy
            exact .inr (by rw [← e, ey])
        · rintro (⟨y, hy, e⟩ | e)
          · exact ⟨y, List.mem_append_left _ hy, e⟩
          · exact ⟨x, by simp, e.symm⟩
      refine ⟨x, rfl, _, rfl, hx.ixP hp ⟨_, rfl, N, _, rfl, .inl (SqL.of hN), rfl, flat_ints ns, _, rfl, ?_⟩⟩
      rw [inV_ints]
      by_cases c : ky (d x) ∈ ns
      · rw [decide_eq_true c]
        refine iteF ⟨ns, _, rfl, sm, hN, nd, fun n => ?_, by omega⟩
        rw [oc2 n]
        exact ⟨.inl, fun z => z.elim id fun e => e ▸ c⟩
      · rw [decide_eq_false c]
        refine iteT ⟨_, rfl, .inl ⟨rfl, _, SqL.of hN⟩, x, rfl, _, rfl, hx.ixP hp ⟨N, _, _, rfl, rfl, hN, ?_, ?_⟩⟩
        · rw [List.length_map]
          exact small1000 (by omega)
        · refine ⟨ns ++ [ky (d x)], _, rfl, same_wr sm nN, ?_, ?_, fun n => ?_, ?_⟩
          · rw [upd_same, List.map_append]
            rfl
          · exact nd_snoc nd c
          · rw [oc2 n, List.mem_append, List.mem_singleton]
          · rw [List.length_append]
            exact Nat.succ_le_succ ln
    · rintro σ H2 ⟨ns, v3, rfl, s2, hN, nd, oc, ln⟩
      rw [takeAll] at oc
      refine ⟨_, rfl, N, rfl, ⟨_, SqL.of hN⟩, fun L nL => lc_list (K := K) (a := N) (xs := ns.map V.int) (fun i H' => Same H2 H' ∧ ∃ ls : List Addr, H' L = some (.lst (ls.map V.ref)) ∧ ls.length = i ∧ ∀ (j : Nat) (l : Addr) (n : Int), ls[j]? = some l → ns[j]? = some n → l ≠ L ∧ H' l = some (.lst (xs.filter fun x => ky (d x) == n)))
        ⟨same_upd nL, [], upd_same, rfl, fun j l n h => absurd h (by simp)⟩ (fun i H' _ p => SqL.of (p.1 _ _ hN)) ?_ ?_⟩
      · rintro i y H3 hi ⟨s3, ls, hL, lls, hls⟩
        rw [List.getElem?_map] at hi
        cases hn : ns[i]? with
        | none => rw [hn] at hi; cases hi
        | some n =>
          rw [hn] at hi
          cases hi
          have il : i < ns.length := (List.getElem?_eq_some_iff.mp hn).1
          have hS3 := (s2.trans s3).seq hS
          refine ⟨rfl, _, rfl, a, rfl, ⟨_, hS3⟩, fun D nD => lc_list (K := K) (a := a) (xs := xs) (fun i H' => Same H3 H' ∧ H' D = some (.lst ((xs.take i).filter fun x => ky (d x) == n)))
            ⟨same_upd nD, upd_same⟩ (fun i H' _ p => p.1.seq hS3) ?_ ?_⟩
          · rintro j x H4 hj ⟨s4, hD⟩
            have hx := (hxs.at hj).mono ((s2.trans s3).trans s4)
            refine ⟨rfl, x, rfl, _, rfl, hx.ixP hp ⟨_, rfl, rfl, _, rfl, ?_⟩⟩
            by_cases c : ky (d x) = n
            · rw [show decide (V.int (ky (d x)) = V.int n) = true by simp [c]]
              refine iteT ⟨x, rfl, _, hD, ?_, same_wr s4 nD, ?_⟩
              · exact small1000 (Nat.le_trans (List.length_filter_le _ _) (take_le _ _ (by omega)))
              · rw [upd_same, takeM hj, List.filter_append]
                simp [c]
            · rw [show decide (V.int (ky (d x)) = V.int n) = false by simp [c]]
              refine iteF ⟨s4, ?_⟩
              rw [hD, takeM hj, List.filter_append]
              simp [c]
          · rintro H4 ⟨s4, hD⟩
            rw [takeAll] at hD
            have hL4 := s4 _ _ hL
            have nDL : D ≠ L := fun e => by
              rw [e, hL] at nD
              cases nD
            refine ⟨_, hL4, by rw [List.length_map]; exact small1000 (by omega), same_wr (s3.trans s4) nL, ls ++ [D], ?_, by rw [List.length_append, lls]; rfl, fun j l m hj hm => ?_⟩
            · rw [upd_same, List.map_append]
              rfl
            · by_cases hjl : j < ls.length
              · rw [List.getElem?_append_left hjl] at hj
                obtain ⟨k1, k2⟩ := hls j l m hj hm
                exact ⟨k1, by rw [upd_ne k1]; exact s4 _ _ k2⟩
              · have j2 : j < (ls ++ [D]).length := (List.getElem?_eq_some_iff.mp hj).1
                rw [List.length_append, List.length_singleton] at j2
                have e : j = ls.length := by omega
                subst e
                rw [List.getElem?_concat_length] at hj
                cases hj
                rw [lls, hn] at hm
                cases hm
                exact ⟨nDL, by rw [upd_ne nDL]; exact hD⟩
      · rintro H3 ⟨s3, ls, hL, lls, hls⟩
        rw [List.length_map] at lls
        exact q H3 L ns ls (s2.trans s3) (s2.free nL) hL ⟨nd, oc, lls, fun j l n h1 h2 => (hls j l n h1 h2).2⟩
end
end Orr
/-! bound_of, by_groups. -/
namespace Orr
open PySem PySem.Spec PyProof.Rows L2
/-- the contacts that the law hands to network -/
structure Net (K : PySem.W.Frag) (d : V → Ct) (g : Int) (H : Hp) (a : Addr) (xs : List V) : Prop where
  sq : SqL K H a xs
  ct : AreCt d H xs
  gd : ∀ x ∈ xs, Gd (d x)
  ln : xs.length ≤ 8
  g0 : 0 ≤ g
theorem Net.mono {K : PySem.W.Frag} {d : V → Ct} {g : Int} {H H' : Hp} {a : Addr} {xs : List V} (N : Net K d g H a xs) (s : Same H H') : Net K d g H' a xs := ⟨s.seq N.sq, N.ct.mono s, N.gd, N.ln, N.g0⟩
theorem Net.len {K : PySem.W.Frag} {d : V → Ct} {g : Int} {H : Hp} {a : Addr} {xs zs : List V} (N : Net K d g H a xs) (n : NetOk d (Tg true g) xs zs) : zs.length ≤ 8 :=
  Nat.le_trans (n.len fun x m => tg_irrefl N.g0 (N.gd x m)) N.ln
theorem Net.cts {K : PySem.W.Frag} {d : V → Ct} {g : Int} {H : Hp} {a : Addr} {xs zs : List V} (N : Net K d g H a xs) (n : NetOk d (Tg true g) xs zs) : AreCt d H zs := N.ct.sub n.mem
section
variable {P : Program} {w : World} {K : PySem.W.Frag} {mg : Str → Option Value} {base : Heap}
def spBound (K : PySem.W.Frag) : Sp := fun vs H Q _ => ∃ (d : V → Ct) (g : Int) (a : Addr) (xs : List V) (p : Int) (ky : Ct → Int), vs = [.ref a, .int p, .int g] ∧ Net K d g H a xs ∧ Part p ky ∧ ∀ H', Same H H' → Q (.int (grp d g ky xs)) H'
theorem c_bound (D : Def K mg "bound_of" sBound) (CG : Cal P w K mg base 1 "groups_by" ["contacts", "part"] (spGroups K)) (CB : Cal P w K mg base 5 "best_choice" ["contacts", "gap"] (spBest K)) (mS : mg "sum" = none) :
    Cal P w K mg base 6 "bound_of" ["contacts", "part", "gap"] (spBound K) := by
  refine D.cal (fun _ _ _ _ _ _ us hl => match us, hl with | [_, _, _], _ => rfl) fun f fd F => F.ok scBound (fun vs H Q E h => ?_) (fun cdv A outer s H vs Q E hr h => ?_)
  · obtain ⟨d, g, a, xs, p, ky, rfl, _⟩ := h
    rfl
  · obtain ⟨d, g, a, xs, p, ky, rfl, N, hp, q⟩ := h
    have hr1 : Room 1 _ := hr.mono (by decide)
    refine ⟨_, pss_one (ps_ret (pe_callB (cr_sum rfl) (by rfl) mS (by decide +kernel) (pa_cons
      (pe_lc (own := [("group", 3)]) (g := gName 3) (tt := tYes) (te := tOp (rIxT K) (tCall (spBest K) [] E0 (tCons (tVar 3) (tCons (tVar 2) tNil))) (tC (.int 1))) rfl scBound.nd
        (pi_list (pe_cal CG hr1 rfl (pa_cons (pv 0) (pa_cons (pv 1) pa_nil)))) (blkOk_by (own := [("group", 3)]) (N := ["contacts", "part", "gap", "group"]) (sc := defScope sBound) (by decide +kernel))
        (fun _ _ _ _ _ => pg_name (i := 3) scBound.nd rfl (Or.inl rfl)) (fun _ _ _ _ _ => pts_nil)
        (fun _ _ _ _ _ => pe_ix (r := rIxT K) ix_tup (pe_cal CB hr rfl (pa_cons (pv 3) (pa_cons (pv 2) pa_nil))) pe_int (fun _ _ => rfl))) pa_nil))), ?_⟩
    have hl8 := N.ln
    refine ⟨_, rfl, _, rfl, d, a, xs, p, ky, rfl, N.sq, N.ct, hp, by omega, fun H2 L ns ls s2 nL hL gr => ?_⟩
    refine ⟨L, rfl, ⟨_, SqL.of hL⟩, fun D nD => lc_list (K := K) (a := L) (xs := ls.map V.ref) (fun i H' => Same H2 H' ∧ H' D = some (.lst ((ns.take i).map fun n => .int (bst d false g (xs.filter fun x => ky (d x) == n)))))
      ⟨same_upd nD, upd_same⟩ (fun i H' _ p => SqL.of (p.1 _ _ hL)) ?_ ?_⟩
    · rintro i y H3 hi ⟨s3, hD⟩
      have il : i < ls.length := by
        have := (List.getElem?_eq_some_iff.mp hi).1
        rw [List.length_map] at this
        exact this
      have ln := gr.ln
      have hli : ls[i]? = some ls[i] := List.getElem?_eq_getElem il
      have hni : ns[i]? = some (ns[i]'(by omega)) := List.getElem?_eq_getElem (by omega)
      rw [List.getElem?_map, hli] at hi
      cases hi
      have hg := s3 _ _ (gr.at_ i _ _ hli hni)
      generalize hn : ns[i]'(by omega) = n at hni hg
      have hsub : ∀ x ∈ xs.filter (fun x => ky (d x) == n), x ∈ xs := fun x m => (List.mem_filter.mp m).1
      have hfl : (xs.filter fun x => ky (d x) == n).length ≤ 8 := Nat.le_trans (List.length_filter_le _ _) hl8
      have N3 := N.mono (s2.trans s3)
      have nl8 : ns.length ≤ 1000 ∨ True := .inr trivial
      refine ⟨rfl, _, rfl, _, rfl, d, g, _, _, rfl, SqL.of hg, N3.ct.sub hsub, fun x m => N.gd x (hsub x m), by omega, N.g0, fun H4 p4 l4 r4 ys b s4 hp4 nl4 hl4 pl => ?_⟩
      refine ⟨p4, _, 1, .int b, rfl, rfl, SqT.of hp4, atI_nat (j := 1) rfl, _, s4 _ _ hD, ?_, ?_, ?_⟩
      · rw [List.length_map]
        refine small1000 (take_le _ _ ?_)
        exact Nat.le_trans (ns_len gr fun x m => hp.mem (N.gd x m)) (by decide)
      · exact same_wr (s3.trans s4) nD
      · rw [upd_same, takeM hni, List.map_append, plan_bst N.g0 (fun x m => N.gd x (hsub x m)) hfl pl]
        rfl
    · rintro H3 ⟨s3, hD⟩
      rw [List.length_map, gr.ln, takeAll] at hD
      refine ⟨D, ns.map fun n => bst d false g (xs.filter fun x => ky (d x) == n), rfl, ?_, ?_⟩
      · rw [List.map_map]
        exact SqL.of hD
      · rw [grp_occ gr.nd (fun x m => hp.mem (N.gd x m)) gr.oc]
        exact q H3 (s2.trans s3)
end
end Orr
/-! by_groups. -/
namespace Orr
open PySem PySem.Spec PyProof.Rows L2
section
variable {P : Program} {w : World} {K : PySem.W.Frag} {mg : Str → Option Value} {base : Heap}
def spByG (K : PySem.W.Frag) : Sp := fun vs H Q _ => ∃ (d : V → Ct) (g : Int) (a : Addr) (xs : List V) (p : Int) (ky : Ct → Int), vs = [.ref a, .int p, .int g] ∧ Net K d g H a xs ∧ Part p ky ∧
  ∀ (H' : Hp) (T : Addr) (ys : List V), Same H H' → H' T = some (.lst ys) → NetOk d (Tg true g) xs ys → Q (.ref T) H'
theorem c_byg (D : Def K mg "by_groups" sByG) (CG : Cal P w K mg base 1 "groups_by" ["contacts", "part"] (spGroups K)) (CB : Cal P w K mg base 5 "best_choice" ["contacts", "gap"] (spBest K)) (CF : Cal P w K mg base 4 "fits_with" ["contact", "taken", "gap"] (spFits K)) :
    Cal P w K mg base 6 "by_groups" ["contacts", "part", "gap"] (spByG K) := by
  refine D.cal (fun _ _ _ _ _ _ us hl => match us, hl with | [_, _, _], _ => rfl) fun f fd F => F.ok scByG (fun vs H Q E h => ?_) (fun cdv A outer s H vs Q E hr h => ?_)
  · obtain ⟨d, g, a, xs, p, ky, rfl, _⟩ := h
    rfl
  · obtain ⟨d, g, a, xs, p, ky, rfl, N, hp, q⟩ := h
    have hr1 : Room 1 _ := hr.mono (by decide)
    have hr4 : Room 4 _ := hr.mono (by decide)
    refine ⟨_, pss_cons (ps_set (i := 3) scByG.nd rfl (.inr rfl) (pe_lst pa_nil))
      (pss_cons (ps_for PassesOwn.never rfl (pi_list (pe_cal CG hr1 rfl (pa_cons (pv 0) (pa_cons (pv 1) pa_nil)))) (pg_name (i := 4) scByG.nd rfl (.inl rfl))
        (pss_cons (ps_setLc (i := 5) (own := [("contact", 6)]) (g := gName 6) (tt := tB (tCall (spFits K) [] E0 (tCons (tVar 6) (tCons (tVar 3) (tCons (tVar 2) tNil))))) (te := tVar 6) (by rfl) scByG.nd rfl rfl (sw_true rfl rfl rfl (by decide +kernel)) (pi_list (pv 4))
            (blkOk_by (own := [("contact", 6)]) (N := ["contacts", "part", "gap", "taken", "group", "free", "contact"]) (sc := defScope sByG) (by decide +kernel))
            (fun _ _ _ _ _ => pg_name (i := 6) scByG.nd rfl (Or.inl rfl)) (fun _ _ _ _ _ => pts_one (pt_val (pe_cal CF hr4 rfl (pa_cons (pv 6) (pa_cons (pv 3) (pa_cons (pv 2) pa_nil)))))) (fun _ _ _ _ _ => pv 6))
        (pss_one (ps_set (i := 3) scByG.nd rfl (.inr rfl) (pe_op op_cat (pv 3) (pe_ix ix_tup (pe_cal CB hr rfl (pa_cons (pv 5) (pa_cons (pv 2) pa_nil))) pe_int (fun _ _ => rfl)))))))
      (pss_one (ps_ret (pv 3)))), ?_⟩
    have hl8 := N.ln
    refine ⟨Nat.zero_le _, fun T0 nT0 => ?_⟩
    have s1 : Same H (upd H T0 (.lst [])) := same_upd nT0
    have N1 := N.mono s1
    refine ⟨_, rfl, _, rfl, d, a, xs, p, ky, rfl, N1.sq, N1.ct, hp, by omega, fun H2 L ns ls s2 nL hL gr => ?_⟩
    have N2 := N1.mono s2
    refine ⟨L, rfl, ⟨_, SqL.of hL⟩, for_list (K := K) (a := L) (xs := ls.map V.ref) (fun i σ H' => Same H2 H' ∧ ∃ (T : Addr) (ys : List V) (v4 v5 : Option V), σ = [some (.ref a), some (.int p), some (.int g), some (.ref T), v4, v5, none] ∧ H' T = some (.lst ys) ∧ NetOk d (Tg true g) xs ys)
      ⟨Same.refl _, T0, [], none, none, rfl, s2 _ _ upd_same, .nil⟩ (fun i σ H' _ p => SqL.of (p.1 _ _ hL)) ?_ ?_⟩
    · rintro i y σ H3 hi ⟨s3, T, ys, v4, v5, rfl, hT, nk⟩
      have il : i < ls.length := by
        have := (List.getElem?_eq_some_iff.mp hi).1
        rw [List.length_map] at this
        exact this
      have ln := gr.ln
      have hli : ls[i]? = some ls[i] := List.getElem?_eq_getElem il
      have hni : ns[i]? = some (ns[i]'(by omega)) := List.getElem?_eq_getElem (by omega)
      rw [List.getElem?_map, hli] at hi
      cases hi
      have hg := s3 _ _ (gr.at_ i _ _ hli hni)
      generalize hn : ns[i]'(by omega) = n at hni hg
      have hsub : ∀ x ∈ xs.filter (fun x => ky (d x) == n), x ∈ xs := fun x m => (List.mem_filter.mp m).1
      have hfl : (xs.filter fun x => ky (d x) == n).length ≤ 8 := Nat.le_trans (List.length_filter_le _ _) hl8
      have N3 := N2.mono s3
      generalize hgr : (xs.filter fun x => ky (d x) == n) = gs at hg hsub hfl
      -- free = [..]
      refine ⟨_, rfl, _, rfl, ⟨_, SqL.of hg⟩, fun D nD => lc_list (K := K) (a := ls[i]) (xs := gs) (fun i H' => Same H3 H' ∧ H' D = some (.lst ((gs.take i).filter fun x => decide (Fits d g x ys))))
        ⟨same_upd nD, upd_same⟩ (fun i H' _ p => SqL.of (p.1 _ _ hg)) ?_ ?_⟩
      · rintro j x H4 hj ⟨s4, hD⟩
        have N4 := N3.mono s4
        refine ⟨rfl, _, rfl, _, rfl, _, rfl, d, x, T, ys, g, rfl, N4.ct x (hsub x (List.mem_of_getElem? hj)), SqL.of (s4 _ _ hT), N4.cts nk, _, rfl, ?_⟩
        by_cases c : Fits d g x ys
        · rw [decide_eq_true c]
          refine iteT ⟨x, rfl, _, hD, ?_, same_wr s4 nD, ?_⟩
          · exact small1000 (Nat.le_trans (List.length_filter_le _ _) (take_le _ _ (by omega)))
          · rw [upd_same, takeM hj, List.filter_append]
            simp [c]
        · rw [decide_eq_false c]
          refine iteF ⟨s4, ?_⟩
          rw [hD, takeM hj, List.filter_append]
          simp [c]
      · rintro H4 ⟨s4, hD⟩
        rw [takeAll] at hD
        have N4 := N3.mono s4
        have fsub : ∀ x ∈ gs.filter (fun x => decide (Fits d g x ys)), x ∈ xs ∧ Fits d g x ys := fun x m => by
          obtain ⟨h1, h2⟩ := List.mem_filter.mp m
          exact ⟨hsub x h1, of_decide_eq_true h2⟩
        have fl : (gs.filter fun x => decide (Fits d g x ys)).length ≤ 100 := Nat.le_trans (List.length_filter_le _ _) (by omega)
        -- taken = taken + best_choice(free, gap)[0]
        refine ⟨_, rfl, _, rfl, _, rfl, d, g, D, _, rfl, SqL.of hD, N4.ct.sub fun x m => (fsub x m).1, fun x m => N.gd x (fsub x m).1, fl, N.g0, fun H5 p5 l5 r5 zs b s5 hp5 nl5 hl5 pl => ?_⟩
        have nk2 : NetOk d (Tg true g) xs (ys ++ zs) := by
          refine ⟨fun y hy => (List.mem_append.mp hy).elim (nk.mem y) fun h => (fsub y (pl.net.mem y h)).1, List.pairwise_append.mpr ⟨nk.pw, pl.net.pw.imp fun {x y} h => .inr h, fun y hy z hz => ?_⟩⟩
          exact ((fsub z (pl.net.mem z hz)).2 y hy).symm
        have l8 : (ys ++ zs).length ≤ 8 := N.len nk2
        rw [List.length_append] at l8
        refine ⟨p5, _, 0, .ref l5, rfl, rfl, SqT.of hp5, atI_nat (j := 0) rfl, T, l5, ys, zs, rfl, rfl, s5 _ _ (s4 _ _ hT), hl5, Nat.le_of_lt (small1000 (by omega)), fun T2 nT2 => ?_⟩
        exact ⟨same_add (s3.trans (s4.trans s5)) nT2, T2, ys ++ zs, _, _, rfl, upd_same, nk2⟩
    · rintro σ H3 ⟨s3, T, ys, v4, v5, rfl, hT, nk⟩
      exact ⟨_, rfl, q H3 T ys (s1.trans (s2.trans s3)) hT nk⟩
end
end Orr
/-! exchanged, better_exchange, improved, network. -/
namespace Orr
open PySem PySem.Spec PyProof.Rows L2
section
variable {P : Program} {w : World} {K : PySem.W.Frag} {mg : Str → Option Value} {base : Heap}
/-! ### exchanged -/
def spExch (K : PySem.W.Frag) : Sp := fun vs H Q _ => ∃ (d : V → Ct) (g : Int) (a b : Addr) (xs ys : List V) (x : V), vs = [.ref a, .ref b, x, .int g] ∧ Net K d g H a xs ∧ SqL K H b ys ∧ NetOk d (Tg true g) xs ys ∧ x ∈ xs ∧
  ∀ (H' : Hp) (R : Addr) (zs : List V), Same H H' → H' R = some (.lst zs) → NetOk d (Tg true g) xs zs → Q (.ref R) H'
theorem c_exch (D : Def K mg "exchanged" sExch) (CGo : Cal P w K mg base 3 "go_together" ["first", "second", "gap"] spGo) (CF : Cal P w K mg base 4 "fits_with" ["contact", "taken", "gap"] (spFits K)) :
    Cal P w K mg base 5 "exchanged" ["contacts", "taken", "contact", "gap"] (spExch K) := by
  refine D.cal (fun _ _ _ _ _ _ us hl => match us, hl with | [_, _, _, _], _ => rfl) fun f fd F => F.ok scExch (fun vs H Q E h => ?_) (fun cdv A outer s H vs Q E hr h => ?_)
  · obtain ⟨d, g, a, b, xs, ys, x, rfl, _⟩ := h
    rfl
  · obtain ⟨d, g, a, b, xs, ys, x, rfl, N, hb, nk, hx, q⟩ := h
    have hr3 : Room 3 _ := hr.mono (by decide)
    refine ⟨_, pss_cons (ps_set (i := 4) scExch.nd rfl (.inl rfl) (pe_op op_cat
        (pe_lc (own := [("other", 5)]) (g := gName 5) (tt := tB (tCall spGo [] E0 (tCons (tVar 5) (tCons (tVar 2) (tCons (tVar 3) tNil))))) (te := tVar 5) rfl scExch.nd (pi_list (pv 1))
          (blkOk_by (own := [("other", 5)]) (N := ["contacts", "taken", "contact", "gap", "result", "other"]) (sc := defScope sExch) (by decide +kernel))
          (fun _ _ _ _ _ => pg_name (i := 5) scExch.nd rfl (Or.inl rfl)) (fun _ _ _ _ _ => pts_one (pt_val (pe_cal CGo hr3 rfl (pa_cons (pv 5) (pa_cons (pv 2) (pa_cons (pv 3) pa_nil)))))) (fun _ _ _ _ _ => pv 5))
        (pe_lst (pa_cons (pv 2) pa_nil))))
      (pss_cons (ps_for PassesOwn.never rfl (pi_list (pv 0)) (pg_name (i := 5) scExch.nd rfl (.inl rfl))
        (pss_one (ps_if (pt_val (pe_cal CF hr rfl (pa_cons (pv 5) (pa_cons (pv 4) (pa_cons (pv 3) pa_nil)))))
          (pss_one (ps_expr (pe_bm PySem.F.plainAttrs_list PySem.F.slot_list_append PySem.F.type_list_append mt_append (pv 4) (pa_cons (pv 5) pa_nil)))) pss_nil)))
      (pss_one (ps_ret (pv 4)))), ?_⟩
    have hl8 := N.ln
    have hy8 := N.len nk
    refine ⟨_, rfl, _, rfl, ⟨_, hb⟩, fun D nD => lc_list (K := K) (a := b) (xs := ys) (fun i H' => Same H H' ∧ H' D = some (.lst ((ys.take i).filter fun y => decide (Tg true g (d y) (d x)))))
      ⟨same_upd nD, upd_same⟩ (fun i H' _ p => p.1.seq hb) ?_ ?_⟩
    · rintro j y H4 hj ⟨s4, hD⟩
      have N4 := N.mono s4
      refine ⟨rfl, _, rfl, _, rfl, _, rfl, d, y, x, g, rfl, (N4.cts nk).at hj, N4.ct x hx, _, rfl, ?_⟩
      by_cases c : Tg true g (d y) (d x)
      · rw [decide_eq_true c]
        refine iteT ⟨y, rfl, _, hD, ?_, same_wr s4 nD, ?_⟩
        · exact small1000 (Nat.le_trans (List.length_filter_le _ _) (take_le _ _ (by omega)))
        · rw [upd_same, takeM hj, List.filter_append]
          simp [c]
      · rw [decide_eq_false c]
        refine iteF ⟨s4, ?_⟩
        rw [hD, takeM hj, List.filter_append]
        simp [c]
    · rintro H2 ⟨s2, hD⟩
      rw [takeAll] at hD
      have fl : (ys.filter fun y => decide (Tg true g (d y) (d x))).length ≤ 8 := Nat.le_trans (List.length_filter_le _ _) hy8
      have nk1 : NetOk d (Tg true g) xs ((ys.filter fun y => decide (Tg true g (d y) (d x))) ++ [x]) := by
        refine ⟨fun y hy => (List.mem_append.mp hy).elim (fun h => nk.mem y (List.mem_filter.mp h).1) fun h => by rw [List.mem_singleton.mp h]; exact hx, List.pairwise_append.mpr ⟨nk.pw.filter _, List.pairwise_singleton _ _, fun y hy z hz => ?_⟩⟩
        rw [List.mem_singleton.mp hz]
        exact of_decide_eq_true (List.mem_filter.mp hy).2
      refine ⟨_, rfl, by show 1 ≤ sizeLine; decide, fun u nu => ?_⟩
      refine ⟨D, u, _, [x], rfl, rfl, same_upd nu _ _ hD, upd_same, Nat.le_of_lt (small1000 (by rw [List.length_singleton]; omega)), fun R nR => ?_⟩
      have s3 : Same H (upd (upd H2 u (.lst [x])) R (.lst ((ys.filter fun y => decide (Tg true g (d y) (d x))) ++ [x]))) := same_add (same_add s2 nu) nR
      have nR0 : H R = none := (same_add s2 nu).free nR
      refine ⟨_, rfl, a, rfl, ⟨_, s3.seq N.sq⟩, for_list (K := K) (a := a) (xs := xs) (fun i σ H' => Same H H' ∧ ∃ (zs : List V) (v5 : Option V), σ = [some (.ref a), some (.ref b), some x, some (.int g), some (.ref R), v5] ∧ H' R = some (.lst zs) ∧ NetOk d (Tg true g) xs zs)
        ⟨s3, _, none, rfl, upd_same, nk1⟩ (fun i σ H' _ p => p.1.seq N.sq) ?_ ?_⟩
      · rintro j y σ H4 hj ⟨s4, zs, v5, rfl, hR, nz⟩
        have N4 := N.mono s4
        have hz8 := N.len nz
        refine ⟨_, rfl, _, rfl, _, rfl, d, y, R, zs, g, rfl, N4.ct.at hj, SqL.of hR, N4.cts nz, _, rfl, ?_⟩
        by_cases c : Fits d g y zs
        · rw [decide_eq_true c]
          refine iteT ⟨_, rfl, .inl ⟨rfl, _, SqL.of hR⟩, _, rfl, R, zs, _, rfl, rfl, hR, small1000 (by omega), ?_⟩
          refine ⟨same_wr s4 nR0, zs ++ [y], _, rfl, upd_same, ⟨fun z hz => (List.mem_append.mp hz).elim (nz.mem z) fun h => by rw [List.mem_singleton.mp h]; exact List.mem_of_getElem? hj, List.pairwise_append.mpr ⟨nz.pw, List.pairwise_singleton _ _, fun z hz u hu => ?_⟩⟩⟩
          rw [List.mem_singleton.mp hu]
          exact (c z hz).symm
        · rw [decide_eq_false c]
          exact iteF ⟨s4, zs, _, rfl, hR, nz⟩
      · rintro σ H4 ⟨s4, zs, v5, rfl, hR, nz⟩
        exact ⟨_, rfl, q H4 R zs s4 hR nz⟩
/-! ### better_exchange -/
def spBetter (K : PySem.W.Frag) : Sp := fun vs H Q _ => ∃ (d : V → Ct) (g : Int) (a b : Addr) (xs ys : List V), vs = [.ref a, .ref b, .int g] ∧ Net K d g H a xs ∧ SqL K H b ys ∧ NetOk d (Tg true g) xs ys ∧
  (∀ H' : Hp, Same H H' → Q .non H') ∧ ∀ (H' : Hp) (R : Addr) (zs : List V), Same H H' → H' R = some (.lst zs) → NetOk d (Tg true g) xs zs → Q (.ref R) H'
theorem c_better (D : Def K mg "better_exchange" sBetter) (CX : Cal P w K mg base 5 "exchanged" ["contacts", "taken", "contact", "gap"] (spExch K)) (CW : Cal P w K mg base 1 "weight_of" ["contacts"] (spWt K)) :
    Cal P w K mg base 6 "better_exchange" ["contacts", "taken", "gap"] (spBetter K) := by
  refine D.cal (fun _ _ _ _ _ _ us hl => match us, hl with | [_, _, _], _ => rfl) fun f fd F => F.ok scBetter (fun vs H Q E h => ?_) (fun cdv A outer s H vs Q E hr h => ?_)
  · obtain ⟨d, g, a, b, xs, ys, rfl, _⟩ := h
    rfl
  · obtain ⟨d, g, a, b, xs, ys, rfl, N, hb, nk, q0, q1⟩ := h
    have hr1 : Room 1 _ := hr.mono (by decide)
    refine ⟨_, pss_cons (ps_for PassesOwn.never rfl (pi_list (pv 0)) (pg_name (i := 3) scBetter.nd rfl (.inl rfl))
        (pss_cons (ps_set (i := 4) scBetter.nd rfl (.inl rfl) (pe_cal CX hr rfl (pa_cons (pv 0) (pa_cons (pv 1) (pa_cons (pv 3) (pa_cons (pv 2) pa_nil))))))
        (pss_one (ps_if (pt_cmpR op_gt (pe_cal CW hr1 rfl (pa_cons (pv 4) pa_nil)) (pe_cal CW hr1 rfl (pa_cons (pv 1) pa_nil)) (nomark _)) (pss_one (ps_ret (pv 4))) pss_nil))))
      (pss_one (ps_ret pe_non)), ?_⟩
    refine ⟨_, rfl, a, rfl, ⟨_, N.sq⟩, for_list (K := K) (a := a) (xs := xs) (fun i σ H' => Same H H' ∧ ∃ v3 v4, σ = [some (.ref a), some (.ref b), some (.int g), v3, v4])
      ⟨Same.refl _, none, none, rfl⟩ (fun i σ H' _ p => p.1.seq N.sq) ?_ ?_⟩
    · rintro j x σ H2 hj ⟨s2, v3, v4, rfl⟩
      have N2 := N.mono s2
      refine ⟨_, rfl, _, rfl, _, rfl, _, rfl, d, g, a, b, xs, ys, x, rfl, N2, s2.seq hb, nk, List.mem_of_getElem? hj, fun H3 R zs s3 hR nz => ?_⟩
      have N3 := N2.mono s3
      have hz8 := N.len nz
      have hy8 := N.len nk
      refine ⟨_, rfl, d, R, zs, rfl, SqL.of hR, N3.cts nz, by omega, fun H4 s4 => ?_⟩
      have N4 := N3.mono s4
      refine ⟨_, rfl, d, b, ys, rfl, (s2.trans (s3.trans s4)).seq hb, N4.cts nk, by omega, fun H5 s5 => ?_⟩
      refine ⟨_, _, rfl, rfl, _, rfl, ite2 (fun c => ?_) (fun c => ?_)⟩
      · exact ⟨_, rfl, q1 H5 R zs (s2.trans (s3.trans (s4.trans s5))) (s5 _ _ (s4 _ _ hR)) nz⟩
      · exact ⟨s2.trans (s3.trans (s4.trans s5)), _, _, rfl⟩
    · rintro σ H2 ⟨s2, v3, v4, rfl⟩
      exact q0 H2 s2
/-! ### improved -/
def spImpr (K : PySem.W.Frag) : Sp := fun vs H Q _ => ∃ (d : V → Ct) (g : Int) (a b : Addr) (xs ys : List V), vs = [.ref a, .ref b, .int g] ∧ Net K d g H a xs ∧ SqL K H b ys ∧ NetOk d (Tg true g) xs ys ∧
  ∀ (H' : Hp) (R : Addr) (zs : List V), Same H H' → SqL K H' R zs → NetOk d (Tg true g) xs zs → Q (.ref R) H'
theorem c_impr {tk : Tok} (D : Def K mg "improved" sImpr) (CB : Cal P w K mg base 6 "better_exchange" ["contacts", "taken", "gap"] (spBetter K)) (mE : mg "EXCHANGES" = some (.int 50 tk)) (mR : mg "range" = none) :
    Cal P w K mg base 7 "improved" ["contacts", "taken", "gap"] (spImpr K) := by
  refine D.cal (fun _ _ _ _ _ _ us hl => match us, hl with | [_, _, _], _ => rfl) fun f fd F => F.ok scImpr (fun vs H Q E h => ?_) (fun cdv A outer s H vs Q E hr h => ?_)
  · obtain ⟨d, g, a, b, xs, ys, rfl, _⟩ := h
    rfl
  · obtain ⟨d, g, a, b, xs, ys, rfl, N, hb, nk, q⟩ := h
    refine ⟨_, pss_cons (ps_for PassesOwn.never rfl (pi_range1 (by rfl) mR (pa_cons (pe_glob (v := .int 50) rfl mE ⟨_, rfl⟩) pa_nil)) (pg_name (i := 3) scImpr.nd rfl (.inl rfl))
        (pss_cons (ps_set (i := 4) scImpr.nd rfl (.inl rfl) (pe_cal CB hr rfl (pa_cons (pv 0) (pa_cons (pv 1) (pa_cons (pv 2) pa_nil)))))
        (pss_cons (ps_if (pt_cmp (pc_isN (pv 4))) (pss_one (ps_ret (pv 1))) pss_nil)
        (pss_one (ps_set (i := 1) scImpr.nd rfl (.inl rfl) (pv 4))))))
      (pss_one (ps_ret (pv 1))), ?_⟩
    refine ⟨50, rfl, by decide, by decide, for_range (n := 50) (fun i σ H' => Same H H' ∧ ∃ (R : Addr) (zs : List V) (v3 v4 : Option V), σ = [some (.ref a), some (.ref R), some (.int g), v3, v4] ∧ SqL K H' R zs ∧ NetOk d (Tg true g) xs zs)
      ⟨Same.refl _, b, ys, none, none, rfl, hb, nk⟩ ?_ ?_⟩
    · rintro i σ H2 hi ⟨s2, R, zs, v3, v4, rfl, hR, nz⟩
      refine ⟨_, rfl, _, rfl, _, rfl, d, g, a, R, xs, zs, rfl, N.mono s2, hR, nz, fun H3 s3 => ?_, fun H3 R2 ws s3 hR2 nw => ?_⟩
      · exact ⟨_, rfl, true, rfl, iteT ⟨_, rfl, q H3 R zs (s2.trans s3) (s3.seq hR) nz⟩⟩
      · exact ⟨_, rfl, false, rfl, iteF ⟨_, rfl, s2.trans s3, R2, ws, _, _, rfl, SqL.of hR2, nw⟩⟩
    · rintro σ H2 ⟨s2, R, zs, v3, v4, rfl, hR, nz⟩
      exact ⟨_, rfl, q H2 R zs s2 hR nz⟩
/-! ### network -/
def spNet (K : PySem.W.Frag) : Sp := fun vs H Q _ => ∃ (d : V → Ct) (g : Int) (a : Addr) (xs : List V), vs = [.ref a, .int g] ∧ Net K d g H a xs ∧ g ≤ 100000 ∧
  ∀ (H' : Hp) (p r : Addr) (zs : List V), Same H H' → NetOk d (Tg true g) xs zs → H' p = some (.tup [.ref r, .int (wsum d zs), .int (min (grp d g Ct.si xs) (grp d g Ct.cr xs))]) → Q (.ref p) H'
theorem c_net {tk : Tok} (D : Def K mg "network" sNet) (C1 : Cal P w K mg base 2 "check_contacts" ["contacts", "most"] (spCkC K)) (C2 : Cal P w K mg base 2 "check_gap" ["gap"] spCkG) (CI : Cal P w K mg base 7 "improved" ["contacts", "taken", "gap"] (spImpr K))
    (CG : Cal P w K mg base 6 "by_groups" ["contacts", "part", "gap"] (spByG K)) (CW : Cal P w K mg base 1 "weight_of" ["contacts"] (spWt K)) (CB : Cal P w K mg base 6 "bound_of" ["contacts", "part", "gap"] (spBound K)) (CS : Cal P w K mg base 1 "begin_and_site" ["contact"] spBas)
    (mM : mg "MOST_OF_NETWORK" = some (.int 100 tk)) (mMin : mg "min" = none) (mS : mg "sorted" = none) : Cal P w K mg base 8 "network" ["contacts", "gap"] (spNet K) := by
  obtain ⟨fS, fdS, GS, mS2, kS, bS⟩ := CS
  refine D.cal (fun _ _ _ _ _ _ us hl => match us, hl with | [_, _], _ => rfl) fun f fd F => F.ok scNet (fun vs H Q E h => ?_) (fun cdv A outer s H vs Q E hr h => ?_)
  · obtain ⟨d, g, a, xs, rfl, _⟩ := h
    rfl
  · obtain ⟨d, g, a, xs, rfl, N, hg, q⟩ := h
    have hr1 : Room 1 _ := hr.mono (by decide)
    have hr2 : Room 2 _ := hr.mono (by decide)
    have hr3 : Room 3 _ := hr.mono (by decide)
    have hr6 : Room 6 _ := hr.mono (by decide)
    refine ⟨_, pss_cons (ps_expr (pe_cal C1 hr2 rfl (pa_cons (pv 0) (pa_cons (pe_glob (v := .int 100) rfl mM ⟨_, rfl⟩) pa_nil))))
      (pss_cons (ps_expr (pe_cal C2 hr2 rfl (pa_cons (pv 1) pa_nil)))
      (pss_cons (ps_set (i := 2) scNet.nd rfl (.inl rfl) (pe_cal CI hr rfl (pa_cons (pv 0) (pa_cons (pe_cal CG hr6 rfl (pa_cons (pv 0) (pa_cons pe_int (pa_cons (pv 1) pa_nil)))) (pa_cons (pv 1) pa_nil)))))
      (pss_cons (ps_set (i := 3) scNet.nd rfl (.inl rfl) (pe_cal CI hr rfl (pa_cons (pv 0) (pa_cons (pe_cal CG hr6 rfl (pa_cons (pv 0) (pa_cons pe_int (pa_cons (pv 1) pa_nil)))) (pa_cons (pv 1) pa_nil)))))
      (pss_cons (ps_set (i := 4) scNet.nd rfl (.inl rfl) (pv 2))
      (pss_cons (ps_if (pt_cmpR op_gt (pe_cal CW hr1 rfl (pa_cons (pv 3) pa_nil)) (pe_cal CW hr1 rfl (pa_cons (pv 2) pa_nil)) (nomark _)) (pss_one (ps_set (i := 4) scNet.nd rfl (.inl rfl) (pv 3))) pss_nil)
      (pss_cons (ps_set (i := 5) scNet.nd rfl (.inl rfl) (pe_callB (call_min2 rfl) (by rfl) mMin (by decide +kernel) (pa_cons (pe_cal CB hr6 rfl (pa_cons (pv 0) (pa_cons pe_int (pa_cons (pv 1) pa_nil)))) (pa_cons (pe_cal CB hr6 rfl (pa_cons (pv 0) (pa_cons pe_int (pa_cons (pv 1) pa_nil)))) pa_nil))))
      (pss_one (ps_ret (pe_tup (pa_cons (pe_callBK (cr_sortP GS bS hr3) (by rfl) mS (by decide +kernel) (pa_cons (pv 4) pa_nil) (pk_cons (pe_glob (v := .ref fS) rfl mS2 rfl) pk_nil)) (pa_cons (pe_cal CW hr1 rfl (pa_cons (pv 4) pa_nil)) (pa_cons (pv 5) pa_nil)))))))))))), ?_⟩
    have hl8 := N.ln
    have g0 := N.g0
    refine ⟨_, rfl, d, a, xs, 100, rfl, N.sq, N.ct, by omega, N.gd, ?_⟩
    refine ⟨_, rfl, g, rfl, ⟨g0, hg⟩, ?_⟩
    -- by_sites
    refine ⟨_, rfl, _, rfl, _, rfl, d, g, a, xs, 1, Ct.si, rfl, N, .inr ⟨rfl, rfl⟩, fun H1 T1 y1 s1 hT1 n1 => ?_⟩
    have N1 := N.mono s1
    refine ⟨_, rfl, d, g, a, T1, xs, y1, rfl, N1, SqL.of hT1, n1, fun H2 R2 z2 s2 hR2 k2 => ?_⟩
    have N2 := N1.mono s2
    -- by_craft
    refine ⟨_, rfl, _, rfl, _, rfl, d, g, a, xs, 0, Ct.cr, rfl, N2, .inl ⟨rfl, rfl⟩, fun H3 T3 y3 s3 hT3 n3 => ?_⟩
    have N3 := N2.mono s3
    refine ⟨_, rfl, d, g, a, T3, xs, y3, rfl, N3, SqL.of hT3, n3, fun H4 R4 z4 s4 hR4 k4 => ?_⟩
    have N4 := N3.mono s4
    have hR2' := (s3.trans s4).seq hR2
    have l2 := N.len k2
    have l4 := N.len k4
    -- choice = by_sites; the test
    refine ⟨_, rfl, _, rfl, d, R4, z4, rfl, hR4, N4.cts k4, by omega, fun H5 s5 => ?_⟩
    have N5 := N4.mono s5
    refine ⟨_, rfl, d, R2, z2, rfl, s5.seq hR2', N5.cts k2, by omega, fun H6 s6 => ?_⟩
    have N6 := N5.mono s6
    -- what follows, for the choice at C
    have fin : ∀ (C : Addr) (zs : List V), SqL K H6 C zs → NetOk d (Tg true g) xs zs → (tSeq (tAsg (tCB (fun xs H Q => ∃ i j, xs = [.int i, .int j] ∧ Q (.int (if j < i then j else i)) H) (tCons (tCall (spBound K) [] E0 (tCons (tVar 0) (tCons (tC (.int 1)) (tCons (tVar 1) tNil)))) (tCons (tCall (spBound K) [] E0 (tCons (tVar 0) (tCons (tC (.int 0)) (tCons (tVar 1) tNil)))) tNil))) (gName 5))
        (tRet (tTup (tCons (tCKw (rSortF K fS spBas GPair) (tCons (tVar 4) tNil) (tCons (tC (.ref fS)) tNil)) (tCons (tCall (spWt K) [] E0 (tCons (tVar 4) tNil)) (tCons (tVar 5) tNil))))))
        { nx := fun _ H' => Q .non H', rt := Q } [some (.ref a), some (.int g), some (.ref R2), some (.ref R4), some (.ref C), none] H6 := fun C zs hC kz => by
      have lz := N.len kz
      refine ⟨_, rfl, _, rfl, d, g, a, xs, 1, Ct.si, rfl, N6, .inr ⟨rfl, rfl⟩, fun H7 s7 => ?_⟩
      have N7 := N6.mono s7
      refine ⟨_, rfl, _, rfl, d, g, a, xs, 0, Ct.cr, rfl, N7, .inl ⟨rfl, rfl⟩, fun H8 s8 => ?_⟩
      have N8 := N7.mono s8
      have hC8 := (s7.trans s8).seq hC
      refine ⟨_, _, rfl, ?_⟩
      refine ⟨_, rfl, C, zs, _, _, rfl, rfl, hC8, fun x m => ?_, ?_, ?_, ⟨fun x => ((d x).be, (d x).si), rfl, rfl⟩, fun ws p9 H9 s9 n9 hp9 _ _ => ?_⟩
      · obtain ⟨t, e, _⟩ := N8.ct x (kz.mem x m)
        exact ⟨t, e⟩
      · rintro x v Ha Hb ⟨t, e, ht⟩ sm
        exact ⟨t, e, sm _ _ ht⟩
      · intro x m Ha sm
        exact ⟨d, x, rfl, (N8.ct x (kz.mem x m)).mono sm, fun t nt => ⟨same_upd nt, t, rfl, upd_same⟩⟩
      · have N9 := N8.mono s9
        refine ⟨_, rfl, d, C, zs, rfl, s9.seq hC8, N9.cts kz, by omega, fun H10 s10 => ?_⟩
        refine ⟨_, rfl, by show 3 ≤ sizeLine; decide, fun p np => ?_⟩
        have sall : Same H H10 := s1.trans (s2.trans (s3.trans (s4.trans (s5.trans (s6.trans (s7.trans (s8.trans (s9.trans s10))))))))
        refine q _ p p9 zs (same_add sall np) kz ?_
        rw [upd_same]
        have em : (if grp d g Ct.cr xs < grp d g Ct.si xs then grp d g Ct.cr xs else grp d g Ct.si xs) = min (grp d g Ct.si xs) (grp d g Ct.cr xs) := by
          split <;> omega
        rw [← em]
    refine ⟨_, _, rfl, rfl, _, rfl, ite2 (fun c => ?_) (fun c => ?_)⟩
    · exact ⟨_, rfl, fin R4 z4 ((s5.trans s6).seq hR4) k4⟩
    · exact fin R2 z2 ((s5.trans s6).seq hR2') k2
end
end Orr
/-! The law's own defs: _law_row, _law_sum, _law_ready, _law_apart, _law_contacts. -/
namespace Orr
open PySem PySem.Spec PyProof.Rows L2
section
variable {P : Program} {w : World} {K : PySem.W.Frag} {mg : Str → Option Value} {base : Heap}
/-! ### _law_row -/
def spRow (K : PySem.W.Frag) : Sp := fun vs H Q _ => ∃ (a : Addr) (ns : List Int) (k : Nat), vs = [.ref a, .int (k : Int)] ∧ SqL K H a (ns.map V.int) ∧ ∀ r : Int, 0 ≤ r → Q (.int r) H
theorem c_row (D : Def K mg "_law_row" sRow) (mL : mg "len" = none) (mI : mg "int" = none) : Cal P w K mg base 1 "_law_row" ["_law_script", "_law_k"] (spRow K) := by
  refine D.cal (fun _ _ _ _ _ _ us hl => match us, hl with | [_, _], _ => rfl) fun f fd F => F.ok scRow (fun vs H Q E h => ?_) (fun cdv A outer s H vs Q E hr h => ?_)
  · obtain ⟨a, ns, k, rfl, _⟩ := h
    rfl
  · obtain ⟨a, ns, k, rfl, hS, q⟩ := h
    refine ⟨_, pss_cons (ps_set (i := 2) scRow.nd rfl (.inl rfl) pe_int)
      (Evl.pss_cut (ps_if (pt_cmpR op_lt (pv 1) (pe_callB call_len_seq (by rfl) mL PySem.boot_len (pa_cons (pv 0) pa_nil)) (nomark _))
          (pss_one (ps_set (i := 2) scRow.nd rfl (.inl rfl) (pe_callTy call_int1 (by rfl) mI (by decide +kernel) (pa_cons (pe_ix ix_list (pv 0) (pv 1) (fun _ _ => rfl)) pa_nil)))) pss_nil)
      (Evl.pss_cut (ps_if (pt_cmpR op_lt (pv 2) pe_int (nomark _)) (pss_one (ps_set (i := 2) scRow.nd rfl (.inl rfl) (pe_op op_sub pe_int (pe_op op_mul pe_int (pv 2))))) pss_nil)
      (Evl.pss_cut (ps_if (pt_cmpR op_lt (pv 2) (pe_op op_pow pe_int pe_int) (nomark _))
          (Evl.pss_cut (ps_set (i := 2) scRow.nd rfl (.inl rfl) (pe_op op_mod (pe_callTy call_int1 (by rfl) mI (by decide +kernel) (pa_cons (pe_op op_add (pe_op op_mul (pe_op op_add (pv 2) pe_int) pe_int) (pe_op op_mul (pe_op op_add (pv 1) pe_int) pe_int)) pa_nil)) pe_int))
          (pss_one (ps_set (i := 2) scRow.nd rfl (.inl rfl) (pe_op op_add
            (pe_op op_mul (pe_op op_mod (pe_callTy call_int1 (by rfl) mI (by decide +kernel) (pa_cons (pe_op op_add (pe_op op_add (pe_op op_mul (pv 2) pe_int) (pe_op op_mul (pv 1) pe_int)) pe_int) pa_nil)) pe_int) pe_int)
            (pe_op op_mod (pe_callTy call_int1 (by rfl) mI (by decide +kernel) (pa_cons (pe_op op_mul (pv 2) (pv 2)) pa_nil)) pe_int))))) pss_nil)
      (pss_one (ps_ret (pv 2)))))), ?_⟩
    refine ⟨fun σ' H' => H' = H ∧ ∃ r : Int, σ' = [some (.ref a), some (.int (k : Int)), some (.int r)], ?_, ?_⟩
    · refine ⟨_, rfl, _, rfl, a, _, rfl, .inl hS, _, _, rfl, rfl, _, rfl, ite2 (fun c => ?_) (fun c => ?_)⟩
      · have c1 : (k : Int) < ((ns.map V.int).length : Int) := of_decide_eq_true c
        rw [List.length_map] at c1
        have hk : k < ns.length := by omega
        have e : (ns.map V.int)[k]? = some (.int ns[k]) := by
          rw [List.getElem?_map, List.getElem?_eq_getElem hk]
          rfl
        exact ⟨_, rfl, _, rfl, a, _, _, _, rfl, rfl, hS, atI_nat e, .inl ⟨_, rfl, rfl, _, rfl⟩⟩
      · exact ⟨rfl, _, rfl⟩
    · rintro σ1 H1 ⟨rfl, r1, rfl⟩
      refine ⟨fun σ' H' => H' = H1 ∧ ∃ r : Int, 0 ≤ r ∧ σ' = [some (.ref a), some (.int (k : Int)), some (.int r)], ?_, ?_⟩
      · refine ⟨_, rfl, _, _, rfl, rfl, _, rfl, ite2 (fun c => ?_) (fun c => ?_)⟩
        · have c1 : r1 < 0 := of_decide_eq_true c
          exact ⟨_, rfl, _, _, rfl, rfl, .inl ⟨by decide, by decide⟩, _, _, rfl, rfl, rfl, _, by omega, rfl⟩
        · have c1 : ¬ r1 < 0 := fun z => c (decide_eq_true z)
          exact ⟨rfl, r1, by omega, rfl⟩
      · rintro σ2 H2 ⟨rfl, r2, h2, rfl⟩
        refine ⟨fun σ' H' => H' = H2 ∧ ∃ r : Int, 0 ≤ r ∧ σ' = [some (.ref a), some (.int (k : Int)), some (.int r)], ?_, ?_⟩
        · refine ⟨_, rfl, _, _, rfl, rfl, ⟨by decide, by decide, by decide⟩, _, _, rfl, rfl, _, rfl, ite2 (fun c => ?_) (fun c => ?_)⟩
          · refine ⟨fun σ' H' => H' = H2 ∧ ∃ r : Int, (0 ≤ r ∧ r < 2147483647) ∧ σ' = [some (.ref a), some (.int (k : Int)), some (.int r)], ?_, ?_⟩
            · exact ⟨_, rfl, _, _, rfl, rfl, _, _, rfl, rfl, .inr ⟨by decide, by decide⟩, _, rfl, _, _, rfl, rfl, _, _, rfl, rfl, .inr ⟨by decide, by decide⟩, _, _, rfl, rfl, .inl ⟨_, rfl, _, _, rfl, rfl, (by show (0 : Int) < 2147483647; decide),
                rfl, _, ⟨Int.emod_nonneg _ (by decide), Int.emod_lt_of_pos _ (by decide)⟩, rfl⟩⟩
            · rintro σ4 H4 ⟨rfl, r3, ⟨b0, b1⟩, rfl⟩
              refine ⟨_, rfl, _, _, rfl, rfl, .inr ⟨by decide, by decide⟩, _, rfl, _, _, rfl, rfl, .inr ⟨by decide, by decide⟩, _, _, rfl, rfl, _, _, rfl, rfl, .inl ⟨_, rfl, _, _, rfl, rfl, (by show (0 : Int) < 2147483399; decide), _, _, rfl, rfl, .inr ⟨by decide, by decide⟩, ?_⟩⟩
              refine ⟨_, rfl, _, rfl, _, _, rfl, rfl, .inl ⟨by omega, by omega⟩, .inl ⟨_, rfl, _, _, rfl, rfl, (by show (0 : Int) < 2147482951; decide), _, _, rfl, rfl, rfl, _, ?_, rfl⟩⟩
              exact Int.add_nonneg (Int.mul_nonneg (Int.emod_nonneg _ (by decide)) (by decide)) (Int.emod_nonneg _ (by decide))
          · exact ⟨rfl, r2, h2, rfl⟩
        · rintro σ3 H3 ⟨rfl, r3, h3, rfl⟩
          exact ⟨_, rfl, q r3 h3⟩
end
end Orr
/-! _law_sum, _law_ready, _law_apart, _law_contacts. -/
namespace Orr
open PySem PySem.Spec PyProof.Rows L2
theorem ints_get {ns : List Int} {i : Nat} {v : V} (h : (ns.map V.int)[i]? = some v) : ∃ z, ns[i]? = some z ∧ v = .int z := by
  rw [List.getElem?_map] at h
  cases e : ns[i]? with
  | none => rw [e] at h; cases h
  | some z => rw [e] at h; exact ⟨z, rfl, (Option.some.inj h).symm⟩
section
variable {P : Program} {w : World} {K : PySem.W.Frag} {mg : Str → Option Value} {base : Heap}
/-! ### _law_sum -/
def spSum (K : PySem.W.Frag) : Sp := fun vs H Q _ => ∃ (a : Addr) (ns : List Int), vs = [.ref a] ∧ SqL K H a (ns.map V.int) ∧ Q (.int ns.sum) H
theorem c_sum (D : Def K mg "_law_sum" sSum) : Cal P w K mg base 1 "_law_sum" ["_law_numbers"] (spSum K) := by
  refine D.cal (fun _ _ _ _ _ _ us hl => match us, hl with | [_], _ => rfl) fun f fd F => F.ok scSum (fun vs H Q E h => ?_) (fun cdv A outer s H vs Q E hr h => ?_)
  · obtain ⟨a, ns, rfl, _⟩ := h
    rfl
  · obtain ⟨a, ns, rfl, hS, q⟩ := h
    refine ⟨_, pss_cons (ps_set (i := 1) scSum.nd rfl (.inl rfl) pe_int)
      (pss_cons (ps_for PassesOwn.never rfl (pi_list (pv 0)) (pg_name (i := 2) scSum.nd rfl (.inl rfl)) (pss_one (ps_set (i := 1) scSum.nd rfl (.inl rfl) (pe_op op_add (pv 1) (pv 2)))))
      (pss_one (ps_ret (pv 1)))), ?_⟩
    refine ⟨_, rfl, a, rfl, ⟨_, hS⟩, for_list (K := K) (a := a) (xs := ns.map V.int) (fun i σ H' => H' = H ∧ ∃ v2, σ = [some (.ref a), some (.int (ns.take i).sum), v2]) ⟨rfl, none, rfl⟩ (fun i σ H' _ p => by rw [p.1]; exact hS) ?_ ?_⟩
    · rintro i y σ H' hi ⟨rfl, v2, rfl⟩
      obtain ⟨z, hz, rfl⟩ := ints_get hi
      refine ⟨_, rfl, _, rfl, _, _, rfl, rfl, rfl, some (.int z), ?_⟩
      rw [sum_take hz]
      rfl
    · rintro σ H' ⟨rfl, v2, rfl⟩
      rw [List.length_map, takeAll]
      exact ⟨_, rfl, q⟩
/-! ### _law_ready, _law_apart -/
theorem c_lready (D : Def K mg "_law_ready" sLReady) : Cal P w K mg base 1 "_law_ready" ["_law_contact", "_law_gap"] spReady := by
  refine D.cal (fun _ _ _ _ _ _ us hl => match us, hl with | [_, _], _ => rfl) fun f fd F => F.ok scLReady (fun vs H Q E h => ?_) (fun cdv A outer s H vs Q E hr h => ?_)
  · obtain ⟨d, x, g, rfl, _⟩ := h
    rfl
  · obtain ⟨d, x, g, rfl, hx, q⟩ := h
    refine ⟨_, pss_one (ps_ret (pe_op op_add (pe_op op_add (pe_ix ix_tup (pv 0) pe_int (fun _ _ => rfl)) pe_int) (pv 1))), ?_⟩
    exact ⟨x, rfl, hx.ix3 ⟨_, _, rfl, rfl, _, rfl, _, _, rfl, rfl, q⟩⟩
theorem c_lapart (D : Def K mg "_law_apart" sLApart) (C1 : Cal P w K mg base 1 "_law_ready" ["_law_contact", "_law_gap"] spReady) : Cal P w K mg base 2 "_law_apart" ["_law_one", "_law_other", "_law_gap"] spApart := by
  refine D.cal (fun _ _ _ _ _ _ us hl => match us, hl with | [_, _, _], _ => rfl) fun f fd F => F.ok scLApart (fun vs H Q E h => ?_) (fun cdv A outer s H vs Q E hr h => ?_)
  · obtain ⟨d, x, y, g, rfl, _⟩ := h
    rfl
  · obtain ⟨d, x, y, g, rfl, hx, hy, q⟩ := h
    refine ⟨_, pss_one (ps_ret (pe_or (pe_cmpR op_le (pe_cal C1 hr rfl (pa_cons (pv 0) (pa_cons (pv 2) pa_nil))) (pe_ix ix_tup (pv 1) pe_int (fun _ _ => rfl)) (nomark _))
      (pe_one (pe_cmpR op_le (pe_cal C1 hr rfl (pa_cons (pv 1) (pa_cons (pv 2) pa_nil))) (pe_ix ix_tup (pv 0) pe_int (fun _ _ => rfl)) (nomark _))))), ?_⟩
    refine ⟨x, rfl, .int g, rfl, d, x, g, rfl, hx, y, rfl, hy.ix2 ⟨_, _, rfl, rfl, _, rfl, ?_⟩⟩
    refine ite2 (fun e => ?_) (fun e => ?_)
    · have e1 := of_decide_eq_true e
      have : Ap g (d x) (d y) := .inl e1
      rw [decide_eq_true this] at q
      exact q
    · refine ⟨y, rfl, .int g, rfl, d, y, g, rfl, hy, x, rfl, hx.ix2 ⟨_, _, rfl, rfl, ?_⟩⟩
      have e1 : ¬ ((d x).en + 1 + g ≤ (d y).be) := fun z => e (decide_eq_true z)
      by_cases c : (d y).en + 1 + g ≤ (d x).be
      · rw [decide_eq_true (show Ap g (d x) (d y) from .inr c)] at q
        exact dQ c q
      · rw [decide_eq_false (show ¬ Ap g (d x) (d y) from fun z => z.elim e1 c)] at q
        exact dN c q
/-! ### _law_contacts -/
theorem AreCt.wr {d : V → Ct} {H : Hp} {xs ys zs : List V} {L : Addr} (h : AreCt d H xs) (hL : H L = some (.lst ys)) : AreCt d (upd H L (.lst zs)) xs := fun x m => by
  obtain ⟨t, e, ht⟩ := h x m
  exact ⟨t, e, by rw [upd_ne (ne_of ht hL (by intro z; cases z))]; exact ht⟩
/-- a decoder for one more tuple -/
def dec (d : V → Ct) (p : Addr) (c : Ct) : V → Ct := fun v => if v = .ref p then c else d v
theorem dec_new {d : V → Ct} {p : Addr} {c : Ct} : dec d p c (.ref p) = c := if_pos rfl
theorem dec_old {d : V → Ct} {H : Hp} {p : Addr} {c : Ct} {x : V} (h : IsCt d H x) (n : H p = none) : dec d p c x = d x := by
  obtain ⟨t, rfl, ht⟩ := h
  refine if_neg fun e => ?_
  cases e
  rw [ht] at n
  cases n
theorem pick3 (a b c i : Int) (h0 : 0 ≤ i) (h3 : i < 3) : ∃ z, atI [V.int a, V.int b, V.int c] i = some (.int z) ∧ (z = a ∨ z = b ∨ z = c) := by
  have : i = 0 ∨ i = 1 ∨ i = 2 := by omega
  rcases this with rfl | rfl | rfl
  · exact ⟨a, atI_nat (j := 0) rfl, .inl rfl⟩
  · exact ⟨b, atI_nat (j := 1) rfl, .inr (.inl rfl)⟩
  · exact ⟨c, atI_nat (j := 2) rfl, .inr (.inr rfl)⟩
def spCont (K : PySem.W.Frag) : Sp := fun vs H Q _ => ∃ (a : Addr) (ns : List Int) (many num : Int), vs = [.ref a, .int 1, .int many, .int num] ∧ SqL K H a (ns.map V.int) ∧ (0 ≤ many ∧ many ≤ 8) ∧ (1 ≤ num ∧ num ≤ 4) ∧
  ∀ (H' : Hp) (L : Addr) (xs : List V) (d : V → Ct), Same H H' → H' L = some (.lst xs) → AreCt d H' xs → (∀ x ∈ xs, Gd (d x)) → xs.length ≤ 8 → Q (.ref L) H'
theorem c_cont (D : Def K mg "_law_contacts" sLCont) (CR : Cal P w K mg base 1 "_law_row" ["_law_script", "_law_k"] (spRow K)) (mR : mg "range" = none) :
    Cal P w K mg base 2 "_law_contacts" ["_law_script", "_law_k", "_law_many", "_law_numbers"] (spCont K) := by
  refine D.cal (fun _ _ _ _ _ _ us hl => match us, hl with | [_, _, _, _], _ => rfl) fun f fd F => F.ok scLCont (fun vs H Q E h => ?_) (fun cdv A outer s H vs Q E hr h => ?_)
  · obtain ⟨a, ns, many, num, rfl, _⟩ := h
    rfl
  · obtain ⟨a, ns, many, num, rfl, hS, ⟨m0, m8⟩, ⟨n1, n4⟩, q⟩ := h
    refine ⟨_, pss_cons (ps_set (i := 4) scLCont.nd rfl (.inl rfl) (pe_lst pa_nil))
      (pss_cons (ps_for PassesOwn.never rfl (pi_range1 (by rfl) mR (pa_cons (pv 2) pa_nil)) (pg_name (i := 5) scLCont.nd rfl (.inl rfl))
        (pss_cons (ps_set (i := 6) scLCont.nd rfl (.inl rfl) (pe_cal CR hr rfl (pa_cons (pv 0) (pa_cons (pe_op op_add (pv 1) (pv 5)) pa_nil))))
        (pss_cons (ps_set (i := 7) scLCont.nd rfl (.inl rfl) (pe_op op_mod (pv 6) pe_int))
        (pss_cons (ps_set (i := 8) scLCont.nd rfl (.inl rfl) (pe_op op_add (pv 7) (pe_op op_mod (pe_op op_fdiv (pv 6) pe_int) pe_int)))
        (pss_cons (ps_set (i := 9) scLCont.nd rfl (.inl rfl) (pe_ix ix_list (pe_lst (pa_cons (pe_op op_mod (pe_op op_fdiv (pv 6) pe_int) pe_int) (pa_cons (pe_op op_mod (pe_op op_fdiv (pv 6) pe_int) pe_int) (pa_cons (pe_op op_mod (pe_op op_fdiv (pv 6) pe_int) (pe_op op_add (pe_op op_pow pe_int pe_int) pe_int)) pa_nil)))) (pe_op op_mod (pe_op op_fdiv (pv 6) pe_int) pe_int) (fun _ _ => rfl)))
        (pss_one (ps_expr (pe_bm PySem.F.plainAttrs_list PySem.F.slot_list_append PySem.F.type_list_append mt_append (pv 4) (pa_cons (pe_tup (pa_cons (pe_op op_mod (pe_op op_fdiv (pv 6) pe_int) (pv 3)) (pa_cons (pe_op op_mod (pe_op op_fdiv (pv 6) pe_int) (pv 3)) (pa_cons (pv 7) (pa_cons (pv 8) (pa_cons (pv 9) pa_nil)))))) pa_nil)))))))))
      (pss_one (ps_ret (pv 4)))), ?_⟩
    refine ⟨Nat.zero_le _, fun L nL => ?_⟩
    have s1 : Same H (upd H L (.lst [])) := same_upd nL
    refine ⟨_, rfl, many, rfl, by omega, by omega, for_range (lo := 0) (n := many.toNat) (fun i σ H' => Same H H' ∧ ∃ (xs : List V) (d : V → Ct) (v5 v6 v7 v8 v9 : Option V), σ = [some (.ref a), some (.int 1), some (.int many), some (.int num), some (.ref L), v5, v6, v7, v8, v9] ∧ H' L = some (.lst xs) ∧ AreCt d H' xs ∧ (∀ x ∈ xs, Gd (d x)) ∧ xs.length = i)
      ⟨s1, [], fun _ => ⟨0, 0, 0, 0, 0⟩, none, none, none, none, none, rfl, upd_same, .nil, fun x m => absurd m (by simp), rfl⟩ ?_ ?_⟩
    · rintro i σ H2 hi ⟨s2, xs, d, v5, v6, v7, v8, v9, rfl, hL, hxs, hG, hln⟩
      have hi8 : i < 8 := by omega
      refine ⟨_, rfl, _, rfl, _, rfl, _, _, rfl, rfl, a, ns, i + 1, ?_, s2.seq hS, fun r hr0 => ?_⟩
      · have e : (1 : Int) + (0 + (i : Int)) = ((i + 1 : Nat) : Int) := by omega
        show [V.ref a, V.int (1 + (0 + (i : Int)))] = _
        rw [e]
      -- the numbers of the contact
      refine ⟨_, rfl, _, _, rfl, rfl, (by show (0 : Int) < 40; decide), ?_⟩
      refine ⟨_, rfl, _, rfl, _, _, rfl, rfl, ⟨by decide, by decide⟩, _, _, rfl, rfl, (by show (0 : Int) < 9; decide), _, _, rfl, rfl, ?_⟩
      obtain ⟨z, hz, hz3⟩ := pick3 (r / 400 % 6) (r / 400 % 30) (r / 400 % (10 ^ (12 : Int).toNat + 1)) (r / 7 % 3) (Int.emod_nonneg _ (by decide)) (Int.emod_lt_of_pos _ (by decide))
      refine ⟨_, rfl, _, _, rfl, rfl, ⟨by decide, by decide⟩, _, _, rfl, rfl, (by show (0 : Int) < 6; decide), _, rfl, _, _, rfl, rfl, ⟨by decide, by decide⟩, _, _, rfl, rfl, (by show (0 : Int) < 30; decide),
        _, rfl, _, _, rfl, rfl, ⟨by decide, by decide⟩, _, _, rfl, rfl, ⟨by decide, by decide, by decide⟩, _, _, rfl, rfl, _, _, rfl, rfl, (by show (0 : Int) < 10 ^ (12 : Int).toNat + 1; decide), by show 3 ≤ sizeLine; decide, fun u nu => ?_⟩
      refine ⟨_, rfl, _, _, rfl, rfl, ⟨by decide, by decide⟩, _, _, rfl, rfl, (by show (0 : Int) < 3; decide), u, _, _, .int z, rfl, rfl, SqL.of upd_same, hz, ?_⟩
      have hL3 := same_upd (o := .lst [.int (r / 400 % 6), .int (r / 400 % 30), .int (r / 400 % (10 ^ (12 : Int).toNat + 1))]) nu _ _ hL
      refine ⟨_, rfl, .inl ⟨rfl, _, SqL.of hL3⟩, _, rfl, _, _, rfl, rfl, ⟨by decide, by decide⟩, _, rfl, _, _, rfl, rfl, (by show (0 : Int) < num; omega), _, rfl, _, _, rfl, rfl, ⟨by decide, by decide⟩, _, rfl, _, _, rfl, rfl, (by show (0 : Int) < num; omega), _, rfl, _, rfl, _, rfl, by show 5 ≤ sizeLine; decide, fun p np => ?_⟩
      have hL4 := same_upd (o := .tup (ctV ⟨r / 11 % num, r / 77 % num, r % 40, r % 40 + r / 40 % 9, z⟩)) np _ _ hL3
      refine ⟨L, xs, _, rfl, rfl, hL4, small1000 (by omega), ?_⟩
      have s3 : Same H2 (upd (upd H2 u (.lst [.int (r / 400 % 6), .int (r / 400 % 30), .int (r / 400 % (10 ^ (12 : Int).toNat + 1))])) p (.tup (ctV ⟨r / 11 % num, r / 77 % num, r % 40, r % 40 + r / 40 % 9, z⟩))) := same_add (same_upd nu) np
      have np2 : H2 p = none := (same_upd nu).free np
      refine ⟨same_wr (s2.trans s3) nL, xs ++ [.ref p], dec d p ⟨r / 11 % num, r / 77 % num, r % 40, r % 40 + r / 40 % 9, z⟩, _, _, _, _, _, rfl, upd_same, AreCt.wr (fun x m => ?_) hL4, fun x m => ?_, ?_⟩
      · rcases List.mem_append.mp m with m | m
        · obtain ⟨t, e, ht⟩ := (hxs x m).mono s3
          exact ⟨t, e, by rw [dec_old (hxs x m) np2]; exact ht⟩
        · rw [List.mem_singleton.mp m]
          exact ⟨p, rfl, by rw [dec_new]; exact upd_same⟩
      · rcases List.mem_append.mp m with m | m
        · rw [dec_old (hxs x m) np2]
          exact hG x m
        · rw [List.mem_singleton.mp m, dec_new]
          have a1 := Int.emod_nonneg r (show (40 : Int) ≠ 0 by decide)
          have a2 := Int.emod_lt_of_pos r (show (0 : Int) < 40 by decide)
          have a3 := Int.emod_nonneg (r / 40) (show (9 : Int) ≠ 0 by decide)
          have a4 := Int.emod_lt_of_pos (r / 40) (show (0 : Int) < 9 by decide)
          have a5 := Int.emod_nonneg (r / 11) (show num ≠ 0 by omega)
          have a6 := Int.emod_lt_of_pos (r / 11) (show (0 : Int) < num by omega)
          have a7 := Int.emod_nonneg (r / 77) (show num ≠ 0 by omega)
          have a8 := Int.emod_lt_of_pos (r / 77) (show (0 : Int) < num by omega)
          have b1 := Int.emod_nonneg (r / 400) (show (6 : Int) ≠ 0 by decide)
          have b2 := Int.emod_lt_of_pos (r / 400) (show (0 : Int) < 6 by decide)
          have b3 := Int.emod_nonneg (r / 400) (show (30 : Int) ≠ 0 by decide)
          have b4 := Int.emod_lt_of_pos (r / 400) (show (0 : Int) < 30 by decide)
          have b5 := Int.emod_nonneg (r / 400) (show (10 ^ (12 : Int).toNat + 1 : Int) ≠ 0 by decide)
          have b6 := Int.emod_lt_of_pos (r / 400) (show (0 : Int) < 10 ^ (12 : Int).toNat + 1 by decide)
          have b7 : (10 ^ (12 : Int).toNat + 1 : Int) = 1000000000001 := by decide
          rw [b7] at b5 b6 hz3
          refine ⟨a1, ?_, ?_, ?_, ?_, a5, ?_, a7, ?_⟩
          all_goals
            dsimp only
            omega
      · rw [List.length_append, hln]
        rfl
    · rintro σ H2 ⟨s2, xs, d, v5, v6, v7, v8, v9, rfl, hL, hxs, hG, hln⟩
      exact ⟨_, rfl, q H2 L xs d s2 hL hxs hG (by omega)⟩
end
end Orr
/-! _law_is_choice, _law_best. -/
namespace Orr
open PySem PySem.Spec PyProof.Rows L2
section
variable {P : Program} {w : World} {K : PySem.W.Frag} {mg : Str → Option Value} {base : Heap}
/-! ### _law_is_choice -/
abbrev Pw (d : V → Ct) (m : Bool) (g : Int) (xs : List V) : Prop := xs.Pairwise fun x y => Tg m g (d x) (d y)
theorem pw_step {d : V → Ct} {m : Bool} {g : Int} {xs : List V} {j : Nat} {x : V} (hj : xs[j]? = some x) (h : Pw d m g (xs.take j)) (k : ∀ i y, i < j → xs[i]? = some y → Tg m g (d y) (d x)) : Pw d m g (xs.take (j + 1)) := by
  rw [takeM hj]
  refine List.pairwise_append.mpr ⟨h, List.pairwise_singleton _ _, fun y hy z hz => ?_⟩
  rw [List.mem_singleton.mp hz]
  obtain ⟨i, hi⟩ := List.mem_iff_getElem?.mp hy
  have il : i < (xs.take j).length := (List.getElem?_eq_some_iff.mp hi).1
  rw [List.length_take] at il
  have ij : i < j := by omega
  rw [List.getElem?_take_of_lt ij] at hi
  exact k i y ij hi
theorem pw_not {d : V → Ct} {m : Bool} {g : Int} {xs : List V} {i j : Nat} {x y : V} (hi : xs[i]? = some y) (hj : xs[j]? = some x) (ij : i < j) (h : ¬ Tg m g (d y) (d x)) : ¬ Pw d m g xs := fun z => by
  have jl := (List.getElem?_eq_some_iff.mp hj).1
  have il := (List.getElem?_eq_some_iff.mp hi).1
  have h2 := List.pairwise_iff_getElem.mp z i j il jl ij
  have e1 : xs[i] = y := (List.getElem?_eq_some_iff.mp hi).2
  have e2 : xs[j] = x := (List.getElem?_eq_some_iff.mp hj).2
  rw [e1, e2] at h2
  exact h h2
def spChoice (K : PySem.W.Frag) : Sp := fun vs H Q _ => ∃ (d : V → Ct) (a : Addr) (xs : List V) (g : Int) (m : Bool), vs = [.ref a, .int g, .bl m] ∧ SqL K H a xs ∧ AreCt d H xs ∧ xs.length ≤ 100 ∧ Q (.bl (decide (Pw d m g xs))) H
theorem c_choice (D : Def K mg "_law_is_choice" sLChoice) (CA : Cal P w K mg base 2 "_law_apart" ["_law_one", "_law_other", "_law_gap"] spApart) (mR : mg "range" = none) (mL : mg "len" = none) :
    Cal P w K mg base 3 "_law_is_choice" ["_law_chosen", "_law_gap", "_law_mixed"] (spChoice K) := by
  refine D.cal (fun _ _ _ _ _ _ us hl => match us, hl with | [_, _, _], _ => rfl) fun f fd F => F.ok scLChoice (fun vs H Q E h => ?_) (fun cdv A outer s H vs Q E hr h => ?_)
  · obtain ⟨d, a, xs, g, m, rfl, _⟩ := h
    rfl
  · obtain ⟨d, a, xs, g, m, rfl, hS, hxs, hl, q⟩ := h
    refine ⟨_, pss_cons (ps_for PassesOwn.never rfl (pi_range1 (by rfl) mR (pa_cons (pe_callB call_len_seq (by rfl) mL PySem.boot_len (pa_cons (pv 0) pa_nil)) pa_nil)) (pg_name (i := 3) scLChoice.nd rfl (.inl rfl))
        (pss_one (ps_for PassesOwn.never rfl (pi_range1 (by rfl) mR (pa_cons (pv 3) pa_nil)) (pg_name (i := 4) scLChoice.nd rfl (.inl rfl))
          (pss_cons (ps_set (i := 5) scLChoice.nd rfl (.inl rfl) (pe_ix ix_list (pv 0) (pv 4) (fun _ _ => rfl)))
          (pss_cons (ps_set (i := 6) scLChoice.nd rfl (.inl rfl) (pe_ix ix_list (pv 0) (pv 3) (fun _ _ => rfl)))
          (pss_cons (ps_set (i := 7) scLChoice.nd rfl (.inl rfl) (pe_and (pv 2) (pe_and (pe_cmpR op_ne (pe_ix ix_tup (pv 5) pe_int (fun _ _ => rfl)) (pe_ix ix_tup (pv 6) pe_int (fun _ _ => rfl)) (nomark _))
              (pe_one (pe_cmpR op_ne (pe_ix ix_tup (pv 5) pe_int (fun _ _ => rfl)) (pe_ix ix_tup (pv 6) pe_int (fun _ _ => rfl)) (nomark _))))))
          (pss_one (ps_if (PW.pt (pw_and (pt_not (pt_val (pv 7))) (pw_and1 (pt_not (pt_val (pe_cal CA hr rfl (pa_cons (pv 5) (pa_cons (pv 6) (pa_cons (pv 1) pa_nil))))))))) (pss_one (ps_ret pe_bl)) pss_nil)))))))) 
      (pss_one (ps_ret pe_bl)), ?_⟩
    refine ⟨_, rfl, a, xs, rfl, .inl hS, (xs.length : Int), rfl, by omega, by omega, for_range (lo := 0) (n := (xs.length : Int).toNat) (fun j σ H' => H' = H ∧ (∃ v3 v4 v5 v6 v7, σ = [some (.ref a), some (.int g), some (.bl m), v3, v4, v5, v6, v7]) ∧ Pw d m g (xs.take j))
      ⟨rfl, ⟨none, none, none, none, none, rfl⟩, .nil⟩ ?_ ?_⟩
    · rintro j σ H1 hj ⟨rfl, ⟨v3, v4, v5, v6, v7, rfl⟩, hp⟩
      have hjl : j < xs.length := by omega
      have hxj : xs[j]? = some xs[j] := List.getElem?_eq_getElem hjl
      generalize xs[j] = x at hxj
      have hx := hxs.at hxj
      refine ⟨_, rfl, 0 + (j : Int), rfl, by omega, by omega, for_range (lo := 0) (n := (0 + (j : Int)).toNat) (fun i σ H' => H' = H1 ∧ (∃ v4 v5 v6 v7, σ = [some (.ref a), some (.int g), some (.bl m), some (.int (0 + (j : Int))), v4, v5, v6, v7]) ∧ ∀ (l : Nat) (y : V), l < i → xs[l]? = some y → Tg m g (d y) (d x))
        ⟨rfl, ⟨v4, v5, v6, v7, rfl⟩, fun l y hl => absurd hl (Nat.not_lt_zero _)⟩ ?_ ?_⟩
      · rintro i σ H2 hi ⟨rfl, ⟨v4, v5, v6, v7, rfl⟩, hk⟩
        have hil : i < j := by omega
        have hxi : xs[i]? = some (xs[i]'(by omega)) := List.getElem?_eq_getElem (by omega)
        generalize xs[i]'(by omega) = y at hxi
        have hy := hxs.at hxi
        have step : Tg m g (d y) (d x) → ∀ (l : Nat) (z : V), l < i + 1 → xs[l]? = some z → Tg m g (d z) (d x) := fun t l z hl hz => by
          by_cases e : l < i
          · exact hk l z e hz
          · have e2 : l = i := by omega
            subst e2
            rw [hxi] at hz
            cases hz
            exact t
        refine ⟨_, rfl, _, rfl, a, xs, _, y, rfl, rfl, hS, at_of (by omega) hxi, ?_⟩
        refine ⟨_, rfl, _, rfl, a, xs, _, x, rfl, rfl, hS, at_of (by omega) hxj, ?_⟩
        -- free = mixed and one[0] != other[0] and one[1] != other[1]; then the test
        have fin : ∀ b : Bool, (b = true → Tg m g (d y) (d x)) → (b = false → Tg m g (d y) (d x) → Ap g (d y) (d x)) →
            (tIfS (tAnd (tNot (tB (tVar 7))) (tNot (tB (tCall spApart [] E0 (tCons (tVar 5) (tCons (tVar 6) (tCons (tVar 1) tNil))))))) (tRet (tC (.bl false))) tNext)
              { nx := fun σ H' => H' = H2 ∧ (∃ v4 v5 v6 v7, σ = [some (.ref a), some (.int g), some (.bl m), some (.int (0 + (j : Int))), v4, v5, v6, v7]) ∧ ∀ (l : Nat) (y : V), l < i + 1 → xs[l]? = some y → Tg m g (d y) (d x), rt := Q }
              [some (.ref a), some (.int g), some (.bl m), some (.int (0 + (j : Int))), some (.int (0 + (i : Int))), some y, some x, some (.bl b)] H2 := fun b h1 h2 => by
          refine ⟨_, rfl, b, rfl, ?_⟩
          cases b with
          | true => exact ⟨rfl, ⟨_, _, _, _, rfl⟩, step (h1 rfl)⟩
          | false =>
            refine iteT ⟨_, rfl, _, rfl, _, rfl, d, y, x, g, rfl, hy, hx, _, rfl, ?_⟩
            by_cases c : Ap g (d y) (d x)
            · rw [decide_eq_true c]
              exact iteF ⟨rfl, ⟨_, _, _, _, rfl⟩, step (.inr c)⟩
            · rw [decide_eq_false c]
              rw [decide_eq_false (pw_not hxi hxj hil fun t => c (h2 rfl t))] at q
              exact iteT q
        refine ⟨_, rfl, m, rfl, ?_⟩
        cases m with
        | false => exact iteF (fin false (fun e => by cases e) fun _ t => t.of_false)
        | true =>
          refine iteT ⟨y, rfl, hy.ix0 ⟨x, rfl, hx.ix0 ⟨rfl, _, rfl, ?_⟩⟩⟩
          by_cases c0 : (d y).cr = (d x).cr
          · rw [show (!decide (V.int (d y).cr = V.int (d x).cr)) = false by rw [c0]; simp]
            exact iteF (fin false (fun e => by cases e) fun _ t => cr_same _ _ c0 t)
          · rw [show (!decide (V.int (d y).cr = V.int (d x).cr)) = true by simp [c0]]
            refine iteT ⟨y, rfl, hy.ix1 ⟨x, rfl, hx.ix1 ⟨rfl, ?_⟩⟩⟩
            by_cases c1 : (d y).si = (d x).si
            · rw [show (!decide (V.int (d y).si = V.int (d x).si)) = false by rw [c1]; simp]
              exact fin false (fun e => by cases e) fun _ t => si_same _ _ c1 t
            · rw [show (!decide (V.int (d y).si = V.int (d x).si)) = true by simp [c1]]
              exact fin true (fun _ => .inl ⟨rfl, c0, c1⟩) fun e => by cases e
      · rintro σ H2 ⟨rfl, ⟨v4, v5, v6, v7, rfl⟩, hk⟩
        exact ⟨rfl, ⟨_, _, _, _, _, rfl⟩, pw_step hxj hp fun i y ij hi => hk i y (by omega) hi⟩
    · rintro σ H1 ⟨rfl, ⟨v3, v4, v5, v6, v7, rfl⟩, hp⟩
      have e : (xs.length : Int).toNat = xs.length := by omega
      rw [e, takeAll] at hp
      rw [decide_eq_true hp] at q
      exact q
end
end Orr
/-! _law_best, _law_sum_of_best, law. -/
namespace Orr
open PySem PySem.Spec PyProof.Rows L2
section
variable {P : Program} {w : World} {K : PySem.W.Frag} {mg : Str → Option Value} {base : Heap}
/-! ### _law_best -/
def spLBest (K : PySem.W.Frag) : Sp := fun vs H Q _ => ∃ (d : V → Ct) (a : Addr) (xs : List V) (g : Int) (m : Bool), vs = [.ref a, .int g, .bl m] ∧ SqL K H a xs ∧ AreCt d H xs ∧ xs.length ≤ 8 ∧ ∀ H', Same H H' → Q (.int (bst d m g xs)) H'
theorem brute_no {d : V → Ct} {m : Bool} {g : Int} {xs : List V} {n : Nat} (h : ¬ (n / 2 ^ xs.length = 0 ∧ Pw d m g (sel xs n))) : brute d (Tg m g) xs (n + 1) = brute d (Tg m g) xs n := by
  show (if _ then _ else _) = _
  rw [if_neg h]
theorem brute_yes {d : V → Ct} {m : Bool} {g : Int} {xs : List V} {n : Nat} (h : n / 2 ^ xs.length = 0 ∧ Pw d m g (sel xs n)) : brute d (Tg m g) xs (n + 1) = (if wsum d (sel xs n) > brute d (Tg m g) xs n then wsum d (sel xs n) else brute d (Tg m g) xs n) := by
  show (if _ then _ else _) = _
  rw [if_pos h]
  split <;> omega
theorem c_lbest (D : Def K mg "_law_best" sLBest) (CC : Cal P w K mg base 3 "_law_is_choice" ["_law_chosen", "_law_gap", "_law_mixed"] (spChoice K)) (CS : Cal P w K mg base 1 "_law_sum" ["_law_numbers"] (spSum K)) (mR : mg "range" = none) (mM : mg "max" = none) :
    Cal P w K mg base 4 "_law_best" ["_law_contacts_here", "_law_gap", "_law_mixed"] (spLBest K) := by
  refine D.cal (fun _ _ _ _ _ _ us hl => match us, hl with | [_, _, _], _ => rfl) fun f fd F => F.ok scLBest (fun vs H Q E h => ?_) (fun cdv A outer s H vs Q E hr h => ?_)
  · obtain ⟨d, a, xs, g, m, rfl, _⟩ := h
    rfl
  · obtain ⟨d, a, xs, g, m, rfl, hS, hxs, hl, q⟩ := h
    have hr1 : Room 1 _ := hr.mono (by decide)
    refine ⟨_, pss_cons (ps_set (i := 3) scLBest.nd rfl (.inl rfl) pe_int)
      (pss_cons (ps_for PassesOwn.never rfl (pi_range1 (by rfl) mR (pa_cons (pe_op op_pow pe_int pe_int) pa_nil)) (pg_name (i := 4) scLBest.nd rfl (.inl rfl))
        (pss_cons (ps_set (i := 5) scLBest.nd rfl (.inl rfl) (pe_lst pa_nil))
        (pss_cons (ps_set (i := 6) scLBest.nd rfl (.inl rfl) (pv 4))
        (pss_cons (ps_for PassesOwn.never rfl (pi_list (pv 0)) (pg_name (i := 7) scLBest.nd rfl (.inl rfl))
          (Evl.pss_cut (ps_if (pt_cmpR op_eq (pe_op op_mod (pv 6) pe_int) pe_int (nomark _)) (pss_one (ps_expr (pe_bm PySem.F.plainAttrs_list PySem.F.slot_list_append PySem.F.type_list_append mt_append (pv 5) (pa_cons (pv 7) pa_nil)))) pss_nil)
          (pss_one (ps_set (i := 6) scLBest.nd rfl (.inl rfl) (pe_op op_fdiv (pv 6) pe_int)))))
        (pss_one (ps_if (PW.pt (pw_and (pt_cmpR op_eq (pv 6) pe_int (nomark _)) (pw_and1 (pt_val (pe_cal CC hr rfl (pa_cons (pv 5) (pa_cons (pv 1) (pa_cons (pv 2) pa_nil))))))))
          (pss_one (ps_set (i := 3) scLBest.nd rfl (.inl rfl) (pe_callB (call_max2 rfl) (by rfl) mM (by decide +kernel) (pa_cons (pv 3) (pa_cons (pe_cal CS hr1 rfl (pa_cons
            (pe_lc (own := [("_law_contact", 7)]) (g := gName 7) (tt := tYes) rfl scLBest.nd (pi_list (pv 5)) (blkOk_by (own := [("_law_contact", 7)]) (N := ["_law_contacts_here", "_law_gap", "_law_mixed", "_law_best_here", "_law_code", "_law_chosen", "_law_rest", "_law_contact"]) (sc := defScope sLBest) (by decide +kernel))
              (fun _ _ _ _ _ => pg_name (i := 7) scLBest.nd rfl (Or.inl rfl)) (fun _ _ _ _ _ => pts_nil) (fun _ _ _ _ _ => pe_ix (r := rIxT K) ix_tup (pv 7) pe_int (fun _ _ => rfl))) pa_nil)) pa_nil))))) pss_nil))))))
      (pss_one (ps_ret (pv 3)))), ?_⟩
    refine ⟨_, _, rfl, rfl, ⟨by decide, by decide, by decide⟩, 256, rfl, by decide, by decide, for_range (lo := 0) (n := 256) (fun j σ H' => Same H H' ∧ ∃ v4 v5 v6 v7, σ = [some (.ref a), some (.int g), some (.bl m), some (.int (brute d (Tg m g) xs j)), v4, v5, v6, v7])
      ⟨Same.refl _, none, none, none, none, rfl⟩ ?_ ?_⟩
    · rintro j σ H1 hj ⟨s1, v4, v5, v6, v7, rfl⟩
      refine ⟨Nat.zero_le _, fun C nC => ?_⟩
      have nC0 : H C = none := s1.free nC
      have s2 : Same H (upd H1 C (.lst [])) := same_add s1 nC
      refine ⟨_, rfl, ?_⟩
      refine ⟨_, rfl, a, rfl, ⟨_, s2.seq hS⟩, for_list (K := K) (a := a) (xs := xs) (fun i σ H' => Same H H' ∧ H' C = some (.lst (sel (xs.take i) j)) ∧ ∃ (v7 : Option V) (r : Int), r = ((j / 2 ^ i : Nat) : Int) ∧ σ = [some (.ref a), some (.int g), some (.bl m), some (.int (brute d (Tg m g) xs j)), some (.int (0 + (j : Int))), some (.ref C), some (.int r), v7])
        ⟨s2, upd_same, v7, 0 + (j : Int), by rw [Nat.pow_zero, Nat.div_one]; omega, rfl⟩ (fun i σ H' _ p => p.1.seq hS) ?_ ?_⟩
      · rintro i x σ H2 hi ⟨s3, hC, v7, r, hrr, rfl⟩
        have il : i < xs.length := (List.getElem?_eq_some_iff.mp hi).1
        have hln : (xs.take i).length = i := by rw [List.length_take]; omega
        refine ⟨fun σ' H' => (Same H H' ∧ H' C = some (.lst (sel (xs.take (i + 1)) j))) ∧ σ' = [some (.ref a), some (.int g), some (.bl m), some (.int (brute d (Tg m g) xs j)), some (.int (0 + (j : Int))), some (.ref C), some (.int r), some x], ?_, ?_⟩
        · refine ⟨_, rfl, _, _, rfl, rfl, (by show (0 : Int) < 2; decide), rfl, _, rfl, ite2 (fun c => ?_) (fun c => ?_)⟩
          · have c1 : r % 2 = 1 := V.int.inj (of_decide_eq_true c)
            have c2 : j / 2 ^ i % 2 = 1 := by omega
            have e : sel (xs.take (i + 1)) j = sel (xs.take i) j ++ [x] := by rw [takeM hi, sel_snoc, hln, if_pos c2]
            have sl : (sel (xs.take i) j).length ≤ 8 := Nat.le_trans (sel_sub _ _).length_le (take_le _ _ hl)
            exact ⟨_, rfl, .inl ⟨rfl, _, SqL.of hC⟩, _, rfl, C, _, _, rfl, rfl, hC, small1000 (by omega), ⟨same_wr s3 nC0, by rw [upd_same, e]⟩, rfl⟩
          · have c1 : ¬ r % 2 = 1 := fun z => c (decide_eq_true (congrArg V.int z))
            have c2 : ¬ j / 2 ^ i % 2 = 1 := by omega
            have e : sel (xs.take (i + 1)) j = sel (xs.take i) j := by rw [takeM hi, sel_snoc, hln, if_neg c2, List.append_nil]
            exact ⟨⟨s3, by rw [e]; exact hC⟩, rfl⟩
        · rintro σ' H3 ⟨⟨s4, hC4⟩, rfl⟩
          refine ⟨_, rfl, _, _, rfl, rfl, ⟨by decide, by decide⟩, s4, hC4, some x, r / 2, ?_, rfl⟩
          rw [hrr, Nat.pow_succ, ← Nat.div_div_eq_div_mul]
          omega
      · rintro σ H2 ⟨s3, hC, v7, r, hrr, rfl⟩
        rw [takeAll] at hC
        have sl : (sel xs j).length ≤ 8 := Nat.le_trans (sel_sub _ _).length_le hl
        have cts : AreCt d H2 (sel xs j) := (hxs.mono s3).sub fun y hy => (sel_sub xs j).subset hy
        refine ⟨_, rfl, rfl, _, rfl, ?_⟩
        by_cases c : j / 2 ^ xs.length = 0
        · have c1 : r = 0 := by omega
          subst c1
          refine iteT ⟨_, rfl, _, rfl, _, rfl, d, C, _, g, m, rfl, SqL.of hC, cts, by omega, _, rfl, ?_⟩
          by_cases cp : Pw d m g (sel xs j)
          · rw [decide_eq_true cp]
            refine iteT ⟨_, rfl, _, rfl, C, rfl, ⟨_, SqL.of hC⟩, fun D nD => lc_list (K := K) (a := C) (xs := sel xs j) (fun i H' => Same H2 H' ∧ H' D = some (.lst (((sel xs j).take i).map fun x => .int (d x).we))) ⟨same_upd nD, upd_same⟩ (fun i H' _ p => SqL.of (p.1 _ _ hC)) ?_ ?_⟩
            · rintro i x H' hi ⟨sm, hD⟩
              refine ⟨rfl, x, rfl, ((cts.at hi).mono sm).ix4 ⟨_, hD, ?_, ?_, ?_⟩⟩
              · rw [List.length_map]
                exact small1000 (take_le _ _ (by omega))
              · exact same_wr sm nD
              · rw [upd_same, takeM hi, List.map_append]
                rfl
            · rintro H3 ⟨sm, hD⟩
              rw [takeAll] at hD
              refine ⟨D, (sel xs j).map fun x => (d x).we, rfl, ?_, ?_⟩
              · rw [List.map_map]
                exact SqL.of hD
              · refine ⟨_, _, rfl, s3.trans sm, some (.int (0 + (j : Int))), some (.ref C), some (.int 0), v7, ?_⟩
                rw [brute_yes ⟨c, cp⟩]
                rfl
          · rw [decide_eq_false cp]
            refine iteF ⟨s3, some (.int (0 + (j : Int))), some (.ref C), some (.int 0), v7, ?_⟩
            rw [brute_no fun z => cp z.2]
        · have c1 : ¬ r = 0 := by omega
          rw [show decide (V.int r = V.int 0) = false by simp [c1]]
          refine iteF ?_
          refine iteF ⟨s3, some (.int (0 + (j : Int))), some (.ref C), some (.int r), v7, ?_⟩
          rw [brute_no fun z => c z.1]
    · rintro σ H1 ⟨s1, v4, v5, v6, v7, rfl⟩
      exact ⟨_, rfl, q H1 s1⟩
end
end Orr
/-! _law_sum_of_best, law. -/
namespace Orr
open PySem PySem.Spec PyProof.Rows L2
theorem four_at {i : Nat} (h : i < 4) : four[i]? = some (0 + (i : Int)) := by
  have : i = 0 ∨ i = 1 ∨ i = 2 ∨ i = 3 := by omega
  rcases this with rfl | rfl | rfl | rfl <;> rfl
section
variable {P : Program} {w : World} {K : PySem.W.Frag} {mg : Str → Option Value} {base : Heap}
/-! ### _law_sum_of_best -/
def spSob (K : PySem.W.Frag) : Sp := fun vs H Q _ => ∃ (d : V → Ct) (g : Int) (a : Addr) (xs : List V) (p : Int) (ky : Ct → Int), vs = [.ref a, .int p, .int g] ∧ Net K d g H a xs ∧ Part p ky ∧ ∀ H', Same H H' → Q (.int (grp d g ky xs)) H'
theorem c_sob (D : Def K mg "_law_sum_of_best" sLSob) (CB : Cal P w K mg base 4 "_law_best" ["_law_contacts_here", "_law_gap", "_law_mixed"] (spLBest K)) (mR : mg "range" = none) :
    Cal P w K mg base 5 "_law_sum_of_best" ["_law_contacts_here", "_law_part", "_law_gap"] (spSob K) := by
  refine D.cal (fun _ _ _ _ _ _ us hl => match us, hl with | [_, _, _], _ => rfl) fun f fd F => F.ok scLSob (fun vs H Q E h => ?_) (fun cdv A outer s H vs Q E hr h => ?_)
  · obtain ⟨d, g, a, xs, p, ky, rfl, _⟩ := h
    rfl
  · obtain ⟨d, g, a, xs, p, ky, rfl, N, hp, q⟩ := h
    refine ⟨_, pss_cons (ps_set (i := 3) scLSob.nd rfl (.inl rfl) pe_int)
      (pss_cons (ps_for PassesOwn.never rfl (pi_range1 (by rfl) mR (pa_cons pe_int pa_nil)) (pg_name (i := 4) scLSob.nd rfl (.inr rfl))
        (pss_one (ps_set (i := 3) scLSob.nd rfl (.inl rfl) (pe_op op_add (pv 3) (pe_cal CB hr rfl (pa_cons
          (pe_lc (own := [("_law_contact", 5)]) (g := gName 5) (tt := tTest (tOp rEq (tOp (rIxT K) (tVar 5) (tVar 1)) (tVar 4))) (te := tVar 5) rfl scLSob.nd (pi_list (pv 0))
            (blkOk_by (own := [("_law_contact", 5)]) (N := ["_law_contacts_here", "_law_part", "_law_gap", "_law_total", "_law_number", "_law_contact"]) (sc := defScope sLSob) (by decide +kernel))
            (fun _ _ _ _ _ => pg_name (i := 5) scLSob.nd rfl (Or.inl rfl)) (fun _ _ _ _ _ => pts_one (pt_cmpR op_eq (pe_ix (r := rIxT K) ix_tup (pv 5) (pv 1) (fun _ _ => rfl)) (pv 4) (nomark _))) (fun _ _ _ _ _ => pv 5))
          (pa_cons (pv 2) (pa_cons pe_bl pa_nil))))))))
      (pss_one (ps_ret (pv 3)))), ?_⟩
    have hl8 := N.ln
    refine ⟨4, rfl, by decide, by decide, for_range (lo := 0) (n := 4) (fun i σ H' => Same H H' ∧ ∃ v4, σ = [some (.ref a), some (.int p), some (.int g), some (.int ((four.take i).map fun n => bst d false g (xs.filter fun x => ky (d x) == n)).sum), v4, none])
      ⟨Same.refl _, none, rfl⟩ ?_ ?_⟩
    · rintro i σ H1 hi ⟨s1, v4, rfl⟩
      have N1 := N.mono s1
      have hS := N1.sq
      refine ⟨_, rfl, _, rfl, a, rfl, ⟨_, hS⟩, fun D nD => lc_list (K := K) (a := a) (xs := xs) (fun j H' => Same H1 H' ∧ H' D = some (.lst ((xs.take j).filter fun x => ky (d x) == 0 + (i : Int))))
        ⟨same_upd nD, upd_same⟩ (fun j H' _ p => p.1.seq hS) ?_ ?_⟩
      · rintro j x H4 hj ⟨s4, hD⟩
        have hx := (N1.ct.at hj).mono s4
        refine ⟨rfl, x, rfl, _, rfl, hx.ixP hp ⟨_, rfl, rfl, _, rfl, ?_⟩⟩
        by_cases c : ky (d x) = 0 + (i : Int)
        · rw [show decide (V.int (ky (d x)) = V.int (0 + (i : Int))) = true by rw [c]; simp]
          refine iteT ⟨x, rfl, _, hD, ?_, same_wr s4 nD, ?_⟩
          · exact small1000 (Nat.le_trans (List.length_filter_le _ _) (take_le _ _ (by omega)))
          · have cb : (ky (d x) == 0 + (i : Int)) = true := by rw [c]; exact beq_self_eq_true _
            rw [upd_same, takeM hj, List.filter_append, List.filter_cons, if_pos cb]
            rfl
        · rw [show decide (V.int (ky (d x)) = V.int (0 + (i : Int))) = false from decide_eq_false fun z => c (V.int.inj z)]
          refine iteF ⟨s4, ?_⟩
          have cb : ¬ (ky (d x) == 0 + (i : Int)) = true := fun z => c (by simpa using z)
          rw [hD, takeM hj, List.filter_append, List.filter_cons, if_neg cb, List.filter_nil, List.append_nil]
      · rintro H2 ⟨s2, hD⟩
        rw [takeAll] at hD
        have hsub : ∀ x ∈ xs.filter (fun x => ky (d x) == 0 + (i : Int)), x ∈ xs := fun x m => (List.mem_filter.mp m).1
        have N2 := N1.mono s2
        refine ⟨_, rfl, d, D, _, g, false, rfl, SqL.of hD, N2.ct.sub hsub, Nat.le_trans (List.length_filter_le _ _) hl8, fun H3 s3 => ?_⟩
        refine ⟨_, _, rfl, rfl, s1.trans (s2.trans s3), some (.int (0 + (i : Int))), ?_⟩
        rw [takeM (four_at hi), List.map_append, List.sum_append]
        simp only [List.map_cons, List.map_nil, List.sum_cons, List.sum_nil, Int.add_zero]
        rfl
    · rintro σ H1 ⟨s1, v4, rfl⟩
      exact ⟨_, rfl, q H1 s1⟩
/-! ### law -/
theorem pick2 (b i : Int) (h0 : 0 ≤ i) (h2 : i < 2) : ∃ z, atI [V.int 0, V.int b] i = some (.int z) ∧ (z = 0 ∨ z = b) := by
  have : i = 0 ∨ i = 1 := by omega
  rcases this with rfl | rfl
  · exact ⟨0, atI_nat (j := 0) rfl, .inl rfl⟩
  · exact ⟨b, atI_nat (j := 1) rfl, .inr rfl⟩
def spLaw (K : PySem.W.Frag) : Sp := fun vs H Q _ => ∃ (a : Addr) (ns : List Int), vs = [.ref a] ∧ SqL K H a (ns.map V.int) ∧ ∀ H', Q (.bl true) H'
theorem ok_law {f : Addr} {fd : FuncData} (F : Fun K "law" "law" sLaw f fd) (CR : Cal P w K mg base 1 "_law_row" ["_law_script", "_law_k"] (spRow K)) (CC : Cal P w K mg base 2 "_law_contacts" ["_law_script", "_law_k", "_law_many", "_law_numbers"] (spCont K))
    (CN : Cal P w K mg base 8 "network" ["contacts", "gap"] (spNet K)) (CB : Cal P w K mg base 4 "_law_best" ["_law_contacts_here", "_law_gap", "_law_mixed"] (spLBest K)) (CS : Cal P w K mg base 5 "_law_sum_of_best" ["_law_contacts_here", "_law_part", "_law_gap"] (spSob K))
    (mL : mg "list" = none) (mM : mg "min" = none) : FnOk P w K mg base CX0 9 f fd ["_law_script"] (spLaw K) := by
  refine F.ok scLaw (fun vs H Q E h => ?_) (fun cdv A outer s H vs Q E hr h => ?_)
  · obtain ⟨a, ns, rfl, _⟩ := h
    rfl
  · obtain ⟨a, ns, rfl, hS, q⟩ := h
    have hr1 : Room 1 _ := hr.mono (by decide)
    have hr2 : Room 2 _ := hr.mono (by decide)
    have hr4 : Room 4 _ := hr.mono (by decide)
    have hr5 : Room 5 _ := hr.mono (by decide)
    refine ⟨_, pss_cons (ps_set (i := 1) scLaw.nd rfl (.inl rfl) (pe_cal CR hr1 rfl (pa_cons (pv 0) (pa_cons pe_int pa_nil))))
      (pss_cons (ps_set (i := 2) scLaw.nd rfl (.inl rfl) (pe_ix ix_list (pe_lst (pa_cons pe_int (pa_cons (pe_op op_mod (pe_op op_fdiv (pv 1) pe_int) pe_int) pa_nil))) (pe_op op_mod (pv 1) pe_int) (fun _ _ => rfl)))
      (pss_cons (ps_set (i := 3) scLaw.nd rfl (.inl rfl) (pe_cal CC hr2 rfl (pa_cons (pv 0) (pa_cons pe_int (pa_cons (pe_op op_mod (pe_op op_fdiv (pv 1) pe_int) pe_int) (pa_cons (pe_op op_add pe_int (pe_op op_mod (pe_op op_fdiv (pv 1) pe_int) pe_int)) pa_nil))))))
      (pss_cons (ps_set (i := 4) scLaw.nd rfl (.inl rfl) (pe_cal CN hr rfl (pa_cons (pe_callTy call_list_of (by rfl) mL (by decide +kernel) (pa_cons (pv 3) pa_nil)) (pa_cons (pv 2) pa_nil))))
      (pss_cons (ps_set (i := 5) scLaw.nd rfl (.inl rfl) (pe_cal CB hr4 rfl (pa_cons (pv 3) (pa_cons (pv 2) (pa_cons pe_bl pa_nil)))))
      (pss_cons (ps_if (pt_cmpR op_ne (pe_ix ix_tup (pv 4) pe_int (fun _ _ => rfl)) (pe_callB (call_min2 rfl) (by rfl) mM (by decide +kernel) (pa_cons (pe_cal CS hr5 rfl (pa_cons (pv 3) (pa_cons pe_int (pa_cons (pv 2) pa_nil)))) (pa_cons (pe_cal CS hr5 rfl (pa_cons (pv 3) (pa_cons pe_int (pa_cons (pv 2) pa_nil)))) pa_nil))) (nomark _)) (pss_one (ps_ret pe_bl)) pss_nil)
      (pss_one (ps_ret (pe_chain op_le op_le (pe_ix ix_tup (pv 4) pe_int (fun _ _ => rfl)) (pv 5) (pe_ix ix_tup (pv 4) pe_int (fun _ _ => rfl)))))))))), ?_⟩
    refine ⟨_, rfl, a, ns, 0, rfl, hS, fun r hr0 => ?_⟩
    -- gap
    obtain ⟨g, hg, hg2⟩ := pick2 (r / 3 % 10) (r % 2) (Int.emod_nonneg _ (by decide)) (Int.emod_lt_of_pos _ (by decide))
    have g0 : 0 ≤ g := by
      have := Int.emod_nonneg (r / 3) (show (10 : Int) ≠ 0 by decide)
      omega
    have g9 : g ≤ 9 := by
      have := Int.emod_lt_of_pos (r / 3) (show (0 : Int) < 10 by decide)
      omega
    refine ⟨_, rfl, _, _, rfl, rfl, ⟨by decide, by decide⟩, _, _, rfl, rfl, (by show (0 : Int) < 10; decide), by show 2 ≤ sizeLine; decide, fun u nu => ?_⟩
    have s1 : Same H (upd H u (.lst [.int 0, .int (r / 3 % 10)])) := same_upd nu
    refine ⟨_, rfl, _, _, rfl, rfl, (by show (0 : Int) < 2; decide), u, _, _, .int g, rfl, rfl, SqL.of upd_same, hg, ?_⟩
    -- contacts
    have m0 := Int.emod_nonneg (r / 7) (show (9 : Int) ≠ 0 by decide)
    have m9 := Int.emod_lt_of_pos (r / 7) (show (0 : Int) < 9 by decide)
    have n0 := Int.emod_nonneg (r / 9) (show (4 : Int) ≠ 0 by decide)
    have n4 := Int.emod_lt_of_pos (r / 9) (show (0 : Int) < 4 by decide)
    refine ⟨_, rfl, _, rfl, _, _, rfl, rfl, ⟨by decide, by decide⟩, _, _, rfl, rfl, (by show (0 : Int) < 9; decide), _, rfl, _, _, rfl, rfl, ⟨by decide, by decide⟩, _, _, rfl, rfl, (by show (0 : Int) < 4; decide), _, _, rfl, rfl,
      a, ns, _, _, rfl, s1.seq hS, ⟨m0, by omega⟩, ⟨by omega, by omega⟩, fun H2 L xs d s2 hL hxs hG hl8 => ?_⟩
    -- network(list(contacts), gap)
    refine ⟨_, rfl, L, xs, rfl, .inl (SqL.of hL), fun l nl => ?_⟩
    have s3 : Same H2 (upd H2 l (.lst xs)) := same_upd nl
    have N3 : Net K d g (upd H2 l (.lst xs)) l xs := ⟨SqL.of upd_same, hxs.mono s3, hG, hl8, g0⟩
    refine ⟨_, rfl, d, g, l, xs, rfl, N3, by omega, fun H4 p rr zs s4 nz hp => ?_⟩
    have s24 := s3.trans s4
    have N4 : Net K d g H4 L xs := ⟨SqL.of (s24 _ _ hL), hxs.mono s24, hG, hl8, g0⟩
    -- the best
    refine ⟨_, rfl, _, rfl, d, L, xs, g, true, rfl, N4.sq, N4.ct, hl8, fun H5 s5 => ?_⟩
    have N5 := N4.mono s5
    -- the bound
    refine ⟨_, rfl, p, _, 2, _, rfl, rfl, SqT.of (s5 _ _ hp), atI_nat (j := 2) rfl, ?_⟩
    refine ⟨_, rfl, _, rfl, d, g, L, xs, 0, Ct.cr, rfl, N5, .inl ⟨rfl, rfl⟩, fun H6 s6 => ?_⟩
    have N6 := N5.mono s6
    refine ⟨_, rfl, _, rfl, d, g, L, xs, 1, Ct.si, rfl, N6, .inr ⟨rfl, rfl⟩, fun H7 s7 => ?_⟩
    have em : (if grp d g Ct.si xs < grp d g Ct.cr xs then grp d g Ct.si xs else grp d g Ct.cr xs) = min (grp d g Ct.si xs) (grp d g Ct.cr xs) := by
      split <;> omega
    refine ⟨_, _, rfl, rfl, _, rfl, ?_⟩
    rw [em]
    refine iteNS rfl ?_
    -- told, best, bound
    obtain ⟨h1, h2⟩ := law_holds g0 hG hl8 nz
    have hp7 := (s5.trans (s6.trans s7)) _ _ hp
    exact ⟨_, rfl, p, _, 1, _, rfl, rfl, SqT.of hp7, atI_nat (j := 1) rfl, _, rfl, _, _, rfl, rfl, true, dT h1, iteT ⟨_, rfl, p, _, 2, _, rfl, rfl, SqT.of hp7, atI_nat (j := 2) rfl, _, _, rfl, rfl, dQ h2 (q H7)⟩⟩
end
end Orr
/-! What the top has left, and the law's end. -/
namespace Orr
open PySem PySem.Spec PyProof.Rows L2
theorem def_mk {K : PySem.W.Frag} {h : Heap} {mg : Str → Option Value} (X : K.In h) (G : h.Ns mainGlobals mg) {x : Str} {st : Stmt} {f : Addr} {oc : Value} {od an : Option Addr} {sl : Array (Option Value)} {kV dc pm cd ct : Value}
    (a : PySem.W.nsIn K mainGlobals x = some (some (.ref f))) (l : K.lookup f = some ⟨oc, od, .func (PySem.W.fnOf x x (defArgs st) (defBody st) (defScope st) .none kV dc pm an cd ct), sl⟩) (c : PySem.W.codeIn K cd x = true) (k : PySem.W.keepIn K (.ref f) = true) : Def K mg x st :=
  ⟨f, _, fun_mk l c k, PySem.W.mg_of X G a⟩
theorem all_mk {l : PySem.W.OpenLaw} {w : World} {K : PySem.W.Frag} {h : Heap} {mg : Str → Option Value} {fa : Addr} (X : K.In h) (G : h.Ns mainGlobals mg) (hfa : mg "law" = some (.ref fa))
    (D0 : Def K mg "check" sCheck)
    (D1 : Def K mg "is_tick" sTick)
    (D2 : Def K mg "check_contacts" sCkC)
    (D3 : Def K mg "check_gap" sCkG)
    (D4 : Def K mg "ready" sReady)
    (D5 : Def K mg "apart" sApart)
    (D6 : Def K mg "weight_of" sWeight)
    (D7 : Def K mg "best_by" sBy)
    (D8 : Def K mg "end_of" sEnd)
    (D9 : Def K mg "plan_table" sTable)
    (D10 : Def K mg "best_choice" sBest)
    (D11 : Def K mg "go_together" sGo)
    (D12 : Def K mg "fits_with" sFits)
    (D13 : Def K mg "groups_by" sGroups)
    (D14 : Def K mg "by_groups" sByG)
    (D15 : Def K mg "exchanged" sExch)
    (D16 : Def K mg "better_exchange" sBetter)
    (D17 : Def K mg "improved" sImpr)
    (D18 : Def K mg "begin_and_site" sBas)
    (D19 : Def K mg "bound_of" sBound)
    (D20 : Def K mg "network" sNet)
    (D21 : Def K mg "_law_row" sRow)
    (D22 : Def K mg "_law_sum" sSum)
    (D23 : Def K mg "_law_ready" sLReady)
    (D24 : Def K mg "_law_apart" sLApart)
    (D25 : Def K mg "_law_contacts" sLCont)
    (D26 : Def K mg "_law_best" sLBest)
    (D27 : Def K mg "_law_is_choice" sLChoice)
    (D28 : Def K mg "_law_sum_of_best" sLSob)
    (z_len : PySem.W.nsIn K mainGlobals "len" = some none)
    (z_sum : PySem.W.nsIn K mainGlobals "sum" = some none)
    (z_list : PySem.W.nsIn K mainGlobals "list" = some none)
    (z_sorted : PySem.W.nsIn K mainGlobals "sorted" = some none)
    (z_min : PySem.W.nsIn K mainGlobals "min" = some none)
    (z_max : PySem.W.nsIn K mainGlobals "max" = some none)
    (z_range : PySem.W.nsIn K mainGlobals "range" = some none)
    (z_int : PySem.W.nsIn K mainGlobals "int" = some none)
    {t0 t1 t2 t3 : Tok}
    (i_LAST_TICK : mg "LAST_TICK" = some (.int 100000 t0))
    (i_MOST_WEIGHT : mg "MOST_WEIGHT" = some (.int 1000000000000 t1))
    (i_MOST_OF_NETWORK : mg "MOST_OF_NETWORK" = some (.int 100 t2))
    (i_EXCHANGES : mg "EXCHANGES" = some (.int 50 t3))
    {fL : Addr} {od an : Option Addr} {sl : Array (Option Value)} {oc kV dc pm cd ct : Value}
    (aL : PySem.W.nsIn K mainGlobals "law" = some (some (.ref fL))) (lL : K.lookup fL = some ⟨oc, od, .func (PySem.W.fnOf "law" "law" (defArgs sLaw) (defBody sLaw) (defScope sLaw) .none kV dc pm an cd ct), sl⟩) (cL : PySem.W.codeIn K cd "law" = true) (kL : PySem.W.keepIn K (.ref fL) = true) :
    ∃ fd : FuncData, (∀ (s : Shared) (v : Value), BindsTo s fd ⟨[v], []⟩ [("_law_script", v)]) ∧ ∀ base : Heap, K.In base → base.Ns mainGlobals mg → FnOk l.prog w K mg base CX0 9 fa fd ["_law_script"] (spLaw K) := by
  have e := hfa.symm.trans (PySem.W.mg_of X G aL)
  cases e
  have FL := fun_mk (st := sLaw) lL cL kL
  have m_len := PySem.W.mg_none_of X G z_len
  have m_sum := PySem.W.mg_none_of X G z_sum
  have m_list := PySem.W.mg_none_of X G z_list
  have m_sorted := PySem.W.mg_none_of X G z_sorted
  have m_min := PySem.W.mg_none_of X G z_min
  have m_max := PySem.W.mg_none_of X G z_max
  have m_range := PySem.W.mg_none_of X G z_range
  have m_int := PySem.W.mg_none_of X G z_int
  refine ⟨PySem.W.fnOf "law" "law" (defArgs sLaw) (defBody sLaw) (defScope sLaw) .none kV dc pm an cd ct, fun s v => .of_eq rfl, fun base _ _ => ?_⟩
  have h_check := c_check (P := l.prog) (w := w) (base := base) D0
  have h_tick := c_tick (P := l.prog) (w := w) (base := base) D1 i_LAST_TICK
  have h_ckg := c_ckg (P := l.prog) (w := w) (base := base) D3 h_check h_tick
  have h_ready := c_ready (P := l.prog) (w := w) (base := base) D4
  have h_end := c_end (P := l.prog) (w := w) (base := base) D8
  have h_bas := c_bas (P := l.prog) (w := w) (base := base) D18
  have h_apart := c_apart (P := l.prog) (w := w) (base := base) D5 h_ready
  have h_go := c_go (P := l.prog) (w := w) (base := base) D11 h_apart
  have h_fits := c_fits (P := l.prog) (w := w) (base := base) D12 h_go
  have h_wt := c_wt (P := l.prog) (w := w) (base := base) D6 m_sum
  have h_ckc := c_ckc (P := l.prog) (w := w) (base := base) D2 h_check h_tick m_len i_LAST_TICK i_MOST_WEIGHT
  have h_by := c_by (P := l.prog) (w := w) (base := base) D7
  have h_table := c_table (P := l.prog) (w := w) (base := base) D9 h_by h_ready h_end m_sorted
  have h_best := c_best (P := l.prog) (w := w) (base := base) D10 h_table m_list
  have h_groups := c_groups (P := l.prog) (w := w) (base := base) D13
  have h_bound := c_bound (P := l.prog) (w := w) (base := base) D19 h_groups h_best m_sum
  have h_byg := c_byg (P := l.prog) (w := w) (base := base) D14 h_groups h_best h_fits
  have h_exch := c_exch (P := l.prog) (w := w) (base := base) D15 h_go h_fits
  have h_better := c_better (P := l.prog) (w := w) (base := base) D16 h_exch h_wt
  have h_impr := c_impr (P := l.prog) (w := w) (base := base) D17 h_better i_EXCHANGES m_range
  have h_net := c_net (P := l.prog) (w := w) (base := base) D20 h_ckc h_ckg h_impr h_byg h_wt h_bound h_bas i_MOST_OF_NETWORK m_min m_sorted
  have h_row := c_row (P := l.prog) (w := w) (base := base) D21 m_len m_int
  have h_sum := c_sum (P := l.prog) (w := w) (base := base) D22
  have h_lready := c_lready (P := l.prog) (w := w) (base := base) D23
  have h_lapart := c_lapart (P := l.prog) (w := w) (base := base) D24 h_lready
  have h_cont := c_cont (P := l.prog) (w := w) (base := base) D25 h_row m_range
  have h_choice := c_choice (P := l.prog) (w := w) (base := base) D27 h_lapart m_range m_len
  have h_lbest := c_lbest (P := l.prog) (w := w) (base := base) D26 h_choice h_sum m_range m_max
  have h_sob := c_sob (P := l.prog) (w := w) (base := base) D28 h_lbest m_range
  exact ok_law FL h_row h_cont h_net h_lbest h_sob m_list m_min
end Orr
open PySem PySem.W PyProof.Rows
set_option maxHeartbeats 0 in
theorem PySem.Challenge.cw_orrery_k52_whole_networks_and_their_boun_holds : PySem.Challenge.rw_orrery_k52_whole_networks_and_their_boun.Holds := by
  w_on; o_law; k_head; (case hw => w_witness2)
  k_fill
  refine L2.walk_of (l := PySem.Challenge.rw_orrery_k52_whole_networks_and_their_boun) (n := 63) (k := 9) (x := "_law_script") (CX := fun _ => L2.CX0) (sp := fun w => Orr.spLaw _) rfl (by decide) rfl ⟨rfl, by decide, by decide⟩ (fun w h Y => PySem.W.kIn_of Y) ?F (fun _ _ a ns hl _ hS => ⟨a, ns, rfl, hS, fun _ => rfl⟩) (fun _ _ _ _ _ h => h)
  case F =>
    intro w mg fa h KX G hmg
    refine' Orr.all_mk KX G hmg ?D0 ?D1 ?D2 ?D3 ?D4 ?D5 ?D6 ?D7 ?D8 ?D9 ?D10 ?D11 ?D12 ?D13 ?D14 ?D15 ?D16 ?D17 ?D18 ?D19 ?D20 ?D21 ?D22 ?D23 ?D24 ?D25 ?D26 ?D27 ?D28 ?z_len ?z_sum ?z_list ?z_sorted ?z_min ?z_max ?z_range ?z_int ?i_LAST_TICK ?i_MOST_WEIGHT ?i_MOST_OF_NETWORK ?i_EXCHANGES ?aL ?lL ?cL ?kL
    (case D0 => (refine' Orr.def_mk KX G ?a ?l ?c ?k; (case a => k_is); (case l => k_is); (case c => k_is); (case k => k_is)))
    (case D1 => (refine' Orr.def_mk KX G ?a ?l ?c ?k; (case a => k_is); (case l => k_is); (case c => k_is); (case k => k_is)))
    (case D2 => (refine' Orr.def_mk KX G ?a ?l ?c ?k; (case a => k_is); (case l => k_is); (case c => k_is); (case k => k_is)))
    (case D3 => (refine' Orr.def_mk KX G ?a ?l ?c ?k; (case a => k_is); (case l => k_is); (case c => k_is); (case k => k_is)))
    (case D4 => (refine' Orr.def_mk KX G ?a ?l ?c ?k; (case a => k_is); (case l => k_is); (case c => k_is); (case k => k_is)))
    (case D5 => (refine' Orr.def_mk KX G ?a ?l ?c ?k; (case a => k_is); (case l => k_is); (case c => k_is); (case k => k_is)))
    (case D6 => (refine' Orr.def_mk KX G ?a ?l ?c ?k; (case a => k_is); (case l => k_is); (case c => k_is); (case k => k_is)))
    (case D7 => (refine' Orr.def_mk KX G ?a ?l ?c ?k; (case a => k_is); (case l => k_is); (case c => k_is); (case k => k_is)))
    (case D8 => (refine' Orr.def_mk KX G ?a ?l ?c ?k; (case a => k_is); (case l => k_is); (case c => k_is); (case k => k_is)))
    (case D9 => (refine' Orr.def_mk KX G ?a ?l ?c ?k; (case a => k_is); (case l => k_is); (case c => k_is); (case k => k_is)))
    (case D10 => (refine' Orr.def_mk KX G ?a ?l ?c ?k; (case a => k_is); (case l => k_is); (case c => k_is); (case k => k_is)))
    (case D11 => (refine' Orr.def_mk KX G ?a ?l ?c ?k; (case a => k_is); (case l => k_is); (case c => k_is); (case k => k_is)))
    (case D12 => (refine' Orr.def_mk KX G ?a ?l ?c ?k; (case a => k_is); (case l => k_is); (case c => k_is); (case k => k_is)))
    (case D13 => (refine' Orr.def_mk KX G ?a ?l ?c ?k; (case a => k_is); (case l => k_is); (case c => k_is); (case k => k_is)))
    (case D14 => (refine' Orr.def_mk KX G ?a ?l ?c ?k; (case a => k_is); (case l => k_is); (case c => k_is); (case k => k_is)))
    (case D15 => (refine' Orr.def_mk KX G ?a ?l ?c ?k; (case a => k_is); (case l => k_is); (case c => k_is); (case k => k_is)))
    (case D16 => (refine' Orr.def_mk KX G ?a ?l ?c ?k; (case a => k_is); (case l => k_is); (case c => k_is); (case k => k_is)))
    (case D17 => (refine' Orr.def_mk KX G ?a ?l ?c ?k; (case a => k_is); (case l => k_is); (case c => k_is); (case k => k_is)))
    (case D18 => (refine' Orr.def_mk KX G ?a ?l ?c ?k; (case a => k_is); (case l => k_is); (case c => k_is); (case k => k_is)))
    (case D19 => (refine' Orr.def_mk KX G ?a ?l ?c ?k; (case a => k_is); (case l => k_is); (case c => k_is); (case k => k_is)))
    (case D20 => (refine' Orr.def_mk KX G ?a ?l ?c ?k; (case a => k_is); (case l => k_is); (case c => k_is); (case k => k_is)))
    (case D21 => (refine' Orr.def_mk KX G ?a ?l ?c ?k; (case a => k_is); (case l => k_is); (case c => k_is); (case k => k_is)))
    (case D22 => (refine' Orr.def_mk KX G ?a ?l ?c ?k; (case a => k_is); (case l => k_is); (case c => k_is); (case k => k_is)))
    (case D23 => (refine' Orr.def_mk KX G ?a ?l ?c ?k; (case a => k_is); (case l => k_is); (case c => k_is); (case k => k_is)))
    (case D24 => (refine' Orr.def_mk KX G ?a ?l ?c ?k; (case a => k_is); (case l => k_is); (case c => k_is); (case k => k_is)))
    (case D25 => (refine' Orr.def_mk KX G ?a ?l ?c ?k; (case a => k_is); (case l => k_is); (case c => k_is); (case k => k_is)))
    (case D26 => (refine' Orr.def_mk KX G ?a ?l ?c ?k; (case a => k_is); (case l => k_is); (case c => k_is); (case k => k_is)))
    (case D27 => (refine' Orr.def_mk KX G ?a ?l ?c ?k; (case a => k_is); (case l => k_is); (case c => k_is); (case k => k_is)))
    (case D28 => (refine' Orr.def_mk KX G ?a ?l ?c ?k; (case a => k_is); (case l => k_is); (case c => k_is); (case k => k_is)))
    (case z_len => k_is)
    (case z_sum => k_is)
    (case z_list => k_is)
    (case z_sorted => k_is)
    (case z_min => k_is)
    (case z_max => k_is)
    (case z_range => k_is)
    (case z_int => k_is)
    (case i_LAST_TICK => exact PySem.W.mg_of KX G (by k_is))
    (case i_MOST_WEIGHT => exact PySem.W.mg_of KX G (by k_is))
    (case i_MOST_OF_NETWORK => exact PySem.W.mg_of KX G (by k_is))
    (case i_EXCHANGES => exact PySem.W.mg_of KX G (by k_is))
    (case aL => k_is)
    (case lL => k_is)
    (case cL => k_is)
    (case kL => k_is)
