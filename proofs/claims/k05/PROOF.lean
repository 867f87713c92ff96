import PyProof.Rows.All
import Wide.All
import OpenK.AllK
import Wide.FinOn
import HandS.ForExc
import HandS.Comp
import HandS.Iter
import HandS.Dict
import HandS.TryMany
import HandS.IsInst
import HandS.ExcIs
import HandS.SortRule
import HandS.SetFor
import HandS.Evl
import PySem.Challenge.RW_tilldrawer_k05_sums
set_option Elab.async false
set_option linter.all false
set_option maxRecDepth 100000
/-! TD1: data over the abstract heap: what a value stands for (Rp), what is one's own (Or), the slots (Sk). -/
namespace TD
open PySem PySem.Spec PyProof.Rows L2

abbrev D := PyData
abbrev Ex := Evl.Ex
theorem ex_refl (H : Hp) : Ex H H := fun _ _ h => h
theorem ex_trans {H H1 H2 : Hp} (a : Ex H H1) (b : Ex H1 H2) : Ex H H2 := fun x o h => b x o (a x o h)
theorem ex_back {H H' : Hp} {p : Addr} (e : Ex H H') (h : H' p = none) : H p = none := Evl.fresh_back e h
theorem ex_new {H : Hp} {p : Addr} {o : HO} (h : H p = none) : Ex H (upd H p o) := Evl.Ex.new h

/-! ### what a value stands for -/
mutual
inductive Rp (H : Hp) : V → D → Prop
  | non : Rp H .non .none
  | bl (b : Bool) : Rp H (.bl b) (.bool b)
  | int (i : Int) : Rp H (.int i) (.int i)
  | str (x : Str) : Rp H (.str x) (.str x)
  | lst {a : Addr} {xs : List V} {ds : List D} : Rd H a (.lst xs) → RpA H xs ds → Rp H (.ref a) (.list ds)
  | tup {a : Addr} {xs : List V} {ds : List D} : H a = some (.tup xs) → RpA H xs ds → Rp H (.ref a) (.tuple ds)
inductive RpA (H : Hp) : List V → List D → Prop
  | nil : RpA H [] []
  | cons {v : V} {vs : List V} {d : D} {ds : List D} : Rp H v d → RpA H vs ds → RpA H (v :: vs) (d :: ds)
end
theorem rd_mono {H H' : Hp} {a : Addr} {u : HO} (e : Ex H H') (h : Rd H a u) : Rd H' a u := Evl.ex_rd e h
mutual
theorem Rp.mono {H H' : Hp} (e : Ex H H') : ∀ {v : V} {d : D}, Rp H v d → Rp H' v d
  | _, _, .non => .non
  | _, _, .bl b => .bl b
  | _, _, .int i => .int i
  | _, _, .str x => .str x
  | _, _, .lst h a => .lst (rd_mono e h) (RpA.mono e a)
  | _, _, .tup h a => .tup (e _ _ h) (RpA.mono e a)
theorem RpA.mono {H H' : Hp} (e : Ex H H') : ∀ {vs : List V} {ds : List D}, RpA H vs ds → RpA H' vs ds
  | _, _, .nil => .nil
  | _, _, .cons a b => .cons (Rp.mono e a) (RpA.mono e b)
end
mutual
theorem Rp.dp {K : PySem.W.Frag} {H : Hp} : ∀ {v : V} {d : D}, Rp H v d → Dp K H v d
  | _, _, .non => .non
  | _, _, .bl b => .bl b
  | _, _, .int i => .int i
  | _, _, .str x => .str x
  | _, _, .lst h a => .lst (.inl h) (RpA.dp a)
  | _, _, .tup h a => .tup (.inl (.inl h)) (RpA.dp a)
theorem RpA.dp {K : PySem.W.Frag} {H : Hp} : ∀ {vs : List V} {ds : List D}, RpA H vs ds → DpAll K H vs ds
  | _, _, .nil => .nil
  | _, _, .cons a b => .cons (Rp.dp a) (RpA.dp b)
end
section
variable {H : Hp}
theorem RpA.len : ∀ {vs : List V} {ds : List D}, RpA H vs ds → vs.length = ds.length
  | _, _, .nil => rfl
  | _, _, .cons _ b => by rw [List.length_cons, List.length_cons, RpA.len b]
theorem RpA.get : ∀ {vs : List V} {ds : List D} {i : Nat} {d : D}, RpA H vs ds → ds[i]? = some d → ∃ v, vs[i]? = some v ∧ Rp H v d
  | _, _, i, _, .nil, e => by simp at e
  | _, _, 0, _, .cons a _, e => by simp at e; subst e; exact ⟨_, rfl, a⟩
  | _, _, i + 1, d, .cons _ b, e => by
    obtain ⟨v, h1, h2⟩ := RpA.get (i := i) (d := d) b (by simpa using e)
    exact ⟨v, by simpa using h1, h2⟩
theorem RpA.getV : ∀ {vs : List V} {ds : List D} {i : Nat} {v : V}, RpA H vs ds → vs[i]? = some v → ∃ d, ds[i]? = some d ∧ Rp H v d
  | _, _, i, _, .nil, e => by simp at e
  | _, _, 0, _, .cons a _, e => by simp at e; subst e; exact ⟨_, rfl, a⟩
  | _, _, i + 1, v, .cons _ b, e => by
    obtain ⟨d, h1, h2⟩ := RpA.getV (i := i) (v := v) b (by simpa using e)
    exact ⟨d, by simpa using h1, h2⟩
theorem RpA.app : ∀ {vs ws : List V} {ds es : List D}, RpA H vs ds → RpA H ws es → RpA H (vs ++ ws) (ds ++ es)
  | _, _, _, _, .nil, h => h
  | _, _, _, _, .cons a b, h => .cons a (RpA.app b h)
theorem RpA.one {v : V} {d : D} (h : Rp H v d) : RpA H [v] [d] := .cons h .nil
theorem RpA.take : ∀ {vs : List V} {ds : List D} (n : Nat), RpA H vs ds → RpA H (vs.take n) (ds.take n)
  | _, _, 0, _ => by rw [List.take_zero, List.take_zero]; exact .nil
  | _, _, _ + 1, .nil => .nil
  | _, _, n + 1, .cons a b => .cons a (RpA.take n b)
theorem RpA.drop : ∀ {vs : List V} {ds : List D} (n : Nat), RpA H vs ds → RpA H (vs.drop n) (ds.drop n)
  | _, _, 0, h => h
  | _, _, _ + 1, .nil => .nil
  | _, _, n + 1, .cons _ b => RpA.drop n b
theorem RpA.set : ∀ {vs : List V} {ds : List D} (i : Nat) {v : V} {d : D}, RpA H vs ds → Rp H v d → RpA H (vs.set i v) (ds.set i d)
  | _, _, _, _, _, .nil, _ => .nil
  | _, _, 0, _, _, .cons _ b, h => .cons h b
  | _, _, i + 1, _, _, .cons a b, h => .cons a (RpA.set i b h)
theorem RpA.reverse : ∀ {vs : List V} {ds : List D}, RpA H vs ds → RpA H vs.reverse ds.reverse
  | _, _, .nil => .nil
  | _, _, .cons a b => by
    rw [List.reverse_cons, List.reverse_cons]
    exact (RpA.reverse b).app (.one a)
theorem RpA.erase : ∀ {vs : List V} {ds : List D} (i : Nat), RpA H vs ds → RpA H (vs.eraseIdx i) (ds.eraseIdx i)
  | _, _, _, .nil => .nil
  | _, _, 0, .cons _ b => b
  | _, _, i + 1, .cons a b => .cons a (RpA.erase i b)
theorem RpA.rep {vs : List V} {ds : List D} (h : RpA H vs ds) : ∀ k : Nat, RpA H (List.replicate k vs).flatten (List.replicate k ds).flatten
  | 0 => .nil
  | k + 1 => by
    rw [List.replicate_succ, List.replicate_succ, List.flatten_cons, List.flatten_cons]
    exact h.app (RpA.rep h k)
theorem RpA.ints : ∀ {vs : List V} {ns : List Int}, RpA H vs (ns.map PyData.int) → vs = ns.map V.int
  | _, [], .nil => rfl
  | _, _ :: _, .cons a b => by cases a; rw [RpA.ints b]; rfl
theorem RpA.of_ints : ∀ (ns : List Int), RpA H (ns.map V.int) (ns.map PyData.int)
  | [] => .nil
  | n :: r => .cons (.int n) (RpA.of_ints r)
theorem RpA.perm {ys : List V} : ∀ {xs : List V} {ds : List D}, ys.Perm xs → RpA H xs ds → ∃ es : List D, es.Perm ds ∧ RpA H ys es := by
  intro xs ds hp
  induction hp generalizing ds with
  | nil => intro h; exact ⟨ds, List.Perm.refl _, h⟩
  | cons x _ ih =>
    intro h
    cases h with
    | cons a b =>
      obtain ⟨es, p, q⟩ := ih b
      exact ⟨_ :: es, p.cons _, .cons a q⟩
  | swap x y l =>
    intro h
    cases h with
    | cons a b =>
      cases b with
      | cons c d => exact ⟨_, List.Perm.swap _ _ _, .cons c (.cons a d)⟩
  | trans _ _ ih1 ih2 =>
    intro h
    obtain ⟨es, p, q⟩ := ih2 h
    obtain ⟨es', p', q'⟩ := ih1 q
    exact ⟨es', p'.trans p, q'⟩
end

/-! ### flat and unchanging data -/
def flat : D → Bool
  | .none => true
  | .bool _ => true
  | .int _ => true
  | .str _ => true
  | _ => false
mutual
def imm : D → Bool
  | .none => true
  | .bool _ => true
  | .int _ => true
  | .str _ => true
  | .tuple ds => immA ds
  | .list _ => false
  | .dict _ => false
def immA : List D → Bool
  | [] => true
  | d :: ds => imm d && immA ds
end
theorem immA_all : ∀ ds : List D, immA ds = ds.all imm
  | [] => rfl
  | d :: ds => by rw [immA, immA_all ds]; rfl
/-- the tuples of a heap, over a base -/
def tups (B H : Hp) : Hp := fun a => match B a with
  | some o => some o
  | none => match H a with
    | some (.tup xs) => some (.tup xs)
    | _ => none
theorem tups_ex (B H : Hp) : Ex B (tups B H) := fun a o e => by
  show (match B a with | some o => some o | none => _) = some o
  rw [e]
theorem tups_le {B H : Hp} (e : Ex B H) : Ex (tups B H) H := fun a o h => by
  unfold tups at h
  cases q : B a with
  | some u =>
    rw [q] at h
    cases h
    exact e a _ q
  | none =>
    rw [q] at h
    cases z : H a with
    | none => rw [z] at h; cases h
    | some u =>
      rw [z] at h
      cases u <;> first | (cases h; rfl) | cases h
theorem tups_tup {B H : Hp} (e : Ex B H) {a : Addr} {xs : List V} (h : H a = some (.tup xs)) : tups B H a = some (.tup xs) := by
  unfold tups
  cases q : B a with
  | some u =>
    have := e a u q
    rw [h] at this
    cases this
    rfl
  | none => simp only [h]
theorem tups_none {B H : Hp} {a : Addr} (hb : B a = none) (h : ∀ xs, H a ≠ some (.tup xs)) : tups B H a = none := by
  unfold tups
  rw [hb]
  cases z : H a with
  | none => rfl
  | some u =>
    cases u <;> first | rfl | exact absurd z (h _)
mutual
theorem Rp.imm {B H b : Hp} (hb : Ex B H) (e : Ex b H) : ∀ (d : D) {v : V}, Rp b v d → TD.imm d = true → Rp (tups B H) v d
  | .none, _, h, _ => by cases h; exact .non
  | .bool _, _, h, _ => by cases h; exact .bl _
  | .int _, _, h, _ => by cases h; exact .int _
  | .str _, _, h, _ => by cases h; exact .str _
  | .tuple ds, _, h, q => by
    cases h with
    | tup h a => exact .tup (tups_tup hb (e _ _ h)) (RpA.imm hb e ds a q)
  | .list _, _, _, q => by cases q
  | .dict _, _, _, q => by cases q
theorem RpA.imm {B H b : Hp} (hb : Ex B H) (e : Ex b H) : ∀ (ds : List D) {vs : List V}, RpA b vs ds → immA ds = true → RpA (tups B H) vs ds
  | [], _, h, _ => by cases h; exact .nil
  | d :: ds, _, h, q => by
    rw [immA, Bool.and_eq_true] at q
    cases h with
    | cons a c => exact .cons (Rp.imm hb e d a q.1) (RpA.imm hb e ds c q.2)
end
theorem Rp.flat {H H' : Hp} {v : V} {d : D} (h : Rp H v d) (f : flat d = true) : Rp H' v d := by
  cases h with
  | non => exact .non
  | bl b => exact .bl b
  | int i => exact .int i
  | str x => exact .str x
  | lst _ _ => cases f
  | tup _ _ => cases f

/-! ### a step of base and heap -/
def NoTup (o : HO) : Prop := ∀ xs, o ≠ .tup xs
structure Sp' (B H B1 H1 : Hp) : Prop where
  b : Ex B B1
  h : Ex H H1
  bh : Ex B1 H1
  own : ∀ p o, H p = some o → NoTup o → B p = none → B1 p = none
theorem Sp'.refl {B H : Hp} (e : Ex B H) : Sp' B H B H := ⟨ex_refl _, ex_refl _, e, fun _ _ _ _ h => h⟩
theorem Sp'.trans {B H B1 H1 B2 H2 : Hp} (a : Sp' B H B1 H1) (c : Sp' B1 H1 B2 H2) : Sp' B H B2 H2 :=
  ⟨ex_trans a.b c.b, ex_trans a.h c.h, c.bh, fun p o h1 h2 h3 => c.own p o (a.h p o h1) h2 (a.own p o h1 h2 h3)⟩
/-- the heap grows, the base stays -/
theorem Sp'.grow {B H H1 : Hp} (e : Ex B H) (h : Ex H H1) : Sp' B H B H1 := ⟨ex_refl _, h, ex_trans e h, fun _ _ _ _ q => q⟩
/-- .. the base takes the tuples in -/
theorem Sp'.tups {B H H1 : Hp} (e : Ex B H) (h : Ex H H1) : Sp' B H (tups B H1) H1 :=
  ⟨tups_ex _ _, h, tups_le (ex_trans e h), fun p o h1 h2 h3 => tups_none h3 fun xs z => h2 xs (by
    have q := h p o h1
    rw [q] at z
    exact Option.some.inj z)⟩
/-- a new object stands in the heap and in the base -/
theorem Sp'.both {B H : Hp} {p : Addr} {o : HO} (e : Ex B H) (hp : H p = none) : Sp' B H (upd B p o) (upd H p o) := by
  have hb : B p = none := ex_back e hp
  refine ⟨ex_new hb, ex_new hp, fun a u h => ?_, fun a u h1 _ h3 => ?_⟩
  · by_cases q : a = p
    · subst q
      rw [upd_same] at h ⊢
      exact h
    · rw [upd_ne q] at h ⊢
      exact e a u h
  · have q : a ≠ p := fun z => by rw [z, hp] at h1; cases h1
    rw [upd_ne q]
    exact h3
/-- a new object stands in the heap alone -/
theorem Sp'.new {B H : Hp} {p : Addr} {o : HO} (e : Ex B H) (hp : H p = none) : Sp' B H B (upd H p o) := .grow e (ex_new hp)
end TD

/-! TD2: what is one's own (Or), the slots (Sk). -/
namespace TD
open PySem PySem.Spec PyProof.Rows L2

inductive R where
  | im (d : D) | ol (ds : List D) | on (rs : List R) | ot (rs : List R)
mutual
def R.toD : R → D
  | .im d => d
  | .ol ds => .list ds
  | .on rs => .list (R.toDs rs)
  | .ot rs => .tuple (R.toDs rs)
def R.toDs : List R → List D
  | [] => []
  | r :: rs => r.toD :: R.toDs rs
end
mutual
def R.imm : R → Bool
  | .im d => TD.imm d
  | .ol ds => immA ds
  | .on rs => R.imms rs
  | .ot rs => R.imms rs
def R.imms : List R → Bool
  | [] => true
  | r :: rs => r.imm && R.imms rs
end
mutual
inductive Or (B H : Hp) : V → R → List Addr → Prop
  | im {v : V} {d : D} : Rp B v d → Or B H v (.im d) []
  | ol {p : Addr} {xs : List V} {ds : List D} : B p = none → H p = some (.lst xs) → RpA B xs ds → Or B H (.ref p) (.ol ds) [p]
  | on {p : Addr} {xs : List V} {rs : List R} {f : List Addr} : B p = none → H p = some (.lst xs) → OrA B H xs rs f → Or B H (.ref p) (.on rs) (p :: f)
  | ot {p : Addr} {xs : List V} {rs : List R} {f : List Addr} : B p = some (.tup xs) → OrA B H xs rs f → Or B H (.ref p) (.ot rs) f
inductive OrA (B H : Hp) : List V → List R → List Addr → Prop
  | nil : OrA B H [] [] []
  | cons {v : V} {vs : List V} {r : R} {rs : List R} {f g : List Addr} : Or B H v r f → OrA B H vs rs g → OrA B H (v :: vs) (r :: rs) (f ++ g)
end
theorem lst_noTup (xs : List V) : NoTup (.lst xs) := fun _ z => nomatch z
theorem dK_noTup (xs : List (Key × V)) : NoTup (.dK xs) := fun _ z => nomatch z
mutual
theorem Or.frame {B H B1 H1 : Hp} (hB : Ex B B1) : ∀ {v : V} {r : R} {f : List Addr}, (∀ p ∈ f, H1 p = H p ∧ B1 p = none) → Or B H v r f → Or B1 H1 v r f
  | _, _, _, _, .im h => .im (h.mono hB)
  | _, _, _, k, .ol h1 h2 h3 => .ol (k _ List.mem_cons_self).2 ((k _ List.mem_cons_self).1.trans h2) (h3.mono hB)
  | _, _, _, k, .on h1 h2 h3 => .on (k _ List.mem_cons_self).2 ((k _ List.mem_cons_self).1.trans h2) (OrA.frame hB (fun p hp => k p (List.mem_cons_of_mem _ hp)) h3)
  | _, _, _, k, .ot h1 h3 => .ot (hB _ _ h1) (OrA.frame hB k h3)
theorem OrA.frame {B H B1 H1 : Hp} (hB : Ex B B1) : ∀ {vs : List V} {rs : List R} {f : List Addr}, (∀ p ∈ f, H1 p = H p ∧ B1 p = none) → OrA B H vs rs f → OrA B1 H1 vs rs f
  | _, _, _, _, .nil => .nil
  | _, _, _, k, .cons a b => .cons (Or.frame hB (fun p hp => k p (List.mem_append_left _ hp)) a) (OrA.frame hB (fun p hp => k p (List.mem_append_right _ hp)) b)
end
mutual
theorem Or.at {B H : Hp} : ∀ {v : V} {r : R} {f : List Addr}, Or B H v r f → ∀ p ∈ f, B p = none ∧ ∃ o, H p = some o ∧ NoTup o
  | _, _, _, .im h, p, hp => by cases hp
  | _, _, _, .ol h1 h2 h3, p, hp => by
    cases List.mem_singleton.mp hp
    exact ⟨h1, _, h2, lst_noTup _⟩
  | _, _, _, .on h1 h2 h3, p, hp => by
    rcases List.mem_cons.mp hp with rfl | hp
    · exact ⟨h1, _, h2, lst_noTup _⟩
    · exact OrA.at h3 p hp
  | _, _, _, .ot h1 h3, p, hp => OrA.at h3 p hp
theorem OrA.at {B H : Hp} : ∀ {vs : List V} {rs : List R} {f : List Addr}, OrA B H vs rs f → ∀ p ∈ f, B p = none ∧ ∃ o, H p = some o ∧ NoTup o
  | _, _, _, .nil, p, hp => by cases hp
  | _, _, _, .cons a b, p, hp => by
    rcases List.mem_append.mp hp with hp | hp
    · exact Or.at a p hp
    · exact OrA.at b p hp
end
mutual
theorem Or.rp {B H : Hp} (e : Ex B H) : ∀ {v : V} {r : R} {f : List Addr}, Or B H v r f → Rp H v r.toD
  | _, _, _, .im h => h.mono e
  | _, _, _, .ol h1 h2 h3 => .lst (.inl h2) (h3.mono e)
  | _, _, _, .on h1 h2 h3 => .lst (.inl h2) (OrA.rp e h3)
  | _, _, _, .ot h1 h3 => .tup (e _ _ h1) (OrA.rp e h3)
theorem OrA.rp {B H : Hp} (e : Ex B H) : ∀ {vs : List V} {rs : List R} {f : List Addr}, OrA B H vs rs f → RpA H vs (R.toDs rs)
  | _, _, _, .nil => .nil
  | _, _, _, .cons a b => .cons (Or.rp e a) (OrA.rp e b)
end
/-! unchanging leaves: over another base -/
mutual
theorem Or.rebase {B H b : Hp} (hb : Ex B H) (e : Ex b H) : ∀ {v : V} {r : R} {f : List Addr}, Or b H v r f → r.imm = true → (∀ p ∈ f, B p = none) → Or (tups B H) H v r f
  | _, _, _, .im h, q, _ => .im (Rp.imm hb e _ h q)
  | _, _, _, .ol h1 h2 h3, q, k => .ol (tups_none (k _ List.mem_cons_self) fun xs z => by rw [h2] at z; cases z) h2 (RpA.imm hb e _ h3 q)
  | _, _, _, .on h1 h2 h3, q, k => .on (tups_none (k _ List.mem_cons_self) fun xs z => by rw [h2] at z; cases z) h2 (OrA.rebase hb e h3 q fun p hp => k p (List.mem_cons_of_mem _ hp))
  | _, _, _, .ot h1 h3, q, k => .ot (tups_tup hb (e _ _ h1)) (OrA.rebase hb e h3 q k)
theorem OrA.rebase {B H b : Hp} (hb : Ex B H) (e : Ex b H) : ∀ {vs : List V} {rs : List R} {f : List Addr}, OrA b H vs rs f → R.imms rs = true → (∀ p ∈ f, B p = none) → OrA (tups B H) H vs rs f
  | _, _, _, .nil, _, _ => .nil
  | _, _, _, .cons a c, q, k => by
    rw [R.imms, Bool.and_eq_true] at q
    exact .cons (Or.rebase hb e a q.1 fun p hp => k p (List.mem_append_left _ hp)) (OrA.rebase hb e c q.2 fun p hp => k p (List.mem_append_right _ hp))
end
/-- the base takes some objects of the heap in -/
def addF (B H : Hp) (f : List Addr) : Hp := fun a => match B a with
  | some o => some o
  | none => if a ∈ f then H a else none
theorem addF_ex (B H : Hp) (f : List Addr) : Ex B (addF B H f) := fun a o e => by
  show (match B a with | some o => some o | none => _) = some o
  rw [e]
theorem addF_le {B H : Hp} {f : List Addr} (e : Ex B H) : Ex (addF B H f) H := fun a o h => by
  unfold addF at h
  cases q : B a with
  | some u =>
    rw [q] at h
    cases h
    exact e a _ q
  | none =>
    rw [q] at h
    by_cases z : a ∈ f
    · simp only [z, if_true] at h
      exact h
    · simp only [z, if_false] at h
      cases h
theorem addF_in {B H : Hp} {f : List Addr} (e : Ex B H) {a : Addr} {o : HO} (hf : a ∈ f) (h : H a = some o) : addF B H f a = some o := by
  unfold addF
  cases q : B a with
  | some u =>
    have := e a u q
    rw [h] at this
    cases this
    rfl
  | none => simp only [hf, if_true, h]
theorem addF_out {B H : Hp} {f : List Addr} {a : Addr} (hf : a ∉ f) (h : B a = none) : addF B H f a = none := by
  unfold addF
  rw [h]
  simp only [hf, if_false]
mutual
theorem Or.freeze {B H : Hp} {g : List Addr} (e : Ex B H) : ∀ {v : V} {r : R} {f : List Addr}, Or B H v r f → (∀ p ∈ f, p ∈ g) → Rp (addF B H g) v r.toD
  | _, _, _, .im h, _ => h.mono (addF_ex _ _ _)
  | _, _, _, .ol h1 h2 h3, k => .lst (.inl (addF_in e (k _ List.mem_cons_self) h2)) (h3.mono (addF_ex _ _ _))
  | _, _, _, .on h1 h2 h3, k => .lst (.inl (addF_in e (k _ List.mem_cons_self) h2)) (OrA.freeze e h3 fun p hp => k p (List.mem_cons_of_mem _ hp))
  | _, _, _, .ot h1 h3, k => .tup (addF_ex _ _ _ _ _ h1) (OrA.freeze e h3 k)
theorem OrA.freeze {B H : Hp} {g : List Addr} (e : Ex B H) : ∀ {vs : List V} {rs : List R} {f : List Addr}, OrA B H vs rs f → (∀ p ∈ f, p ∈ g) → RpA (addF B H g) vs (R.toDs rs)
  | _, _, _, .nil, _ => .nil
  | _, _, _, .cons a c, k => .cons (Or.freeze e a fun p hp => k p (List.mem_append_left _ hp)) (OrA.freeze e c fun p hp => k p (List.mem_append_right _ hp))
end
/-- what was new is taken into the base -/
theorem Sp'.addF {B H B1 H1 : Hp} {f : List Addr} (s : Sp' B H B1 H1) (k : ∀ p ∈ f, H p = none) : Sp' B H (addF B1 H1 f) H1 :=
  ⟨ex_trans s.b (addF_ex _ _ _), s.h, addF_le s.bh, fun p o h1 h2 h3 => addF_out (fun z => by rw [k p z] at h1; cases h1) (s.own p o h1 h2 h3)⟩

/-! ### dicts -/
def KvRp (B : Hp) (ks : List (Key × V)) (kvs : List (Int × D)) : Prop := Paired (fun (p : Key × V) (q : Int × D) => p.1 = Sum.inl q.1 ∧ Rp B p.2 q.2) ks kvs
theorem KvRp.mono {B B1 : Hp} (e : Ex B B1) {ks : List (Key × V)} {kvs : List (Int × D)} (h : KvRp B ks kvs) : KvRp B1 ks kvs := Paired.mapP h fun _ _ z => ⟨z.1, z.2.mono e⟩

/-- what a list or a dict holds -/
inductive Cn where
  | l (ds : List D) | d (kvs : List (Int × D))
def CnAt (B H : Hp) (p : Addr) : Cn → Prop
  | .l ds => ∃ xs, H p = some (.lst xs) ∧ RpA B xs ds
  | .d kvs => ∃ ks, H p = some (.dK ks) ∧ KvRp B ks kvs
theorem CnAt.at {B H : Hp} {p : Addr} {c : Cn} (h : CnAt B H p c) : ∃ o, H p = some o ∧ NoTup o := by
  cases c with
  | l ds => obtain ⟨xs, h, _⟩ := h; exact ⟨_, h, lst_noTup _⟩
  | d kvs => obtain ⟨xs, h, _⟩ := h; exact ⟨_, h, dK_noTup _⟩
theorem CnAt.step {B H B1 H1 : Hp} {p : Addr} {c : Cn} (h : CnAt B H p c) (e : Ex B B1) (k : H1 p = H p) : CnAt B1 H1 p c := by
  cases c with
  | l ds => obtain ⟨xs, h, r⟩ := h; exact ⟨xs, k.trans h, r.mono e⟩
  | d kvs => obtain ⟨xs, h, r⟩ := h; exact ⟨xs, k.trans h, r.mono e⟩
/-! ### the slots -/
inductive Sl where
  | fz (d : D) | own (r : R) | dc (o : Bool) (kvs : List (Int × D)) | xc (a : Addr) (x : Nat) | pin (p : Addr) (ds : List D) | mp (p : Addr) (c : Cn)
abbrev Env := List (Option Sl)
def SlotOk (B H : Hp) : Sl → Option (Option V) → List Addr → Prop
  | .fz d, x, _ => ∃ v, x = some (some v) ∧ Rp B v d
  | .own r, x, f => ∃ v, x = some (some v) ∧ Or B H v r f ∧ f.Nodup
  | .dc o kvs, x, f => ∃ p ks, x = some (some (.ref p)) ∧ H p = some (.dK ks) ∧ KvRp B ks kvs ∧ (o = true → f = [p])
  | .xc a _, x, _ => x = some (some (.ref a))
  | .pin p ds, x, f => x = some (some (.ref p)) ∧ f = [p] ∧ B p = none ∧ ∃ xs, H p = some (.lst xs) ∧ RpA B xs ds
  | .mp p c, x, f => x = some (some (.ref p)) ∧ f = [p] ∧ B p = none ∧ CnAt B H p c
structure SkF (H0 B : Hp) (Γ : Env) (σ : L2.St) (H : Hp) (F : Nat → List Addr) : Prop where
  dis : ∀ i j, i ≠ j → ∀ p ∈ F i, p ∉ F j
  at' : ∀ i, ∀ p ∈ F i, H0 p = none ∧ B p = none ∧ ∃ o, H p = some o ∧ NoTup o
  ok : ∀ i s, Γ[i]? = some (some s) → SlotOk B H s (σ[i]?) (F i)
structure Sk (H0 B : Hp) (Γ : Env) (σ : L2.St) (H : Hp) : Prop where
  len : Γ.length = σ.length
  e0 : Ex H0 H
  ex : Ex B H
  sl : ∃ F, SkF H0 B Γ σ H F
theorem SlotOk.step {B H B1 H1 : Hp} {s : Sl} {x : Option (Option V)} {f : List Addr} (h : SlotOk B H s x f) (st : Sp' B H B1 H1) (k : ∀ p ∈ f, B1 p = none ∧ H1 p = H p) : SlotOk B1 H1 s x f := by
  cases s with
  | fz d =>
    obtain ⟨v, e, r⟩ := h
    exact ⟨v, e, r.mono st.b⟩
  | own r =>
    obtain ⟨v, e, r, n⟩ := h
    exact ⟨v, e, r.frame st.b fun p hp => ⟨(k p hp).2, (k p hp).1⟩, n⟩
  | dc o kvs =>
    obtain ⟨p, ks, e, h1, h2, h3⟩ := h
    exact ⟨p, ks, e, st.h p _ h1, h2.mono st.b, h3⟩
  | xc a x => exact h
  | pin p ds =>
    obtain ⟨e, rfl, h1, xs, h2, h3⟩ := h
    exact ⟨e, rfl, (k p List.mem_cons_self).1, xs, st.h p _ h2, h3.mono st.b⟩
  | mp p c =>
    obtain ⟨e, rfl, h1, h2⟩ := h
    exact ⟨e, rfl, (k p List.mem_cons_self).1, h2.step st.b (k p List.mem_cons_self).2⟩
section
variable {H0 B H B1 H1 : Hp} {Γ : Env} {σ : L2.St}
theorem SkF.step {F : Nat → List Addr} (h : SkF H0 B Γ σ H F) (st : Sp' B H B1 H1) : SkF H0 B1 Γ σ H1 F := by
  have k : ∀ i, ∀ p ∈ F i, B1 p = none ∧ H1 p = H p := fun i p hp => by
    obtain ⟨h1, h2, o, h3, h4⟩ := h.at' i p hp
    exact ⟨st.own p o h3 h4 h2, by rw [h3]; exact st.h p o h3⟩
  refine ⟨h.dis, fun i p hp => ?_, fun i s e => (h.ok i s e).step st (k i)⟩
  obtain ⟨h1, h2, o, h3, h4⟩ := h.at' i p hp
  exact ⟨h1, (k i p hp).1, o, st.h p o h3, h4⟩
theorem Sk.step (h : Sk H0 B Γ σ H) (st : Sp' B H B1 H1) : Sk H0 B1 Γ σ H1 := by
  obtain ⟨F, f⟩ := h.sl
  exact ⟨h.len, ex_trans h.e0 st.h, st.bh, F, f.step st⟩
theorem get_set_ne {α : Type} {l : List α} {i j : Nat} {x : α} (h : i ≠ j) : (l.set i x)[j]? = l[j]? := List.getElem?_set_ne h
/-- a slot is told anew, by something that has no objects of its own -/
theorem Sk.put0 (h : Sk H0 B Γ σ H) (i : Nat) (s : Option Sl) (x : Option V) (k : ∀ s', s = some s' → SlotOk B H s' (some x) []) : Sk H0 B (Γ.set i s) (σ.set i x) H := by
  obtain ⟨F, f⟩ := h.sl
  refine ⟨by rw [List.length_set, List.length_set]; exact h.len, h.e0, h.ex, fun j => if j = i then [] else F j, ⟨fun a b hab p hp => ?_, fun a p hp => ?_, fun j s' e => ?_⟩⟩
  · by_cases ha : a = i
    · simp only [ha, if_true] at hp
      cases hp
    · simp only [ha, if_false] at hp
      by_cases hb : b = i
      · simp only [hb, if_true]
        exact fun z => nomatch z
      · simp only [hb, if_false]
        exact f.dis a b hab p hp
  · by_cases ha : a = i
    · simp only [ha, if_true] at hp
      cases hp
    · simp only [ha, if_false] at hp
      exact f.at' a p hp
  · by_cases hj : j = i
    · subst hj
      have hl : j < Γ.length := by
        have := (List.getElem?_eq_some_iff.mp e).1
        rw [List.length_set] at this
        exact this
      rw [List.getElem?_set_self hl] at e
      rw [List.getElem?_set_self (by rw [← h.len]; exact hl)]
      simp only [if_true]
      exact k s' (Option.some.inj e)
    · rw [get_set_ne (Ne.symm hj)] at e ⊢
      simp only [hj, if_false]
      exact f.ok j s' e
theorem Sk.put_fz (h : Sk H0 B Γ σ H) (i : Nat) {v : V} {d : D} (r : Rp B v d) : Sk H0 B (Γ.set i (some (.fz d))) (σ.set i (some v)) H :=
  h.put0 i _ _ fun s' e => by cases e; exact ⟨v, rfl, r⟩
theorem Sk.put_xc (h : Sk H0 B Γ σ H) (i : Nat) (a : Addr) (x : Nat) : Sk H0 B (Γ.set i (some (.xc a x))) (σ.set i (some (.ref a))) H :=
  h.put0 i _ _ fun s' e => by cases e; rfl
theorem Sk.put_no (h : Sk H0 B Γ σ H) (i : Nat) (x : Option V) : Sk H0 B (Γ.set i none) (σ.set i x) H :=
  h.put0 i _ _ fun s' e => nomatch e
/-- forgetting a slot -/
theorem Sk.forget (h : Sk H0 B Γ σ H) (i : Nat) : Sk H0 B (Γ.set i none) σ H := by
  obtain ⟨F, f⟩ := h.sl
  refine ⟨by rw [List.length_set]; exact h.len, h.e0, h.ex, F, f.dis, f.at', fun j s e => ?_⟩
  by_cases hj : i = j
  · subst hj
    have hl : i < Γ.length := by
      have := (List.getElem?_eq_some_iff.mp e).1
      rw [List.length_set] at this
      exact this
    rw [List.getElem?_set_self hl] at e
    cases e
  · rw [get_set_ne hj] at e
    exact f.ok j s e
def wipeE (Γ : Env) : List Nat → Env
  | [] => Γ
  | i :: r => (wipeE Γ r).set i none
theorem Sk.wipe (h : Sk H0 B Γ σ H) : ∀ ws : List Nat, Sk H0 B (wipeE Γ ws) σ H
  | [] => h
  | i :: r => (Sk.wipe h r).forget i
/-- a slot is told anew, by something new of one's own -/
theorem Sk.putF (h : Sk H0 B Γ σ H) (st : Sp' B H B1 H1) (i : Nat) {s : Sl} {v : V} {f : List Addr} (k : SlotOk B1 H1 s (some (some v)) f) (kn : ∀ p ∈ f, H p = none) (ka : ∀ p ∈ f, B1 p = none ∧ ∃ o, H1 p = some o ∧ NoTup o) :
    Sk H0 B1 (Γ.set i (some s)) (σ.set i (some v)) H1 := by
  obtain ⟨F, g⟩ := h.sl
  have g1 := g.step st
  have apart : ∀ j, ∀ p ∈ F j, p ∉ f := fun j p hp hf => by
    obtain ⟨_, _, o, h3, _⟩ := g.at' j p hp
    rw [kn p hf] at h3
    cases h3
  refine ⟨by rw [List.length_set, List.length_set]; exact h.len, ex_trans h.e0 st.h, st.bh, fun j => if j = i then f else F j, ⟨fun a b hab p hp => ?_, fun a p hp => ?_, fun j s' e => ?_⟩⟩
  · by_cases ha : a = i
    · simp only [ha, if_true] at hp
      by_cases hb : b = i
      · exact absurd (ha.trans hb.symm) hab
      · simp only [hb, if_false]
        exact fun z => apart b p z hp
    · simp only [ha, if_false] at hp
      by_cases hb : b = i
      · simp only [hb, if_true]
        exact apart a p hp
      · simp only [hb, if_false]
        exact g.dis a b hab p hp
  · by_cases ha : a = i
    · simp only [ha, if_true] at hp
      exact ⟨ex_back h.e0 (kn p hp), (ka p hp).1, (ka p hp).2⟩
    · simp only [ha, if_false] at hp
      exact g1.at' a p hp
  · by_cases hj : j = i
    · subst hj
      have hl : j < Γ.length := by
        have := (List.getElem?_eq_some_iff.mp e).1
        rw [List.length_set] at this
        exact this
      rw [List.getElem?_set_self hl] at e
      rw [List.getElem?_set_self (by rw [← h.len]; exact hl)]
      simp only [if_true]
      cases e
      exact k
    · rw [get_set_ne (Ne.symm hj)] at e ⊢
      simp only [hj, if_false]
      exact g1.ok j s' e
theorem Sk.put_own (h : Sk H0 B Γ σ H) (st : Sp' B H B1 H1) (i : Nat) {v : V} {r : R} {f : List Addr} (o : Or B1 H1 v r f) (n : f.Nodup) (kn : ∀ p ∈ f, H p = none) : Sk H0 B1 (Γ.set i (some (.own r))) (σ.set i (some v)) H1 :=
  h.putF st i (s := .own r) ⟨v, rfl, o, n⟩ kn o.at
theorem Sk.put_dc (h : Sk H0 B Γ σ H) (i : Nat) {p : Addr} (hp : H p = none) : Sk H0 B (Γ.set i (some (.dc true []))) (σ.set i (some (.ref p))) (upd H p (.dK [])) :=
  h.putF (.new h.ex hp) i (s := .dc true []) (f := [p]) ⟨p, [], rfl, upd_same, .nil, fun _ => rfl⟩ (fun q hq => by cases List.mem_singleton.mp hq; exact hp) fun q hq => by
    cases List.mem_singleton.mp hq
    exact ⟨ex_back h.ex hp, _, upd_same, dK_noTup _⟩
/-- no slot is a view upon a dict -/
def NV (Γ : Env) : Prop := ∀ (j : Nat) (kvs : List (Int × D)), Γ[j]? ≠ some (some (.dc false kvs))
theorem NV.set {s : Option Sl} (h : NV Γ) (i : Nat) (k : ∀ kvs, s ≠ some (.dc false kvs)) : NV (Γ.set i s) := fun j kvs e => by
  by_cases hj : i = j
  · subst hj
    have hl : i < Γ.length := by
      have := (List.getElem?_eq_some_iff.mp e).1
      rw [List.length_set] at this
      exact this
    rw [List.getElem?_set_self hl] at e
    exact k kvs (Option.some.inj e)
  · rw [get_set_ne hj] at e
    exact h j kvs e
theorem NV.wipe (h : NV Γ) : ∀ ws : List Nat, NV (wipeE Γ ws)
  | [] => h
  | i :: r => (NV.wipe h r).set i fun _ z => nomatch z
/-- a slot's own thing is changed at p -/
theorem Sk.change (h : Sk H0 B Γ σ H) (nv : NV Γ) {i : Nat} {s : Sl} (e : Γ[i]? = some (some s)) : ∃ f, SlotOk B H s (σ[i]?) f ∧ (∀ p ∈ f, H0 p = none ∧ B p = none ∧ ∃ o, H p = some o ∧ NoTup o) ∧
    ∀ p o s' f', p ∈ f → NoTup o → SlotOk B (upd H p o) s' (σ[i]?) f' → (∀ q ∈ f', q ∈ f) → Sk H0 B (Γ.set i (some s')) σ (upd H p o) := by
  obtain ⟨F, g⟩ := h.sl
  refine ⟨F i, g.ok i s e, g.at' i, fun p o s' f' hp no k sub => ?_⟩
  obtain ⟨p1, p2, _⟩ := g.at' i p hp
  have exu : ∀ {G : Hp}, G p = none → Ex G H → Ex G (upd H p o) := fun {G} hn he a u ha => by
    rw [upd_ne (ne_of_none ha hn)]
    exact he a u ha
  have hl : i < Γ.length := (List.getElem?_eq_some_iff.mp e).1
  refine ⟨by rw [List.length_set]; exact h.len, exu p1 h.e0, exu p2 h.ex, fun j => if j = i then f' else F j, ⟨fun a b hab q hq => ?_, fun a q hq => ?_, fun j t ej => ?_⟩⟩
  · by_cases ha : a = i
    · simp only [ha, if_true] at hq
      by_cases hb : b = i
      · exact absurd (ha.trans hb.symm) hab
      · simp only [hb, if_false]
        exact g.dis i b (Ne.symm hb) q (sub q hq)
    · simp only [ha, if_false] at hq
      by_cases hb : b = i
      · simp only [hb, if_true]
        exact fun z => g.dis a i ha q hq (sub q z)
      · simp only [hb, if_false]
        exact g.dis a b hab q hq
  · have there : ∀ c, ∀ q ∈ F c, H0 q = none ∧ B q = none ∧ ∃ u, upd H p o q = some u ∧ NoTup u := fun c q hq => by
      obtain ⟨q1, q2, u, q3, q4⟩ := g.at' c q hq
      refine ⟨q1, q2, ?_⟩
      by_cases z : q = p
      · subst z
        exact ⟨o, upd_same, no⟩
      · exact ⟨u, by rw [upd_ne z]; exact q3, q4⟩
    by_cases ha : a = i
    · simp only [ha, if_true] at hq
      exact there i q (sub q hq)
    · simp only [ha, if_false] at hq
      exact there a q hq
  · by_cases hj : j = i
    · subst hj
      rw [List.getElem?_set_self hl] at ej
      cases ej
      simp only [if_true]
      exact k
    · rw [get_set_ne (Ne.symm hj)] at ej
      simp only [hj, if_false]
      have q := g.ok j t ej
      have np : p ∉ F j := g.dis i j (Ne.symm hj) p hp
      cases t with
      | fz d => exact q
      | own r =>
        obtain ⟨v, e1, r1, n1⟩ := q
        exact ⟨v, e1, r1.frame (ex_refl _) fun a ha => ⟨upd_ne fun z => np (z ▸ ha), (r1.at a ha).1⟩, n1⟩
      | dc ow kvs =>
        obtain ⟨d, ks, e1, h1, h2, h3⟩ := q
        cases ow with
        | false => exact absurd ej (nv j kvs)
        | true =>
          have np' : d ≠ p := fun z => np (by rw [h3 rfl, z]; exact List.mem_cons_self)
          exact ⟨d, ks, e1, by rw [upd_ne np']; exact h1, h2, h3⟩
      | xc a x => exact q
      | pin d ds =>
        obtain ⟨e1, ef, h1, xs, h2, h3⟩ := q
        exact ⟨e1, ef, h1, xs, by rw [upd_ne fun z => np (by rw [ef, z]; exact List.mem_cons_self)]; exact h2, h3⟩
      | mp d c =>
        obtain ⟨e1, ef, h1, h2⟩ := q
        exact ⟨e1, ef, h1, h2.step (ex_refl _) (upd_ne fun z => np (by rw [ef, z]; exact List.mem_cons_self))⟩

/-! ### the two ways of looking at the slots -/
def vw1 : Sl → Option Sl
  | .fz d => some (.fz d)
  | .own r => some (.fz r.toD)
  | .dc _ kvs => some (.dc false kvs)
  | .xc a x => some (.xc a x)
  | .pin _ ds => some (.fz (.list ds))
  | .mp _ (.l ds) => some (.fz (.list ds))
  | .mp _ (.d kvs) => some (.dc false kvs)
def st1 : Sl → Option Sl
  | .fz d => some (.fz d)
  | .own _ => none
  | .dc _ kvs => some (.dc false kvs)
  | .xc a x => some (.xc a x)
  | .pin _ _ => none
  | .mp _ (.l _) => none
  | .mp _ (.d kvs) => some (.dc false kvs)
def view (Γ : Env) : Env := Γ.map fun s => s.bind vw1
def stab (Γ : Env) : Env := Γ.map fun s => s.bind st1
/-- the slots as an expression sees them: nothing of one's own -/
structure Se (B : Hp) (Γ : Env) (σ : L2.St) (H : Hp) : Prop where
  len : Γ.length = σ.length
  ex : Ex B H
  ok : ∀ (i : Nat) (s : Sl), Γ[i]? = some (some s) → SlotOk B H s (σ[i]?) []
theorem Se.step (h : Se B Γ σ H) (st : Sp' B H B1 H1) : Se B1 Γ σ H1 := ⟨h.len, st.bh, fun i s e => (h.ok i s e).step st fun p hp => (by cases hp)⟩
theorem Se.put (h : Se B Γ σ H) (i : Nat) (s : Option Sl) (x : Option V) (k : ∀ s', s = some s' → SlotOk B H s' (some x) []) : Se B (Γ.set i s) (σ.set i x) H := by
  refine ⟨by rw [List.length_set, List.length_set]; exact h.len, h.ex, fun j s' e => ?_⟩
  by_cases hj : j = i
  · subst hj
    have hl : j < Γ.length := by
      have := (List.getElem?_eq_some_iff.mp e).1
      rw [List.length_set] at this
      exact this
    rw [List.getElem?_set_self hl] at e
    rw [List.getElem?_set_self (by rw [← h.len]; exact hl)]
    exact k s' (Option.some.inj e)
  · rw [get_set_ne (Ne.symm hj)] at e ⊢
    exact h.ok j s' e
theorem Se.wipe (h : Se B Γ σ H) : ∀ ws : List Nat, Se B (wipeE Γ ws) (L2.wipe σ ws) H
  | [] => h
  | i :: r => (Se.wipe h r).put i none none fun _ z => nomatch z
/-- another list is changed -/
theorem Se.other (h : Se B Γ σ H) {p : Addr} {xs : List V} {o : HO} (hp : H p = some (.lst xs)) (hb : B p = none) : Se B Γ σ (upd H p o) := by
  refine ⟨h.len, fun a u e => ?_, fun i s e => ?_⟩
  · rw [upd_ne (ne_of_none e hb)]
    exact h.ex a u e
  · have q := h.ok i s e
    cases s with
    | fz d => exact q
    | own r =>
      obtain ⟨v, e1, r1, n1⟩ := q
      exact ⟨v, e1, r1.frame (ex_refl _) fun a ha => (by cases ha), n1⟩
    | dc o kvs =>
      obtain ⟨d, ks, e1, h1, h2, h3⟩ := q
      refine ⟨d, ks, e1, ?_, h2, h3⟩
      rw [upd_ne fun z => by rw [z, hp] at h1; cases h1]
      exact h1
    | xc a x => exact q
    | pin d ds =>
      obtain ⟨e1, ef, _⟩ := q
      cases ef
    | mp d c =>
      obtain ⟨e1, ef, _⟩ := q
      cases ef
theorem Sk.view (h : Sk H0 B Γ σ H) : Se H (TD.view Γ) σ H := by
  obtain ⟨F, g⟩ := h.sl
  refine ⟨by unfold TD.view; rw [List.length_map]; exact h.len, ex_refl _, fun i s e => ?_⟩
  unfold TD.view at e
  rw [List.getElem?_map] at e
  cases q : Γ[i]? with
  | none => rw [q] at e; cases e
  | some o =>
    rw [q] at e
    cases o with
    | none => cases e
    | some t =>
      have k := g.ok i t q
      cases t with
      | fz d =>
        cases e
        obtain ⟨v, e1, r⟩ := k
        exact ⟨v, e1, r.mono h.ex⟩
      | own r =>
        cases e
        obtain ⟨v, e1, o, _⟩ := k
        exact ⟨v, e1, o.rp h.ex⟩
      | dc o kvs =>
        cases e
        obtain ⟨p, ks, e1, h1, h2, _⟩ := k
        exact ⟨p, ks, e1, h1, h2.mono h.ex, fun z => nomatch z⟩
      | xc a x =>
        cases e
        exact k
      | pin p ds =>
        cases e
        obtain ⟨e1, _, _, xs, h2, h3⟩ := k
        exact ⟨_, e1, .lst (.inl h2) (h3.mono h.ex)⟩
      | mp p c =>
        cases c with
        | l ds =>
          cases e
          obtain ⟨e1, _, _, xs, h2, h3⟩ := k
          exact ⟨_, e1, .lst (.inl h2) (h3.mono h.ex)⟩
        | d kvs =>
          cases e
          obtain ⟨e1, _, _, ks, h2, h3⟩ := k
          exact ⟨p, ks, e1, h2, h3.mono h.ex, fun z => nomatch z⟩
theorem Sk.stab (h : Sk H0 B Γ σ H) : Se B (TD.stab Γ) σ H := by
  obtain ⟨F, g⟩ := h.sl
  refine ⟨by unfold TD.stab; rw [List.length_map]; exact h.len, h.ex, fun i s e => ?_⟩
  unfold TD.stab at e
  rw [List.getElem?_map] at e
  cases q : Γ[i]? with
  | none => rw [q] at e; cases e
  | some o =>
    rw [q] at e
    cases o with
    | none => cases e
    | some t =>
      have k := g.ok i t q
      cases t with
      | fz d =>
        cases e
        exact k
      | own r => cases e
      | dc o kvs =>
        cases e
        obtain ⟨p, ks, e1, h1, h2, _⟩ := k
        exact ⟨p, ks, e1, h1, h2, fun z => nomatch z⟩
      | xc a x =>
        cases e
        exact k
      | pin p ds => cases e
      | mp p c =>
        cases c with
        | l ds => cases e
        | d kvs =>
          cases e
          obtain ⟨e1, _, _, ks, h2, h3⟩ := k
          exact ⟨p, ks, e1, h2, h3, fun z => nomatch z⟩
end
end TD

/-! TD3: expressions as data, and what they are worth. -/
namespace TD
open PySem PySem.Spec PyProof.Rows L2

inductive BO where | add | sub | mul | div | mod
inductive CO where | lt | le | gt | ge
inductive IT where | int | bool | list | tuple
mutual
inductive GE where
  | var (i : Nat) | cst (d : D)
  | bin (o : BO) (a b : GE) | neg (a : GE) | cmp (o : CO) (a b : GE) | eq (n : Bool) (a b : GE) | isn (n : Bool) (a : GE)
  | inl (n : Bool) (a b : GE) | ind (n : Bool) (a : GE) (i : Nat) | dix (i : Nat) (a : GE)
  | and (a b : GE) | or (a b : GE) | not (a : GE) | ite (c a b : GE) | ix (a b : GE) | tup (es : GEs) | call (j : Nat) (es : GEs)
  | len (a : GE) | sum (a : GE) | abs (a : GE) | mn (a b : GE) | mx (a b : GE) | int (a : GE) | cnt (a b : GE) | cntB (a b : GE) | isi (t : IT) (a : GE) | ise (i y : Nat) | ises (i : Nat) (ys : List Nat)
  | f (g : GF)
inductive GF where
  | lst (es : GEs) | slTo (a hi : GE) | slFrom (a lo : GE) | slBoth (a lo hi : GE) | cat (a b : GE) | rep (a n : GE) | lof (a : GE) | srt (a : GE)
  | lc (ts : List Nat) (gi : GI) (e : GE) | lcf (ts : List Nat) (gi : GI) (c e : GE)
inductive GI where
  | il (e : GE) | i1 (a : GE) | i2 (a b : GE) | idn (a : GE) | iz (a b : GE) | ie (a : GE)
inductive GEs where
  | nil | cons (e : GE) (es : GEs)
end

/-! ### answers -/
inductive Rs (α : Type) where | ok (a : α) | err (x : Nat) | bad
def Rs.bind {α β : Type} : Rs α → (α → Rs β) → Rs β
  | .ok a, f => f a
  | .err x, _ => .err x
  | .bad, _ => .bad
def Rs.map {α β : Type} (f : α → β) : Rs α → Rs β
  | .ok a => .ok (f a)
  | .err x => .err x
  | .bad => .bad
def Rs.of {α : Type} : Option α → Rs α
  | some a => .ok a
  | none => .bad
inductive Out where | ret (r : R) | old (d : D) | exc (x : Nat) | mu (p : Addr) (c : Cn) (x : D)
structure Tb where
  fs : List (List D → Option Out)
  ca : Nat → Addr
  xs : List Nat := []
  xe : Option (Addr × Nat) := none

/-! ### operations on data -/
@[irreducible] def mulOk (i j : Int) : Bool := decide (j.natAbs < 18446744073709551616) || decide (i.natAbs < 18446744073709551616)
def bop : BO → Int → Int → Rs D
  | .add, i, j => .ok (.int (i + j))
  | .sub, i, j => .ok (.int (i - j))
  | .mul, i, j => if mulOk i j then .ok (.int (i * j)) else .bad
  | .div, i, j => if decide (0 < j) && decide (j.toNat < 1073741824) then .ok (.int (i / j)) else .bad
  | .mod, i, j => if decide (0 < j) then .ok (.int (i % j)) else .bad
def cop : CO → Int → Int → Bool
  | .lt, i, j => decide (i < j)
  | .le, i, j => decide (i ≤ j)
  | .gt, i, j => decide (j < i)
  | .ge, i, j => decide (j ≤ i)
def binD (o : BO) : D → D → Rs D
  | .int i, .int j => bop o i j
  | _, _ => .bad
def cmpD (o : CO) : D → D → Rs D
  | .int i, .int j => .ok (.bool (cop o i j))
  | _, _ => .bad
def eqF : D → D → Option Bool
  | .int i, .int j => some (decide (i = j))
  | .bool i, .bool j => some (decide (i = j))
  | .str i, .str j => some (decide (i = j))
  | .none, .none => some true
  | .none, .int _ => some false
  | .int _, .none => some false
  | .int _, .str _ => some false
  | .str _, .int _ => some false
  | _, _ => none
def eqD (n : Bool) (x y : D) : Rs D :=
  match eqF x y with
  | some b => .ok (.bool (n ^^ b))
  | none => if SeqAt.shaped x && SeqAt.shaped y then .ok (.bool (n ^^ PyData.eqv x y)) else .bad
def isnD (n : Bool) : D → Rs D
  | .none => .ok (.bool (n ^^ true))
  | _ => .ok (.bool (n ^^ false))
def notD : D → Rs D
  | .bool b => .ok (.bool (!b))
  | _ => .bad
def negD : D → Rs D
  | .int i => .ok (.int (-i))
  | _ => .bad
def absD : D → Rs D
  | .int i => .ok (.int (if i < 0 then -i else i))
  | _ => .bad
def mnD : D → D → Rs D
  | .int i, .int j => .ok (.int (if j < i then j else i))
  | _, _ => .bad
def mxD : D → D → Rs D
  | .int i, .int j => .ok (.int (if j > i then j else i))
  | _, _ => .bad
def intD : D → Rs D
  | .int i => .ok (.int i)
  | .bool b => .ok (.int (if b then 1 else 0))
  | _ => .bad
def seqD : D → Option (List D)
  | .list ds => some ds
  | .tuple ds => some ds
  | _ => none
def lenD (d : D) : Rs D := match seqD d with
  | some ds => .ok (.int ds.length)
  | none => .bad
def ixD : D → D → Rs D
  | .list ds, .int i => if decide (0 ≤ i) then Rs.of ds[i.toNat]? else .bad
  | .tuple ds, .int i => if decide (0 ≤ i) then Rs.of ds[i.toNat]? else .bad
  | _, _ => .bad
def decI : List D → Option (List Int)
  | [] => some []
  | .int i :: r => (decI r).map (i :: ·)
  | _ :: _ => none
def eP (p : Int × Int) : D := .tuple [.int p.1, .int p.2]
def decP : List D → Option (List (Int × Int))
  | [] => some []
  | .tuple [.int i, .int j] :: r => (decP r).map ((i, j) :: ·)
  | _ :: _ => none
def sumD : D → Rs D
  | .list ds => match decI ds with
    | some ns => .ok (.int ns.sum)
    | none => .bad
  | _ => .bad
def inlD (n : Bool) : D → D → Rs D
  | .int x, .list ds => match decI ds with
    | some ns => .ok (.bool (n ^^ decide (x ∈ ns)))
    | none => .bad
  | _, _ => .bad
def cntD : D → D → Rs D
  | .list ds, .int x => match decI ds with
    | some ns => .ok (.int (ns.count x))
    | none => .bad
  | _, _ => .bad
def decB : List D → Option (List Bool)
  | [] => some []
  | .bool i :: r => (decB r).map (i :: ·)
  | _ :: _ => none
def cntBD : D → D → Rs D
  | .list ds, .bool x => match decB ds with
    | some ns => .ok (.int (ns.count x))
    | none => .bad
  | _, _ => .bad
def isiD (t : IT) : D → Bool
  | .int _ => (match t with | .int => true | _ => false)
  | .bool _ => (match t with | .int => true | .bool => true | _ => false)
  | .list _ => (match t with | .list => true | _ => false)
  | .tuple _ => (match t with | .tuple => true | _ => false)
  | _ => false
/-- class x below class y: 0 TillError, 11 ValueError -/
def subX (x y : Nat) : Bool := x == y || y == 0 || y == 11
def pLe (a b : Int × Int) : Bool := decide (a.1 < b.1) || (decide (a.1 = b.1) && decide (a.2 ≤ b.2))
def pIns (a : Int × Int) : List (Int × Int) → List (Int × Int)
  | [] => [a]
  | b :: r => if pLe a b then a :: b :: r else b :: pIns a r
def pSort : List (Int × Int) → List (Int × Int)
  | [] => []
  | a :: r => pIns a (pSort r)
def dget (kvs : List (Int × D)) (k : Int) : Option D := (kvs.find? fun kv => decide (kv.1 = k)).map (·.2)
def dput (kvs : List (Int × D)) (k : Int) (v : D) : List (Int × D) :=
  if kvs.any (fun kv => decide (kv.1 = k)) then kvs.map fun kv => if kv.1 = k then (kv.1, v) else kv else kvs ++ [(k, v)]
def ddrop (kvs : List (Int × D)) (k : Int) : List (Int × D) := kvs.filter fun kv => decide (kv.1 ≠ k)
def cutD (ds : List D) (lo hi : Int) : List D := (ds.take hi.toNat).drop lo.toNat
def lcM {α : Type} (f : α → Rs (Option D)) : List α → Rs (List D)
  | [] => .ok []
  | a :: r => match f a with
    | .ok (some d) => (lcM f r).map fun l => d :: l
    | .ok none => lcM f r
    | _ => .bad
def setTs (Γ : Env) : List Nat → List D → Env
  | t :: ts, d :: ds => setTs (Γ.set t (some (.fz d))) ts ds
  | _, _ => Γ
def rngL (lo hi : Int) : List (List D) := (List.range (hi - lo).toNat).map fun i => [PyData.int (lo + (i : Nat))]
def dnL (hi : Int) : List (List D) := (List.range hi.toNat).map fun i => [PyData.int (hi - (i : Nat))]
def zipL (xs ys : List D) : List (List D) := (xs.zip ys).map fun p => [p.1, p.2]
def enumL (k : Nat) : List D → List (List D)
  | [] => []
  | d :: r => [.int k, d] :: enumL (k + 1) r
@[irreducible] def rngOk (i : Int) : Bool := decide (i.natAbs < 4611686018427387904)
def callD (T : Tb) (j : Nat) (ds : List D) : Rs D :=
  match T.fs[j]? with
  | some φ => (match φ ds with
    | some (.ret r) => .ok r.toD
    | some (.old d) => .ok d
    | some (.exc x) => .err x
    | some (.mu _ _ _) => .bad
    | none => .bad)
  | none => .bad
@[irreducible] def sizeOk (n : Nat) : Bool := decide (n ≤ 16777216)
def dslot (Γ : Env) (i : Nat) : Rs (List (Int × D)) := match Γ[i]? with
  | some (some (.dc _ kvs)) => .ok kvs
  | _ => .bad
def xslot (T : Tb) (Γ : Env) (i : Nat) : Rs Nat := match Γ[i]?, T.xe with
  | some (some (.xc a x)), some (a', x') => if a = a' ∧ x = x' then .ok x else .bad
  | _, _ => .bad

@[irreducible] def repOk (k : Int) : Bool := decide (0 ≤ k) && sizeOk k.toNat
mutual
def ev (T : Tb) (Γ : Env) : GE → Rs D
  | .var i => match Γ[i]? with
    | some (some (.fz d)) => .ok d
    | _ => .bad
  | .cst d => .ok d
  | .bin o a b => (ev T Γ a).bind fun x => (ev T Γ b).bind fun y => binD o x y
  | .neg a => (ev T Γ a).bind negD
  | .cmp o a b => (ev T Γ a).bind fun x => (ev T Γ b).bind fun y => cmpD o x y
  | .eq n a b => (ev T Γ a).bind fun x => (ev T Γ b).bind fun y => eqD n x y
  | .isn n a => (ev T Γ a).bind (isnD n)
  | .inl n a b => (ev T Γ a).bind fun x => (ev T Γ b).bind fun y => inlD n x y
  | .ind n a i => (ev T Γ a).bind fun x => (dslot Γ i).bind fun kvs => match x with
    | .int k => .ok (.bool (n ^^ (dget kvs k).isSome))
    | _ => .bad
  | .dix i a => (dslot Γ i).bind fun kvs => (ev T Γ a).bind fun x => match x with
    | .int k => Rs.of (dget kvs k)
    | _ => .bad
  | .and a b => (ev T Γ a).bind fun x => match x with
    | .bool true => (ev T Γ b).bind fun y => match y with
      | .bool c => .ok (.bool c)
      | _ => .bad
    | .bool false => .ok (.bool false)
    | _ => .bad
  | .or a b => (ev T Γ a).bind fun x => match x with
    | .bool false => (ev T Γ b).bind fun y => match y with
      | .bool c => .ok (.bool c)
      | _ => .bad
    | .bool true => .ok (.bool true)
    | _ => .bad
  | .not a => (ev T Γ a).bind notD
  | .ite c a b => (ev T Γ c).bind fun x => match x with
    | .bool true => ev T Γ a
    | .bool false => ev T Γ b
    | _ => .bad
  | .ix a b => (ev T Γ a).bind fun x => (ev T Γ b).bind fun y => ixD x y
  | .tup es => (evs T Γ es).bind fun ds => if sizeOk ds.length then .ok (.tuple ds) else .bad
  | .call j es => (evs T Γ es).bind (callD T j)
  | .len a => (ev T Γ a).bind lenD
  | .sum a => (ev T Γ a).bind sumD
  | .abs a => (ev T Γ a).bind absD
  | .mn a b => (ev T Γ a).bind fun x => (ev T Γ b).bind fun y => mnD x y
  | .mx a b => (ev T Γ a).bind fun x => (ev T Γ b).bind fun y => mxD x y
  | .int a => (ev T Γ a).bind intD
  | .cnt a b => (ev T Γ a).bind fun x => match x with
    | .list ds => (ev T Γ b).bind fun y => cntD (.list ds) y
    | _ => .bad
  | .cntB a b => (ev T Γ a).bind fun x => match x with
    | .list ds => (ev T Γ b).bind fun y => cntBD (.list ds) y
    | _ => .bad
  | .isi t a => (ev T Γ a).bind fun x => .ok (.bool (isiD t x))
  | .ise i y => (xslot T Γ i).bind fun x => .ok (.bool (subX x y))
  | .ises i ys => (xslot T Γ i).bind fun x => .ok (.bool (ys.any (subX x)))
  | .f g => (evF T Γ g).map PyData.list
def evF (T : Tb) (Γ : Env) : GF → Rs (List D)
  | .lst es => (evs T Γ es).bind fun ds => if sizeOk ds.length then .ok ds else .bad
  | .slTo a hi => (ev T Γ a).bind fun x => (ev T Γ hi).bind fun y => match x, y with
    | .list ds, .int j => if decide (0 ≤ j) then .ok (ds.take j.toNat) else .bad
    | _, _ => .bad
  | .slFrom a lo => (ev T Γ a).bind fun x => (ev T Γ lo).bind fun y => match x, y with
    | .list ds, .int j => if decide (0 ≤ j) then .ok (ds.drop j.toNat) else .bad
    | _, _ => .bad
  | .slBoth a lo hi => (ev T Γ a).bind fun x => (ev T Γ lo).bind fun y => match y with
    | .int i => (ev T Γ hi).bind fun z => match x, z with
      | .list ds, .int j => if decide (0 ≤ i) && decide (i ≤ j) then .ok ((ds.drop i.toNat).take (j - i).toNat) else .bad
      | _, _ => .bad
    | _ => .bad
  | .cat a b => (ev T Γ a).bind fun x => (ev T Γ b).bind fun y => match x, y with
    | .list ds, .list es => if sizeOk (ds.length + es.length) then .ok (ds ++ es) else .bad
    | _, _ => .bad
  | .rep a n => (ev T Γ a).bind fun x => (ev T Γ n).bind fun y => match y with
    | .int k => if repOk k then .ok (List.replicate k.toNat x) else .bad
    | _ => .bad
  | .lof a => (ev T Γ a).bind fun x => match seqD x with
    | some ds => .ok ds
    | none => .bad
  | .srt a => (ev T Γ a).bind fun x => match x with
    | .list ds => (match decP ds with
      | some ps => .ok ((pSort ps).map eP)
      | none => .bad)
    | _ => .bad
  | .lc ts gi e => (evI T Γ gi).bind fun items => if sizeOk items.length then lcM (fun it => (ev T (setTs (wipeE Γ ts) ts it) e).map some) items else .bad
  | .lcf ts gi c e => (evI T Γ gi).bind fun items => if sizeOk items.length then lcM (fun it => (ev T (setTs (wipeE Γ ts) ts it) c).bind fun b => match b with
    | .bool true => (ev T (setTs (wipeE Γ ts) ts it) e).map some
    | .bool false => .ok none
    | _ => .bad) items else .bad
def evI (T : Tb) (Γ : Env) : GI → Rs (List (List D))
  | .il e => (ev T Γ e).bind fun x => match x with
    | .list ds => .ok (ds.map fun d => [d])
    | _ => .bad
  | .i1 a => (ev T Γ a).bind fun x => match x with
    | .int n => if rngOk n then .ok (rngL 0 n) else .bad
    | _ => .bad
  | .i2 a b => (ev T Γ a).bind fun x => (ev T Γ b).bind fun y => match x, y with
    | .int lo, .int hi => if rngOk lo && rngOk hi then .ok (rngL lo hi) else .bad
    | _, _ => .bad
  | .idn a => (ev T Γ a).bind fun x => match x with
    | .int n => if rngOk n then .ok (dnL n) else .bad
    | _ => .bad
  | .iz a b => (ev T Γ a).bind fun x => (ev T Γ b).bind fun y => match x, y with
    | .list ds, .list es => .ok (zipL ds es)
    | _, _ => .bad
  | .ie a => (ev T Γ a).bind fun x => match x with
    | .list ds => .ok (enumL 0 ds)
    | _ => .bad
def evs (T : Tb) (Γ : Env) : GEs → Rs (List D)
  | .nil => .ok []
  | .cons e es => (ev T Γ e).bind fun d => (evs T Γ es).map fun ds => d :: ds
end

/-! ### what is wanted of an answer -/
section
variable (T : Tb) (W : WX) (σ : L2.St) (B H : Hp)
def PErr (x : Nat) : Prop := ∀ B1 H1, Sp' B H B1 H1 → W (.ref (T.ca x)) none σ H1
def Post : Rs D → VK → Prop
  | .ok d, Q => ∀ v B1 H1, Sp' B H B1 H1 → Rp B1 v d → Q v H1
  | .err x, _ => PErr T W σ B H x
  | .bad, _ => False
def PostF : Rs (List D) → VK → Prop
  | .ok ds, Q => ∀ p xs B1 H1, Sp' B H B1 H1 → H p = none → B1 p = none → H1 p = some (.lst xs) → RpA B1 xs ds → Q (.ref p) H1
  | .err x, _ => PErr T W σ B H x
  | .bad, _ => False
def PostA : Rs (List D) → (List V → Hp → Prop) → Prop
  | .ok ds, Q => ∀ vs B1 H1, Sp' B H B1 H1 → RpA B1 vs ds → Q vs H1
  | .err x, _ => PErr T W σ B H x
  | .bad, _ => False
def PostT : Rs D → (Bool → Hp → Prop) → Prop
  | .ok (.bool b), Q => ∀ B1 H1, Sp' B H B1 H1 → Q b H1
  | .ok _, _ => False
  | .err x, _ => PErr T W σ B H x
  | .bad, _ => False
end
section
variable (T : Tb) (W : WX)
def tG (g : GE) : TE := fun σ H Q => ∃ B Γ, Se B Γ σ H ∧ Post T W σ B H (ev T Γ g) Q
def tF (g : GF) : TE := fun σ H Q => ∃ B Γ, Se B Γ σ H ∧ PostF T W σ B H (evF T Γ g) Q
def tA (g : GEs) : TA := fun σ H Q => ∃ B Γ, Se B Γ σ H ∧ PostA T W σ B H (evs T Γ g) Q
def tT (g : GE) : TT := fun σ H Q => ∃ B Γ, Se B Γ σ H ∧ PostT T W σ B H (ev T Γ g) Q
end
section
variable {T : Tb} {W : WX} {σ : L2.St} {B H B1 H1 : Hp} {Γ : Env}
theorem PErr.step {x : Nat} (h : PErr T W σ B H x) (s : Sp' B H B1 H1) : PErr T W σ B1 H1 x := fun _ _ t => h _ _ (s.trans t)
theorem Post.step {r : Rs D} {Q : VK} (h : Post T W σ B H r Q) (s : Sp' B H B1 H1) : Post T W σ B1 H1 r Q := by
  cases r with
  | ok d => exact fun v B2 H2 t rp => h v B2 H2 (s.trans t) rp
  | err x => exact PErr.step h s
  | bad => exact h
theorem PostF.step {r : Rs (List D)} {Q : VK} (h : PostF T W σ B H r Q) (s : Sp' B H B1 H1) : PostF T W σ B1 H1 r Q := by
  cases r with
  | ok d => exact fun p xs B2 H2 t h1 h2 h3 h4 => h p xs B2 H2 (s.trans t) (ex_back s.h h1) h2 h3 h4
  | err x => exact PErr.step h s
  | bad => exact h
theorem PostA.step {r : Rs (List D)} {Q : List V → Hp → Prop} (h : PostA T W σ B H r Q) (s : Sp' B H B1 H1) : PostA T W σ B1 H1 r Q := by
  cases r with
  | ok d => exact fun v B2 H2 t rp => h v B2 H2 (s.trans t) rp
  | err x => exact PErr.step h s
  | bad => exact h
theorem PostT.step {r : Rs D} {Q : Bool → Hp → Prop} (h : PostT T W σ B H r Q) (s : Sp' B H B1 H1) : PostT T W σ B1 H1 r Q := by
  cases r with
  | ok d => cases d <;> first | exact fun B2 H2 t => h B2 H2 (s.trans t) | exact h
  | err x => exact PErr.step h s
  | bad => exact h
theorem tG_mono {g : GE} {Q Q' : VK} (h : tG T W g σ H Q) (k : ∀ v H1, Q v H1 → Q' v H1) : tG T W g σ H Q' := by
  obtain ⟨B, Γ, hs, p⟩ := h
  refine ⟨B, Γ, hs, ?_⟩
  cases e : ev T Γ g with
  | ok d => rw [e] at p; exact fun v B1 H1 s r => k _ _ (p v B1 H1 s r)
  | err x => rw [e] at p; exact p
  | bad => rw [e] at p; exact p
theorem g_bind {g : GE} {f : D → Rs D} {Q : VK} (hs : Se B Γ σ H) (p : Post T W σ B H ((ev T Γ g).bind f) Q) :
    tG T W g σ H fun v H1 => ∃ d B1, Sp' B H B1 H1 ∧ Se B1 Γ σ H1 ∧ Rp B1 v d ∧ Post T W σ B1 H1 (f d) Q := by
  refine ⟨B, Γ, hs, ?_⟩
  cases e : ev T Γ g with
  | ok d => rw [e] at p; exact fun v B1 H1 s r => ⟨d, B1, s, hs.step s, r, Post.step p s⟩
  | err x => rw [e] at p; exact p
  | bad => rw [e] at p; exact p
theorem g_bindF {g : GE} {f : D → Rs (List D)} {Q : VK} (hs : Se B Γ σ H) (p : PostF T W σ B H ((ev T Γ g).bind f) Q) :
    tG T W g σ H fun v H1 => ∃ d B1, Sp' B H B1 H1 ∧ Se B1 Γ σ H1 ∧ Rp B1 v d ∧ PostF T W σ B1 H1 (f d) Q := by
  refine ⟨B, Γ, hs, ?_⟩
  cases e : ev T Γ g with
  | ok d => rw [e] at p; exact fun v B1 H1 s r => ⟨d, B1, s, hs.step s, r, PostF.step p s⟩
  | err x => rw [e] at p; exact p
  | bad => rw [e] at p; exact p
theorem a_bind {g : GEs} {f : List D → Rs D} {Q : VK} (hs : Se B Γ σ H) (p : Post T W σ B H ((evs T Γ g).bind f) Q) :
    tA T W g σ H fun v H1 => ∃ d B1, Sp' B H B1 H1 ∧ Se B1 Γ σ H1 ∧ RpA B1 v d ∧ Post T W σ B1 H1 (f d) Q := by
  refine ⟨B, Γ, hs, ?_⟩
  cases e : evs T Γ g with
  | ok d => rw [e] at p; exact fun v B1 H1 s r => ⟨d, B1, s, hs.step s, r, Post.step p s⟩
  | err x => rw [e] at p; exact p
  | bad => rw [e] at p; exact p
theorem a_bindF {g : GEs} {f : List D → Rs (List D)} {Q : VK} (hs : Se B Γ σ H) (p : PostF T W σ B H ((evs T Γ g).bind f) Q) :
    tA T W g σ H fun v H1 => ∃ d B1, Sp' B H B1 H1 ∧ Se B1 Γ σ H1 ∧ RpA B1 v d ∧ PostF T W σ B1 H1 (f d) Q := by
  refine ⟨B, Γ, hs, ?_⟩
  cases e : evs T Γ g with
  | ok d => rw [e] at p; exact fun v B1 H1 s r => ⟨d, B1, s, hs.step s, r, PostF.step p s⟩
  | err x => rw [e] at p; exact p
  | bad => rw [e] at p; exact p
theorem tA_mono {g : GEs} {Q Q' : List V → Hp → Prop} (h : tA T W g σ H Q) (k : ∀ v H1, Q v H1 → Q' v H1) : tA T W g σ H Q' := by
  obtain ⟨B, Γ, hs, p⟩ := h
  refine ⟨B, Γ, hs, ?_⟩
  cases e : evs T Γ g with
  | ok d => rw [e] at p; exact fun v B1 H1 s r => k _ _ (p v B1 H1 s r)
  | err x => rw [e] at p; exact p
  | bad => rw [e] at p; exact p
theorem tT_mono {g : GE} {Q Q' : Bool → Hp → Prop} (h : tT T W g σ H Q) (k : ∀ v H1, Q v H1 → Q' v H1) : tT T W g σ H Q' := by
  obtain ⟨B, Γ, hs, p⟩ := h
  refine ⟨B, Γ, hs, ?_⟩
  cases e : ev T Γ g with
  | ok d => rw [e] at p; cases d <;> first | exact fun B1 H1 s => k _ _ (p B1 H1 s) | exact p
  | err x => rw [e] at p; exact p
  | bad => rw [e] at p; exact p
/-- a value's answer is at hand -/
theorem Post.here {d : D} {Q : VK} {v : V} (e : Ex B H) (p : Post T W σ B H (.ok d) Q) (r : Rp B v d) : Q v H := p v B H (.refl e) r
/-- .. a new object of the heap is the answer, and it is taken into the base -/
theorem Post.newT {ds : List D} {Q : VK} {p : Addr} {xs : List V} (e : Ex B H) (h : Post T W σ B H (.ok (.tuple ds)) Q) (hp : H p = none) (r : RpA B xs ds) : Q (.ref p) (upd H p (.tup xs)) :=
  h (.ref p) _ _ (.both e hp) (.tup upd_same (r.mono (ex_new (ex_back e hp))))
theorem PostF.new {ds : List D} {Q : VK} {p : Addr} {xs : List V} (e : Ex B H) (h : PostF T W σ B H (.ok ds) Q) (hp : H p = none) (r : RpA B xs ds) : Q (.ref p) (upd H p (.lst xs)) :=
  h p xs B _ (.new e hp) hp (ex_back e hp) upd_same r
/-- a test's answer, as a value -/
theorem tT_tG {g : GE} {Q : Bool → Hp → Prop} (h : tT T W g σ H Q) : tG T W g σ H fun x H' => ∃ k, x = .bl k ∧ Q k H' := by
  obtain ⟨B, Γ, hs, p⟩ := h
  refine ⟨B, Γ, hs, ?_⟩
  cases e : ev T Γ g with
  | ok d =>
    rw [e] at p
    cases d with
    | bool b =>
      refine fun v B1 H1 s r => ?_
      cases r
      exact ⟨b, rfl, p B1 H1 s⟩
    | _ => exact p.elim
  | err x => rw [e] at p; exact p
  | bad => rw [e] at p; exact p
end
theorem _root_.L2.PE.imp {X : Cx} {e : Expr} {t t' : TE} (h : PE X e t) (k : ∀ σ H Q, t' σ H Q → t σ H Q) : PE X e t' := ⟨fun pins s σ H Q I q => h.run pins s σ H Q I (k σ H Q q)⟩
theorem _root_.L2.PT.imp {X : Cx} {e : Expr} {t t' : TT} (h : PT X e t) (k : ∀ σ H Q, t' σ H Q → t σ H Q) : PT X e t' := ⟨fun pins s σ H Q I q => h.run pins s σ H Q I (k σ H Q q)⟩
theorem _root_.L2.PW.imp {X : Cx} {e : Expr} {t t' : TT} (h : PW X e t) (k : ∀ σ H Q, t' σ H Q → t σ H Q) : PW X e t' := ⟨fun w pins s σ H Q I q => h.run w pins s σ H Q I (k σ H Q q)⟩
theorem _root_.L2.PA.imp {X : Cx} {e : List Expr} {t t' : TA} (h : PA X e t) (k : ∀ σ H Q, t' σ H Q → t σ H Q) : PA X e t' := ⟨fun pos pins s σ H Q I q => h.run pos pins s σ H Q I (k σ H Q q)⟩
end TD

/-! TD4: the rules for expressions. -/
namespace TD
open PySem PySem.Spec PyProof.Rows L2

section
variable {X : Cx} {T : Tb} {W : WX} {a b c e : Expr} {ga gb gc : GE} {pos : Pos} {σ : L2.St} {B H : Hp} {Γ : TD.Env} {Q : VK}

/-! ### names and constants -/
theorem px_var (i : Nat) {x : Str} {pos : Pos} (hN : X.N[i]? = some x := by rfl) (hv : Vis X.env.scope x := by first | exact Or.inl rfl | exact Or.inr (Or.inl rfl) | exact Or.inr (Or.inr rfl)) (hd : (x == ("__debug__" : Str)) = false := by decide)
    (hcd : (x == ("__classdict__" : Str)) = false := by decide) : PE X (.Name x pos) (tG T W (.var i)) := (pv i hN hv hd hcd).imp fun σ H Q h => by
  obtain ⟨B, Γ, hs, p⟩ := h
  have p' : Post T W σ B H (match Γ[i]? with
    | some (some (.fz d)) => .ok d
    | _ => .bad) Q := p
  cases e : Γ[i]? with
  | none => rw [e] at p'; exact p'.elim
  | some o =>
    cases o with
    | none => rw [e] at p'; exact p'.elim
    | some s =>
      cases s with
      | fz d =>
        rw [e] at p'
        obtain ⟨v, e1, r⟩ := hs.ok i _ e
        exact ⟨v, e1, p'.here hs.ex r⟩
      | own r => rw [e] at p'; exact p'.elim
      | dc o kvs => rw [e] at p'; exact p'.elim
      | xc a x => rw [e] at p'; exact p'.elim
      | pin a x => rw [e] at p'; exact p'.elim
      | mp a x => rw [e] at p'; exact p'.elim
theorem px_const {v : V} {d : D} (h : PE X e (tC v)) (r : ∀ B, Rp B v d) : PE X e (tG T W (.cst d)) := h.imp fun σ H Q ⟨B, Γ, hs, p⟩ => Post.here (d := d) hs.ex p (r B)
theorem px_int {i j pos} : PE X (.Constant (.int i) j pos) (tG T W (.cst (.int i))) := px_const pe_int fun _ => .int _
theorem px_bl {i j pos} : PE X (.Constant (.bool i) j pos) (tG T W (.cst (.bool i))) := px_const pe_bl fun _ => .bl _
theorem px_non {j pos} : PE X (.Constant .none j pos) (tG T W (.cst .none)) := px_const pe_non fun _ => .non
theorem px_str {i j pos} : PE X (.Constant (.str i) j pos) (tG T W (.cst (.str i))) := px_const pe_str fun _ => .str _
/-- a constant of the module -/
theorem px_glob {x : Str} {i : Int} {t : Tok} (hg : Gl X x) (hm : X.mg x = some (.int i t)) (hd : (x == ("__debug__" : Str)) = false := by decide) : PE X (.Name x pos) (tG T W (.cst (.int i))) := px_const (pe_glob (v := .int i) hg hm ⟨t, rfl⟩ hd) fun _ => .int _
/-- a written power -/
theorem px_pow {i j v : Int} {k1 k2 : Nat} {p1 p2 : Pos} (hp : CPow i j) (hv : i ^ j.toNat = v) : PE X (.BinOp (.Constant (.int i) k1 p1) .Pow (.Constant (.int j) k2 p2) pos) (tG T W (.cst (.int v))) :=
  (pe_op op_pow pe_int pe_int).imp fun σ H Q ⟨B, Γ, hs, p⟩ => ⟨i, j, rfl, rfl, hp, by subst hv; exact Post.here (d := .int (i ^ j.toNat)) hs.ex p (.int _)⟩
theorem px_negc {i v : Int} {k1 : Nat} {p1 : Pos} (hv : -i = v) : PE X (.UnaryOp .USub (.Constant (.int i) k1 p1) pos) (tG T W (.cst (.int v))) :=
  (pe_un un_neg pe_int).imp fun σ H Q ⟨B, Γ, hs, p⟩ => ⟨i, rfl, by subst hv; exact Post.here (d := .int (-i)) hs.ex p (.int _)⟩

/-! ### two operands -/
theorem two_go {f : D → D → Rs D} {r : R2} (hr : ∀ {d e : D} {x y : V} {B H : Hp} {Q : VK}, Ex B H → Rp B x d → Rp B y e → Post T W σ B H (f d e) Q → r x y H Q)
    (hs : Se B Γ σ H) (p : Post T W σ B H ((ev T Γ ga).bind fun x => (ev T Γ gb).bind fun y => f x y) Q) : tOp r (tG T W ga) (tG T W gb) σ H Q :=
  tG_mono (g_bind hs p) fun x H1 ⟨d, B1, st, hs1, rx, p1⟩ => tG_mono (g_bind hs1 p1) fun y H2 ⟨e, B2, st2, hs2, ry, p2⟩ => hr hs2.ex (rx.mono st2.b) ry p2
theorem one_go {f : D → Rs D} {r : V → Hp → VK → Prop} (hr : ∀ {d : D} {x : V} {B H : Hp} {Q : VK}, Ex B H → Rp B x d → Post T W σ B H (f d) Q → r x H Q)
    (hs : Se B Γ σ H) (p : Post T W σ B H ((ev T Γ ga).bind f) Q) : tUn r (tG T W ga) σ H Q :=
  tG_mono (g_bind hs p) fun x H1 ⟨d, B1, st, hs1, rx, p1⟩ => hr hs1.ex rx p1
theorem binD_inv {o : BO} {d e : D} (p : Post T W σ B H (binD o d e) Q) : ∃ i j, d = .int i ∧ e = .int j ∧ Post T W σ B H (bop o i j) Q := by
  cases d <;> cases e <;> first | exact ⟨_, _, rfl, rfl, p⟩ | exact p.elim
theorem cmpD_inv {o : CO} {d e : D} (p : Post T W σ B H (cmpD o d e) Q) : ∃ i j, d = .int i ∧ e = .int j ∧ Post T W σ B H (.ok (.bool (cop o i j))) Q := by
  cases d <;> cases e <;> first | exact ⟨_, _, rfl, rfl, p⟩ | exact p.elim
theorem rp_int {v : V} {i : Int} (h : Rp B v (.int i)) : v = .int i := by cases h; rfl
theorem rp_bl {v : V} {i : Bool} (h : Rp B v (.bool i)) : v = .bl i := by cases h; rfl
theorem px_add (ha : PE X a (tG T W ga)) (hb : PE X b (tG T W gb)) : PE X (.BinOp a .Add b pos) (tG T W (.bin .add ga gb)) := (pe_op op_add ha hb).imp fun σ H Q ⟨B, Γ, hs, p⟩ => two_go (f := binD .add) (fun ex rx ry p => by
  obtain ⟨i, j, rfl, rfl, p⟩ := binD_inv p
  exact ⟨i, j, rp_int rx, rp_int ry, Post.here (d := .int (i + j)) ex p (.int _)⟩) hs p
theorem px_sub (ha : PE X a (tG T W ga)) (hb : PE X b (tG T W gb)) : PE X (.BinOp a .Sub b pos) (tG T W (.bin .sub ga gb)) := (pe_op op_sub ha hb).imp fun σ H Q ⟨B, Γ, hs, p⟩ => two_go (f := binD .sub) (fun ex rx ry p => by
  obtain ⟨i, j, rfl, rfl, p⟩ := binD_inv p
  exact ⟨i, j, rp_int rx, rp_int ry, Post.here (d := .int (i - j)) ex p (.int _)⟩) hs p
theorem px_mul (ha : PE X a (tG T W ga)) (hb : PE X b (tG T W gb)) : PE X (.BinOp a .Mult b pos) (tG T W (.bin .mul ga gb)) := (pe_op op_mul ha hb).imp fun σ H Q ⟨B, Γ, hs, p⟩ => two_go (f := binD .mul) (fun {d e x y B H Q} ex rx ry p => by
  obtain ⟨i, j, rfl, rfl, p⟩ := binD_inv p
  have p' : Post T W σ B H (if mulOk i j then .ok (.int (i * j)) else .bad) Q := p
  by_cases h : mulOk i j = true
  · rw [if_pos h] at p'
    have h' := h
    have h'' : (-(2 ^ 64) < j ∧ j < 2 ^ 64) ∨ (-(2 ^ 64) < i ∧ i < 2 ^ 64) := by
      simp only [mulOk, Bool.or_eq_true, decide_eq_true_eq] at h'
      omega
    exact ⟨i, j, rp_int rx, rp_int ry, h''.elim .inr .inl, Post.here (d := .int (i * j)) ex p' (.int _)⟩
  · rw [if_neg h] at p'
    exact p'.elim) hs p
theorem px_div (ha : PE X a (tG T W ga)) (hb : PE X b (tG T W gb)) : PE X (.BinOp a .FloorDiv b pos) (tG T W (.bin .div ga gb)) := (pe_op op_fdiv ha hb).imp fun σ H Q ⟨B, Γ, hs, p⟩ => two_go (f := binD .div) (fun {d e x y B H Q} ex rx ry p => by
  obtain ⟨i, j, rfl, rfl, p⟩ := binD_inv p
  have p' : Post T W σ B H (if decide (0 < j) && decide (j.toNat < 1073741824) then .ok (.int (i / j)) else .bad) Q := p
  by_cases h : (decide (0 < j) && decide (j.toNat < 1073741824)) = true
  · rw [if_pos h] at p'
    simp only [Bool.and_eq_true, decide_eq_true_eq] at h
    exact ⟨i, j, rp_int rx, rp_int ry, ⟨h.1, by omega⟩, Post.here (d := .int (i / j)) ex p' (.int _)⟩
  · rw [if_neg h] at p'
    exact p'.elim) hs p
theorem px_mod (ha : PE X a (tG T W ga)) (hb : PE X b (tG T W gb)) : PE X (.BinOp a .Mod b pos) (tG T W (.bin .mod ga gb)) := (pe_op op_mod ha hb).imp fun σ H Q ⟨B, Γ, hs, p⟩ => two_go (f := binD .mod) (fun {d e x y B H Q} ex rx ry p => by
  obtain ⟨i, j, rfl, rfl, p⟩ := binD_inv p
  have p' : Post T W σ B H (if decide (0 < j) then .ok (.int (i % j)) else .bad) Q := p
  by_cases h : decide (0 < j) = true
  · rw [if_pos h] at p'
    exact ⟨i, j, rp_int rx, rp_int ry, of_decide_eq_true h, Post.here (d := .int (i % j)) ex p' (.int _)⟩
  · rw [if_neg h] at p'
    exact p'.elim) hs p
theorem px_neg (ha : PE X a (tG T W ga)) : PE X (.UnaryOp .USub a pos) (tG T W (.neg ga)) := (pe_un un_neg ha).imp fun σ H Q ⟨B, Γ, hs, p⟩ => one_go (f := negD) (fun {d x B H Q} ex rx p => by
  cases d with
  | int i => exact ⟨i, rp_int rx, Post.here (d := .int (-i)) ex p (.int _)⟩
  | _ => exact p.elim) hs p

/-! ### comparisons, as values and as tests -/
theorem test_of {r : R2} (h : ∀ σ H Q, tG T W gc σ H Q → tOp r (tG T W ga) (tG T W gb) σ H Q) : ∀ σ H Q, tT T W gc σ H Q → tTest (tOp r (tG T W ga) (tG T W gb)) σ H Q := fun σ H Q q => h σ H _ (tT_tG q)
theorem cmp_imp {o : CO} {r : R2} (hr : r = rI0 fun i j => .bl (cop o i j)) : ∀ σ H Q, tG T W (.cmp o ga gb) σ H Q → tOp r (tG T W ga) (tG T W gb) σ H Q := fun σ H Q ⟨B, Γ, hs, p⟩ => two_go (f := cmpD o) (fun {d e x y B H Q} ex rx ry p => by
  obtain ⟨i, j, rfl, rfl, p⟩ := cmpD_inv p
  rw [hr]
  exact ⟨i, j, rp_int rx, rp_int ry, Post.here (d := .bool (cop o i j)) ex p (.bl _)⟩) hs p
section
variable (ha : PE X a (tG T W ga)) (hb : PE X b (tG T W gb))
include ha hb
theorem px_lt : PE X (.Compare a [.Lt] [b] pos) (tG T W (.cmp .lt ga gb)) := (pe_cmpR op_lt ha hb (nomark _)).imp (cmp_imp rfl)
theorem px_le : PE X (.Compare a [.LtE] [b] pos) (tG T W (.cmp .le ga gb)) := (pe_cmpR op_le ha hb (nomark _)).imp (cmp_imp rfl)
theorem px_gt : PE X (.Compare a [.Gt] [b] pos) (tG T W (.cmp .gt ga gb)) := (pe_cmpR op_gt ha hb (nomark _)).imp (cmp_imp rfl)
theorem px_ge : PE X (.Compare a [.GtE] [b] pos) (tG T W (.cmp .ge ga gb)) := (pe_cmpR op_ge ha hb (nomark _)).imp (cmp_imp rfl)
theorem pt_lt : PT X (.Compare a [.Lt] [b] pos) (tT T W (.cmp .lt ga gb)) := (pt_cmpR op_lt ha hb (nomark _)).imp (test_of (cmp_imp rfl))
theorem pt_le : PT X (.Compare a [.LtE] [b] pos) (tT T W (.cmp .le ga gb)) := (pt_cmpR op_le ha hb (nomark _)).imp (test_of (cmp_imp rfl))
theorem pt_gt : PT X (.Compare a [.Gt] [b] pos) (tT T W (.cmp .gt ga gb)) := (pt_cmpR op_gt ha hb (nomark _)).imp (test_of (cmp_imp rfl))
theorem pt_ge : PT X (.Compare a [.GtE] [b] pos) (tT T W (.cmp .ge ga gb)) := (pt_cmpR op_ge ha hb (nomark _)).imp (test_of (cmp_imp rfl))
end
theorem eqF_sound {d e : D} {k : Bool} {x y : V} (h : eqF d e = some k) (rx : Rp B x d) (ry : Rp B y e) : scal x y = true ∧ decide (x = y) = k := by
  cases rx <;> cases ry <;> first | (cases h; done) | (cases h; refine ⟨rfl, ?_⟩; simp) | skip
theorem eq_imp {K : PySem.W.Frag} : ∀ σ H Q, tG T W (.eq false ga gb) σ H Q → tOp (fun x y H Q => rEq x y H Q ∨ rEqD K x y H Q) (tG T W ga) (tG T W gb) σ H Q := fun σ H Q ⟨B, Γ, hs, p⟩ => two_go (f := eqD false) (fun {d e x y B H Q} ex rx ry p => by
  unfold eqD at p
  cases h : eqF d e with
  | some k =>
    rw [h] at p
    obtain ⟨h1, h2⟩ := eqF_sound h rx ry
    exact .inl ⟨h1, by rw [h2]; have := Post.here (d := .bool (false ^^ k)) ex p (.bl _); rwa [Bool.false_xor] at this⟩
  | none =>
    rw [h] at p
    by_cases z : (SeqAt.shaped d && SeqAt.shaped e) = true
    · simp only [z, if_true] at p
      rw [Bool.and_eq_true] at z
      exact .inr ⟨d, e, (rx.mono ex).dp, (ry.mono ex).dp, z.1, z.2, by have := Post.here (d := .bool (false ^^ PyData.eqv d e)) ex p (.bl _); rwa [Bool.false_xor] at this⟩
    · simp only [z] at p
      exact p.elim) hs p
theorem ne_imp {K : PySem.W.Frag} : ∀ σ H Q, tG T W (.eq true ga gb) σ H Q → tOp (fun x y H Q => rNe x y H Q ∨ rNeD K x y H Q) (tG T W ga) (tG T W gb) σ H Q := fun σ H Q ⟨B, Γ, hs, p⟩ => two_go (f := eqD true) (fun {d e x y B H Q} ex rx ry p => by
  unfold eqD at p
  cases h : eqF d e with
  | some k =>
    rw [h] at p
    obtain ⟨h1, h2⟩ := eqF_sound h rx ry
    exact .inl ⟨h1, by rw [h2]; have := Post.here (d := .bool (true ^^ k)) ex p (.bl _); rwa [Bool.true_xor] at this⟩
  | none =>
    rw [h] at p
    by_cases z : (SeqAt.shaped d && SeqAt.shaped e) = true
    · simp only [z, if_true] at p
      rw [Bool.and_eq_true] at z
      exact .inr ⟨d, e, (rx.mono ex).dp, (ry.mono ex).dp, z.1, z.2, by have := Post.here (d := .bool (true ^^ PyData.eqv d e)) ex p (.bl _); rwa [Bool.true_xor] at this⟩
    · simp only [z] at p
      exact p.elim) hs p
section
variable (hu : X.A.units + 64 < cLine) (ha : PE X a (tG T W ga)) (hb : PE X b (tG T W gb))
include hu ha hb
theorem px_eq : PE X (.Compare a [.Eq] [b] pos) (tG T W (.eq false ga gb)) := (pe_cmpR (op_eq.or (op_eqD hu)) ha hb (nomark _)).imp eq_imp
theorem px_ne : PE X (.Compare a [.NotEq] [b] pos) (tG T W (.eq true ga gb)) := (pe_cmpR (op_ne.or (op_neD hu)) ha hb (nomark _)).imp ne_imp
theorem pt_eq : PT X (.Compare a [.Eq] [b] pos) (tT T W (.eq false ga gb)) := (pt_cmpR (op_eq.or (op_eqD hu)) ha hb (nomark _)).imp (test_of eq_imp)
theorem pt_ne : PT X (.Compare a [.NotEq] [b] pos) (tT T W (.eq true ga gb)) := (pt_cmpR (op_ne.or (op_neD hu)) ha hb (nomark _)).imp (test_of ne_imp)
end
theorem isn_rp {n : Bool} {d : D} {x : V} (r : Rp B x d) : isnD n d = .ok (.bool (n ^^ decide (x = .non))) := by
  cases r <;> simp [isnD]
theorem isn_imp {n : Bool} {r : R2} (hr : r = fun x y H Q => y = .non ∧ Q (.bl (n ^^ decide (x = .non))) H) : ∀ σ H Q, tG T W (.isn n ga) σ H Q → tOp r (tG T W ga) (tC .non) σ H Q := fun σ H Q ⟨B, Γ, hs, p⟩ =>
  tG_mono (g_bind hs p) fun x H1 ⟨d, B1, st, hs1, rx, p1⟩ => by
    rw [isn_rp rx] at p1
    rw [hr]
    exact ⟨rfl, Post.here (d := .bool _) hs1.ex p1 (.bl _)⟩
theorem isn_test {n : Bool} {r : R2} (hr : r = fun x y H Q => y = .non ∧ Q (.bl (n ^^ decide (x = .non))) H) : ∀ σ H Q, tT T W (.isn n ga) σ H Q → tTest (tOp r (tG T W ga) (tC .non)) σ H Q := fun σ H Q q => isn_imp hr σ H _ (tT_tG q)
theorem px_isN {j : Nat} {p : Pos} (ha : PE X a (tG T W ga)) : PE X (.Compare a [.Is] [.Constant .none j p] pos) (tG T W (.isn false ga)) := (pe_cmpR op_isN ha pe_non (nomark _)).imp (isn_imp (by funext x y H Q; rw [Bool.false_xor]))
theorem px_notN {j : Nat} {p : Pos} (ha : PE X a (tG T W ga)) : PE X (.Compare a [.IsNot] [.Constant .none j p] pos) (tG T W (.isn true ga)) := (pe_cmpR op_notN ha pe_non (nomark _)).imp (isn_imp (by funext x y H Q; rw [Bool.true_xor]))
theorem pt_isN {j : Nat} {p : Pos} (ha : PE X a (tG T W ga)) : PT X (.Compare a [.Is] [.Constant .none j p] pos) (tT T W (.isn false ga)) := (pt_cmpR op_isN ha pe_non (nomark _)).imp (isn_test (by funext x y H Q; rw [Bool.false_xor]))
theorem pt_notN {j : Nat} {p : Pos} (ha : PE X a (tG T W ga)) : PT X (.Compare a [.IsNot] [.Constant .none j p] pos) (tT T W (.isn true ga)) := (pt_cmpR op_notN ha pe_non (nomark _)).imp (isn_test (by funext x y H Q; rw [Bool.true_xor]))

/-! ### tests -/
/-- an expression that is neither a comparison nor and, or, not -/
theorem pt_v (h : PE X e (tG T W ga)) (he : ∀ whole, isTrue e X.env whole = (do let v ← whole; standAt e.pos; holding [v] (truthy v)) := by intro _; rfl) : PT X e (tT T W ga) := (pt_val h he).imp fun σ H Q q => tT_tG q
theorem t_bind {g : GE} {f : D → Rs D} {Q : Bool → Hp → Prop} (hs : Se B Γ σ H) (hf : ∀ d, (∀ k, d ≠ .bool k) → f d = .bad) (p : PostT T W σ B H ((ev T Γ g).bind f) Q) :
    tT T W g σ H fun k H1 => ∃ B1, Sp' B H B1 H1 ∧ Se B1 Γ σ H1 ∧ PostT T W σ B1 H1 (f (.bool k)) Q := by
  refine ⟨B, Γ, hs, ?_⟩
  cases e : ev T Γ g with
  | ok d =>
    rw [e] at p
    cases d with
    | bool k => exact fun B1 H1 s => ⟨B1, s, hs.step s, PostT.step p s⟩
    | _ =>
      have p' : PostT T W σ B H (f _) Q := p
      rw [hf _ (by intro k z; cases z)] at p'
      exact p'.elim
  | err x => rw [e] at p; exact p
  | bad => rw [e] at p; exact p
theorem PostT.here {k : Bool} {Q : Bool → Hp → Prop} (e : Ex B H) (p : PostT T W σ B H (.ok (.bool k)) Q) : Q k H := p B H (.refl e)
theorem tT_not {Q : Bool → Hp → Prop} (h : tT T W (.not ga) σ H Q) : tNot (tT T W ga) σ H Q := by
  obtain ⟨B, Γ, hs, p⟩ := h
  refine tT_mono (t_bind hs (fun d z => ?_) p) fun k H1 ⟨B1, st, hs1, p1⟩ => p1.here hs1.ex
  cases d <;> first | rfl | exact absurd rfl (z _)
theorem bool_eta {g : GE} {Q : Bool → Hp → Prop} (p : PostT T W σ B H ((ev T Γ g).bind fun y => match y with | .bool c => .ok (.bool c) | _ => .bad) Q) : PostT T W σ B H (ev T Γ g) Q := by
  cases e : ev T Γ g with
  | ok d => rw [e] at p; cases d <;> exact p
  | err x => rw [e] at p; exact p
  | bad => rw [e] at p; exact p
theorem tT_and {Q : Bool → Hp → Prop} (h : tT T W (.and ga gb) σ H Q) : tAnd (tT T W ga) (tT T W gb) σ H Q := by
  obtain ⟨B, Γ, hs, p⟩ := h
  refine tT_mono (t_bind hs (fun d z => ?_) p) fun k H1 ⟨B1, st, hs1, p1⟩ => ?_
  · cases d <;> first | rfl | exact absurd rfl (z _)
  · cases k with
    | true => exact iteT ⟨B1, Γ, hs1, bool_eta p1⟩
    | false => exact iteF (p1.here hs1.ex)
theorem tT_or {Q : Bool → Hp → Prop} (h : tT T W (.or ga gb) σ H Q) : tOr (tT T W ga) (tT T W gb) σ H Q := by
  obtain ⟨B, Γ, hs, p⟩ := h
  refine tT_mono (t_bind hs (fun d z => ?_) p) fun k H1 ⟨B1, st, hs1, p1⟩ => ?_
  · cases d <;> first | rfl | exact absurd rfl (z _)
  · cases k with
    | true => exact iteT (p1.here hs1.ex)
    | false => exact iteF ⟨B1, Γ, hs1, bool_eta p1⟩
theorem pt_n (h : PT X a (tT T W ga)) : PT X (.UnaryOp .Not a pos) (tT T W (.not ga)) := (pt_not h).imp fun _ _ _ q => tT_not q
theorem pw_a1 (h : PT X a (tT T W ga)) : PW X (.BoolOp .And [a] pos) (tT T W ga) := pw_and1 h
theorem pw_o1 (h : PT X a (tT T W ga)) : PW X (.BoolOp .Or [a] pos) (tT T W ga) := pw_or1 h
theorem pw_a {r : List Expr} (ha : PT X a (tT T W ga)) (hb : PW X (.BoolOp .And (b :: r) pos) (tT T W gb)) : PW X (.BoolOp .And (a :: b :: r) pos) (tT T W (.and ga gb)) := (pw_and ha hb).imp fun _ _ _ q => tT_and q
theorem pw_o {r : List Expr} (ha : PT X a (tT T W ga)) (hb : PW X (.BoolOp .Or (b :: r) pos) (tT T W gb)) : PW X (.BoolOp .Or (a :: b :: r) pos) (tT T W (.or ga gb)) := (pw_or ha hb).imp fun _ _ _ q => tT_or q
/-! as values -/
theorem px_not (h : PE X a (tG T W ga)) : PE X (.UnaryOp .Not a pos) (tG T W (.not ga)) := (pe_not h).imp fun σ H Q ⟨B, Γ, hs, p⟩ =>
  tG_mono (g_bind hs p) fun x H1 ⟨d, B1, st, hs1, rx, p1⟩ => by
    cases d with
    | bool k => exact ⟨k, rp_bl rx, Post.here (d := .bool _) hs1.ex p1 (.bl _)⟩
    | _ => exact p1.elim
theorem bool_etaV {g : GE} (p : Post T W σ B H ((ev T Γ g).bind fun y => match y with | .bool c => .ok (.bool c) | _ => .bad) Q) : Post T W σ B H (ev T Γ g) Q := by
  cases e : ev T Γ g with
  | ok d => rw [e] at p; cases d <;> first | exact p | exact False.elim p
  | err x => rw [e] at p; exact p
  | bad => rw [e] at p; exact p
theorem px_and {r : List Expr} (ha : PE X a (tG T W ga)) (hb : PE X (.BoolOp .And (b :: r) pos) (tG T W gb)) : PE X (.BoolOp .And (a :: b :: r) pos) (tG T W (.and ga gb)) := (pe_and ha hb).imp fun σ H Q ⟨B, Γ, hs, p⟩ =>
  tG_mono (g_bind hs p) fun x H1 ⟨d, B1, st, hs1, rx, p1⟩ => by
    cases d with
    | bool k =>
      refine ⟨k, rp_bl rx, ?_⟩
      cases k with
      | true => exact iteT ⟨B1, Γ, hs1, bool_etaV p1⟩
      | false => exact iteF (Post.here (d := .bool _) hs1.ex p1 (.bl _))
    | _ => exact False.elim p1
theorem px_or {r : List Expr} (ha : PE X a (tG T W ga)) (hb : PE X (.BoolOp .Or (b :: r) pos) (tG T W gb)) : PE X (.BoolOp .Or (a :: b :: r) pos) (tG T W (.or ga gb)) := (pe_or ha hb).imp fun σ H Q ⟨B, Γ, hs, p⟩ =>
  tG_mono (g_bind hs p) fun x H1 ⟨d, B1, st, hs1, rx, p1⟩ => by
    cases d with
    | bool k =>
      refine ⟨k, rp_bl rx, ?_⟩
      cases k with
      | true => exact iteT (Post.here (d := .bool _) hs1.ex p1 (.bl _))
      | false => exact iteF ⟨B1, Γ, hs1, bool_etaV p1⟩
    | _ => exact False.elim p1
theorem px_one {op} (h : PE X a (tG T W ga)) : PE X (.BoolOp op [a] pos) (tG T W ga) := pe_one h
theorem px_ite (hc : PT X c (tT T W gc)) (ha : PE X a (tG T W ga)) (hb : PE X b (tG T W gb)) : PE X (.IfExp c a b pos) (tG T W (.ite gc ga gb)) := (pe_ifExp hc ha hb).imp fun σ H Q ⟨B, Γ, hs, p⟩ => by
  have k : tT T W gc σ H fun k H1 => ∃ B1, Sp' B H B1 H1 ∧ Se B1 Γ σ H1 ∧ Post T W σ B1 H1 (if k then ev T Γ ga else ev T Γ gb) Q := by
    have p' : Post T W σ B H ((ev T Γ gc).bind fun x => match x with
      | .bool true => ev T Γ ga
      | .bool false => ev T Γ gb
      | _ => .bad) Q := p
    refine ⟨B, Γ, hs, ?_⟩
    cases e : ev T Γ gc with
    | ok d =>
      rw [e] at p'
      cases d with
      | bool k => cases k <;> exact fun B1 H1 s => ⟨B1, s, hs.step s, Post.step p' s⟩
      | _ => exact False.elim p'
    | err x => rw [e] at p'; exact p'
    | bad => rw [e] at p'; exact p'
  refine tT_mono k fun k H1 ⟨B1, st, hs1, p1⟩ => ?_
  cases k with
  | true => exact iteT ⟨B1, Γ, hs1, p1⟩
  | false => exact iteF ⟨B1, Γ, hs1, p1⟩
end
end TD

/-! TD5: more rules for expressions: items, displays, calls, built-ins, new lists. -/
namespace TD
open PySem PySem.Spec PyProof.Rows L2

/-- the built-ins that stand as they are -/
structure Bi (mg : Str → Option Value) : Prop where
  len : mg "len" = none
  sum : mg "sum" = none
  abs : mg "abs" = none
  min : mg "min" = none
  max : mg "max" = none
  int : mg "int" = none
  bool : mg "bool" = none
  list : mg "list" = none
  tuple : mg "tuple" = none
  sorted : mg "sorted" = none
  isinstance : mg "isinstance" = none
  range : mg "range" = none
  zip : mg "zip" = none
  enumerate : mg "enumerate" = none
  valueError : mg "ValueError" = none

/-! ### sorted pairs -/
theorem pIns_perm (a : Int × Int) : ∀ l, (pIns a l).Perm (a :: l)
  | [] => .refl _
  | b :: r => by
    unfold pIns
    split
    · exact .refl _
    · exact ((pIns_perm a r).cons b).trans (.swap a b r)
theorem pSort_perm : ∀ l, (pSort l).Perm l
  | [] => .refl _
  | a :: r => (pIns_perm a _).trans ((pSort_perm r).cons a)
def pR (a b : Int × Int) : Prop := pLe a b = true
theorem pLe_iff {a b : Int × Int} : pLe a b = true ↔ a.1 < b.1 ∨ (a.1 = b.1 ∧ a.2 ≤ b.2) := by simp [pLe]
theorem pIns_sorted {a : Int × Int} : ∀ {l}, l.Pairwise pR → (pIns a l).Pairwise pR
  | [], _ => List.pairwise_singleton _ _
  | b :: r, h => by
    obtain ⟨h1, h2⟩ := List.pairwise_cons.mp h
    unfold pIns
    split
    · rename_i q
      refine List.pairwise_cons.mpr ⟨fun c hc => ?_, h⟩
      rcases List.mem_cons.mp hc with rfl | hc
      · exact q
      · have w := h1 c hc
        rw [pR, pLe_iff] at w
        rw [pLe_iff] at q
        rw [pR, pLe_iff]
        omega
    · rename_i q
      refine List.pairwise_cons.mpr ⟨fun c hc => ?_, pIns_sorted h2⟩
      rcases List.mem_cons.mp ((pIns_perm a r).mem_iff.mp hc) with rfl | hc
      · rw [Bool.not_eq_true] at q
        have q' : ¬ pLe c b = true := by rw [q]; exact Bool.false_ne_true
        rw [pLe_iff] at q'
        rw [pR, pLe_iff]
        omega
      · exact h1 c hc
theorem pSort_sorted : ∀ l, (pSort l).Pairwise pR
  | [] => .nil
  | a :: r => pIns_sorted (pSort_sorted r)
theorem pSort_uniq {l m : List (Int × Int)} (h : l.Pairwise pR) (p : l.Perm m) : l = pSort m := by
  refine List.Perm.eq_of_pairwise (le := pR) (fun a b _ _ h1 h2 => ?_) h (pSort_sorted m) (p.trans (pSort_perm m).symm)
  rw [pR, pLe_iff] at h1 h2
  exact Prod.ext (by omega) (by omega)

theorem decI_sound : ∀ {ds : List D} {ns : List Int}, decI ds = some ns → ds = ns.map PyData.int
  | [], ns, h => by cases h; rfl
  | d :: r, ns, h => by
    cases d with
    | int i =>
      unfold decI at h
      cases q : decI r with
      | none => rw [q] at h; cases h
      | some ms =>
        rw [q] at h
        cases h
        rw [decI_sound q]
        rfl
    | _ => cases h
theorem decI_map (ns : List Int) : decI (ns.map PyData.int) = some ns := by
  induction ns with
  | nil => rfl
  | cons n r ih =>
    show (decI (r.map PyData.int)).map (n :: ·) = _
    rw [ih]
    rfl
theorem decP_map (ps : List (Int × Int)) : decP (ps.map eP) = some ps := by
  induction ps with
  | nil => rfl
  | cons n r ih =>
    show (decP (r.map eP)).map (n :: ·) = _
    rw [ih]
    rfl
theorem decP_sound : ∀ {ds : List D} {ps : List (Int × Int)}, decP ds = some ps → ds = ps.map eP
  | [], ps, h => by cases h; rfl
  | d :: r, ps, h => by
    unfold decP at h
    split at h
    · rename_i e
      cases e
    · rename_i i j r' e
      cases e
      cases q : decP r with
      | none => rw [q] at h; cases h
      | some ms =>
        rw [q] at h
        cases h
        rw [decP_sound q]
        rfl
    · cases h

/-! ### the promise of a def, by a function of data -/
def spOf (ca : Nat → Addr) (φ : List D → Option Out) : Sp := fun vs H Q E => ∃ b ds, Ex b H ∧ RpA b vs ds ∧ match φ ds with
  | some (.ret r) => ∀ v f B1 H1, Sp' b H B1 H1 → (∀ p ∈ f, H p = none) → f.Nodup → Or B1 H1 v r f → r.imm = true → Q v H1
  | some (.old d) => ∀ v B1 H1, Sp' b H B1 H1 → Rp B1 v d → Q v H1
  | some (.exc x) => ∀ B1 H1, Sp' b H B1 H1 → E (.ref (ca x)) none H1
  | some (.mu _ _ _) => False
  | none => False
structure Callee (X : Cx) (T : Tb) (j : Nat) (x : Str) : Prop where
  ex : ∃ φ f fd ps k, T.fs[j]? = some φ ∧ FnOk X.prog X.w X.K X.mg X.base (L2.CX X.prog X.w) k f fd ps (spOf T.ca φ) ∧ Room k X.A ∧ X.mg x = some (.ref f) ∧ PySem.W.keepIn X.K (.ref f) = true ∧ Binds X.K fd ps []

section
variable {X : Cx} {T : Tb} {W : WX} {a b c e : Expr} {es : List Expr} {ga gb gc : GE} {ges : GEs} {pos : Pos} {σ : L2.St} {B H : Hp} {Γ : TD.Env} {Q : VK}

/-! ### items -/
theorem of_inv {o : Option D} (p : Post T W σ B H (Rs.of o) Q) : ∃ d, o = some d ∧ Post T W σ B H (.ok d) Q := by
  cases o with
  | none => exact p.elim
  | some d => exact ⟨d, rfl, p⟩
theorem ixD_inv {d e : D} (p : Post T W σ B H (ixD d e) Q) : ∃ ds i x, (d = .list ds ∨ d = .tuple ds) ∧ e = .int i ∧ 0 ≤ i ∧ ds[i.toNat]? = some x ∧ Post T W σ B H (.ok x) Q := by
  cases d with
  | list ds =>
    cases e with
    | int i =>
      by_cases h : decide (0 ≤ i) = true
      · have p' : Post T W σ B H (if decide (0 ≤ i) then Rs.of ds[i.toNat]? else .bad) Q := p
        rw [if_pos h] at p'
        obtain ⟨x, e1, q⟩ := of_inv p'
        exact ⟨ds, i, x, .inl rfl, rfl, of_decide_eq_true h, e1, q⟩
      · have p' : Post T W σ B H (if decide (0 ≤ i) then Rs.of ds[i.toNat]? else .bad) Q := p
        rw [if_neg h] at p'
        exact p'.elim
    | _ => exact False.elim p
  | tuple ds =>
    cases e with
    | int i =>
      by_cases h : decide (0 ≤ i) = true
      · have p' : Post T W σ B H (if decide (0 ≤ i) then Rs.of ds[i.toNat]? else .bad) Q := p
        rw [if_pos h] at p'
        obtain ⟨x, e1, q⟩ := of_inv p'
        exact ⟨ds, i, x, .inr rfl, rfl, of_decide_eq_true h, e1, q⟩
      · have p' : Post T W σ B H (if decide (0 ≤ i) then Rs.of ds[i.toNat]? else .bad) Q := p
        rw [if_neg h] at p'
        exact p'.elim
    | _ => exact False.elim p
  | _ => cases e <;> exact False.elim p
theorem atI_of {xs : List V} {i : Int} {v : V} (h0 : 0 ≤ i) (h : xs[i.toNat]? = some v) : atI xs i = some v := by
  have e : i = (i.toNat : Int) := by omega
  rw [e]
  exact atI_nat h
theorem px_ix (ha : PE X a (tG T W ga)) (hb : PE X b (tG T W gb)) (hs : PlainIx b := by intro _ _; rfl) : PE X (.Subscript a b pos) (tG T W (.ix ga gb)) := (pe_ix (ix_list.or ix_tup) ha hb hs).imp fun σ H Q ⟨B, Γ, hs, p⟩ => two_go (f := ixD) (fun {d e x y B H Q} ex rx ry p => by
  obtain ⟨ds, i, z, hd, rfl, h0, hz, q⟩ := ixD_inv p
  rcases hd with rfl | rfl
  · cases rx with
    | lst h1 h2 =>
      obtain ⟨v, hv, rv⟩ := h2.get hz
      exact .inl ⟨_, _, i, v, rfl, rp_int ry, .inl (rd_mono ex h1), atI_of h0 hv, q.here ex rv⟩
  · cases rx with
    | tup h1 h2 =>
      obtain ⟨v, hv, rv⟩ := h2.get hz
      exact .inr ⟨_, _, i, v, rfl, rp_int ry, .inl (.inl (ex _ _ h1)), atI_of h0 hv, q.here ex rv⟩) hs p

/-! ### argument lists, displays, calls -/
theorem pax_nil : PA X [] (tA T W .nil) := pa_nil.imp fun σ H Q ⟨B, Γ, hs, p⟩ => p [] B H (.refl hs.ex) .nil
theorem pax_cons (ha : PE X a (tG T W ga)) (hr : PA X es (tA T W ges)) (hs : starEach (a :: es) X.env = (false, eval a X.env) :: starEach es X.env := by rfl) : PA X (a :: es) (tA T W (.cons ga ges)) := (pa_cons ha hr hs).imp fun σ H Q ⟨B, Γ, hs, p⟩ => by
  have k : tG T W ga σ H fun v H1 => ∃ d B1, Sp' B H B1 H1 ∧ Se B1 Γ σ H1 ∧ Rp B1 v d ∧ PostA T W σ B1 H1 ((evs T Γ ges).map fun ds => d :: ds) Q := by
    have p' : PostA T W σ B H ((ev T Γ ga).bind fun d => (evs T Γ ges).map fun ds => d :: ds) Q := p
    refine ⟨B, Γ, hs, ?_⟩
    cases e : ev T Γ ga with
    | ok d => rw [e] at p'; exact fun v B1 H1 s r => ⟨d, B1, s, hs.step s, r, PostA.step p' s⟩
    | err x => rw [e] at p'; exact p'
    | bad => rw [e] at p'; exact p'
  refine tG_mono k fun v H1 ⟨d, B1, st, hs1, rx, p1⟩ => ⟨B1, Γ, hs1, ?_⟩
  cases e : evs T Γ ges with
  | ok ds => rw [e] at p1; exact fun vs B2 H2 s r => p1 (v :: vs) B2 H2 s (.cons (rx.mono s.b) r)
  | err x => rw [e] at p1; exact p1
  | bad => rw [e] at p1; exact p1
theorem sizeOk_le {n : Nat} (h : sizeOk n = true) : n ≤ sizeLine := by
  rw [sizeLine_eq]
  unfold sizeOk at h
  exact of_decide_eq_true h
theorem size_if {n : Nat} {r : Rs D} (p : Post T W σ B H (if sizeOk n then r else .bad) Q) : n ≤ sizeLine ∧ Post T W σ B H r Q := by
  by_cases h : sizeOk n = true
  · rw [if_pos h] at p
    exact ⟨sizeOk_le h, p⟩
  · rw [if_neg h] at p
    exact p.elim
theorem size_ifF {n : Nat} {r : Rs (List D)} (p : PostF T W σ B H (if sizeOk n then r else .bad) Q) : n ≤ sizeLine ∧ PostF T W σ B H r Q := by
  by_cases h : sizeOk n = true
  · rw [if_pos h] at p
    exact ⟨sizeOk_le h, p⟩
  · rw [if_neg h] at p
    exact p.elim
theorem px_tup {k : Nat} (h : PA X es (tA T W ges)) : PE X (.Tuple es k pos) (tG T W (.tup ges)) := (pe_tup h).imp fun σ H Q ⟨B, Γ, hs, p⟩ =>
  tA_mono (a_bind hs p) fun vs H1 ⟨ds, B1, st, hs1, rx, p1⟩ => by
    obtain ⟨hz, p2⟩ := size_if p1
    exact ⟨by rw [rx.len]; exact hz, fun p hp => p2.newT hs1.ex hp rx⟩
/-- a new list is a list -/
theorem px_f {g : GF} (h : PE X e (tF T W g)) : PE X e (tG T W (.f g)) := h.imp fun σ H Q ⟨B, Γ, hs, p⟩ => by
  have p' : Post T W σ B H ((evF T Γ g).map PyData.list) Q := p
  refine ⟨B, Γ, hs, ?_⟩
  cases e : evF T Γ g with
  | ok ds =>
    rw [e] at p'
    refine fun p xs B1 H1 s h1 h2 h3 h4 => p' (.ref p) (addF B1 H1 [p]) H1 (s.addF fun q hq => by cases List.mem_singleton.mp hq; exact h1) (.lst (.inl (addF_in s.bh List.mem_cons_self h3)) (h4.mono (addF_ex _ _ _)))
  | err x => rw [e] at p'; exact p'
  | bad => rw [e] at p'; exact p'
theorem pf_lst (h : PA X es (tA T W ges)) : PE X (.List es pos) (tF T W (.lst ges)) := (pe_lst h).imp fun σ H Q ⟨B, Γ, hs, p⟩ =>
  tA_mono (a_bindF hs p) fun vs H1 ⟨ds, B1, st, hs1, rx, p1⟩ => by
    obtain ⟨hz, p2⟩ := size_ifF p1
    exact ⟨by rw [rx.len]; exact hz, fun p hp => p2.new hs1.ex hp rx⟩
theorem callD_inv {j : Nat} {x : Str} (c : Callee X T j x) {ds : List D} (p : Post T W σ B H (callD T j ds) Q) : ∃ φ, T.fs[j]? = some φ ∧ match φ ds with
    | some (.ret r) => Post T W σ B H (.ok r.toD) Q
    | some (.old d) => Post T W σ B H (.ok d) Q
    | some (.exc x) => PErr T W σ B H x
    | some (.mu _ _ _) => False
    | none => False := by
  unfold callD at p
  cases e : T.fs[j]? with
  | none => rw [e] at p; exact p.elim
  | some φ =>
    rw [e] at p
    refine ⟨φ, rfl, ?_⟩
    cases q : φ ds with
    | none => simp only [q] at p; exact p.elim
    | some o => cases o <;> (simp only [q] at p; exact p)
theorem px_call {x : Str} {p : Pos} {j : Nat} (c : Callee X T j x) (tk : Takes X W) (ha : PA X (e :: es) (tA T W ges)) (hg : Gl X x := by rfl)
    (hdb : (x == ("__debug__" : Str)) = false := by decide) (he : starEach (e :: es) X.env = (false, eval e X.env) :: starEach es X.env := by rfl) (hpl : (backTo pos (starEach es X.env)).any (·.1) = false := by rfl) :
    PE X (.Call (.Name x p) (e :: es) [] pos) (tG T W (.call j ges)) := by
  obtain ⟨φ, f, fd, ps, k, hφ, F, hr, hm, hk, hb⟩ := c.ex
  refine (pe_callS F hr hg hm hk hb (fun σ => passAt tk σ) ha hdb he hpl).imp fun σ H Q ⟨B, Γ, hs, p⟩ => ?_
  refine tA_mono (a_bind hs p) fun vs H1 ⟨ds, B1, st, hs1, rx, p1⟩ => ?_
  obtain ⟨φ', hφ', q⟩ := callD_inv c p1
  rw [hφ] at hφ'
  cases hφ'
  refine ⟨B1, ds, hs1.ex, rx, ?_⟩
  cases z : φ ds with
  | none => rw [z] at q; exact q
  | some o =>
    rw [z] at q
    cases o with
    | ret r => exact fun v f B2 H2 s2 fr nd o im => q v (addF B2 H2 f) H2 (s2.addF fr) (o.freeze s2.bh fun _ h => h)
    | old d => exact fun v B2 H2 s2 r => q v B2 H2 s2 r
    | exc x => exact fun B2 H2 s2 => q B2 H2 s2
    | mu p c x => exact q
end
end TD

/-! TD6: built-ins, dicts, classes, new lists. -/
namespace TD
open PySem PySem.Spec PyProof.Rows L2

section
variable {X : Cx} {T : Tb} {W : WX} {a b c e : Expr} {es : List Expr} {ga gb gc : GE} {ges : GEs} {pos p : Pos} {σ : L2.St} {B H : Hp} {Γ : TD.Env} {Q : VK}

/-! ### built-ins -/
theorem cb1_go {f : D → Rs D} {r : List V → Hp → VK → Prop} (hr : ∀ {d : D} {x : V} {B H : Hp} {Q : VK}, Ex B H → Rp B x d → Post T W σ B H (f d) Q → r [x] H Q)
    (hs : Se B Γ σ H) (p : Post T W σ B H ((ev T Γ ga).bind f) Q) : tCB r (tCons (tG T W ga) tNil) σ H Q :=
  tG_mono (g_bind hs p) fun x H1 ⟨d, B1, st, hs1, rx, p1⟩ => hr hs1.ex rx p1
theorem cb2_go {f : D → D → Rs D} {r : List V → Hp → VK → Prop} (hr : ∀ {d e : D} {x y : V} {B H : Hp} {Q : VK}, Ex B H → Rp B x d → Rp B y e → Post T W σ B H (f d e) Q → r [x, y] H Q)
    (hs : Se B Γ σ H) (p : Post T W σ B H ((ev T Γ ga).bind fun x => (ev T Γ gb).bind fun y => f x y) Q) : tCB r (tCons (tG T W ga) (tCons (tG T W gb) tNil)) σ H Q :=
  tG_mono (g_bind hs p) fun x H1 ⟨d, B1, st, hs1, rx, p1⟩ => tG_mono (g_bind hs1 p1) fun y H2 ⟨e, B2, st2, hs2, ry, p2⟩ => hr hs2.ex (rx.mono st2.b) ry p2
theorem seqD_rp {d : D} {ds : List D} {x : V} (h : seqD d = some ds) (r : Rp B x d) : ∃ q xs, x = .ref q ∧ (Rd B q (.lst xs) ∨ B q = some (.tup xs)) ∧ RpA B xs ds := by
  cases r with
  | lst h1 h2 => cases h; exact ⟨_, _, rfl, .inl h1, h2⟩
  | tup h1 h2 => cases h; exact ⟨_, _, rfl, .inr h1, h2⟩
  | _ => cases h
theorem sq_of {K : PySem.W.Frag} {q : Addr} {xs : List V} (ex : Ex B H) (h : Rd B q (.lst xs) ∨ B q = some (.tup xs)) : SqL K H q xs ∨ SqT K H q xs := by
  rcases h with h | h
  · exact .inl (.inl (rd_mono ex h))
  · exact .inr (.inl (.inl (ex _ _ h)))
theorem px_len (bi : Bi X.mg) (ha : PE X a (tG T W ga)) (hg : Gl X "len" := by rfl) (he : starEach [a] X.env = (false, eval a X.env) :: starEach [] X.env := by rfl) : PE X (.Call (.Name "len" p) [a] [] pos) (tG T W (.len ga)) :=
  (pe_callB call_len_seq hg bi.len PySem.boot_len (pa_cons ha pa_nil he) (by decide) (by decide) he rfl).imp fun σ H Q ⟨B, Γ, hs, p⟩ => cb1_go (f := lenD) (fun {d x B H Q} ex rx p => by
    unfold lenD at p
    cases e : seqD d with
    | none => rw [e] at p; exact p.elim
    | some ds =>
      rw [e] at p
      obtain ⟨q, xs, rfl, h1, h2⟩ := seqD_rp e rx
      refine ⟨q, xs, rfl, sq_of ex h1, ?_⟩
      rw [h2.len]
      exact Post.here (d := .int ds.length) ex p (.int _)) hs p
theorem sum_inv {d : D} (p : Post T W σ B H (sumD d) Q) : ∃ (ns : List Int), d = .list (ns.map .int) ∧ Post T W σ B H (.ok (.int ns.sum)) Q := by
  cases d with
  | list ds =>
    have p' : Post T W σ B H (match decI ds with
      | some ns => .ok (.int ns.sum)
      | none => .bad) Q := p
    cases e : decI ds with
    | none => rw [e] at p'; exact p'.elim
    | some ns => rw [e] at p'; exact ⟨ns, by rw [decI_sound e], p'⟩
  | _ => exact False.elim p
theorem list_ints {q : V} {ns : List Int} (r : Rp B q (.list (ns.map .int))) : ∃ a, q = .ref a ∧ Rd B a (.lst (ns.map V.int)) := by
  cases r with
  | lst h1 h2 => exact ⟨_, rfl, by rw [← h2.ints]; exact h1⟩
theorem px_sum (bi : Bi X.mg) (hc : X.calm = true) (ha : PE X a (tG T W ga)) (hg : Gl X "sum" := by rfl) (he : starEach [a] X.env = (false, eval a X.env) :: starEach [] X.env := by rfl) : PE X (.Call (.Name "sum" p) [a] [] pos) (tG T W (.sum ga)) :=
  (pe_callB (cr_sum hc) hg bi.sum (by decide +kernel) (pa_cons ha pa_nil he) (by decide) (by decide) he rfl).imp fun σ H Q ⟨B, Γ, hs, p⟩ => cb1_go (f := sumD) (fun {d x B H Q} ex rx p => by
    obtain ⟨ns, rfl, q⟩ := sum_inv p
    obtain ⟨a, rfl, h1⟩ := list_ints rx
    exact ⟨a, ns, rfl, .inl (rd_mono ex h1), Post.here (d := .int ns.sum) ex q (.int _)⟩) hs p
theorem px_abs (bi : Bi X.mg) (ha : PE X a (tG T W ga)) (hg : Gl X "abs" := by rfl) (he : starEach [a] X.env = (false, eval a X.env) :: starEach [] X.env := by rfl) : PE X (.Call (.Name "abs" p) [a] [] pos) (tG T W (.abs ga)) :=
  (pe_callB call_abs hg bi.abs (by decide +kernel) (pa_cons ha pa_nil he) (by decide) (by decide) he rfl).imp fun σ H Q ⟨B, Γ, hs, p⟩ => cb1_go (f := absD) (fun {d x B H Q} ex rx p => by
    cases d with
    | int i => cases rp_int rx; exact ⟨i, rfl, Post.here (d := .int _) ex p (.int _)⟩
    | _ => exact False.elim p) hs p
theorem px_mn (bi : Bi X.mg) (hc : X.calm = true) (ha : PE X a (tG T W ga)) (hb : PE X b (tG T W gb)) (hg : Gl X "min" := by rfl) (he : starEach [a, b] X.env = (false, eval a X.env) :: starEach [b] X.env := by rfl) (he2 : starEach [b] X.env = (false, eval b X.env) :: starEach [] X.env := by rfl)
    (hpl : (backTo pos (starEach [b] X.env)).any (·.1) = false := by rfl) : PE X (.Call (.Name "min" p) [a, b] [] pos) (tG T W (.mn ga gb)) :=
  (pe_callB (call_min2 hc) hg bi.min (by decide +kernel) (pa_cons ha (pa_cons hb pa_nil he2) he) (by decide) (by decide) he hpl).imp fun σ H Q ⟨B, Γ, hs, p⟩ => cb2_go (f := mnD) (fun {d e x y B H Q} ex rx ry p => by
    cases d with
    | int i =>
      cases e with
      | int j => cases rp_int rx; cases rp_int ry; exact ⟨i, j, rfl, Post.here (d := .int _) ex p (.int _)⟩
      | _ => exact False.elim p
    | _ => cases e <;> exact False.elim p) hs p
theorem px_mx (bi : Bi X.mg) (hc : X.calm = true) (ha : PE X a (tG T W ga)) (hb : PE X b (tG T W gb)) (hg : Gl X "max" := by rfl) (he : starEach [a, b] X.env = (false, eval a X.env) :: starEach [b] X.env := by rfl) (he2 : starEach [b] X.env = (false, eval b X.env) :: starEach [] X.env := by rfl)
    (hpl : (backTo pos (starEach [b] X.env)).any (·.1) = false := by rfl) : PE X (.Call (.Name "max" p) [a, b] [] pos) (tG T W (.mx ga gb)) :=
  (pe_callB (call_max2 hc) hg bi.max (by decide +kernel) (pa_cons ha (pa_cons hb pa_nil he2) he) (by decide) (by decide) he hpl).imp fun σ H Q ⟨B, Γ, hs, p⟩ => cb2_go (f := mxD) (fun {d e x y B H Q} ex rx ry p => by
    cases d with
    | int i =>
      cases e with
      | int j => cases rp_int rx; cases rp_int ry; exact ⟨i, j, rfl, Post.here (d := .int _) ex p (.int _)⟩
      | _ => exact False.elim p
    | _ => cases e <;> exact False.elim p) hs p
theorem px_toint (bi : Bi X.mg) (ha : PE X a (tG T W ga)) (hg : Gl X "int" := by rfl) (he : starEach [a] X.env = (false, eval a X.env) :: starEach [] X.env := by rfl) : PE X (.Call (.Name "int" p) [a] [] pos) (tG T W (.int ga)) :=
  (pe_callTy call_int1 hg bi.int (by decide +kernel) (pa_cons ha pa_nil he) (by decide) (by decide) he rfl).imp fun σ H Q ⟨B, Γ, hs, p⟩ => cb1_go (f := intD) (fun {d x B H Q} ex rx p => by
    cases d with
    | int i => cases rp_int rx; exact .inl ⟨i, rfl, Post.here (d := .int _) ex p (.int _)⟩
    | bool k => cases rp_bl rx; exact .inr ⟨k, rfl, Post.here (d := .int _) ex p (.int _)⟩
    | _ => exact False.elim p) hs p
/-- isinstance(x, T) -/
def tyN : IT → String
  | .int => "int"
  | .bool => "bool"
  | .list => "list"
  | .tuple => "tuple"
def tyB (n : String) : IT → Bool
  | .int => n == "int" || n == "bool"
  | .bool => n == "bool"
  | .list => n == "list"
  | .tuple => n == "tuple"
theorem kit_non (t : IT) : kitB "NoneType" (tyN t) = some (tyB "NoneType" t) := by cases t <;> decide +kernel
theorem kit_bl (t : IT) : kitB "bool" (tyN t) = some (tyB "bool" t) := by cases t <;> decide +kernel
theorem kit_int (t : IT) : kitB "int" (tyN t) = some (tyB "int" t) := by cases t <;> decide +kernel
theorem kit_str (t : IT) : kitB "str" (tyN t) = some (tyB "str" t) := by cases t <;> decide +kernel
theorem kit_lst (t : IT) : kitB "list" (tyN t) = some (tyB "list" t) := by cases t <;> decide +kernel
theorem kit_tup (t : IT) : kitB "tuple" (tyN t) = some (tyB "tuple" t) := by cases t <;> decide +kernel
theorem isi_ok {K : PySem.W.Frag} (t : IT) {d : D} {x : V} (ex : Ex B H) (r : Rp B x d) : ∃ u, TyX K H x u ∧ PySem.W.kitOne K u (.type (tyN t)) = some (isiD t d) := by
  cases r with
  | non => exact ⟨_, .base .non, (kit_ty (kit_non t)).trans (by cases t <;> rfl)⟩
  | bl b => exact ⟨_, .base (.bl b), (kit_ty (kit_bl t)).trans (by cases t <;> rfl)⟩
  | int i => exact ⟨_, .base (.int i), (kit_ty (kit_int t)).trans (by cases t <;> rfl)⟩
  | str z => exact ⟨_, .base (.str z), (kit_ty (kit_str t)).trans (by cases t <;> rfl)⟩
  | lst h1 h2 =>
    rcases rd_mono ex h1 with h | ⟨o, h⟩
    · exact ⟨_, .base (.lst h), (kit_ty (kit_lst t)).trans (by cases t <;> rfl)⟩
    · exact ⟨_, .base (.frz h), (kit_ty (kit_lst t)).trans (by cases t <;> rfl)⟩
  | tup h1 h2 => exact ⟨_, .base (.tup (ex _ _ h1)), (kit_ty (kit_tup t)).trans (by cases t <;> rfl)⟩
theorem isi_go (t : IT) (hs : Se B Γ σ H) (p : Post T W σ B H (ev T Γ (.isi t ga)) Q) : tCB (rIsi X.K) (tCons (tG T W ga) (tCons (tC (.ty (tyN t))) tNil)) σ H Q :=
  tG_mono (g_bind (f := fun x => .ok (.bool (isiD t x))) hs p) fun x H1 ⟨d, B1, st, hs1, rx, p1⟩ => by
    obtain ⟨u, h1, h2⟩ := isi_ok (K := X.K) t hs1.ex rx
    exact ⟨x, .ty (tyN t), u, .type (tyN t), isiD t d, rfl, .ty _, h1, h2, Post.here (d := .bool _) hs1.ex p1 (.bl _)⟩
section
variable {p2 : Pos} (bi : Bi X.mg) (ha : PE X a (tG T W ga))
include bi ha
theorem px_isInt (hg : Gl X "isinstance" := by rfl) (hg2 : Gl X "int" := by rfl) (he : starEach [a, .Name "int" p2] X.env = (false, eval a X.env) :: starEach [.Name "int" p2] X.env := by rfl) : PE X (.Call (.Name "isinstance" p) [a, .Name "int" p2] [] pos) (tG T W (.isi .int ga)) :=
  (pe_callB call_isi hg bi.isinstance (by decide +kernel) (pa_cons ha (pa_cons (pe_bltn (v := .ty "int") hg2 bi.int (by decide +kernel) rfl) pa_nil) he) (by decide) (by decide) he rfl).imp fun σ H Q ⟨B, Γ, hs, p⟩ => isi_go .int hs p
theorem px_isBool (hg : Gl X "isinstance" := by rfl) (hg2 : Gl X "bool" := by rfl) (he : starEach [a, .Name "bool" p2] X.env = (false, eval a X.env) :: starEach [.Name "bool" p2] X.env := by rfl) : PE X (.Call (.Name "isinstance" p) [a, .Name "bool" p2] [] pos) (tG T W (.isi .bool ga)) :=
  (pe_callB call_isi hg bi.isinstance (by decide +kernel) (pa_cons ha (pa_cons (pe_bltn (v := .ty "bool") hg2 bi.bool (by decide +kernel) rfl) pa_nil) he) (by decide) (by decide) he rfl).imp fun σ H Q ⟨B, Γ, hs, p⟩ => isi_go .bool hs p
theorem px_isList (hg : Gl X "isinstance" := by rfl) (hg2 : Gl X "list" := by rfl) (he : starEach [a, .Name "list" p2] X.env = (false, eval a X.env) :: starEach [.Name "list" p2] X.env := by rfl) : PE X (.Call (.Name "isinstance" p) [a, .Name "list" p2] [] pos) (tG T W (.isi .list ga)) :=
  (pe_callB call_isi hg bi.isinstance (by decide +kernel) (pa_cons ha (pa_cons (pe_bltn (v := .ty "list") hg2 bi.list (by decide +kernel) rfl) pa_nil) he) (by decide) (by decide) he rfl).imp fun σ H Q ⟨B, Γ, hs, p⟩ => isi_go .list hs p
theorem px_isTuple (hg : Gl X "isinstance" := by rfl) (hg2 : Gl X "tuple" := by rfl) (he : starEach [a, .Name "tuple" p2] X.env = (false, eval a X.env) :: starEach [.Name "tuple" p2] X.env := by rfl) : PE X (.Call (.Name "isinstance" p) [a, .Name "tuple" p2] [] pos) (tG T W (.isi .tuple ga)) :=
  (pe_callB call_isi hg bi.isinstance (by decide +kernel) (pa_cons ha (pa_cons (pe_bltn (v := .ty "tuple") hg2 bi.tuple (by decide +kernel) rfl) pa_nil) he) (by decide) (by decide) he rfl).imp fun σ H Q ⟨B, Γ, hs, p⟩ => isi_go .tuple hs p
end

/-! ### in a list of ints; how many -/
theorem inV_ints (x : Int) (ns : List Int) : inV (.int x) (ns.map V.int) = decide (x ∈ ns) := by
  unfold inV
  rw [Bool.eq_iff_iff, List.any_eq_true]
  simp only [List.mem_map, decide_eq_true_eq]
  constructor
  · rintro ⟨v, ⟨i, hi, rfl⟩, h⟩
    have : i = x := by simpa [eqV] using h
    rw [← this]
    exact hi
  · intro h
    exact ⟨.int x, ⟨x, h, rfl⟩, by simp [eqV]⟩
theorem flat_ints (ns : List Int) : (ns.map V.int).all flatV = true := by
  rw [List.all_eq_true]
  intro v hv
  obtain ⟨i, _, rfl⟩ := List.mem_map.mp hv
  rfl
theorem inl_inv {n : Bool} {d e : D} (p : Post T W σ B H (inlD n d e) Q) : ∃ (x : Int) (ns : List Int), d = .int x ∧ e = .list (ns.map .int) ∧ Post T W σ B H (.ok (.bool (n ^^ decide (x ∈ ns)))) Q := by
  cases d with
  | int x =>
    cases e with
    | list ds =>
      have p' : Post T W σ B H (match decI ds with
        | some ns => .ok (.bool (n ^^ decide (x ∈ ns)))
        | none => .bad) Q := p
      cases e : decI ds with
      | none => rw [e] at p'; exact p'.elim
      | some ns => rw [e] at p'; exact ⟨x, ns, rfl, by rw [decI_sound e], p'⟩
    | _ => exact False.elim p
  | _ => cases e <;> exact False.elim p
theorem inl_imp {n : Bool} : ∀ σ H Q, tG T W (.inl n ga gb) σ H Q → tOp (rIn X.K n) (tG T W ga) (tG T W gb) σ H Q := fun σ H Q ⟨B, Γ, hs, p⟩ => two_go (f := inlD n) (fun {d e x y B H Q} ex rx ry p => by
  obtain ⟨i, ns, rfl, rfl, q⟩ := inl_inv p
  obtain ⟨a, rfl, h1⟩ := list_ints ry
  cases rp_int rx
  refine ⟨a, _, rfl, .inl (.inl (rd_mono ex h1)), rfl, flat_ints ns, ?_⟩
  rw [inV_ints]
  have h := Post.here (d := .bool _) ex q (.bl _)
  cases n with
  | true => rw [Bool.true_xor] at h; exact h
  | false => rw [Bool.false_xor] at h; exact h) hs p
section
variable (ha : PE X a (tG T W ga)) (hb : PE X b (tG T W gb))
include ha hb
theorem px_in (hm : behindInMarks .In b = false := by rfl) : PE X (.Compare a [.In] [b] pos) (tG T W (.inl false ga gb)) := (pe_cmpR op_in_seq ha hb hm).imp inl_imp
theorem px_nin (hm : behindInMarks .NotIn b = false := by rfl) : PE X (.Compare a [.NotIn] [b] pos) (tG T W (.inl true ga gb)) := (pe_cmpR op_notIn_seq ha hb hm).imp inl_imp
theorem pt_in (hm : behindInMarks .In b = false := by rfl) : PT X (.Compare a [.In] [b] pos) (tT T W (.inl false ga gb)) := (pt_cmpR op_in_seq ha hb hm).imp (test_of inl_imp)
theorem pt_nin (hm : behindInMarks .NotIn b = false := by rfl) : PT X (.Compare a [.NotIn] [b] pos) (tT T W (.inl true ga gb)) := (pt_cmpR op_notIn_seq ha hb hm).imp (test_of inl_imp)
end
theorem cnt_inv {d e : D} (p : Post T W σ B H (cntD d e) Q) : ∃ (ns : List Int) (x : Int), d = .list (ns.map .int) ∧ e = .int x ∧ Post T W σ B H (.ok (.int (ns.count x))) Q := by
  cases d with
  | list ds =>
    cases e with
    | int x =>
      have p' : Post T W σ B H (match decI ds with
        | some ns => .ok (.int (ns.count x))
        | none => .bad) Q := p
      cases e : decI ds with
      | none => rw [e] at p'; exact p'.elim
      | some ns => rw [e] at p'; exact ⟨ns, x, by rw [decI_sound e], rfl, p'⟩
    | _ => exact False.elim p
  | _ => cases e <;> exact False.elim p

/-! ### dicts -/
theorem KvRp.val {ks : List (Key × V)} {kvs : List (Int × D)} (h : KvRp B ks kvs) (k : Int) : match dget kvs k with
    | some d => ∃ v, valV ks (Sum.inl k : Key) = some v ∧ Rp B v d
    | none => valV ks (Sum.inl k : Key) = none := by
  unfold KvRp at h
  induction h with
  | nil => rfl
  | @cons a b as bs r t ih =>
    obtain ⟨e1, e2⟩ := r
    by_cases z : b.1 = k
    · have g1 : dget (b :: bs) k = some b.2 := by simp [dget, List.find?_cons, z]
      rw [g1]
      exact ⟨a.2, valV_pos (by rw [e1, z]), e2⟩
    · have g1 : dget (b :: bs) k = dget bs k := by simp [dget, List.find?_cons, z]
      rw [g1]
      have g2 : valV (a :: as) (Sum.inl k : Key) = valV as (Sum.inl k : Key) := valV_neg fun q => z (by rw [e1] at q; exact Sum.inl.inj q)
      rw [g2]
      exact ih
theorem dslot_inv {i : Nat} {kvs : List (Int × D)} (hs : Se B Γ σ H) (h : dslot Γ i = .ok kvs) : ∃ q ks, σ[i]? = some (some (.ref q)) ∧ H q = some (.dK ks) ∧ KvRp B ks kvs := by
  unfold dslot at h
  split at h
  · rename_i o k e
    cases h
    obtain ⟨q, ks, e1, h1, h2, _⟩ := hs.ok i _ e
    exact ⟨q, ks, e1, h1, h2⟩
  · cases h
theorem dslot_or (i : Nat) : (∃ kvs, dslot Γ i = .ok kvs) ∨ dslot Γ i = .bad := by
  unfold dslot
  split
  · exact .inl ⟨_, rfl⟩
  · exact .inr rfl
theorem ind_go {n : Bool} {i : Nat} {t : TE} (ht : t = fun σ H Q => tG T W ga σ H fun y H1 => tVar i σ H1 fun x H2 => ∃ a o, x = .ref a ∧ DGet H2 a y o ∧ Q (.bl (n ^^ o.isSome)) H2) :
    ∀ σ H Q, tG T W (.ind n ga i) σ H Q → t σ H Q := fun σ H Q ⟨B, Γ, hs, p⟩ => by
  rw [ht]
  refine tG_mono (g_bind (f := fun x => (dslot Γ i).bind fun kvs => match x with
    | .int k => .ok (.bool (n ^^ (dget kvs k).isSome))
    | _ => .bad) hs p) fun y H1 ⟨d, B1, st, hs1, ry, p1⟩ => ?_
  rcases dslot_or (Γ := Γ) i with ⟨kvs, hk⟩ | hk
  · rw [hk] at p1
    obtain ⟨q, ks, e1, h1, h2⟩ := dslot_inv hs1 hk
    cases d with
    | int k =>
      cases rp_int ry
      have v := h2.val k
      refine ⟨_, e1, q, valV ks (Sum.inl k : Key), rfl, DGet.k (k := Sum.inl k) h1, ?_⟩
      have e2 : (valV ks (Sum.inl k : Key)).isSome = (dget kvs k).isSome := by
        cases z : dget kvs k with
        | none => rw [z] at v; rw [v]; rfl
        | some d =>
          rw [z] at v
          obtain ⟨w, hw, _⟩ := v
          rw [hw]
          rfl
      rw [e2]
      exact Post.here (d := .bool _) hs1.ex p1 (.bl _)
    | _ => exact False.elim p1
  · rw [hk] at p1
    exact p1.elim
section
variable {i : Nat} {x : Str} {p2 : Pos} (hu : X.A.units + 64 < cLine) (ha : PE X a (tG T W ga)) (hv : PE X (.Name x p2) (tVar i))
include hu ha hv
theorem px_ind (hm : behindInMarks .In (.Name x p2) = false := by rfl) : PE X (.Compare a [.In] [.Name x p2] pos) (tG T W (.ind false ga i)) := (pe_cmp (pc_din (by omega) ha hv) hm).imp (ind_go (by funext σ H Q; simp only [Bool.false_xor]; rfl))
theorem px_nind (hm : behindInMarks .NotIn (.Name x p2) = false := by rfl) : PE X (.Compare a [.NotIn] [.Name x p2] pos) (tG T W (.ind true ga i)) := (pe_cmp (pc_dnotin (by omega) ha hv) hm).imp (ind_go (by funext σ H Q; simp only [Bool.true_xor]; rfl))
theorem pt_ind (hm : behindInMarks .In (.Name x p2) = false := by rfl) : PT X (.Compare a [.In] [.Name x p2] pos) (tT T W (.ind false ga i)) := (pt_cmp (pc_din (by omega) ha hv) hm).imp fun σ H Q q => ind_go (by funext σ H Q; simp only [Bool.false_xor]; rfl) σ H _ (tT_tG q)
theorem pt_nind (hm : behindInMarks .NotIn (.Name x p2) = false := by rfl) : PT X (.Compare a [.NotIn] [.Name x p2] pos) (tT T W (.ind true ga i)) := (pt_cmp (pc_dnotin (by omega) ha hv) hm).imp fun σ H Q q => ind_go (by funext σ H Q; simp only [Bool.true_xor]; rfl) σ H _ (tT_tG q)
theorem px_dix (hs : NoSl a := by intro _ _; rfl) : PE X (.Subscript (.Name x p2) a pos) (tG T W (.dix i ga)) := (pe_dget (by omega) hv ha hs).imp fun σ H Q ⟨B, Γ, hs, p⟩ => by
  have p' : Post T W σ B H ((dslot Γ i).bind fun kvs => (ev T Γ ga).bind fun x => match x with
    | .int k => Rs.of (dget kvs k)
    | _ => .bad) Q := p
  rcases dslot_or (Γ := Γ) i with ⟨kvs, hk⟩ | hk
  · rw [hk] at p'
    obtain ⟨q, ks, e1, h1, h2⟩ := dslot_inv hs hk
    refine ⟨_, e1, ?_⟩
    refine tG_mono (g_bind (f := fun x => match x with
      | .int k => Rs.of (dget kvs k)
      | _ => .bad) hs p') fun y H1 ⟨d, B1, st, hs1, ry, p1⟩ => ?_
    cases d with
    | int k =>
      cases rp_int ry
      obtain ⟨d, hd, p2⟩ := of_inv p1
      have v := h2.val k
      rw [hd] at v
      obtain ⟨w, hw, rw'⟩ := v
      have g : DGet H1 q (kV (Sum.inl k)) (valV ks (Sum.inl k : Key)) := DGet.k (k := Sum.inl k) (st.h _ _ h1)
      rw [hw] at g
      exact ⟨q, w, rfl, g, p2.here hs1.ex (rw'.mono st.b)⟩
    | _ => exact False.elim p1
  · rw [hk] at p'
    exact p'.elim
end
end
end TD

/-! TD7: new lists, what is walked, comprehensions. -/
namespace TD
open PySem PySem.Spec PyProof.Rows L2

section
variable {X : Cx} {T : Tb} {W : WX} {a b c e : Expr} {es : List Expr} {ga gb gc : GE} {ges : GEs} {pos p : Pos} {σ : L2.St} {B H : Hp} {Γ : TD.Env} {Q : VK}
theorem g_bindI {α : Type} {g : GE} {f : D → Rs α} {P : Hp → Hp → Rs α → Prop} (hP : ∀ {B H B1 H1 r}, P B H r → Sp' B H B1 H1 → P B1 H1 r) (he : ∀ {B H x}, P B H (.err x) → PErr T W σ B H x) (hb : ∀ {B H}, ¬ P B H .bad) (hs : Se B Γ σ H) (p : P B H ((ev T Γ g).bind f)) :
    tG T W g σ H fun v H1 => ∃ d B1, Sp' B H B1 H1 ∧ Se B1 Γ σ H1 ∧ Rp B1 v d ∧ P B1 H1 (f d) := by
  refine ⟨B, Γ, hs, ?_⟩
  cases e : ev T Γ g with
  | ok d => rw [e] at p; exact fun v B1 H1 s r => ⟨d, B1, s, hs.step s, r, hP p s⟩
  | err x => rw [e] at p; exact he p
  | bad => rw [e] at p; exact hb p

/-! ### slices -/
theorem cut_to {xs : List V} {j : Int} (h : 0 ≤ j) : cutV xs none (some j) = xs.take j.toNat := by
  obtain ⟨k, rfl⟩ : ∃ k : Nat, j = (k : Int) := ⟨j.toNat, by omega⟩
  unfold cutV
  rw [HT.sIx_none, HT.sIx_nat, List.drop_zero, Nat.sub_zero, Int.toNat_natCast, ← List.take_eq_take_min]
theorem cut_from {xs : List V} {j : Int} (h : 0 ≤ j) : cutV xs (some j) none = xs.drop j.toNat := by
  obtain ⟨k, rfl⟩ : ∃ k : Nat, j = (k : Int) := ⟨j.toNat, by omega⟩
  unfold cutV
  rw [HT.sIx_none, HT.sIx_nat, Int.toNat_natCast]
  by_cases q : k ≤ xs.length
  · rw [Nat.min_eq_left q]
    exact List.take_of_length_le (by rw [List.length_drop]; omega)
  · rw [Nat.min_eq_right (by omega), Nat.sub_self, List.take_zero, List.drop_eq_nil_of_le (by omega)]
theorem cut_both {xs : List V} {i j : Int} (h : 0 ≤ i) (h2 : i ≤ j) : cutV xs (some i) (some j) = (xs.drop i.toNat).take (j - i).toNat := by
  obtain ⟨k, rfl⟩ : ∃ k : Nat, i = (k : Int) := ⟨i.toNat, by omega⟩
  obtain ⟨l, rfl⟩ : ∃ k : Nat, j = (k : Int) := ⟨j.toNat, by omega⟩
  unfold cutV
  rw [HT.sIx_nat, HT.sIx_nat, Int.toNat_natCast]
  by_cases q : k ≤ xs.length
  · rw [Nat.min_eq_left q]
    by_cases q2 : l ≤ xs.length
    · rw [Nat.min_eq_left q2]
      congr 1
      omega
    · rw [Nat.min_eq_right (by omega), List.take_of_length_le (by rw [List.length_drop]; omega), List.take_of_length_le (by rw [List.length_drop]; omega)]
  · rw [Nat.min_eq_right (by omega), List.drop_eq_nil_of_le (by omega), List.drop_eq_nil_of_le (by omega), List.take_nil, List.take_nil]
section
variable {p2 : Pos} (ha : PE X a (tG T W ga)) (hb : PE X b (tG T W gb))
include ha hb
theorem pf_slTo : PE X (.Subscript a (.Slice none (some b) none p2) pos) (tF T W (.slTo ga gb)) := (pe_slice sl_list ha po_none (po_some hb)).imp fun σ H Q ⟨B, Γ, hs, p⟩ =>
  tG_mono (g_bindF hs p) fun x H1 ⟨d, B1, st, hs1, rx, p1⟩ => tG_mono (g_bindF hs1 p1) fun y H2 ⟨e, B2, st2, hs2, ry, p2⟩ => by
    cases d with
    | list ds =>
      cases e with
      | int j =>
        by_cases h : decide (0 ≤ j) = true
        · simp only [h, if_true] at p2
          cases rx with
          | lst h1 h2 => exact ⟨j, rp_int ry, _, _, rfl, .inl (rd_mono hs2.ex (rd_mono st2.b h1)), fun q hq => by
              rw [cut_to (of_decide_eq_true h)]
              exact p2.new hs2.ex hq ((h2.mono st2.b).take _)⟩
        · simp only [h] at p2
          exact False.elim p2
      | _ => exact False.elim p2
    | _ => exact False.elim p2
theorem pf_slFrom : PE X (.Subscript a (.Slice (some b) none none p2) pos) (tF T W (.slFrom ga gb)) := (pe_slice sl_list ha (po_some hb) po_none).imp fun σ H Q ⟨B, Γ, hs, p⟩ =>
  tG_mono (g_bindF hs p) fun x H1 ⟨d, B1, st, hs1, rx, p1⟩ => tG_mono (g_bindF hs1 p1) fun y H2 ⟨e, B2, st2, hs2, ry, p2⟩ => by
    cases d with
    | list ds =>
      cases e with
      | int j =>
        by_cases h : decide (0 ≤ j) = true
        · simp only [h, if_true] at p2
          cases rx with
          | lst h1 h2 => exact ⟨j, rp_int ry, _, _, rfl, .inl (rd_mono hs2.ex (rd_mono st2.b h1)), fun q hq => by
              rw [cut_from (of_decide_eq_true h)]
              exact p2.new hs2.ex hq ((h2.mono st2.b).drop _)⟩
        · simp only [h] at p2
          exact False.elim p2
      | _ => exact False.elim p2
    | _ => exact False.elim p2
theorem pf_slBoth (hc : PE X c (tG T W gc)) : PE X (.Subscript a (.Slice (some b) (some c) none p2) pos) (tF T W (.slBoth ga gb gc)) := (pe_slice sl_list ha (po_some hb) (po_some hc)).imp fun σ H Q ⟨B, Γ, hs, p⟩ =>
  tG_mono (g_bindF hs p) fun x H1 ⟨d, B1, st, hs1, rx, p1⟩ => tG_mono (g_bindF hs1 p1) fun y H2 ⟨e, B2, st2, hs2, ry, p2⟩ => by
    cases e with
    | int i =>
      refine ⟨i, rp_int ry, tG_mono (g_bindF hs2 p2) fun z H3 ⟨e3, B3, st3, hs3, rz, p3⟩ => ?_⟩
      cases d with
      | list ds =>
        cases e3 with
        | int j =>
          by_cases h : (decide (0 ≤ i) && decide (i ≤ j)) = true
          · simp only [h, if_true] at p3
            rw [Bool.and_eq_true] at h
            cases rx with
            | lst h1 h2 => exact ⟨j, rp_int rz, _, _, rfl, .inl (rd_mono hs3.ex (rd_mono st3.b (rd_mono st2.b h1))), fun q hq => by
                rw [cut_both (of_decide_eq_true h.1) (of_decide_eq_true h.2)]
                exact p3.new hs3.ex hq ((((h2.mono st2.b).mono st3.b).drop _).take _)⟩
          · simp only [h] at p3
            exact False.elim p3
        | _ => exact False.elim p3
      | _ => exact False.elim p3
    | _ => exact False.elim p2
end

/-! ### list + list, [v] * n, list(..), sorted(..) -/
theorem rd_obj {pins : List (Addr × Obj)} {s : Shared} {q : Addr} {xs : List V} (I : Inv X pins σ H s) (h : Rd H q (.lst xs)) : xs.length ≤ sizeLine ∧ ∃ (us : List Value) (k : Nat), Vals xs us ∧ s.heap.get? q = some { cls := .type "list", data := .seq us.toArray k } := by
  obtain ⟨z, us, k, rv, g⟩ := h.ok I.hok
  exact ⟨z, us, k, rv, g⟩
def rCatR : R2 := fun x y H Q => ∃ l b xs zs, x = .ref l ∧ y = .ref b ∧ Rd H l (.lst xs) ∧ Rd H b (.lst zs) ∧ xs.length + zs.length ≤ sizeLine ∧ ∀ p, H p = none → Q (.ref p) (upd H p (.lst (xs ++ zs)))
theorem op_catR : OpR X (binaryOp .Add) rCatR := by
  intro pins s σ H x y v u Q I rx ry h
  obtain ⟨l, b, xs, zs, ex, ey, h1, h2, hz, q⟩ := h
  subst ex ey
  cases rx; cases ry
  obtain ⟨_, us, k, r1, g1⟩ := rd_obj I h1
  obtain ⟨_, ws, m, r2, g2⟩ := rd_obj I h2
  have l1 := r1.length
  have l2 := r2.length
  have cap : us.toArray.size + ws.toArray.size ≤ sizeLine := by
    simp only [List.size_toArray]
    omega
  have both : us.toArray ++ ws.toArray = (us ++ ws).toArray := List.append_toArray us ws
  refine PySem.P.add_list g1 g2 ?_ cap
  rw [both]
  refine ⟨.ref _, _, ?_, rfl, q _ (I.hok.fresh (Nat.le_refl _))⟩
  exact I.lnew (t' := s.toks) (r1.append r2) (by
    rw [List.length_append]
    exact hz)
theorem pf_cat (ha : PE X a (tG T W ga)) (hb : PE X b (tG T W gb)) : PE X (.BinOp a .Add b pos) (tF T W (.cat ga gb)) := (pe_op op_catR ha hb).imp fun σ H Q ⟨B, Γ, hs, p⟩ =>
  tG_mono (g_bindF hs p) fun x H1 ⟨d, B1, st, hs1, rx, p1⟩ => tG_mono (g_bindF hs1 p1) fun y H2 ⟨e, B2, st2, hs2, ry, p2⟩ => by
    cases d with
    | list ds =>
      cases e with
      | list es =>
        obtain ⟨hz, p3⟩ := size_ifF p2
        cases rx with
        | lst h1 h2 =>
          cases ry with
          | lst h3 h4 => exact ⟨_, _, _, _, rfl, rfl, rd_mono hs2.ex (rd_mono st2.b h1), rd_mono hs2.ex h3, by rw [h2.len, h4.len]; exact hz, fun q hq => p3.new hs2.ex hq ((h2.mono st2.b).app h4)⟩
      | _ => exact False.elim p2
    | _ => exact False.elim p2
theorem rep_one {α : Type} (k : Nat) (x : α) : (List.replicate k [x]).flatten = List.replicate k x := by
  induction k with
  | zero => rfl
  | succ k ih => rw [List.replicate_succ, List.flatten_cons, ih]; rfl
theorem RpA.replicate {v : V} {d : D} (h : Rp B v d) : ∀ k : Nat, RpA B (List.replicate k v) (List.replicate k d)
  | 0 => .nil
  | k + 1 => .cons h (RpA.replicate h k)
theorem pf_rep {p1 : Pos} (ha : PE X a (tG T W ga)) (hb : PE X b (tG T W gb)) (he : starEach [a] X.env = (false, eval a X.env) :: starEach [] X.env := by rfl) : PE X (.BinOp (.List [a] p1) .Mult b pos) (tF T W (.rep ga gb)) := (pe_op op_rep (pe_lst (pa_cons ha pa_nil he)) hb).imp fun σ H Q ⟨B, Γ, hs, p⟩ =>
  tG_mono (g_bindF hs p) fun x H1 ⟨d, B1, st, hs1, rx, p1⟩ => ⟨by show 1 ≤ sizeLine; rw [sizeLine_eq]; omega, fun l hl => by
    have hsl : Se B1 Γ σ (upd H1 l (.lst [x])) := hs1.step (.new hs1.ex hl)
    refine tG_mono (g_bindF hsl (p1.step (.new hs1.ex hl))) fun y H2 ⟨e, B2, st2, hs2, ry, p2⟩ => ?_
    cases e with
    | int k =>
      unfold repOk at p2
      by_cases h : (decide (0 ≤ k) && sizeOk k.toNat) = true
      · simp only [h, if_true] at p2
        simp only [Bool.and_eq_true, decide_eq_true_eq] at h
        obtain ⟨k0, k2⟩ := h
        have k1 : k < 2 ^ 63 := by
          have := sizeOk_le k2
          rw [sizeLine_eq] at this
          omega
        refine ⟨l, k, [x], rfl, rp_int ry, st2.h _ _ upd_same, by omega, k1, by rw [List.length_singleton, Nat.one_mul]; exact sizeOk_le k2, fun q hq => ?_⟩
        rw [rep_one]
        exact p2.new hs2.ex hq (RpA.replicate (rx.mono st2.b) _)
      · simp only [h] at p2
        exact False.elim p2
    | _ => exact False.elim p2⟩
theorem pf_lof (bi : Bi X.mg) (ha : PE X a (tG T W ga)) (hg : Gl X "list" := by rfl) (he : starEach [a] X.env = (false, eval a X.env) :: starEach [] X.env := by rfl) : PE X (.Call (.Name "list" p) [a] [] pos) (tF T W (.lof ga)) :=
  (pe_callTy call_list_of hg bi.list (by decide +kernel) (pa_cons ha pa_nil he) (by decide) (by decide) he rfl).imp fun σ H Q ⟨B, Γ, hs, p⟩ =>
    tG_mono (g_bindF hs p) fun x H1 ⟨d, B1, st, hs1, rx, p1⟩ => by
      cases e : seqD d with
      | none => simp only [e] at p1; exact False.elim p1
      | some ds =>
        simp only [e] at p1
        obtain ⟨q, xs, rfl, h1, h2⟩ := seqD_rp e rx
        exact ⟨q, xs, rfl, sq_of hs1.ex h1, fun l hl => p1.new hs1.ex hl h2⟩
/-- what a value of pairs stands for, in the heap -/
def keyV (H : Hp) : V → Int × Int
  | .ref t => match H t with
    | some (.tup [.int i, .int j]) => (i, j)
    | _ => (0, 0)
  | _ => (0, 0)
theorem rp_pair {v : V} {q : Int × Int} (ex : Ex B H) (h : Rp B v (eP q)) : (∃ t, v = .ref t ∧ H t = some (.tup [.int q.1, .int q.2])) ∧ keyV H v = q := by
  cases h with
  | tup h1 h2 =>
    cases h2 with
    | cons a r =>
      cases r with
      | cons c r =>
        cases r
        cases a
        cases c
        refine ⟨⟨_, rfl, ex _ _ h1⟩, ?_⟩
        unfold keyV
        simp only [ex _ _ h1]
theorem keys_of {xs : List V} : ∀ {ps : List (Int × Int)}, Ex B H → RpA B xs (ps.map eP) → xs.map (keyV H) = ps := by
  intro ps
  induction ps generalizing xs with
  | nil => intro ex h; cases h; rfl
  | cons q r ih =>
    intro ex h
    cases h with
    | cons a c => rw [List.map_cons, (rp_pair ex a).2, ih ex c]
theorem rpA_mem {xs : List V} {ds : List D} (h : RpA B xs ds) {x : V} (m : x ∈ xs) : ∃ d, d ∈ ds ∧ Rp B x d := by
  obtain ⟨i, hi⟩ := List.mem_iff_getElem?.mp m
  obtain ⟨d, h1, h2⟩ := h.getV hi
  exact ⟨d, List.mem_of_getElem? h1, h2⟩
theorem rpA_of_keys {xs : List V} (h : ∀ x ∈ xs, Rp B x (eP (keyV H x))) : RpA B xs ((xs.map (keyV H)).map eP) := by
  induction xs with
  | nil => exact .nil
  | cons x r ih => exact .cons (h x List.mem_cons_self) (ih fun y hy => h y (List.mem_cons_of_mem _ hy))
theorem pf_srt (bi : Bi X.mg) (ha : PE X a (tG T W ga)) (hg : Gl X "sorted" := by rfl) (he : starEach [a] X.env = (false, eval a X.env) :: starEach [] X.env := by rfl) : PE X (.Call (.Name "sorted" p) [a] [] pos) (tF T W (.srt ga)) :=
  (pe_callB cr_sortedPO hg bi.sorted (by decide +kernel) (pa_cons ha pa_nil he) (by decide) (by decide) he rfl).imp fun σ H Q ⟨B, Γ, hs, p⟩ =>
    tG_mono (g_bindF hs p) fun x H1 ⟨d, B1, st, hs1, rx, p1⟩ => by
      cases d with
      | list ds =>
        cases e : decP ds with
        | none => simp only [e] at p1; exact False.elim p1
        | some ps =>
          simp only [e] at p1
          have hd := decP_sound e
          subst hd
          cases rx with
          | @lst q xs _ h1 h2 =>
            have hx : ∀ x ∈ xs, Rp B1 x (eP (keyV H1 x)) ∧ ∃ t, x = V.ref t ∧ H1 t = some (.tup [.int (keyV H1 x).1, .int (keyV H1 x).2]) := fun x hm => by
              obtain ⟨d, hd, r⟩ := rpA_mem h2 hm
              obtain ⟨z, _, rfl⟩ := List.mem_map.mp hd
              obtain ⟨k1, k2⟩ := rp_pair hs1.ex r
              rw [k2]
              exact ⟨r, k1⟩
            refine ⟨q, xs, keyV H1, rfl, .inl (rd_mono hs1.ex h1), fun x hm => (hx x hm).2, fun ys l hsrt hstb hl => ?_⟩
            have e1 : ys.map (keyV H1) = pSort ps := by
              refine pSort_uniq ?_ ?_
              · rw [List.pairwise_map]
                refine hsrt.imp fun {u v} h => ?_
                have h' := SrtO.lexB_no.mp h
                rw [pR, pLe_iff]
                omega
              · rw [← keys_of hs1.ex h2]
                exact hstb.perm.map _
            rw [← e1] at p1
            exact p1.new hs1.ex hl (rpA_of_keys fun y hy => (hx y (hstb.perm.mem_iff.mp hy)).1)
      | _ => exact False.elim p1
theorem px_cnt (ha : PE X a (tG T W ga)) (hb : PE X b (tG T W gb)) {ap : Pos} (hm : PE X (.Call (.Attribute a "count" ap) [b] [] pos) (tBM X.K "list" (rCntI X.K) (tG T W ga) (tCons (tG T W gb) tNil))) : PE X (.Call (.Attribute a "count" ap) [b] [] pos) (tG T W (.cnt ga gb)) := hm.imp fun σ H Q ⟨B, Γ, hs, p⟩ =>
  tG_mono (g_bind hs p) fun x H1 ⟨d, B1, st, hs1, rx, p1⟩ => by
    cases d with
    | list ds =>
      cases rx with
      | lst h1 h2 =>
        refine ⟨.inl ⟨rfl, _, .inl (rd_mono hs1.ex h1)⟩, tG_mono (g_bind hs1 p1) fun y H2 ⟨e, B2, st2, hs2, ry, p2⟩ => ?_⟩
        obtain ⟨ns, k, e1, rfl, q⟩ := cnt_inv p2
        cases e1
        have e2 := h2.ints
        subst e2
        exact ⟨_, ns, k, rfl, by rw [rp_int ry], .inl (rd_mono hs2.ex (rd_mono st2.b h1)), q.here (d := .int _) hs2.ex (.int _)⟩
    | _ => exact False.elim p1
end
end TD

/-! TD8: what is walked, comprehensions. -/
namespace TD
open PySem PySem.Spec PyProof.Rows L2

def setV (σ : L2.St) : List Nat → List V → L2.St
  | t :: ts, v :: vs => setV (σ.set t (some v)) ts vs
  | _, _ => σ
theorem Se.setTs {B H : Hp} : ∀ {ts : List Nat} {Γ : TD.Env} {σ : L2.St} {vs : List V} {ds : List D}, Se B Γ σ H → RpA B vs ds → Se B (setTs Γ ts ds) (setV σ ts vs) H
  | [], _, _, _, _, h, r => by cases r <;> exact h
  | t :: ts, Γ, σ, _, _, h, .nil => h
  | t :: ts, Γ, σ, v :: vs, d :: ds, h, .cons a r => Se.setTs (ts := ts) (h.put t (some (.fz d)) (some v) fun s e => by cases e; exact ⟨v, rfl, a⟩) r
theorem wipe_set {σ : L2.St} {t : Nat} {x : Option V} : ∀ {ts : List Nat}, t ∈ ts → L2.wipe (σ.set t x) ts = L2.wipe σ ts
  | u :: ts, h => by
    show (L2.wipe (σ.set t x) ts).set u none = (L2.wipe σ ts).set u none
    by_cases q : t ∈ ts
    · rw [wipe_set q]
    · have e : t = u := (List.mem_cons.mp h).resolve_right q
      subst e
      have push : ∀ us : List Nat, t ∉ us → L2.wipe (σ.set t x) us = (L2.wipe σ us).set t x := by
        intro us
        induction us with
        | nil => intro _; rfl
        | cons v us ih =>
          intro hv
          show (L2.wipe (σ.set t x) us).set v none = ((L2.wipe σ us).set v none).set t x
          rw [ih fun z => hv (List.mem_cons_of_mem _ z), List.set_comm _ _ fun z => hv (by subst z; exact List.mem_cons_self)]
      rw [push ts q, List.set_set]
theorem wipe_setV : ∀ {us : List Nat} {σ : L2.St} {vs : List V} {ts : List Nat}, (∀ u ∈ us, u ∈ ts) → L2.wipe (setV σ us vs) ts = L2.wipe σ ts
  | [], _, _, _, _ => rfl
  | _ :: _, _, [], _, _ => rfl
  | u :: us, σ, v :: vs, ts, h => by
    show L2.wipe (setV (σ.set u (some v)) us vs) ts = _
    rw [wipe_setV fun w hw => h w (List.mem_cons_of_mem _ hw), wipe_set (h u List.mem_cons_self)]
theorem wipe_wipe {σ : L2.St} {ts : List Nat} : ∀ {us : List Nat}, (∀ u ∈ us, u ∈ ts) → L2.wipe (L2.wipe σ us) ts = L2.wipe σ ts
  | [], _ => rfl
  | u :: us, h => by
    show L2.wipe ((L2.wipe σ us).set u none) ts = _
    rw [wipe_set (h u List.mem_cons_self), wipe_wipe fun w hw => h w (List.mem_cons_of_mem _ hw)]

/-- a walk that gives these items to these places -/
structure Itm (J : It) (items : List (List D)) (g : TG) (ts : List Nat) (B1 : Hp) : Prop where
  go : ∀ (i : Nat) (B H : Hp), Ex B1 B → Ex B H → i < items.length → J.go i H
  stop : ∀ (i : Nat) (B H : Hp), Ex B1 B → Ex B H → items.length ≤ i → J.stop i H
  yld : ∀ (i : Nat) (it : List D) (B H : Hp) (x : V) (H' : Hp), Ex B1 B → Ex B H → items[i]? = some it → J.yld i H x H' → ∃ B', Sp' B H B' H' ∧ ∀ (σ : L2.St) (Qt : L2.St → Hp → Prop), (∀ vs, RpA B' vs it → Qt (setV σ ts vs) H') → g x σ H' Qt
section
variable (T : Tb) (W : WX) (σ : L2.St) (B H : Hp)
def PostI (g : TG) (ts : List Nat) : Rs (List (List D)) → (It → Hp → Prop) → Prop
  | .ok items, R => ∀ J B1 H1, Sp' B H B1 H1 → Itm J items g ts B1 → R J H1
  | .err x, _ => PErr T W σ B H x
  | .bad, _ => False
end
def tI (T : Tb) (W : WX) (gi : GI) (g : TG) (ts : List Nat) : TI := fun σ H R => ∃ B Γ, Se B Γ σ H ∧ PostI T W σ B H g ts (evI T Γ gi) R
section
variable {X : Cx} {T : Tb} {W : WX} {a b c e tg : Expr} {es : List Expr} {ga gb gc : GE} {ges : GEs} {pos p : Pos} {σ : L2.St} {B H B1 H1 : Hp} {Γ : TD.Env} {Q : VK} {g : TG} {ts : List Nat}
theorem PostI.step {r : Rs (List (List D))} {R : It → Hp → Prop} (h : PostI T W σ B H g ts r R) (s : Sp' B H B1 H1) : PostI T W σ B1 H1 g ts r R := by
  cases r with
  | ok d => exact fun J B2 H2 t m => h J B2 H2 (s.trans t) m
  | err x => exact PErr.step h s
  | bad => exact h
theorem g_bindT {g' : GE} {f : D → Rs (List (List D))} {R : It → Hp → Prop} (hs : Se B Γ σ H) (p : PostI T W σ B H g ts ((ev T Γ g').bind f) R) :
    tG T W g' σ H fun v H1 => ∃ d B1, Sp' B H B1 H1 ∧ Se B1 Γ σ H1 ∧ Rp B1 v d ∧ PostI T W σ B1 H1 g ts (f d) R := by
  refine ⟨B, Γ, hs, ?_⟩
  cases e : ev T Γ g' with
  | ok d => rw [e] at p; exact fun v B1 H1 s r => ⟨d, B1, s, hs.step s, r, p.step s⟩
  | err x => rw [e] at p; exact p
  | bad => rw [e] at p; exact p
/-! ### the walks -/
theorem itm_list {K : PySem.W.Frag} {q : Addr} {xs : List V} {ds : List D} {t : Nat} (h : Rd B q (.lst xs)) (r : RpA B xs ds) : Itm (Itl K q) (ds.map fun d => [d]) (gName t) [t] B where
  go := fun i B2 H2 e1 e2 hi => by
    rw [List.length_map, ← r.len] at hi
    exact ⟨xs, xs[i], .inl (rd_mono e2 (rd_mono e1 h)), by simp [hi]⟩
  stop := fun i B2 H2 e1 e2 hi => ⟨xs, .inl (rd_mono e2 (rd_mono e1 h)), by rw [List.length_map, ← r.len] at hi; exact hi⟩
  yld := fun i it B2 H2 x H' e1 e2 hi y => by
    obtain ⟨rfl, y⟩ := y
    rw [List.getElem?_map] at hi
    cases z : ds[i]? with
    | none => rw [z] at hi; cases hi
    | some d =>
      rw [z] at hi
      cases hi
      obtain ⟨v, hv, rv⟩ := r.get z
      have hx : xs[i]? = some x := y xs (.inl (rd_mono e2 (rd_mono e1 h)))
      rw [hv] at hx
      cases hx
      exact ⟨B2, .refl e2, fun σ Qt k => k [_] (.one (rv.mono e1))⟩
theorem pix_list {t : Nat} (ha : PE X a (tG T W ga)) : PI X tg a (tI T W (.il ga) (gName t) [t]) := by
  refine ⟨fun pins s σ H R I h => (pi_list (X := X) (tg := tg) ha).run pins s σ H R I ?_⟩
  obtain ⟨B, Γ, hs, p⟩ := h
  refine tG_mono (g_bindT hs p) fun x H1 ⟨d, B1, st, hs1, rx, p1⟩ => ?_
  cases d with
  | list ds =>
    cases rx with
    | lst h1 h2 => exact ⟨_, rfl, ⟨_, .inl (rd_mono hs1.ex h1)⟩, p1 _ B1 H1 (.refl hs1.ex) (itm_list h1 h2)⟩
  | _ => exact False.elim p1
theorem itm_range {lo : Int} {n t : Nat} : Itm (Itr lo n) ((List.range n).map fun i => [PyData.int (lo + (i : Nat))]) (gName t) [t] B where
  go := fun i B2 H2 e1 e2 hi => by rw [List.length_map, List.length_range] at hi; exact hi
  stop := fun i B2 H2 e1 e2 hi => by rw [List.length_map, List.length_range] at hi; exact hi
  yld := fun i it B2 H2 x H' e1 e2 hi y => by
    obtain ⟨rfl, rfl⟩ := y
    rw [List.getElem?_map] at hi
    by_cases q : i < n
    · rw [List.getElem?_range q] at hi
      cases hi
      exact ⟨B2, .refl e2, fun σ Qt k => k [_] (.one (.int _))⟩
    · rw [List.getElem?_eq_none (by rw [List.length_range]; omega)] at hi
      cases hi
theorem rngOk_iff {i : Int} (h : rngOk i = true) : -(2 ^ 62) ≤ i ∧ i < 2 ^ 62 := by
  unfold rngOk at h
  have h := of_decide_eq_true h
  omega
theorem pix_range1 {t : Nat} (bi : Bi X.mg) (ha : PE X a (tG T W ga)) (hg : Gl X "range" := by rfl) (he : starEach [a] X.env = (false, eval a X.env) :: starEach [] X.env := by rfl) : PI X tg (.Call (.Name "range" p) [a] [] pos) (tI T W (.i1 ga) (gName t) [t]) := by
  refine ⟨fun pins s σ H R I h => (pi_range1 (X := X) (tg := tg) hg bi.range (pa_cons ha pa_nil he) he).run pins s σ H R I ?_⟩
  obtain ⟨B, Γ, hs, p⟩ := h
  refine tG_mono (g_bindT hs p) fun x H1 ⟨d, B1, st, hs1, rx, p1⟩ => ?_
  cases d with
  | int n =>
    by_cases q : rngOk n = true
    · simp only [q, if_true] at p1
      obtain ⟨q1, q2⟩ := rngOk_iff q
      refine ⟨n, by rw [rp_int rx], q1, q2, p1 _ B1 H1 (.refl hs1.ex) ?_⟩
      have e1 : (n - 0).toNat = n.toNat := by rw [Int.sub_zero]
      unfold rngL
      rw [e1]
      exact itm_range
    · simp only [q] at p1
      exact False.elim p1
  | _ => exact False.elim p1
theorem pix_range2 {t : Nat} (bi : Bi X.mg) (ha : PE X a (tG T W ga)) (hb : PE X b (tG T W gb)) (hg : Gl X "range" := by rfl) (he : starEach [a, b] X.env = [(false, eval a X.env), (false, eval b X.env)] := by rfl) (he1 : starEach [a, b] X.env = (false, eval a X.env) :: starEach [b] X.env := by rfl) (he2 : starEach [b] X.env = [(false, eval b X.env)] := by rfl)
    (he3 : starEach [b] X.env = (false, eval b X.env) :: starEach [] X.env := by rfl) : PI X tg (.Call (.Name "range" p) [a, b] [] pos) (tI T W (.i2 ga gb) (gName t) [t]) := by
  refine ⟨fun pins s σ H R I h => (pi_range2 (X := X) (tg := tg) hg bi.range (pa_cons ha (pa_cons hb pa_nil he3) he1) he he2).run pins s σ H R I ?_⟩
  obtain ⟨B, Γ, hs, p⟩ := h
  refine tG_mono (g_bindT hs p) fun x H1 ⟨d, B1, st, hs1, rx, p1⟩ => tG_mono (g_bindT hs1 p1) fun y H2 ⟨e, B2, st2, hs2, ry, p2⟩ => ?_
  cases d with
  | int lo =>
    cases e with
    | int hi =>
      by_cases q : (rngOk lo && rngOk hi) = true
      · simp only [q, if_true] at p2
        rw [Bool.and_eq_true] at q
        obtain ⟨q1, q2⟩ := rngOk_iff q.1
        obtain ⟨q3, q4⟩ := rngOk_iff q.2
        exact ⟨lo, hi, by rw [rp_int rx, rp_int ry], ⟨q1, q2, q3, q4⟩, p2 _ B2 H2 (.refl hs2.ex) itm_range⟩
      · simp only [q] at p2
        exact False.elim p2
    | _ => exact False.elim p2
  | _ => cases e <;> exact False.elim p2
theorem itm_down {hi : Int} {n t : Nat} : Itm (Itc hi (-1) n) ((List.range n).map fun i => [PyData.int (hi - (i : Nat))]) (gName t) [t] B where
  go := fun i B2 H2 e1 e2 hi => by rw [List.length_map, List.length_range] at hi; exact hi
  stop := fun i B2 H2 e1 e2 hi => by rw [List.length_map, List.length_range] at hi; exact hi
  yld := fun i it B2 H2 x H' e1 e2 hi y => by
    obtain ⟨rfl, rfl⟩ := y
    rw [List.getElem?_map] at hi
    by_cases q : i < n
    · rw [List.getElem?_range q] at hi
      cases hi
      refine ⟨B2, .refl e2, fun σ Qt k => ?_⟩
      have e3 : ∀ j : Int, j + ((i : Nat) : Int) * -1 = j - ((i : Nat) : Int) := fun j => by omega
      rw [e3]
      exact k [_] (.one (.int _))
    · rw [List.getElem?_eq_none (by rw [List.length_range]; omega)] at hi
      cases hi
/-- range(a, 0, -1) -/
theorem pix_down {t : Nat} {k1 k2 : Nat} {p1 p2 p3 : Pos} (bi : Bi X.mg) (ha : PE X a (tG T W ga)) (hg : Gl X "range" := by rfl)
    (he : starEach [a, .Constant (.int 0) k1 p1, .UnaryOp .USub (.Constant (.int 1) k2 p2) p3] X.env = (false, eval a X.env) :: starEach [.Constant (.int 0) k1 p1, .UnaryOp .USub (.Constant (.int 1) k2 p2) p3] X.env := by rfl) :
    PI X tg (.Call (.Name "range" p) [a, .Constant (.int 0) k1 p1, .UnaryOp .USub (.Constant (.int 1) k2 p2) p3] [] pos) (tI T W (.idn ga) (gName t) [t]) := by
  refine ⟨fun pins s σ H R I h => (pi_range3 (X := X) (tg := tg) hg bi.range (pa_cons ha (pa_cons pe_int (pa_cons (pe_un un_neg pe_int) pa_nil)) he) he).run pins s σ H R I ?_⟩
  obtain ⟨B, Γ, hs, p⟩ := h
  refine tG_mono (g_bindT hs p) fun x H1 ⟨d, B1, st, hs1, rx, p1⟩ => ?_
  cases d with
  | int n =>
    by_cases q : rngOk n = true
    · simp only [q, if_true] at p1
      obtain ⟨q1, q2⟩ := rngOk_iff q
      refine ⟨1, rfl, n, 0, -1, n.toNat, by rw [rp_int rx], ?_, p1 _ B1 H1 (.refl hs1.ex) itm_down⟩
      have := RgC.neg (i := n) (j := 0) q1 q2 (by decide) (by decide)
      rw [Int.sub_zero] at this
      exact this
    · simp only [q] at p1
      exact False.elim p1
  | _ => exact False.elim p1
theorem zip_get {xs ys : List V} {ds es : List D} {i : Nat} {it : List D} (r : RpA B xs ds) (r2 : RpA B ys es) (h : (zipL ds es)[i]? = some it) : ∃ d e, it = [d, e] ∧ (∃ v, xs[i]? = some v ∧ Rp B v d) ∧ ∃ w, ys[i]? = some w ∧ Rp B w e := by
  unfold zipL at h
  rw [List.getElem?_map] at h
  cases z : (ds.zip es)[i]? with
  | none => rw [z] at h; cases h
  | some q =>
    rw [z] at h
    cases h
    obtain ⟨h1, h2⟩ := List.getElem?_zip_eq_some.mp z
    exact ⟨q.1, q.2, rfl, r.get h1, r2.get h2⟩
abbrev gTwo (K : PySem.W.Frag) (t1 t2 : Nat) : TG := gTup K 2 (gCons (gName t1) (gCons (gName t2) gNil))
theorem gTwo_go {K : PySem.W.Frag} {t1 t2 : Nat} {q : Addr} {x y : V} {d e : D} (hq : H q = some (.tup [x, y])) (rx : Rp B x d) (ry : Rp B y e) (σ : L2.St) (Qt : L2.St → Hp → Prop) (k : ∀ vs, RpA B vs [d, e] → Qt (setV σ [t1, t2] vs) H) : gTwo K t1 t2 (.ref q) σ H Qt :=
  ⟨q, [x, y], rfl, .inl (.inl hq), rfl, x, [y], rfl, y, [], rfl, rfl, k [x, y] (.cons rx (.one ry))⟩
theorem itm_zip {K : PySem.W.Frag} {q q2 : Addr} {xs ys : List V} {ds es : List D} {t1 t2 : Nat} (h : Rd B q (.lst xs)) (r : RpA B xs ds) (h2 : Rd B q2 (.lst ys)) (r2 : RpA B ys es) : Itm (Itz K q q2) (zipL ds es) (gTwo K t1 t2) [t1, t2] B where
  go := fun i B2 H2 e1 e2 hi => by
    unfold zipL at hi
    rw [List.length_map, List.length_zip, ← r.len, ← r2.len] at hi
    exact ⟨xs, ys, xs[i], ys[i], .inl (rd_mono e2 (rd_mono e1 h)), .inl (rd_mono e2 (rd_mono e1 h2)), by simp, by simp⟩
  stop := fun i B2 H2 e1 e2 hi => by
    unfold zipL at hi
    rw [List.length_map, List.length_zip, ← r.len, ← r2.len] at hi
    exact ⟨xs, ys, .inl (rd_mono e2 (rd_mono e1 h)), .inl (rd_mono e2 (rd_mono e1 h2)), by omega⟩
  yld := fun i it B2 H2 x H' e1 e2 hi y => by
    obtain ⟨t, x1, x2, rfl, nt, rfl, f1, f2⟩ := y
    obtain ⟨d, e, rfl, ⟨v, hv, rv⟩, w, hw, rw'⟩ := zip_get r r2 hi
    have a1 : xs[i]? = some x1 := f1 xs (.inl (rd_mono e2 (rd_mono e1 h)))
    have a2 : ys[i]? = some x2 := f2 ys (.inl (rd_mono e2 (rd_mono e1 h2)))
    rw [hv] at a1
    rw [hw] at a2
    cases a1
    cases a2
    exact ⟨B2, .new e2 nt, fun σ Qt k => gTwo_go upd_same (rv.mono e1) (rw'.mono e1) σ Qt k⟩
theorem pix_zip {t1 t2 : Nat} {els : List Expr} {k : Nat} {tp : Pos} (bi : Bi X.mg) (ha : PE X a (tG T W ga)) (hb : PE X b (tG T W gb)) (hg : Gl X "zip" := by rfl) (he : starEach [a, b] X.env = (false, eval a X.env) :: starEach [b] X.env := by rfl) (hpl : (backTo pos (starEach [b] X.env)).any (·.1) = false := by rfl)
    (he3 : starEach [b] X.env = (false, eval b X.env) :: starEach [] X.env := by rfl) : PI X (.Tuple els k tp) (.Call (.Name "zip" p) [a, b] [] pos) (tI T W (.iz ga gb) (gTwo X.K t1 t2) [t1, t2]) := by
  refine ⟨fun pins s σ H R I h => (pi_zip (X := X) hg bi.zip (pa_cons ha (pa_cons hb pa_nil he3) he) he hpl).run pins s σ H R I ?_⟩
  obtain ⟨B, Γ, hs, p⟩ := h
  refine tG_mono (g_bindT hs p) fun x H1 ⟨d, B1, st, hs1, rx, p1⟩ => tG_mono (g_bindT hs1 p1) fun y H2 ⟨e, B2, st2, hs2, ry, p2⟩ => ?_
  cases d with
  | list ds =>
    cases e with
    | list es =>
      cases rx with
      | lst h1 h2 =>
        cases ry with
        | lst h3 h4 =>
          have h1' := rd_mono st2.b h1
          exact ⟨_, _, _, _, rfl, .inl (rd_mono hs2.ex h1'), .inl (rd_mono hs2.ex h3), p2 _ B2 H2 (.refl hs2.ex) (itm_zip h1' (h2.mono st2.b) h3 h4)⟩
    | _ => exact False.elim p2
  | _ => exact False.elim p2
theorem enum_get : ∀ {ds : List D} {k i : Nat}, (enumL k ds)[i]? = (ds[i]?).map fun d => [PyData.int ((k + i : Nat) : Int), d]
  | [], _, _ => by simp [enumL]
  | d :: r, k, 0 => by simp [enumL]
  | d :: r, k, i + 1 => by
    show (enumL (k + 1) r)[i]? = (r[i]?).map _
    rw [enum_get]
    have : k + 1 + i = k + (i + 1) := by omega
    rw [this]
theorem enum_len : ∀ (ds : List D) (k : Nat), (enumL k ds).length = ds.length
  | [], _ => rfl
  | d :: r, k => by
    show (enumL (k + 1) r).length + 1 = r.length + 1
    rw [enum_len]
theorem itm_enum {K : PySem.W.Frag} {q : Addr} {xs : List V} {ds : List D} {t1 t2 : Nat} (h : Rd B q (.lst xs)) (r : RpA B xs ds) : Itm (Ite K q) (enumL 0 ds) (gTwo K t1 t2) [t1, t2] B where
  go := fun i B2 H2 e1 e2 hi => by
    rw [enum_len, ← r.len] at hi
    exact ⟨xs, xs[i], .inl (rd_mono e2 (rd_mono e1 h)), by simp [hi]⟩
  stop := fun i B2 H2 e1 e2 hi => ⟨xs, .inl (rd_mono e2 (rd_mono e1 h)), by rw [enum_len, ← r.len] at hi; exact hi⟩
  yld := fun i it B2 H2 x H' e1 e2 hi y => by
    obtain ⟨t, x1, rfl, nt, rfl, f1⟩ := y
    rw [enum_get] at hi
    cases z : ds[i]? with
    | none => rw [z] at hi; cases hi
    | some d =>
      rw [z] at hi
      cases hi
      obtain ⟨v, hv, rv⟩ := r.get z
      have a1 : xs[i]? = some x1 := f1 xs (.inl (rd_mono e2 (rd_mono e1 h)))
      rw [hv] at a1
      cases a1
      rw [Nat.zero_add]
      exact ⟨B2, .new e2 nt, fun σ Qt k => gTwo_go upd_same (.int _) (rv.mono e1) σ Qt k⟩
theorem pix_enum {t1 t2 : Nat} {els : List Expr} {k : Nat} {tp : Pos} (bi : Bi X.mg) (ha : PE X a (tG T W ga)) (hg : Gl X "enumerate" := by rfl) (he : starEach [a] X.env = (false, eval a X.env) :: starEach [] X.env := by rfl) : PI X (.Tuple els k tp) (.Call (.Name "enumerate" p) [a] [] pos) (tI T W (.ie ga) (gTwo X.K t1 t2) [t1, t2]) := by
  refine ⟨fun pins s σ H R I h => (pi_enum (X := X) hg bi.enumerate (pa_cons ha pa_nil he) he).run pins s σ H R I ?_⟩
  obtain ⟨B, Γ, hs, p⟩ := h
  refine tG_mono (g_bindT hs p) fun x H1 ⟨d, B1, st, hs1, rx, p1⟩ => ?_
  cases d with
  | list ds =>
    cases rx with
    | lst h1 h2 => exact ⟨_, _, rfl, .inl (rd_mono hs1.ex h1), p1 _ B1 H1 (.refl hs1.ex) (itm_enum h1 h2)⟩
  | _ => exact False.elim p1

/-! ### comprehensions -/
abbrev W0 : WX := fun _ _ _ _ => False
theorem lc_go {gi : GI} {f : List D → Rs (Option D)} {tt : TT} {te : TE} {Γ0 : TD.Env} (hs : Se B Γ σ H)
    (hstep : ∀ (b : Hp) (σ2 : L2.St) (H2 : Hp) (it : List D) (o : Option D) (N1 : V → Hp → Prop) (N2 : Hp → Prop), Se b (setTs (wipeE Γ ts) ts it) σ2 H2 → f it = .ok o →
      (∀ d, o = some d → ∀ v b2 H3, Sp' b H2 b2 H3 → Rp b2 v d → N1 v H3) → (o = none → ∀ b2 H3, Sp' b H2 b2 H3 → N2 H3) → tt σ2 H2 fun k H3 => if k = true then te σ2 H3 N1 else N2 H3)
    (p : PostF T W σ B H ((evI T Γ gi).bind fun items => if sizeOk items.length then lcM f items else .bad) Q) : tLc (tI T W gi g ts) g tt te ts σ H Q := by
  refine ⟨B, Γ, hs, ?_⟩
  cases e : evI T Γ gi with
  | err x => rw [e] at p; exact p
  | bad => rw [e] at p; exact p
  | ok items =>
    rw [e] at p
    refine fun J B1 H1 st m D hD => ?_
    obtain ⟨hz, p⟩ := size_ifF p
    cases el : lcM f items with
    | err x =>
      exfalso
      have : ∀ l : List (List PyData), lcM f l ≠ .err x := by
        intro l
        induction l with
        | nil => intro z; cases z
        | cons a r ih =>
          intro z
          unfold lcM at z
          cases q : f a with
          | ok o =>
            rw [q] at z
            cases o with
            | none => exact ih z
            | some d =>
              cases q2 : lcM f r with
              | ok l => simp only [q2] at z; cases z
              | err y => simp only [q2] at z; cases z; exact ih q2
              | bad => simp only [q2] at z; cases z
          | err y => rw [q] at z; cases z
          | bad => rw [q] at z; cases z
      exact this items el
    | bad => rw [el] at p; exact p.elim
    | ok ds =>
      rw [el] at p
      have hsw := hs.step st
      have start : ∃ (b : Hp) (acc : List V) (pre rest : List PyData), Sp' B1 H1 b (upd H1 D (.lst [])) ∧ b D = none ∧ upd H1 D (.lst []) D = some (.lst acc) ∧ RpA b acc pre ∧ lcM f (items.drop 0) = .ok rest ∧ ds = pre ++ rest ∧ pre.length ≤ 0 :=
        ⟨B1, [], [], ds, .new st.bh hD, ex_back st.bh hD, upd_same, .nil, el, rfl, Nat.le_refl _⟩
      refine ⟨fun i m' H' => m' = items.length - i ∧ i ≤ items.length ∧ ∃ (b : Hp) (acc : List V) (pre rest : List PyData), Sp' B1 H1 b H' ∧ b D = none ∧ H' D = some (.lst acc) ∧ RpA b acc pre ∧ lcM f (items.drop i) = .ok rest ∧ ds = pre ++ rest ∧ pre.length ≤ i, ⟨_, rfl, Nat.zero_le _, start⟩, ?_⟩
      rintro i m' H' ⟨rfl, hi, b, acc, pre, rest, s1, bD, hH, hacc, hrest, hds, hpl⟩
      by_cases hlt : i < items.length
      · have hit : items[i]? = some items[i] := List.getElem?_eq_getElem hlt
        rw [List.drop_eq_getElem_cons hlt] at hrest
        refine .inr ⟨m.go i b H' s1.b s1.bh hlt, fun H2 => ∃ (b : Hp) (acc : List V) (pre rest : List PyData), Sp' B1 H1 b H2 ∧ b D = none ∧ H2 D = some (.lst acc) ∧ RpA b acc pre ∧ lcM f (items.drop (i + 1)) = .ok rest ∧ ds = pre ++ rest ∧ pre.length ≤ i + 1,
          fun H2 w => ⟨_, by omega, rfl, hlt, w⟩, fun x H2 y => ?_⟩
        obtain ⟨b', s2, gk⟩ := m.yld i _ b H' x H2 s1.b s1.bh hit y
        refine gk _ _ fun vs rv => ⟨?_, ?_⟩
        · rw [wipe_setV fun u hu => hu, wipe_wipe fun u hu => hu]
        · have se : Se b' (setTs (wipeE Γ ts) ts items[i]) (setV (L2.wipe σ ts) ts vs) H2 := (((hsw.step s1).step s2).wipe ts).setTs rv
          have b'D : b' D = none := s2.own D _ hH (lst_noTup _) bD
          have hH2 := s2.h _ _ hH
          have s12 := s1.trans s2
          have upd_ok : ∀ {b2 H3 : Hp} {acc' : List V}, Sp' b' H2 b2 H3 → b2 D = none ∧ Sp' B1 H1 b2 (upd H3 D (.lst acc')) := fun {b2 H3 acc'} s3 => by
            have b2D : b2 D = none := s3.own D _ hH2 (lst_noTup _) b'D
            have s := s12.trans s3
            refine ⟨b2D, s.b, fun a o ha => ?_, fun a o ha => ?_, s.own⟩
            · rw [upd_ne (ne_of_none ha hD)]
              exact s.h a o ha
            · rw [upd_ne (ne_of_none ha b2D)]
              exact s.bh a o ha
          unfold lcM at hrest
          cases q : f items[i] with
          | err y => rw [q] at hrest; cases hrest
          | bad => rw [q] at hrest; cases hrest
          | ok o =>
            rw [q] at hrest
            refine hstep b' _ H2 _ o _ _ se q (fun d hd v b2 H3 s3 rp => ?_) fun hn b2 H3 s3 => ?_
            · subst hd
              cases q2 : lcM f (items.drop (i + 1)) with
              | err y => simp only [q2] at hrest; cases hrest
              | bad => simp only [q2] at hrest; cases hrest
              | ok l =>
                simp only [q2] at hrest
                cases hrest
                obtain ⟨b2D, sk⟩ := upd_ok (acc' := acc ++ [v]) s3
                refine ⟨acc, s3.h _ _ hH2, ?_, b2, acc ++ [v], pre ++ [d], l, sk, b2D, upd_same, ((hacc.mono s2.b).mono s3.b).app (.one rp), rfl, by rw [hds]; simp, by simp; omega⟩
                rw [hacc.len]
                omega
            · subst hn
              have b2D : b2 D = none := s3.own D _ hH2 (lst_noTup _) b'D
              exact ⟨b2, acc, pre, rest, s12.trans s3, b2D, s3.h _ _ hH2, (hacc.mono s2.b).mono s3.b, hrest, hds, by omega⟩
      · have ei : i = items.length := by omega
        subst ei
        rw [List.drop_length] at hrest
        cases hrest
        rw [List.append_nil] at hds
        subst hds
        exact .inl ⟨m.stop _ b H' s1.b s1.bh (Nat.le_refl _), p D acc b H' (st.trans s1) (ex_back st.h hD) bD hH hacc⟩
section
variable {gi : GI} {iter elt : Expr} {scope : Scope} {own : List (Str × Nat)}
theorem lc_imp {ge : GE} : ∀ σ H Q, tF T W (.lc ts gi ge) σ H Q → tLc (tI T W gi g ts) g tYes (tG T W0 ge) ts σ H Q := fun σ H Q ⟨B, Γ, hs, p⟩ => lc_go (Γ0 := Γ) hs (fun b σ2 H2 it o N1 N2 se hf h1 h2 => by
  refine iteT (B := N2 H2) ⟨b, _, se, ?_⟩
  cases q : ev T (setTs (wipeE Γ ts) ts it) ge with
  | ok d => rw [q] at hf; cases hf; exact fun v b2 H3 s r => h1 d rfl v b2 H3 s r
  | err x => rw [q] at hf; cases hf
  | bad => rw [q] at hf; cases hf) p
theorem lcf_imp {gc ge : GE} : ∀ σ H Q, tF T W (.lcf ts gi gc ge) σ H Q → tLc (tI T W gi g ts) g (tT T W0 gc) (tG T W0 ge) ts σ H Q := fun σ H Q ⟨B, Γ, hs, p⟩ => lc_go (Γ0 := Γ) hs (fun b σ2 H2 it o N1 N2 se hf h1 h2 => by
  refine ⟨b, _, se, ?_⟩
  cases q : ev T (setTs (wipeE Γ ts) ts it) gc with
  | err x => rw [q] at hf; cases hf
  | bad => rw [q] at hf; cases hf
  | ok d =>
    rw [q] at hf
    cases d with
    | bool k =>
      cases k with
      | false => cases hf; exact fun b2 H3 s => iteF (h2 rfl b2 H3 s)
      | true =>
        refine fun b2 H3 s => iteT ⟨b2, _, se.step s, ?_⟩
        have hf' : (ev T (setTs (wipeE Γ ts) ts it) ge).map some = .ok o := hf
        cases q2 : ev T (setTs (wipeE Γ ts) ts it) ge with
        | ok d => rw [q2] at hf'; cases hf'; exact fun v b3 H4 s' r => h1 d rfl v b3 H4 (s.trans s') r
        | err x => rw [q2] at hf'; cases hf'
        | bad => rw [q2] at hf'; cases hf'
    | _ => cases hf) p
theorem pf_lc {ge : GE} (hc : X.calm = true) (hN : X.N.Nodup) (hi : PI X tg iter (tI T W gi g ts)) (ok : BlkOk X.N X.env.scope scope own) (ho : own.map (·.2) = ts)
    (hg : ∀ (s : Shared) (H : Hp) (C : Addr) (cl : List (Str × Addr)) (fp : List Addr), PG (X.blk s H scope (compEnvC scope cl C X.env) fp) tg g)
    (he : ∀ (s : Shared) (H : Hp) (C : Addr) (cl : List (Str × Addr)) (fp : List Addr), PE (X.blk s H scope (compEnvC scope cl C X.env) fp) elt (tG T W0 ge)) (hs : ∀ x, foldedSetIterable iter X.env x = pure x := by intro _; rfl) :
    PE X (.ListComp elt [⟨tg, iter, [], 0⟩] scope pos) (tF T W (.lc ts gi ge)) := by
  subst ho
  exact (pe_lc hc hN hi ok hg (fun _ _ _ _ _ => pts_nil) he hs).imp lc_imp
theorem pf_lcf {c : Expr} {gc ge : GE} (hc : X.calm = true) (hN : X.N.Nodup) (hi : PI X tg iter (tI T W gi g ts)) (ok : BlkOk X.N X.env.scope scope own) (ho : own.map (·.2) = ts)
    (hg : ∀ (s : Shared) (H : Hp) (C : Addr) (cl : List (Str × Addr)) (fp : List Addr), PG (X.blk s H scope (compEnvC scope cl C X.env) fp) tg g)
    (ht : ∀ (s : Shared) (H : Hp) (C : Addr) (cl : List (Str × Addr)) (fp : List Addr), PT (X.blk s H scope (compEnvC scope cl C X.env) fp) c (tT T W0 gc))
    (he : ∀ (s : Shared) (H : Hp) (C : Addr) (cl : List (Str × Addr)) (fp : List Addr), PE (X.blk s H scope (compEnvC scope cl C X.env) fp) elt (tG T W0 ge)) (hs : ∀ x, foldedSetIterable iter X.env x = pure x := by intro _; rfl) :
    PE X (.ListComp elt [⟨tg, iter, [c], 0⟩] scope pos) (tF T W (.lcf ts gi gc ge)) := by
  subst ho
  exact (pe_lc hc hN hi ok hg (fun s H C cl fp => pts_one (ht s H C cl fp)) he hs).imp lcf_imp
end
end
end TD

/-! TD9: what is one's own, made by an expression; statements as data. -/
namespace TD
open PySem PySem.Spec PyProof.Rows L2

mutual
inductive GR where
  | im (e : GE) | f (g : GF) | call (j : Nat) (es : GEs) | lst (rs : GRs) | tup (rs : GRs) | lcL (ts : List Nat) (gi : GI) (g : GF)
inductive GRs where
  | nil | cons (r : GR) (rs : GRs)
end
/-- lists by each of a list, each of them plain -/
def lcLs (f : List D → Rs (List D)) : List (List D) → Rs (List (List D))
  | [] => .ok []
  | a :: r => match f a with
    | .ok l => if immA l then (lcLs f r).map fun ls => l :: ls else .bad
    | _ => .bad
def callR (T : Tb) (j : Nat) (ds : List D) : Rs R :=
  match T.fs[j]? with
  | some φ => (match φ ds with
    | some (.ret r) => .ok r
    | some (.old _) => .bad
    | some (.exc x) => .err x
    | some (.mu _ _ _) => .bad
    | none => .bad)
  | none => .bad
mutual
def evR (T : Tb) (Γ : Env) : GR → Rs R
  | .im e => (ev T (view Γ) e).bind fun d => if imm d then .ok (.im d) else .bad
  | .f g => (evF T (view Γ) g).bind fun ds => if immA ds then .ok (.ol ds) else .bad
  | .call j es => (evs T (view Γ) es).bind (callR T j)
  | .lst rs => (evRs T Γ rs).bind fun l => if sizeOk l.length then .ok (.on l) else .bad
  | .lcL ts gi g => (evI T (view Γ) gi).bind fun items => if sizeOk items.length then (lcLs (fun it => evF T (setTs (wipeE (view Γ) ts) ts it) g) items).map fun ls => .on (ls.map .ol) else .bad
  | .tup rs => (evRs T Γ rs).bind fun l => if sizeOk l.length then .ok (.ot l) else .bad
def evRs (T : Tb) (Γ : Env) : GRs → Rs (List R)
  | .nil => .ok []
  | .cons r rs => (evR T Γ r).bind fun x => (evRs T Γ rs).map fun l => x :: l
end
section
variable (T : Tb) (W : WX) (σ : L2.St) (B H : Hp)
def PostR : Rs R → VK → Prop
  | .ok r, Q => ∀ v f B1 H1, Sp' B H B1 H1 → Or B1 H1 v r f → f.Nodup → (∀ p ∈ f, H p = none) → r.imm = true → Q v H1
  | .err x, _ => PErr T W σ B H x
  | .bad, _ => False
def PostRs : Rs (List R) → (List V → Hp → Prop) → Prop
  | .ok rs, Q => ∀ vs f B1 H1, Sp' B H B1 H1 → OrA B1 H1 vs rs f → f.Nodup → (∀ p ∈ f, H p = none) → R.imms rs = true → Q vs H1
  | .err x, _ => PErr T W σ B H x
  | .bad, _ => False
end
def tR (T : Tb) (W : WX) (g : GR) : TE := fun σ H Q => ∃ H0 B Γ, Sk H0 B Γ σ H ∧ PostR T W σ B H (evR T Γ g) Q
def tRs (T : Tb) (W : WX) (g : GRs) : TA := fun σ H Q => ∃ H0 B Γ, Sk H0 B Γ σ H ∧ PostRs T W σ B H (evRs T Γ g) Q
section
variable {X : Cx} {T : Tb} {W : WX} {a b c e : Expr} {es : List Expr} {ga gb gc : GE} {ges : GEs} {gr : GR} {grs : GRs} {pos p : Pos} {σ : L2.St} {H0 B H B1 H1 : Hp} {Γ : TD.Env} {Q : VK}
theorem PostR.step {r : Rs R} {Q : VK} (h : PostR T W σ B H r Q) (s : Sp' B H B1 H1) : PostR T W σ B1 H1 r Q := by
  cases r with
  | ok d => exact fun v f B2 H2 t o n k i => h v f B2 H2 (s.trans t) o n (fun p hp => ex_back s.h (k p hp)) i
  | err x => exact PErr.step h s
  | bad => exact h
theorem PostRs.step {r : Rs (List R)} {Q : List V → Hp → Prop} (h : PostRs T W σ B H r Q) (s : Sp' B H B1 H1) : PostRs T W σ B1 H1 r Q := by
  cases r with
  | ok d => exact fun v f B2 H2 t o n k i => h v f B2 H2 (s.trans t) o n (fun p hp => ex_back s.h (k p hp)) i
  | err x => exact PErr.step h s
  | bad => exact h
/-- an error seen from the heap as its own base -/
theorem PErr.view {x : Nat} (ex : Ex B H) (h : PErr T W σ B H x) : PErr T W σ H H x := fun B1 H1 s => h B H1 (.grow ex s.h)
theorem px_r (h : PE X e (tG T W ga)) : PE X e (tR T W (.im ga)) := h.imp fun σ H Q ⟨H0, B, Γ, hs, p⟩ => by
  have p' : PostR T W σ B H ((ev T (view Γ) ga).bind fun d => if imm d then .ok (.im d) else .bad) Q := p
  refine ⟨H, _, hs.view, ?_⟩
  cases q : ev T (view Γ) ga with
  | err x => rw [q] at p'; exact PErr.view hs.ex p'
  | bad => rw [q] at p'; exact p'
  | ok d =>
    rw [q] at p'
    have p2 : PostR T W σ B H (if imm d then .ok (.im d) else .bad) Q := p'
    by_cases z : imm d = true
    · rw [if_pos z] at p2
      exact fun v B1 H1 s r => p2 v [] _ H1 (.tups hs.ex s.h) (.im (Rp.imm (ex_trans hs.ex s.h) s.bh d r z)) .nil (fun _ hp => by cases hp) z
    · rw [if_neg z] at p2
      exact p2.elim
theorem px_rf {g : GF} (h : PE X e (tF T W g)) : PE X e (tR T W (.f g)) := h.imp fun σ H Q ⟨H0, B, Γ, hs, p⟩ => by
  have p' : PostR T W σ B H ((evF T (view Γ) g).bind fun ds => if immA ds then .ok (.ol ds) else .bad) Q := p
  refine ⟨H, _, hs.view, ?_⟩
  cases q : evF T (view Γ) g with
  | err x => rw [q] at p'; exact PErr.view hs.ex p'
  | bad => rw [q] at p'; exact p'
  | ok d =>
    rw [q] at p'
    have p2 : PostR T W σ B H (if immA d then .ok (.ol d) else .bad) Q := p'
    by_cases z : immA d = true
    · rw [if_pos z] at p2
      refine fun a xs B1 H1 s h1 h2 h3 h4 => p2 (.ref a) [a] _ H1 (.tups hs.ex s.h) (.ol (tups_none (ex_back hs.ex h1) fun ys z => by rw [h3] at z; cases z) h3 (RpA.imm (ex_trans hs.ex s.h) s.bh d h4 z)) (List.nodup_cons.mpr ⟨(fun z => by cases z), List.nodup_nil⟩) (fun q hq => ?_) z
      cases List.mem_singleton.mp hq
      exact h1
    · rw [if_neg z] at p2
      exact p2.elim
theorem callR_inv {j : Nat} {ds : List D} (p : PostR T W σ B H (callR T j ds) Q) : ∃ φ, T.fs[j]? = some φ ∧ match φ ds with
    | some (.ret r) => PostR T W σ B H (.ok r) Q
    | some (.old d) => False
    | some (.exc x) => PErr T W σ B H x
    | some (.mu _ _ _) => False
    | none => False := by
  unfold callR at p
  cases e : T.fs[j]? with
  | none => rw [e] at p; exact p.elim
  | some φ =>
    rw [e] at p
    refine ⟨φ, rfl, ?_⟩
    cases q : φ ds with
    | none => simp only [q] at p; exact p.elim
    | some o => cases o <;> (simp only [q] at p; exact p)
theorem px_rcall {x : Str} {p : Pos} {j : Nat} (c : Callee X T j x) (tk : Takes X W) (ha : PA X (e :: es) (tA T W ges)) (hg : Gl X x := by rfl)
    (hdb : (x == ("__debug__" : Str)) = false := by decide) (he : starEach (e :: es) X.env = (false, eval e X.env) :: starEach es X.env := by rfl) (hpl : (backTo pos (starEach es X.env)).any (·.1) = false := by rfl) :
    PE X (.Call (.Name x p) (e :: es) [] pos) (tR T W (.call j ges)) := by
  obtain ⟨φ, f, fd, ps, k, hφ, F, hr, hm, hk, hb⟩ := c.ex
  refine (pe_callS F hr hg hm hk hb (fun σ => passAt tk σ) ha hdb he hpl).imp fun σ H Q ⟨H0, B, Γ, hs, p⟩ => ?_
  have p' : PostR T W σ B H ((evs T (view Γ) ges).bind (callR T j)) Q := p
  refine ⟨H, _, hs.view, ?_⟩
  cases q : evs T (view Γ) ges with
  | err x => rw [q] at p'; exact PErr.view hs.ex p'
  | bad => rw [q] at p'; exact p'
  | ok ds =>
    rw [q] at p'
    obtain ⟨φ', hφ', q⟩ := callR_inv p'
    rw [hφ] at hφ'
    cases hφ'
    refine fun vs B1 H1 s rx => ⟨B1, ds, s.bh, rx, ?_⟩
    have exH := ex_trans hs.ex s.h
    cases z : φ ds with
    | none => rw [z] at q; exact q
    | some o =>
      rw [z] at q
      cases o with
      | old d => exact q.elim
      | mu p c x => exact q.elim
      | exc x => exact fun B2 H2 s2 => q B H2 (.grow hs.ex (ex_trans s.h s2.h))
      | ret r =>
        refine fun v f B2 H2 s2 fr nd o im => q v f _ H2 (.tups hs.ex (ex_trans s.h s2.h)) (o.rebase (ex_trans exH s2.h) s2.bh im fun a ha => ?_) nd (fun a ha => ex_back s.h (fr a ha)) im
        exact ex_back exH (fr a ha)
theorem prs_nil : PA X [] (tRs T W .nil) := pa_nil.imp fun σ H Q ⟨H0, B, Γ, hs, p⟩ => p [] [] B H (.refl hs.ex) .nil .nil (fun _ hp => by cases hp) rfl
theorem prs_cons (ha : PE X a (tR T W gr)) (hr : PA X es (tRs T W grs)) (hs : starEach (a :: es) X.env = (false, eval a X.env) :: starEach es X.env := by rfl) : PA X (a :: es) (tRs T W (.cons gr grs)) := (pa_cons ha hr hs).imp fun σ H Q ⟨H0, B, Γ, hs, p⟩ => by
  have p' : PostRs T W σ B H ((evR T Γ gr).bind fun x => (evRs T Γ grs).map fun l => x :: l) Q := p
  refine ⟨H0, B, Γ, hs, ?_⟩
  cases q : evR T Γ gr with
  | err x => rw [q] at p'; exact p'
  | bad => rw [q] at p'; exact p'
  | ok r =>
    rw [q] at p'
    refine fun v f B1 H1 s o n k im => ⟨H0, B1, Γ, hs.step s, ?_⟩
    have p2 : PostRs T W σ B1 H1 ((evRs T Γ grs).map fun l => r :: l) Q := PostRs.step p' s
    have p0 : PostRs T W σ B H ((evRs T Γ grs).map fun l => r :: l) Q := p'
    cases q2 : evRs T Γ grs with
    | err x => rw [q2] at p2; exact p2
    | bad => rw [q2] at p2; exact p2
    | ok rs =>
      rw [q2] at p0
      refine fun vs g B2 H2 s2 o2 n2 k2 im2 => ?_
      have keepf : ∀ a ∈ f, H2 a = H1 a ∧ B2 a = none := fun a ha => by
        obtain ⟨h1, u, h2, h3⟩ := o.at a ha
        exact ⟨by rw [h2]; exact s2.h a u h2, s2.own a u h2 h3 h1⟩
      refine p0 (v :: vs) (f ++ g) B2 H2 (s.trans s2) (.cons (o.frame s2.b keepf) o2) (List.nodup_append.mpr ⟨n, n2, fun a ha b hb => ?_⟩) (fun a ha => ?_) ?_
      · rintro rfl
        obtain ⟨_, u, h2, _⟩ := o.at a ha
        rw [k2 a hb] at h2
        cases h2
      · rcases List.mem_append.mp ha with h | h
        · exact k a h
        · exact ex_back s.h (k2 a h)
      · rw [R.imms, im, im2]
        rfl
theorem OrA.len {vs : List V} {rs : List R} {f : List Addr} (h : OrA B H vs rs f) : vs.length = rs.length := by
  have : ∀ {rs : List R} {vs : List V} {f : List Addr}, OrA B H vs rs f → vs.length = rs.length := by
    intro rs
    induction rs with
    | nil => intro vs f h; cases h; rfl
    | cons r rs ih =>
      intro vs f h
      cases h with
      | cons a b => rw [List.length_cons, List.length_cons, ih b]
  exact this h
theorem px_rlst (h : PA X es (tRs T W grs)) : PE X (.List es pos) (tR T W (.lst grs)) := (pe_lst h).imp fun σ H Q ⟨H0, B, Γ, hs, p⟩ => by
  have p' : PostR T W σ B H ((evRs T Γ grs).bind fun l => if sizeOk l.length then .ok (.on l) else .bad) Q := p
  refine ⟨H0, B, Γ, hs, ?_⟩
  cases q : evRs T Γ grs with
  | err x => rw [q] at p'; exact p'
  | bad => rw [q] at p'; exact p'
  | ok rs =>
    rw [q] at p'
    have p2 : PostR T W σ B H (if sizeOk rs.length then .ok (.on rs) else .bad) Q := p'
    by_cases z : sizeOk rs.length = true
    · rw [if_pos z] at p2
      refine fun vs f B1 H1 s o n k im => ⟨by rw [o.len]; exact sizeOk_le z, fun a ha => p2 (.ref a) (a :: f) B1 (upd H1 a (.lst vs)) (s.trans (.new s.bh ha)) (.on (ex_back s.bh ha) upd_same (o.frame (ex_refl _) fun c hc => ?_)) (List.nodup_cons.mpr ⟨fun hm => ?_, n⟩) (fun c hc => ?_) im⟩
      · obtain ⟨h1, u, h2, _⟩ := o.at c hc
        exact ⟨upd_ne fun z => (by rw [z, ha] at h2; cases h2), h1⟩
      · obtain ⟨_, u, h2, _⟩ := o.at a hm
        rw [ha] at h2
        cases h2
      · rcases List.mem_cons.mp hc with rfl | hc
        · exact ex_back s.h ha
        · exact k c hc
    · rw [if_neg z] at p2
      exact p2.elim
theorem px_rtup {k : Nat} (h : PA X es (tRs T W grs)) : PE X (.Tuple es k pos) (tR T W (.tup grs)) := (pe_tup h).imp fun σ H Q ⟨H0, B, Γ, hs, p⟩ => by
  have p' : PostR T W σ B H ((evRs T Γ grs).bind fun l => if sizeOk l.length then .ok (.ot l) else .bad) Q := p
  refine ⟨H0, B, Γ, hs, ?_⟩
  cases q : evRs T Γ grs with
  | err x => rw [q] at p'; exact p'
  | bad => rw [q] at p'; exact p'
  | ok rs =>
    rw [q] at p'
    have p2 : PostR T W σ B H (if sizeOk rs.length then .ok (.ot rs) else .bad) Q := p'
    by_cases z : sizeOk rs.length = true
    · rw [if_pos z] at p2
      refine fun vs f B1 H1 s o n k im => ⟨by rw [o.len]; exact sizeOk_le z, fun a ha => ?_⟩
      have s2 : Sp' B1 H1 (upd B1 a (.tup vs)) (upd H1 a (.tup vs)) := .both s.bh ha
      refine p2 (.ref a) f _ (upd H1 a (.tup vs)) (s.trans s2) (.ot upd_same (o.frame s2.b fun c hc => ?_)) n k im
      obtain ⟨h1, u, h2, h3⟩ := o.at c hc
      have ne : c ≠ a := fun z => by rw [z, ha] at h2; cases h2
      exact ⟨upd_ne ne, by rw [upd_ne ne]; exact h1⟩
    · rw [if_neg z] at p2
      exact p2.elim
end
end TD

/-! TD10: statements as data, what they are to reach, their rules. -/
namespace TD
open PySem PySem.Spec PyProof.Rows L2

/-- a place within what is one's own -/
inductive GP where | var (i : Nat) | sub (p : GP) (k : GE)
mutual
inductive GS where
  | frz (i : Nat) (s : GS) | mutA (p : GP) (e : GE) | mutC (p : GP) | mutS (p : GP) (k e : GE) | tmpApp (r : GR) (e : GE) | forR (ws : List Nat) (t : Nat) (a : GE) (body : GSs)
  | asgV (i : Nat) (e : GE) | asgS (i : Nat) (e : GE) | asgF (i : Nat) (g : GF) | asgFS (i : Nat) (g : GF) | asgR (i : Nat) (r : GR) | asgD (i : Nat)
  | appV (i : Nat) (e : GE) | appS (i : Nat) (e : GE) | rev (i : Nat) | dset (i : Nat) (k e : GE) | dpop (i : Nat) (k : GE) | setI (i : Nat) (k e : GE) | popApp (i j : Nat) (k : GE)
  | expr (e : GE) | ifs (c : GE) (a b : GSs) | for_ (ws ts : List Nat) (gi : GI) (body : GSs) | forO (ws : List Nat) (t i : Nat) (body : GSs) | whl (ws : List Nat) (c : GE) (body : GSs)
  | ret (r : GR) | retMv (i : Nat) | retTwo (tup : Bool) (i j : Nat) | retOld (e : GE) | retC (j : Nat) (es : GEs) (i : Nat) | setP (i : Nat) (k e : GE) | dsetP (i : Nat) (k e : GE) | dpopP (i : Nat) (k : GE) | callM (t : Option Nat) (i j : Nat) (es : GEs) | ifM (neg : Bool) (i j : Nat) (es : GEs) (a b : GSs) | retM (j : Nat) (es : GEs) | retP (e : GE) | raise_ (x : Nat) | try_ (body : GSs) (hs : GHs) | tryAs (i y : Nat) (body suite : GSs)
inductive GSs where
  | nil | cons (s : GS) (r : GSs) | brw (t i : Nat) (k : GE) (g : GF) (r : GSs)
inductive GHs where
  | nil | cons (y : Nat) (s : GSs) (r : GHs)
end
structure GD where
  nx : Env → Prop
  rt : Out → Prop
  ex : Nat → Env → Prop
def onR {α : Type} (r : Rs α) (e : Nat → Prop) (k : α → Prop) : Prop :=
  match r with
  | .ok a => k a
  | .err x => e x
  | .bad => False
def ownL (Γ : Env) (i : Nat) : Option (List D) := match Γ[i]? with
  | some (some (.own (.ol ds))) => some ds
  | _ => none
def ownR (Γ : Env) (i : Nat) : Option R := match Γ[i]? with
  | some (some (.own r)) => some r
  | _ => none
def ownD (Γ : Env) (i : Nat) : Option (List (Int × D)) := match Γ[i]? with
  | some (some (.dc true kvs)) => some kvs
  | _ => none
def ownM (Γ : Env) (i : Nat) : Option (Addr × Cn) := match Γ[i]? with
  | some (some (.mp p c)) => some (p, c)
  | _ => none
/-- what a slot holds that a def may change -/
def cnOf (Γ : Env) (i : Nat) : Option Cn := match Γ[i]? with
  | some (some (.own (.ol ds))) => some (.l ds)
  | some (some (.dc true kvs)) => some (.d kvs)
  | some (some (.mp _ c)) => some c
  | _ => none
def putC (Γ : Env) (i : Nat) (c : Cn) : Env := match Γ[i]? with
  | some (some (.mp p _)) => Γ.set i (some (.mp p c))
  | _ => match c with
    | .l ds => Γ.set i (some (.own (.ol ds)))
    | .d kvs => Γ.set i (some (.dc true kvs))
def Cn.enc : Cn → D
  | .l ds => .list ds
  | .d kvs => .tuple (kvs.map fun p => .tuple [.int p.1, p.2])
def Cn.alike : Cn → Cn → Prop
  | .l _, .l _ => True
  | .d _, .d _ => True
  | _, _ => False
def callM (T : Tb) (j : Nat) (ds : List D) : Option (Cn × D) := (T.fs[j]?.bind fun φ => φ ds).bind fun o => match o with
  | .mu _ c x => some (c, x)
  | _ => none
def setO (Γ : Env) (t : Option Nat) (x : D) : Env := match t with
  | some t => Γ.set t (some (.fz x))
  | none => Γ
def R.at : R → List Nat → Option R
  | r, [] => some r
  | .on rs, k :: ks => rs[k]?.bind fun q => q.at ks
  | .ot rs, k :: ks => rs[k]?.bind fun q => q.at ks
  | _, _ :: _ => none
def R.put : R → List Nat → R → R
  | _, [], q => q
  | .on rs, k :: ks, q => .on (match rs[k]? with | some r => rs.set k (r.put ks q) | none => rs)
  | .ot rs, k :: ks, q => .ot (match rs[k]? with | some r => rs.set k (r.put ks q) | none => rs)
  | r, _ :: _, _ => r
/-! what is one's own, told by its data alone -/
mutual
def shp : D → R
  | .list ds => if immA ds then .ol ds else .on (shps ds)
  | .tuple ds => if immA ds then .im (.tuple ds) else .ot (shps ds)
  | .none => .im .none
  | .bool b => .im (.bool b)
  | .int i => .im (.int i)
  | .str x => .im (.str x)
  | .dict kvs => .im (.dict kvs)
def shps : List D → List R
  | [] => []
  | d :: r => shp d :: shps r
end
def evP (T : Tb) (Γ : Env) : GP → Rs (Nat × List Nat)
  | .var i => .ok (i, [])
  | .sub p k => (evP T Γ p).bind fun x => (ev T Γ k).bind fun d => match d with
    | .int j => if decide (0 ≤ j) then .ok (x.1, x.2 ++ [j.toNat]) else .bad
    | _ => .bad
/-- a list of one's own at a place -/
def ownP (T : Tb) (Γ : Env) (p : GP) (i : Nat) (l : List Nat) (r : R) (ds : List D) : Prop := evP T (view Γ) p = .ok (i, l) ∧ ownR Γ i = some r ∧ R.at r l = some (.ol ds)
def wpForL (wb : GD → Env → Prop) (d : GD) (ws ts : List Nat) : List (List D) → Env → Prop
  | [], Γ => d.nx Γ
  | it :: r, Γ => wb { d with nx := fun Γ' => wpForL wb d ws ts r (wipeE Γ' ws) } (setTs Γ ts it)
def wpForO (wb : GD → Env → Prop) (d : GD) (ws : List Nat) (t i : Nat) (p : Addr) (ds : List D) : List D → Env → Prop
  | [], Γ => d.nx (Γ.set i (some (.own (.ol ds))))
  | x :: r, Γ => wb { d with nx := fun Γ' => Γ'[i]? = some (some (.pin p ds)) ∧ (wipeE Γ' ws)[i]? = some (some (.pin p ds)) ∧ wpForO wb d ws t i p ds r (wipeE Γ' ws) } (Γ.set t (some (.fz x)))
def wpWhl (T : Tb) (wb : GD → Env → Prop) (d : GD) (ws : List Nat) (c : GE) : Nat → Env → Prop
  | 0, _ => False
  | n + 1, Γ => onR (ev T (view Γ) c) (fun x => d.ex x Γ) fun b => match b with
    | .bool true => wb { d with nx := fun Γ' => wpWhl T wb d ws c n (wipeE Γ' ws) } Γ
    | .bool false => d.nx Γ
    | _ => False
mutual
def wpS (T : Tb) : GS → GD → Env → Prop
  | .asgV i e, d, Γ => onR (ev T (view Γ) e) (fun x => d.ex x Γ) fun v => imm v = true ∧ d.nx (Γ.set i (some (.fz v)))
  | .asgS i e, d, Γ => onR (ev T (stab Γ) e) (fun x => d.ex x Γ) fun v => d.nx (Γ.set i (some (.fz v)))
  | .asgF i g, d, Γ => onR (evF T (view Γ) g) (fun x => d.ex x Γ) fun vs => immA vs = true ∧ d.nx (Γ.set i (some (.own (.ol vs))))
  | .asgFS i g, d, Γ => onR (evF T (stab Γ) g) (fun x => d.ex x Γ) fun vs => d.nx (Γ.set i (some (.own (.ol vs))))
  | .asgR i r, d, Γ => onR (evR T Γ r) (fun x => d.ex x Γ) fun r => d.nx (Γ.set i (some (.own r)))
  | .asgD i, d, Γ => d.nx (Γ.set i (some (.dc true [])))
  | .appV i e, d, Γ => ∃ ds, ownL Γ i = some ds ∧ onR (ev T (view Γ) e) (fun x => d.ex x Γ) fun v => imm v = true ∧ ds.length < 16777216 ∧ d.nx (Γ.set i (some (.own (.ol (ds ++ [v])))))
  | .appS i e, d, Γ => ∃ ds, ownL Γ i = some ds ∧ onR (ev T (stab Γ) e) (fun x => d.ex x Γ) fun v => ds.length < 16777216 ∧ d.nx (Γ.set i (some (.own (.ol (ds ++ [v])))))
  | .rev i, d, Γ => ∃ ds, ownL Γ i = some ds ∧ d.nx (Γ.set i (some (.own (.ol ds.reverse))))
  | .dset i k e, d, Γ => ∃ kvs, ownD Γ i = some kvs ∧ onR (ev T (view Γ) e) (fun x => d.ex x Γ) fun v => imm v = true ∧ onR (ev T (view Γ) k) (fun x => d.ex x Γ) fun n => ∃ j, n = .int j ∧ kvs.length < 16777216 ∧ d.nx (Γ.set i (some (.dc true (dput kvs j v))))
  | .dpop i k, d, Γ => ∃ kvs, ownD Γ i = some kvs ∧ onR (ev T (view Γ) k) (fun x => d.ex x Γ) fun n => ∃ j, n = .int j ∧ (dget kvs j).isSome = true ∧ d.nx (Γ.set i (some (.dc true (ddrop kvs j))))
  | .setI i k e, d, Γ => ∃ ds, ownL Γ i = some ds ∧ onR (ev T (view Γ) e) (fun x => d.ex x Γ) fun v => imm v = true ∧ onR (ev T (view Γ) k) (fun x => d.ex x Γ) fun n => ∃ j, n = .int j ∧ 0 ≤ j ∧ j < ds.length ∧ d.nx (Γ.set i (some (.own (.ol (ds.set j.toNat v)))))
  | .popApp i j k, d, Γ => ∃ ds es, i ≠ j ∧ ownL Γ i = some ds ∧ ownL Γ j = some es ∧ onR (ev T (view Γ) k) (fun x => d.ex x Γ) fun n => ∃ m v, n = .int m ∧ 0 ≤ m ∧ m < 2 ^ 63 ∧ es[m.toNat]? = some v ∧ ds.length < 16777216 ∧ d.nx ((Γ.set j (some (.own (.ol (es.eraseIdx m.toNat))))).set i (some (.own (.ol (ds ++ [v])))))
  | .frz i s, d, Γ => ∃ r, ownR Γ i = some r ∧ wpS T s d (Γ.set i (some (.fz r.toD)))
  | .mutA p e, d, Γ => ∃ i l r ds, ownP T Γ p i l r ds ∧ onR (ev T (view Γ) e) (fun x => d.ex x Γ) fun v => imm v = true ∧ ds.length < 16777216 ∧ d.nx (Γ.set i (some (.own (R.put r l (.ol (ds ++ [v]))))))
  | .mutC p, d, Γ => ∃ i l r ds, ownP T Γ p i l r ds ∧ d.nx (Γ.set i (some (.own (R.put r l (.ol [])))))
  | .mutS p k e, d, Γ => ∃ i l r ds, ownP T Γ p i l r ds ∧ onR (ev T (view Γ) e) (fun x => d.ex x Γ) fun v => imm v = true ∧ onR (ev T (view Γ) k) (fun x => d.ex x Γ) fun n => ∃ j, n = .int j ∧ 0 ≤ j ∧ j < ds.length ∧ d.nx (Γ.set i (some (.own (R.put r l (.ol (ds.set j.toNat v))))))
  | .tmpApp r e, d, Γ => onR (evR T Γ r) (fun x => d.ex x Γ) fun q => ∃ ds, q = .ol ds ∧ onR (ev T (view Γ) e) (fun x => d.ex x Γ) fun v => imm v = true ∧ ds.length < 16777216 ∧ d.nx Γ
  | .expr e, d, Γ => onR (ev T (view Γ) e) (fun x => d.ex x Γ) fun _ => d.nx Γ
  | .ifs c a b, d, Γ => onR (ev T (view Γ) c) (fun x => d.ex x Γ) fun v => match v with
    | .bool true => wpSs T a d Γ
    | .bool false => wpSs T b d Γ
    | _ => False
  | .for_ ws ts gi body, d, Γ => onR (evI T (stab Γ) gi) (fun x => d.ex x Γ) fun items => wpForL (fun d' Γ' => wpSs T body d' Γ') d ws ts items (wipeE Γ ws)
  | .forR ws t a body, d, Γ => ∃ n, ev T (view Γ) a = .ok (.int n) ∧ rngOk n = true ∧ wpForL (fun d' Γ' => wpSs T body d' Γ') d ws [t] (rngL 0 n) (wipeE Γ ws)
  | .forO ws t i body, d, Γ => ∃ ds, ownL Γ i = some ds ∧ ∀ p : Addr, (wipeE (Γ.set i (some (.pin p ds))) ws)[i]? = some (some (.pin p ds)) ∧ wpForO (fun d' Γ' => wpSs T body d' Γ') d ws t i p ds ds (wipeE (Γ.set i (some (.pin p ds))) ws)
  | .whl ws c body, d, Γ => ∃ n, wpWhl T (fun d' Γ' => wpSs T body d' Γ') d ws c n (wipeE Γ ws)
  | .ret r, d, Γ => onR (evR T Γ r) (fun x => d.ex x Γ) fun r => d.rt (.ret r)
  | .retMv i, d, Γ => ∃ r, ownR Γ i = some r ∧ r.imm = true ∧ d.rt (.ret r)
  | .retTwo tup i j, d, Γ => ∃ r q, i ≠ j ∧ ownR Γ i = some r ∧ ownR Γ j = some q ∧ r.imm = true ∧ q.imm = true ∧ d.rt (.ret (if tup then .ot [r, q] else .on [r, q]))
  | .retOld e, d, Γ => onR (ev T (stab Γ) e) (fun x => d.ex x Γ) fun v => d.rt (.old v)
  | .retC j es i, d, Γ => ∃ r, ownR Γ i = some r ∧ shp r.toD = r ∧ r.imm = true ∧ ∃ ds r', evs T (stab Γ) es = .ok ds ∧ callR T j (ds ++ [r.toD]) = .ok r' ∧ d.rt (.ret r')
  | .setP i k e, d, Γ => ∃ p ds, ownM Γ i = some (p, .l ds) ∧ onR (ev T (view Γ) e) (fun x => d.ex x Γ) fun v => imm v = true ∧ onR (ev T (view Γ) k) (fun x => d.ex x Γ) fun n => ∃ j, n = .int j ∧ 0 ≤ j ∧ j < ds.length ∧ d.nx (Γ.set i (some (.mp p (.l (ds.set j.toNat v)))))
  | .dsetP i k e, d, Γ => ∃ p kvs, ownM Γ i = some (p, .d kvs) ∧ onR (ev T (view Γ) e) (fun x => d.ex x Γ) fun v => imm v = true ∧ onR (ev T (view Γ) k) (fun x => d.ex x Γ) fun n => ∃ j, n = .int j ∧ kvs.length < 16777216 ∧ d.nx (Γ.set i (some (.mp p (.d (dput kvs j v)))))
  | .dpopP i k, d, Γ => ∃ p kvs, ownM Γ i = some (p, .d kvs) ∧ onR (ev T (view Γ) k) (fun x => d.ex x Γ) fun n => ∃ j, n = .int j ∧ (dget kvs j).isSome = true ∧ d.nx (Γ.set i (some (.mp p (.d (ddrop kvs j)))))
  | .callM t i j es, d, Γ => ∃ c ds c' x, cnOf Γ i = some c ∧ evs T (stab Γ) es = .ok ds ∧ callM T j (c.enc :: ds) = some (c', x) ∧ c.alike c' ∧ d.nx (setO (putC Γ i c') t x)
  | .ifM n i j es a b, d, Γ => ∃ c ds c' x, cnOf Γ i = some c ∧ evs T (stab Γ) es = .ok ds ∧ callM T j (c.enc :: ds) = some (c', .bool x) ∧ c.alike c' ∧ (((n ^^ x) = true → wpSs T a d (putC Γ i c')) ∧ ((n ^^ x) = false → wpSs T b d (putC Γ i c')))
  | .retM j es, d, Γ => ∃ p c ds c' x, ownM Γ 0 = some (p, c) ∧ evs T (stab Γ) es = .ok ds ∧ callM T j (c.enc :: ds) = some (c', x) ∧ c.alike c' ∧ d.rt (.mu p c' x)
  | .retP e, d, Γ => onR (ev T (view Γ) e) (fun x => d.ex x Γ) fun x => imm x = true ∧ ∃ p c, ownM Γ 0 = some (p, c) ∧ d.rt (.mu p c x)
  | .raise_ x, d, Γ => d.ex x Γ
  | .try_ body hs, d, Γ => wpSs T body { d with ex := fun x Γ' => wpH T hs d x Γ' } Γ
  | .tryAs i y body suite, d, Γ => wpSs T body { d with ex := fun x Γ' => x ∈ T.xs ∧ (subX x y = true → ∀ a : Addr, wpSs { T with xe := some (a, x) } suite { d with ex := fun _ _ => False, nx := fun Γ2 => d.nx (Γ2.set i none) } (Γ'.set i (some (.xc a x)))) ∧ (subX x y = false → d.ex x Γ') } Γ
def wpSs (T : Tb) : GSs → GD → Env → Prop
  | .nil, d, Γ => d.nx Γ
  | .cons s r, d, Γ => wpS T s { d with nx := fun Γ' => wpSs T r d Γ' } Γ
  | .brw t i k g r, d, Γ => t ≠ i ∧ ∃ rs j ds new, ownR Γ i = some (.on rs) ∧ ev T (view Γ) k = .ok (.int j) ∧ 0 ≤ j ∧ rs[j.toNat]? = some (.ol ds) ∧ evF T ((view Γ).set t (some (.fz (.list ds)))) g = .ok new ∧ immA new = true ∧ rs.length < 16777216 ∧ wpSs T r d ((Γ.set t none).set i (some (.own (.on (rs ++ [.ol new])))))
def wpH (T : Tb) : GHs → GD → Nat → Env → Prop
  | .nil, d, x, Γ => d.ex x Γ
  | .cons y s r, d, x, Γ => x ∈ T.xs ∧ (subX x y = true → wpSs T s { d with ex := fun _ _ => False } Γ) ∧ (subX x y = false → wpH T r d x Γ)
end

/-- the state at a statement -/
structure So (b0 H0 B : Hp) (Γ : Env) (σ : L2.St) (H : Hp) : Prop where
  sk : Sk H0 B Γ σ H
  nv : NV Γ
  sp : Sp' b0 H0 B H
structure Real (T : Tb) (W : WX) (b0 H0 : Hp) (d : GD) (De : Ends) : Prop where
  nx : ∀ B Γ σ H, So b0 H0 B Γ σ H → d.nx Γ → De.nx σ H
  rr : ∀ r v f B H, Sp' b0 H0 B H → Or B H v r f → f.Nodup → (∀ p ∈ f, H0 p = none) → r.imm = true → d.rt (.ret r) → De.rt v H
  ro : ∀ x v B H, Sp' b0 H0 B H → Rp B v x → d.rt (.old x) → De.rt v H
  ex : ∀ x B Γ σ H, So b0 H0 B Γ σ H → d.ex x Γ → W (.ref (T.ca x)) none σ H
  rm : ∀ p c x v B Γ σ H, So b0 H0 B Γ σ H → ownM Γ 0 = some (p, c) → Rp B v x → imm x = true → d.rt (.mu p c x) → De.rt v H
def tS (T : Tb) (W : WX) (g : GS) : TS := fun De σ H => ∃ b0 H0 B Γ d, So b0 H0 B Γ σ H ∧ wpS T g d Γ ∧ Real T W b0 H0 d De
def tSs (T : Tb) (W : WX) (g : GSs) : TS := fun De σ H => ∃ b0 H0 B Γ d, So b0 H0 B Γ σ H ∧ wpSs T g d Γ ∧ Real T W b0 H0 d De
theorem _root_.L2.PS.imp {X : Cx} {e : Stmt} {t t' : TS} (h : PS X e t) (k : ∀ D σ H, t' D σ H → t D σ H) : PS X e t' := ⟨fun pins s σ H D I q => h.run pins s σ H D I (k D σ H q)⟩
theorem _root_.L2.PSs.imp {X : Cx} {e : List Stmt} {t t' : TS} (h : PSs X e t) (k : ∀ D σ H, t' D σ H → t D σ H) : PSs X e t' := ⟨fun pins s σ H D I q => h.run pins s σ H D I (k D σ H q)⟩
section
variable {T : Tb} {W : WX} {b0 H0 B H B1 H1 : Hp} {Γ : Env} {σ : L2.St} {d : GD} {De : Ends}
theorem So.step (h : So b0 H0 B Γ σ H) (s : Sp' B H B1 H1) : So b0 H0 B1 Γ σ H1 := ⟨h.sk.step s, h.nv, h.sp.trans s⟩
theorem So.err (h : So b0 H0 B Γ σ H) (r : Real T W b0 H0 d De) {x : Nat} (e : d.ex x Γ) : PErr T W σ B H x := fun B1 H1 s => r.ex x B1 Γ σ H1 (h.step s) e
/-- an expression seen as it stands -/
theorem So.view {g : GE} {k : D → Prop} {Q : VK} (h : So b0 H0 B Γ σ H) (r : Real T W b0 H0 d De) (p : onR (ev T (TD.view Γ) g) (fun x => d.ex x Γ) k) (q : ∀ v x b1 H1, Sp' H H b1 H1 → Rp b1 v x → k x → Q v H1) : tG T W g σ H Q := by
  refine ⟨H, _, h.sk.view, ?_⟩
  cases e : ev T (TD.view Γ) g with
  | ok x => rw [e] at p; exact fun v b1 H1 s rp => q v x b1 H1 s rp p
  | err x => rw [e] at p; exact PErr.view h.sk.ex (h.err r p)
  | bad => rw [e] at p; exact p
theorem So.stab {g : GE} {k : D → Prop} {Q : VK} (h : So b0 H0 B Γ σ H) (r : Real T W b0 H0 d De) (p : onR (ev T (TD.stab Γ) g) (fun x => d.ex x Γ) k) (q : ∀ v x B1 H1, Sp' B H B1 H1 → Rp B1 v x → k x → Q v H1) : tG T W g σ H Q := by
  refine ⟨B, _, h.sk.stab, ?_⟩
  cases e : ev T (TD.stab Γ) g with
  | ok x => rw [e] at p; exact fun v b1 H1 s rp => q v x b1 H1 s rp p
  | err x => rw [e] at p; exact h.err r p
  | bad => rw [e] at p; exact p
theorem So.viewF {g : GF} {k : List D → Prop} {Q : VK} (h : So b0 H0 B Γ σ H) (r : Real T W b0 H0 d De) (p : onR (evF T (TD.view Γ) g) (fun x => d.ex x Γ) k) (q : ∀ a xs ds b1 H1, Sp' H H b1 H1 → H a = none → H1 a = some (.lst xs) → RpA b1 xs ds → k ds → Q (.ref a) H1) : tF T W g σ H Q := by
  refine ⟨H, _, h.sk.view, ?_⟩
  cases e : evF T (TD.view Γ) g with
  | ok x => rw [e] at p; exact fun a xs b1 H1 s h1 h2 h3 rp => q a xs x b1 H1 s h1 h3 rp p
  | err x => rw [e] at p; exact PErr.view h.sk.ex (h.err r p)
  | bad => rw [e] at p; exact p
theorem So.stabF {g : GF} {k : List D → Prop} {Q : VK} (h : So b0 H0 B Γ σ H) (r : Real T W b0 H0 d De) (p : onR (evF T (TD.stab Γ) g) (fun x => d.ex x Γ) k) (q : ∀ a xs ds B1 H1, Sp' B H B1 H1 → H a = none → B1 a = none → H1 a = some (.lst xs) → RpA B1 xs ds → k ds → Q (.ref a) H1) : tF T W g σ H Q := by
  refine ⟨B, _, h.sk.stab, ?_⟩
  cases e : evF T (TD.stab Γ) g with
  | ok x => rw [e] at p; exact fun a xs b1 H1 s h1 h2 h3 rp => q a xs x b1 H1 s h1 h2 h3 rp p
  | err x => rw [e] at p; exact h.err r p
  | bad => rw [e] at p; exact p
theorem So.viewT {g : GE} {k : D → Prop} {Q : Bool → Hp → Prop} (h : So b0 H0 B Γ σ H) (r : Real T W b0 H0 d De) (p : onR (ev T (TD.view Γ) g) (fun x => d.ex x Γ) k) (q : ∀ x H1, So b0 H0 B Γ σ H1 → k x → ∃ b, x = .bool b ∧ Q b H1) : tT T W g σ H Q := by
  refine ⟨H, _, h.sk.view, ?_⟩
  cases e : ev T (TD.view Γ) g with
  | ok x =>
    rw [e] at p
    obtain ⟨b, rfl, _⟩ := q x H h p
    refine fun b1 H1 s => ?_
    obtain ⟨b', e', q'⟩ := q _ H1 (h.step (.grow h.sk.ex s.h)) p
    cases e'
    exact q'
  | err x => rw [e] at p; exact PErr.view h.sk.ex (h.err r p)
  | bad => rw [e] at p; exact p
theorem So.put_fz (h : So b0 H0 B Γ σ H) (i : Nat) {v : V} {x : D} (r : Rp B v x) : So b0 H0 B (Γ.set i (some (.fz x))) (σ.set i (some v)) H := ⟨h.sk.put_fz i r, h.nv.set i (fun _ z => nomatch z), h.sp⟩
theorem So.put_own (h : So b0 H0 B Γ σ H) (s : Sp' B H B1 H1) (i : Nat) {v : V} {r : R} {f : List Addr} (o : Or B1 H1 v r f) (n : f.Nodup) (kn : ∀ p ∈ f, H p = none) : So b0 H0 B1 (Γ.set i (some (.own r))) (σ.set i (some v)) H1 :=
  ⟨h.sk.put_own s i o n kn, h.nv.set i (fun _ z => nomatch z), h.sp.trans s⟩
theorem So.put_ol (h : So b0 H0 B Γ σ H) (s : Sp' B H B1 H1) (i : Nat) {a : Addr} {xs : List V} {ds : List D} (h1 : H a = none) (h2 : B1 a = none) (h3 : H1 a = some (.lst xs)) (r : RpA B1 xs ds) : So b0 H0 B1 (Γ.set i (some (.own (.ol ds)))) (σ.set i (some (.ref a))) H1 :=
  h.put_own s i (.ol h2 h3 r) (List.nodup_cons.mpr ⟨(fun z => by cases z), List.nodup_nil⟩) fun q hq => by
    cases List.mem_singleton.mp hq
    exact h1
theorem So.wipe (h : So b0 H0 B Γ σ H) (ws : List Nat) : So b0 H0 B (wipeE Γ ws) σ H := ⟨h.sk.wipe ws, h.nv.wipe ws, h.sp⟩
theorem So.setTs : ∀ {ts : List Nat} {Γ : Env} {σ : L2.St} {vs : List V} {ds : List D}, So b0 H0 B Γ σ H → RpA B vs ds → So b0 H0 B (setTs Γ ts ds) (setV σ ts vs) H
  | [], _, _, _, _, h, r => by cases r <;> exact h
  | t :: ts, Γ, σ, _, _, h, .nil => h
  | t :: ts, Γ, σ, v :: vs, d :: ds, h, .cons a r => So.setTs (ts := ts) (h.put_fz t a) r
/-- a slot's own thing is changed -/
theorem So.change (h : So b0 H0 B Γ σ H) {i : Nat} {s : Sl} (e : Γ[i]? = some (some s)) : ∃ f, SlotOk B H s (σ[i]?) f ∧ (∀ p ∈ f, H0 p = none ∧ B p = none ∧ ∃ o, H p = some o ∧ NoTup o) ∧
    ∀ p o s' f', p ∈ f → NoTup o → (∀ kvs, s' ≠ .dc false kvs) → SlotOk B (upd H p o) s' (σ[i]?) f' → (∀ q ∈ f', q ∈ f) → So b0 H0 B (Γ.set i (some s')) σ (upd H p o) := by
  obtain ⟨f, h1, h2, h3⟩ := h.sk.change h.nv e
  refine ⟨f, h1, h2, fun p o s' f' hp no ns k sub => ⟨h3 p o s' f' hp no k sub, h.nv.set i fun kvs z => ns kvs (Option.some.inj z), ?_⟩⟩
  obtain ⟨p1, p2, u, p3, p4⟩ := h2 p hp
  have exu : ∀ {G K : Hp}, G p = none → Ex G K → Ex G (upd K p o) := fun {G K} hn he a w ha => by
    rw [upd_ne (ne_of_none ha hn)]
    exact he a w ha
  exact ⟨h.sp.b, exu p1 h.sp.h, exu p2 h.sp.bh, h.sp.own⟩
theorem ownL_at {i : Nat} {ds : List D} (h : ownL Γ i = some ds) : Γ[i]? = some (some (.own (.ol ds))) := by
  unfold ownL at h
  split at h
  · cases h
    assumption
  · cases h
theorem ownR_at {i : Nat} {r : R} (h : ownR Γ i = some r) : Γ[i]? = some (some (.own r)) := by
  unfold ownR at h
  split at h
  · cases h
    assumption
  · cases h
theorem ownD_at {i : Nat} {kvs : List (Int × D)} (h : ownD Γ i = some kvs) : Γ[i]? = some (some (.dc true kvs)) := by
  unfold ownD at h
  split at h
  · cases h
    assumption
  · cases h
/-- one's own list, ready to be changed -/
theorem So.list (h : So b0 H0 B Γ σ H) {i : Nat} {ds : List D} (e : ownL Γ i = some ds) : ∃ p xs, σ[i]? = some (some (.ref p)) ∧ H p = some (.lst xs) ∧ RpA B xs ds ∧ B p = none ∧ H0 p = none ∧
    ∀ ys es, RpA B ys es → So b0 H0 B (Γ.set i (some (.own (.ol es)))) σ (upd H p (.lst ys)) := by
  obtain ⟨f, ⟨v, h1, h2, h3⟩, h4, h5⟩ := h.change (ownL_at e)
  cases h2 with
  | ol h6 h7 h8 =>
    rename_i p xs
    refine ⟨p, xs, h1, h7, h8, h6, (h4 p List.mem_cons_self).1, fun ys es r => h5 p _ _ [p] List.mem_cons_self (lst_noTup _) (fun _ z => nomatch z) ⟨_, h1, .ol h6 upd_same r, List.nodup_cons.mpr ⟨(fun z => by cases z), List.nodup_nil⟩⟩ fun q hq => hq⟩
theorem So.dict (h : So b0 H0 B Γ σ H) {i : Nat} {kvs : List (Int × D)} (e : ownD Γ i = some kvs) : ∃ p ks, σ[i]? = some (some (.ref p)) ∧ H p = some (.dK ks) ∧ KvRp B ks kvs ∧
    ∀ ls es, KvRp B ls es → So b0 H0 B (Γ.set i (some (.dc true es))) σ (upd H p (.dK ls)) := by
  obtain ⟨f, ⟨p, ks, h1, h2, h3, h4⟩, h5, h6⟩ := h.change (ownD_at e)
  have hf := h4 rfl
  subst hf
  exact ⟨p, ks, h1, h2, h3, fun ls es r => h6 p _ _ [p] List.mem_cons_self (dK_noTup _) (fun _ z => nomatch z) ⟨p, ls, h1, upd_same, r, fun _ => rfl⟩ fun q hq => hq⟩
end
end TD

/-! TD11: the rules for statements. -/
namespace TD
open PySem PySem.Spec PyProof.Rows L2
section
variable {X : Cx} {T : Tb} {W : WX} {a b c e tg iter : Expr} {st : Stmt} {sts bs cs : List Stmt} {ga gb gc gk : GE} {gf : GF} {gr : GR} {gi : GI} {g : GS} {gs hs : GSs} {i j t : Nat} {ws ts : List Nat} {pos p : Pos}

/-! ### blocks -/
theorem psx_nil : PSs X [] (tSs T W .nil) := pss_nil.imp fun De σ H ⟨b0, H0, B, Γ, d, so, w, r⟩ => r.nx B Γ σ H so w
theorem psx_cons (h1 : PS X st (tS T W g)) (h2 : PSs X sts (tSs T W gs)) : PSs X (st :: sts) (tSs T W (.cons g gs)) := (pss_cons h1 h2).imp fun De σ H ⟨b0, H0, B, Γ, d, so, w, r⟩ =>
  ⟨b0, H0, B, Γ, { d with nx := fun Γ' => wpSs T gs d Γ' }, so, w, ⟨fun B1 Γ1 σ1 H1 so1 w1 => ⟨b0, H0, B1, Γ1, d, so1, w1, r⟩, r.rr, r.ro, r.ex, r.rm⟩⟩

/-! ### assignments -/
theorem psx_asgV (h : PS X st (tAsg (tG T W ga) (gName i))) : PS X st (tS T W (.asgV i ga)) := h.imp fun De σ H ⟨b0, H0, B, Γ, d, so, w, r⟩ =>
  so.view r w fun v x b1 H1 s rp ⟨z, q⟩ => r.nx _ _ _ _ ((so.step (.tups so.sk.ex s.h)).put_fz i (Rp.imm (ex_trans so.sk.ex s.h) s.bh x rp z)) q
theorem psx_asgS (h : PS X st (tAsg (tG T W ga) (gName i))) : PS X st (tS T W (.asgS i ga)) := h.imp fun De σ H ⟨b0, H0, B, Γ, d, so, w, r⟩ =>
  so.stab r w fun v x B1 H1 s rp q => r.nx _ _ _ _ ((so.step s).put_fz i rp) q
theorem psx_asgF (h : PS X st (tAsg (tF T W gf) (gName i))) : PS X st (tS T W (.asgF i gf)) := h.imp fun De σ H ⟨b0, H0, B, Γ, d, so, w, r⟩ =>
  so.viewF r w fun a xs ds b1 H1 s h1 h2 rp ⟨z, q⟩ => r.nx _ _ _ _ (so.put_ol (.tups so.sk.ex s.h) i h1 (tups_none (ex_back so.sk.ex h1) fun ys z => by rw [h2] at z; cases z) h2 (RpA.imm (ex_trans so.sk.ex s.h) s.bh ds rp z)) q
theorem psx_asgFS (h : PS X st (tAsg (tF T W gf) (gName i))) : PS X st (tS T W (.asgFS i gf)) := h.imp fun De σ H ⟨b0, H0, B, Γ, d, so, w, r⟩ =>
  so.stabF r w fun a xs ds B1 H1 s h1 h2 h3 rp q => r.nx _ _ _ _ (so.put_ol s i h1 h2 h3 rp) q
theorem psx_asgR (h : PS X st (tAsg (tR T W gr) (gName i))) : PS X st (tS T W (.asgR i gr)) := h.imp fun De σ H ⟨b0, H0, B, Γ, d, so, w, r⟩ => by
  refine ⟨H0, B, Γ, so.sk, ?_⟩
  have w' : onR (evR T Γ gr) (fun x => d.ex x Γ) fun r => d.nx (Γ.set i (some (.own r))) := w
  cases q : evR T Γ gr with
  | ok x => rw [q] at w'; exact fun v f B1 H1 s o n k im => r.nx _ _ _ _ (so.put_own s i o n k) w'
  | err x => rw [q] at w'; exact so.err r w'
  | bad => rw [q] at w'; exact w'
theorem psx_asgD (h : PS X st (tAsg tDNewK (gName i))) : PS X st (tS T W (.asgD i)) := h.imp fun De σ H ⟨b0, H0, B, Γ, d, so, w, r⟩ => fun p hp =>
  r.nx _ _ _ _ ⟨so.sk.put_dc i hp, so.nv.set i (fun kvs z => by cases z), so.sp.trans (.new so.sk.ex hp)⟩ w

/-! ### changes -/
theorem psx_appV (h : PS X st (tDrop (tBM X.K "list" rAppend (tVar i) (tCons (tG T W ga) tNil)))) : PS X st (tS T W (.appV i ga)) := h.imp fun De σ H ⟨b0, H0, B, Γ, d, so, w, r⟩ => by
  obtain ⟨ds, q, w'⟩ := w
  obtain ⟨p, xs, h1, h2, h3, h4, h5, h6⟩ := so.list q
  refine ⟨.ref p, h1, .inl ⟨rfl, xs, .inl (.inl h2)⟩, so.view r w' fun v x b1 H1 s rp ⟨z, h8, q2⟩ => ?_⟩
  have so1 := so.step (.tups so.sk.ex s.h)
  obtain ⟨p', xs', k1, k2, k3, k4, k5, k6⟩ := so1.list q
  rw [h1] at k1
  cases k1
  refine ⟨p, xs', v, rfl, rfl, k2, ?_, r.nx _ _ _ _ (k6 _ _ (k3.app (.one (Rp.imm (ex_trans so.sk.ex s.h) s.bh x rp z)))) q2⟩
  rw [k3.len, sizeLine_eq]
  exact h8
theorem psx_appS (h : PS X st (tDrop (tBM X.K "list" rAppend (tVar i) (tCons (tG T W ga) tNil)))) : PS X st (tS T W (.appS i ga)) := h.imp fun De σ H ⟨b0, H0, B, Γ, d, so, w, r⟩ => by
  obtain ⟨ds, q, w'⟩ := w
  obtain ⟨p, xs, h1, h2, h3, h4, h5, h6⟩ := so.list q
  refine ⟨.ref p, h1, .inl ⟨rfl, xs, .inl (.inl h2)⟩, so.stab r w' fun v x B1 H1 s rp ⟨h8, q2⟩ => ?_⟩
  have so1 := so.step s
  obtain ⟨p', xs', k1, k2, k3, k4, k5, k6⟩ := so1.list q
  rw [h1] at k1
  cases k1
  refine ⟨p, xs', v, rfl, rfl, k2, ?_, r.nx _ _ _ _ (k6 _ _ (k3.app (.one rp))) q2⟩
  rw [k3.len, sizeLine_eq]
  exact h8
theorem psx_rev (h : PS X st (tDrop (tBM0 X.K "list" rReverse (tVar i)))) : PS X st (tS T W (.rev i)) := h.imp fun De σ H ⟨b0, H0, B, Γ, d, so, w, r⟩ => by
  obtain ⟨ds, q, w'⟩ := w
  obtain ⟨p, xs, h1, h2, h3, h4, h5, h6⟩ := so.list q
  exact ⟨.ref p, h1, .inl ⟨rfl, xs, .inl (.inl h2)⟩, p, xs, rfl, rfl, h2, r.nx _ _ _ _ (h6 _ _ h3.reverse) w'⟩
theorem any_kv {B : Hp} {ks : List (Key × V)} {kvs : List (Int × D)} (h : KvRp B ks kvs) (k : Int) : (ks.any fun kv => decide (kv.1 = (Sum.inl k : Key))) = kvs.any fun kv => decide (kv.1 = k) := by
  unfold KvRp at h
  induction h with
  | nil => rfl
  | @cons x y xs ys r t ih =>
    rw [List.any_cons, List.any_cons, ih, r.1]
    congr 1
    by_cases z : y.1 = k <;> simp [z]
theorem KvRp.len {B : Hp} {ks : List (Key × V)} {kvs : List (Int × D)} (h : KvRp B ks kvs) : ks.length = kvs.length := Paired.length h
theorem KvRp.put {B : Hp} {ks : List (Key × V)} {kvs : List (Int × D)} (h : KvRp B ks kvs) (k : Int) {v : V} {x : D} (r : Rp B v x) : KvRp B (putK ks (Sum.inl k : Key) v) (dput kvs k x) := by
  unfold putK dput
  rw [any_kv h k]
  by_cases z : (kvs.any fun kv => decide (kv.1 = k)) = true
  · rw [if_pos z, if_pos z]
    clear z
    unfold KvRp at h ⊢
    induction h with
    | nil => exact .nil
    | @cons p q ps qs r' t ih =>
      rw [List.map_cons, List.map_cons]
      refine .cons ?_ ih
      by_cases y : q.1 = k
      · rw [if_pos (by rw [r'.1, y]), if_pos y]
        exact ⟨r'.1, r⟩
      · rw [if_neg (fun w => y (by rw [r'.1] at w; exact Sum.inl.inj w)), if_neg y]
        exact r'
  · rw [if_neg z, if_neg z]
    clear z
    unfold KvRp at h ⊢
    induction h with
    | nil => exact .cons ⟨rfl, r⟩ .nil
    | cons r' t ih => exact .cons r' ih
theorem KvRp.drop {B : Hp} {ks : List (Key × V)} {kvs : List (Int × D)} (h : KvRp B ks kvs) (k : Int) : KvRp B (dropK ks (Sum.inl k : Key)) (ddrop kvs k) := by
  unfold dropK ddrop
  unfold KvRp at h ⊢
  induction h with
  | nil => exact .nil
  | @cons p q ps qs r' t ih =>
    rw [List.filter_cons, List.filter_cons]
    by_cases y : q.1 = k
    · rw [if_neg (by simp [r'.1, y]), if_neg (by simp [y])]
      exact ih
    · rw [if_pos (by simp [r'.1, y]), if_pos (by simp [y])]
      exact .cons r' ih
theorem psx_dset (h : PS X st (sDPut (tVar i) (tG T W gk) (tG T W ga))) : PS X st (tS T W (.dset i gk ga)) := h.imp fun De σ H ⟨b0, H0, B, Γ, d, so, w, r⟩ => by
  obtain ⟨kvs, q, w'⟩ := w
  refine so.view r w' fun v x b1 H1 s rp ⟨z, w2⟩ => ?_
  have so1 := so.step (.tups so.sk.ex s.h)
  have rv := Rp.imm (ex_trans so.sk.ex s.h) s.bh x rp z
  obtain ⟨p, ks, h1, h2, h3, h4⟩ := so1.dict q
  refine ⟨.ref p, h1, so1.view r w2 fun n y b2 H2 s2 rp2 ⟨j, ej, hl, q2⟩ => ?_⟩
  subst ej
  have so2 := so1.step (.tups so1.sk.ex s2.h)
  obtain ⟨p', ks', k1, k2, k3, k4⟩ := so2.dict q
  rw [h1] at k1
  cases k1
  cases rp_int rp2
  refine ⟨p, _, rfl, DPut.k (k := Sum.inl j) k2 (by rw [k3.len, sizeLine_eq]; exact hl), r.nx _ _ _ _ (k4 _ _ (k3.put j (rv.mono (tups_ex _ _)))) q2⟩
theorem psx_dpop (h : PS X st (tDrop (tDPop1 (tVar i) (tG T W gk)))) : PS X st (tS T W (.dpop i gk)) := h.imp fun De σ H ⟨b0, H0, B, Γ, d, so, w, r⟩ => by
  obtain ⟨kvs, q, w'⟩ := w
  obtain ⟨p, ks, h1, h2, h3, h4⟩ := so.dict q
  refine ⟨.ref p, h1, p, rfl, .inl ⟨ks, .inl h2⟩, so.view r w' fun n y b2 H2 s2 rp2 ⟨j, ej, hl, q2⟩ => ?_⟩
  subst ej
  have so2 := so.step (.tups so.sk.ex s2.h)
  obtain ⟨p', ks', k1, k2, k3, k4⟩ := so2.dict q
  rw [h1] at k1
  cases k1
  cases rp_int rp2
  have v := k3.val j
  cases z : dget kvs j with
  | none => rw [z] at hl; cases hl
  | some x =>
    rw [z] at v
    obtain ⟨u, hu, _⟩ := v
    exact ⟨ks', Sum.inl j, u, k2, rfl, hu, r.nx _ _ _ _ (k4 _ _ (k3.drop j)) q2⟩
theorem psx_setI (h : PS X st (tAsg (tG T W ga) (gSub (tVar i) (tG T W gk) rSetL))) : PS X st (tS T W (.setI i gk ga)) := h.imp fun De σ H ⟨b0, H0, B, Γ, d, so, w, r⟩ => by
  obtain ⟨ds, q, w'⟩ := w
  refine so.view r w' fun v x b1 H1 s rp ⟨z, w2⟩ => ?_
  have so1 := so.step (.tups so.sk.ex s.h)
  have rv := Rp.imm (ex_trans so.sk.ex s.h) s.bh x rp z
  obtain ⟨p, xs, h1, h2, h3, h4, h5, h6⟩ := so1.list q
  refine ⟨.ref p, h1, so1.view r w2 fun n y b2 H2 s2 rp2 ⟨j, ej, j0, j1, q2⟩ => ?_⟩
  subst ej
  have so2 := so1.step (.tups so1.sk.ex s2.h)
  obtain ⟨p', xs', k1, k2, k3, k4, k5, k6⟩ := so2.list q
  rw [h1] at k1
  cases k1
  cases rp_int rp2
  refine ⟨p, xs', j, j.toNat, rfl, rfl, k2, ?_, r.nx _ _ _ _ (k6 _ _ (k3.set j.toNat (rv.mono (tups_ex _ _)))) q2⟩
  unfold ixN
  rw [if_pos j0, if_pos (by rw [k3.len]; exact j1)]
theorem psx_popApp (h : PS X st (tDrop (tBM X.K "list" rAppend (tVar i) (tCons (tBM X.K "list" rPopAt (tVar j) (tCons (tG T W gk) tNil)) tNil)))) : PS X st (tS T W (.popApp i j gk)) := h.imp fun De σ H ⟨b0, H0, B, Γ, d, so, w, r⟩ => by
  obtain ⟨ds, es, ne, qi, qj, w'⟩ := w
  obtain ⟨p, xs, h1, h2, h3, h4, h5, h6⟩ := so.list qi
  obtain ⟨p2, ys, g1, g2, g3, g4, g5, g6⟩ := so.list qj
  refine ⟨.ref p, h1, .inl ⟨rfl, xs, .inl (.inl h2)⟩, .ref p2, g1, .inl ⟨rfl, ys, .inl (.inl g2)⟩, so.view r w' fun n y b2 H2 s2 rp2 ⟨m, v, em, m0, m1, hv, hl, q2⟩ => ?_⟩
  subst em
  have so2 := so.step (.tups so.sk.ex s2.h)
  obtain ⟨p2', ys', k1, k2, k3, k4, k5, k6⟩ := so2.list qj
  rw [g1] at k1
  cases k1
  cases rp_int rp2
  obtain ⟨u, hu, ru⟩ := k3.get hv
  have lt : m.toNat < ys'.length := (List.getElem?_eq_some_iff.mp hu).1
  refine ⟨p2, ys', m, m.toNat, u, rfl, rfl, k2, by omega, m1, ?_, hu, ?_⟩
  · have e : m = (m.toNat : Int) := by omega
    exact (ixN_seq (i := m) (by unfold ixN; rw [if_pos m0, if_pos (by omega)])).1
  · have so3 := k6 _ _ (k3.erase m.toNat)
    have qi' : ownL (Γ.set j (some (.own (.ol (es.eraseIdx m.toNat))))) i = some ds := by
      unfold ownL at qi ⊢
      rw [get_set_ne (Ne.symm ne)]
      exact qi
    obtain ⟨p', xs', l1, l2, l3, l4, l5, l6⟩ := so3.list qi'
    rw [h1] at l1
    cases l1
    exact ⟨p, xs', u, rfl, rfl, l2, by rw [l3.len, sizeLine_eq]; exact hl, r.nx _ _ _ _ (l6 _ _ (l3.app (.one ru))) q2⟩
theorem psx_expr (h : PE X e (tG T W ga)) (hs : swapsWith e none pos.line X.env = pure false := by rfl) : PS X (.Expr e pos) (tS T W (.expr ga)) := (ps_expr h hs).imp fun De σ H ⟨b0, H0, B, Γ, d, so, w, r⟩ =>
  so.view r w fun v x b1 H1 s rp q => r.nx _ _ _ _ (so.step (.grow so.sk.ex s.h)) q

/-! ### ways and loops -/
theorem Sp'.out {b0 H0 B3 H3 B4 H4 : Hp} (a : Sp' b0 H0 B3 H3) (c : Sp' B3 H0 B4 H4) : Sp' b0 H0 B4 H4 := ⟨ex_trans a.b c.b, c.h, c.bh, fun p o h1 h2 h3 => c.own p o h1 h2 (a.own p o h1 h2 h3)⟩
theorem So.inn {b0 H0 B H : Hp} {Γ : Env} {σ : L2.St} (h : So b0 H0 B Γ σ H) : So B H0 B Γ σ H := ⟨h.sk, h.nv, ex_refl _, h.sp.h, h.sp.bh, fun _ _ _ _ z => z⟩
theorem So.out {b0 H0 B3 H3 B4 H4 : Hp} {Γ : Env} {σ : L2.St} (a : Sp' b0 H0 B3 H3) (h : So B3 H0 B4 Γ σ H4) : So b0 H0 B4 Γ σ H4 := ⟨h.sk, h.nv, a.out h.sp⟩
/-- what is wanted, from a later base; what follows is told anew -/
theorem Real.inn {b0 H0 B3 H3 : Hp} {d : GD} {De : Ends} {N : Env → Prop} {nx bk ct : L2.St → Hp → Prop} (r : Real T W b0 H0 d De) (a : Sp' b0 H0 B3 H3) (k : ∀ B Γ σ H, So B3 H0 B Γ σ H → N Γ → nx σ H) :
    Real T W B3 H0 { d with nx := N } { De with nx := nx, bk := bk, ct := ct } :=
  ⟨k, fun x v f B H s o n z i q => r.rr x v f B H (a.out s) o n z i q, fun x v B H s rp q => r.ro x v B H (a.out s) rp q, fun x B Γ σ H so q => r.ex x B Γ σ H (so.out a) q, fun p c x v B Γ σ H so h1 h2 h3 q => r.rm p c x v B Γ σ H (so.out a) h1 h2 h3 q⟩
theorem psx_if (hc : PT X c (tT T W gc)) (ha : PSs X bs (tSs T W gs)) (hb : PSs X cs (tSs T W hs)) : PS X (.If c bs cs pos) (tS T W (.ifs gc gs hs)) := (ps_if hc ha hb).imp fun De σ H ⟨b0, H0, B, Γ, d, so, w, r⟩ => by
  have w' : onR (ev T (view Γ) gc) (fun x => d.ex x Γ) fun v => match v with
    | .bool true => wpSs T gs d Γ
    | .bool false => wpSs T hs d Γ
    | _ => False := w
  refine so.viewT r w' fun x H1 so1 k => ?_
  cases x with
  | bool b =>
    refine ⟨b, rfl, ?_⟩
    cases b with
    | true => exact iteT ⟨b0, H0, B, Γ, d, so1, k, r⟩
    | false => exact iteF ⟨b0, H0, B, Γ, d, so1, k, r⟩
  | _ => exact False.elim k
theorem psx_for {gx : TG} (hp : PassesOwn (model X.prog X.w) X.A X.env X.xe) (hc : X.calm = true) (hi : PI X tg iter (tI T W gi gx ts)) (hg : PG X tg gx) (hb : PSs X bs (tSs T W gs)) (hf : ∀ x, foldedSetIterable iter X.env x = pure x := by intro _; rfl) :
    PS X (.For tg iter bs [] pos) (tS T W (.for_ ws ts gi gs)) := (ps_for hp hc hi hg hb hf).imp fun De σ H ⟨b0, H0, B, Γ, d, so, w, r⟩ => by
  have w' : onR (evI T (stab Γ) gi) (fun x => d.ex x Γ) fun items => wpForL (fun d' Γ' => wpSs T gs d' Γ') d ws ts items (wipeE Γ ws) := w
  refine ⟨B, _, so.sk.stab, ?_⟩
  cases e : evI T (stab Γ) gi with
  | err x => rw [e] at w'; exact so.err r w'
  | bad => rw [e] at w'; exact w'
  | ok items =>
    rw [e] at w'
    refine fun J B1 H1 s m => ⟨fun i n σ H => n = items.length - i ∧ i ≤ items.length ∧ ∃ B2 Γ2, Ex B1 B2 ∧ So b0 H0 B2 Γ2 σ H ∧ wpForL (fun d' Γ' => wpSs T gs d' Γ') d ws ts (items.drop i) Γ2,
      ⟨_, rfl, Nat.zero_le _, B1, _, ex_refl _, (so.step s).wipe ws, w'⟩, ?_⟩
    rintro i n σ2 H2 ⟨rfl, hi, B2, Γ2, ex2, so2, w2⟩
    by_cases hlt : i < items.length
    · rw [List.drop_eq_getElem_cons hlt] at w2
      refine .inr ⟨m.go i B2 H2 ex2 so2.sk.ex hlt, fun σ3 H3 => ∃ B3 Γ3, Ex B1 B3 ∧ So b0 H0 B3 Γ3 σ3 H3 ∧ wpForL (fun d' Γ' => wpSs T gs d' Γ') d ws ts (items.drop (i + 1)) Γ3, fun σ3 H3 h => ⟨_, by omega, rfl, hlt, h⟩, fun x H3 y => ?_⟩
      obtain ⟨B3, s3, k3⟩ := m.yld i _ B2 H2 x H3 ex2 so2.sk.ex (List.getElem?_eq_getElem hlt) y
      have so3 := so2.step s3
      exact k3 _ _ fun vs rv => ⟨B3, H0, B3, _, _, (so3.inn).setTs rv, w2, r.inn so3.sp fun B4 Γ4 σ4 H4 so4 w4 => ⟨B4, _, ex_trans ex2 (ex_trans s3.b so4.sp.b), (so4.out so3.sp).wipe ws, w4⟩⟩
    · have ei : i = items.length := by omega
      subst ei
      rw [List.drop_length] at w2
      exact .inl ⟨m.stop _ B2 H2 ex2 so2.sk.ex (Nat.le_refl _), r.nx _ _ _ _ so2 w2⟩
theorem psx_while (hp : PassesOwn (model X.prog X.w) X.A X.env X.xe) (hc : PT X c (tT T W gc)) (hb : PSs X bs (tSs T W gs)) : PS X (.While c bs [] pos) (tS T W (.whl ws gc gs)) := (ps_while hp hc hb).imp fun De σ H ⟨b0, H0, B, Γ, d, so, w, r⟩ => by
  obtain ⟨n, w⟩ := w
  refine ⟨fun n σ H => ∃ B Γ, So b0 H0 B Γ σ H ∧ wpWhl T (fun d' Γ' => wpSs T gs d' Γ') d ws gc n Γ, ⟨n, B, _, so.wipe ws, w⟩, ?_⟩
  rintro n σ2 H2 ⟨B2, Γ2, so2, w2⟩
  cases n with
  | zero => exact w2.elim
  | succ n =>
    have w' : onR (ev T (view Γ2) gc) (fun x => d.ex x Γ2) fun b => match b with
      | .bool true => wpSs T gs { d with nx := fun Γ' => wpWhl T (fun d' Γ' => wpSs T gs d' Γ') d ws gc n (wipeE Γ' ws) } Γ2
      | .bool false => d.nx Γ2
      | _ => False := w2
    refine so2.viewT r w' fun x H3 so3 k => ?_
    cases x with
    | bool b =>
      refine ⟨b, rfl, ?_⟩
      cases b with
      | true => exact iteT ⟨fun σ4 H4 => ∃ B4 Γ4, So b0 H0 B4 Γ4 σ4 H4 ∧ wpWhl T (fun d' Γ' => wpSs T gs d' Γ') d ws gc n Γ4, fun σ4 H4 h => ⟨n, Nat.lt_succ_self n, h⟩, B2, H0, B2, Γ2, _, so3.inn, k, r.inn so3.sp fun B4 Γ4 σ4 H4 so4 w4 => ⟨B4, _, (so4.out so3.sp).wipe ws, w4⟩⟩
      | false => exact iteF (r.nx _ _ _ _ so3 k)
    | _ => exact False.elim k
/-! ### ends -/
theorem psx_ret (h : PE X e (tR T W gr)) : PS X (.Return (some e) pos) (tS T W (.ret gr)) := (ps_ret h).imp fun De σ H ⟨b0, H0, B, Γ, d, so, w, r⟩ => by
  have w' : onR (evR T Γ gr) (fun x => d.ex x Γ) fun r => d.rt (.ret r) := w
  refine ⟨H0, B, Γ, so.sk, ?_⟩
  cases q : evR T Γ gr with
  | ok x => rw [q] at w'; exact fun v f B1 H1 s o n k im => r.rr x v f B1 H1 (so.sp.trans s) o n (fun p hp => ex_back so.sk.e0 (k p hp)) im w'
  | err x => rw [q] at w'; exact so.err r w'
  | bad => rw [q] at w'; exact w'
theorem psx_retOld (h : PE X e (tG T W ga)) : PS X (.Return (some e) pos) (tS T W (.retOld ga)) := (ps_ret h).imp fun De σ H ⟨b0, H0, B, Γ, d, so, w, r⟩ =>
  so.stab r w fun v x B1 H1 s rp q => r.ro x v B1 H1 (so.sp.trans s) rp q
theorem So.ownR {b0 H0 B H : Hp} {Γ : Env} {σ : L2.St} (h : So b0 H0 B Γ σ H) {i : Nat} {r : R} (e : TD.ownR Γ i = some r) : ∃ v f, σ[i]? = some (some v) ∧ Or B H v r f ∧ f.Nodup ∧ (∀ p ∈ f, H0 p = none) := by
  obtain ⟨f, ⟨v, h1, h2, h3⟩, h4, _⟩ := h.change (ownR_at e)
  exact ⟨v, f, h1, h2, h3, fun p hp => (h4 p hp).1⟩
theorem psx_retMv (h : PE X e (tVar i)) : PS X (.Return (some e) pos) (tS T W (.retMv i)) := (ps_ret h).imp fun De σ H ⟨b0, H0, B, Γ, d, so, w, r⟩ => by
  obtain ⟨x, q, im, w⟩ := w
  obtain ⟨v, f, h1, h2, h3, h4⟩ := so.ownR q
  exact ⟨v, h1, r.rr x v f B H so.sp h2 h3 h4 im w⟩
theorem two_own {b0 H0 B H : Hp} {Γ : Env} {σ : L2.St} (so : So b0 H0 B Γ σ H) {r q : R} (ne : i ≠ j) (e1 : ownR Γ i = some r) (e2 : ownR Γ j = some q) :
    ∃ v f u g, σ[i]? = some (some v) ∧ Or B H v r f ∧ σ[j]? = some (some u) ∧ Or B H u q g ∧ (f ++ g).Nodup ∧ ∀ p ∈ f ++ g, H0 p = none := by
  obtain ⟨F, k⟩ := so.sk.sl
  obtain ⟨v, h1, h2, h3⟩ := k.ok i _ (ownR_at e1)
  obtain ⟨u, g1, g2, g3⟩ := k.ok j _ (ownR_at e2)
  refine ⟨v, F i, u, F j, h1, h2, g1, g2, List.nodup_append.mpr ⟨h3, g3, fun a ha b hb z => k.dis i j ne a ha (z ▸ hb)⟩, fun p hp => ?_⟩
  rcases List.mem_append.mp hp with h | h
  · exact (k.at' i p h).1
  · exact (k.at' j p h).1
theorem psx_retTup {k : Nat} {p2 : Pos} (h : PA X [a, b] (tCons (tVar i) (tCons (tVar j) tNil))) : PS X (.Return (some (.Tuple [a, b] k p2)) pos) (tS T W (.retTwo true i j)) := (ps_ret (pe_tup h)).imp fun De σ H ⟨b0, H0, B, Γ, d, so, w, r⟩ => by
  obtain ⟨x, y, ne, e1, e2, i1, i2, w⟩ := w
  obtain ⟨v, f, u, g, h1, h2, g1, g2, nd, fr⟩ := two_own so ne e1 e2
  refine ⟨v, h1, u, g1, by show 2 ≤ sizeLine; rw [sizeLine_eq]; omega, fun p hp => ?_⟩
  have s : Sp' B H (upd B p (.tup [v, u])) (upd H p (.tup [v, u])) := .both so.sk.ex hp
  have al : OrA B H [v, u] [x, y] (f ++ (g ++ [])) := .cons h2 (.cons g2 .nil)
  rw [List.append_nil] at al
  refine r.rr _ (.ref p) (f ++ g) _ _ (so.sp.trans s) (.ot upd_same (al.frame s.b fun c hc => ?_)) nd fr (by show R.imms [x, y] = true; rw [R.imms, R.imms, R.imms, i1, i2]; rfl) w
  obtain ⟨k1, o, k2, k3⟩ := al.at c hc
  have nep : c ≠ p := fun z => by rw [z, hp] at k2; cases k2
  exact ⟨upd_ne nep, by rw [upd_ne nep]; exact k1⟩
theorem psx_retLst {p2 : Pos} (h : PA X [a, b] (tCons (tVar i) (tCons (tVar j) tNil))) : PS X (.Return (some (.List [a, b] p2)) pos) (tS T W (.retTwo false i j)) := (ps_ret (pe_lst h)).imp fun De σ H ⟨b0, H0, B, Γ, d, so, w, r⟩ => by
  obtain ⟨x, y, ne, e1, e2, i1, i2, w⟩ := w
  obtain ⟨v, f, u, g, h1, h2, g1, g2, nd, fr⟩ := two_own so ne e1 e2
  refine ⟨v, h1, u, g1, by show 2 ≤ sizeLine; rw [sizeLine_eq]; omega, fun p hp => ?_⟩
  have s : Sp' B H B (upd H p (.lst [v, u])) := .new so.sk.ex hp
  have al : OrA B H [v, u] [x, y] (f ++ (g ++ [])) := .cons h2 (.cons g2 .nil)
  rw [List.append_nil] at al
  refine r.rr _ (.ref p) (p :: (f ++ g)) _ _ (so.sp.trans s) (.on (ex_back so.sk.ex hp) upd_same (al.frame s.b fun c hc => ?_)) (List.nodup_cons.mpr ⟨fun hm => ?_, nd⟩) (fun c hc => ?_) (by show R.imms [x, y] = true; rw [R.imms, R.imms, R.imms, i1, i2]; rfl) w
  · obtain ⟨k1, o, k2, k3⟩ := al.at c hc
    exact ⟨upd_ne (fun z => by rw [z, hp] at k2; cases k2), k1⟩
  · obtain ⟨k1, o, k2, k3⟩ := al.at p hm
    rw [hp] at k2
    cases k2
  · rcases List.mem_cons.mp hc with rfl | hc
    · exact ex_back so.sk.e0 hp
    · exact fr c hc
theorem psx_raise {x : Nat} (hc : X.calm = true) (tk : Takes X W) (he : PMk X e (fun _ H Q => Q (.ref (T.ca x)) none H)) : PS X (.Raise (some e) none pos) (tS T W (.raise_ x)) := (ps_raise hc tk he).imp fun De σ H ⟨b0, H0, B, Γ, d, so, w, r⟩ =>
  r.ex x B Γ σ H so w
end
end TD

/-! TD12: classes of errors, try; a def's promise. -/
namespace TD
open PySem PySem.Spec PyProof.Rows L2

def cname : Nat → Str
  | 0 => "TillError" | 1 => "NoTill" | 2 => "NoKind" | 3 => "Twice" | 4 => "NoCount" | 5 => "NoSum" | 6 => "TooLittle" | 7 => "NoChange" | 8 => "TooFew" | 9 => "StillHeld" | _ => "NoDeed"
/-- what is known of a class of errors -/
structure Cl1 (K : PySem.W.Frag) (mg : Str → Option Value) (n : Str) (C : Addr) : Prop where
  g : mg n = some (.ref C)
  k : PySem.W.keepIn K (.ref C) = true
  x : PySem.W.excIn K C [.type "ValueError", .type "Exception", .type "BaseException", .type "object"] "ValueError.__new__" = true
  b : PySem.W.subIn K (.ref C) (.type "BaseException") = some true
  t : PySem.W.typeIn K (.ref C) = some (.type "type")
  i : PySem.W.isClsIn K C = true
  v : PySem.W.subIn K (.ref C) (.type "ValueError") = some true
  e : ExcC K C
structure Cls' (K : PySem.W.Frag) (mg : Str → Option Value) (ca : Nat → Addr) (xs ys : List Nat) : Prop where
  one : ∀ y ∈ ys, Cl1 K mg (cname y) (ca y)
  sub : ∀ x ∈ xs, x ∈ ys ∧ ∀ y ∈ ys, PySem.W.subIn K (.ref (ca x)) (.ref (ca y)) = some (subX x y)
section
variable {K : PySem.W.Frag} {mg : Str → Option Value} {ca : Nat → Addr} {xs ys : List Nat}
theorem isCls_some {C : Addr} (h : PySem.W.isClsIn K C = true) : (PySem.W.clsIn K C).isSome = true := h
theorem Cls'.kit (c : Cls' K mg ca xs ys) {x y : Nat} (hx : x ∈ xs) (hy : y ∈ ys) : PySem.W.kitOne K (.ref (ca x)) (.ref (ca y)) = some (subX x y) := by
  have s := (c.sub x hx).2 y hy
  have o := c.one y hy
  unfold PySem.W.kitOne
  by_cases q : (Value.ref (ca x) == Value.ref (ca y)) = true
  · rw [if_pos q]
    have e : ca x = ca y := Value.ref.inj (beq_iff_eq.mp q)
    rw [← s, e]
    have e2 : PySem.W.subIn K (.ref (ca y)) (.ref (ca y)) = PySem.W.subIn K (.ref (ca x)) (.ref (ca y)) := by rw [e]
    rw [e2, s]
    -- a class is below itself
    have hx' := (c.sub x hx)
    have self : PySem.W.subIn K (.ref (ca x)) (.ref (ca x)) = some (subX x x) := hx'.2 x hx'.1
    have e3 : PySem.W.subIn K (.ref (ca x)) (.ref (ca x)) = PySem.W.subIn K (.ref (ca x)) (.ref (ca y)) := by rw [e]
    rw [self, s] at e3
    rw [← e3]
    simp [subX]
  · rw [if_neg q]
    show (if ((PySem.W.clsIn K (ca y)).isSome && PySem.W.typeIn K (.ref (ca y)) == some (.type "type")) = true then PySem.W.subIn K (.ref (ca x)) (.ref (ca y)) else none) = _
    rw [if_pos (by rw [isCls_some o.i, o.t]; rfl), s]
theorem Cls'.kitV (c : Cls' K mg ca xs ys) {x : Nat} (hx : x ∈ xs) : PySem.W.kitOne K (.ref (ca x)) (.type "ValueError") = some true := by
  have o := c.one x (c.sub x hx).1
  unfold PySem.W.kitOne
  rw [if_neg (by intro z; cases beq_iff_eq.mp z)]
  show (if PySem.W.kitMeta "ValueError" = true then PySem.W.subIn K (.ref (ca x)) (.type "ValueError") else none) = _
  rw [if_pos (by decide +kernel), o.v]
theorem Cls'.exm (c : Cls' K mg ca xs ys) {x y : Nat} (hx : x ∈ xs) (hy : y ∈ ys) : PySem.W.exmOne K (.ref (ca x)) (.ref (ca y)) = some (subX x y) := by
  have s := (c.sub x hx).2 y hy
  have o := c.one y hy
  unfold PySem.W.exmOne
  rw [if_pos (by rw [o.b]; rfl)]
  show (if ((PySem.W.clsIn K (ca y)).isSome && PySem.W.typeIn K (.ref (ca y)) == some (.type "type")) = true then PySem.W.subIn K (.ref (ca x)) (.ref (ca y)) else none) = _
  rw [if_pos (by rw [isCls_some o.i, o.t]; rfl), s]
end
section
variable {X : Cx} {T : Tb} {W : WX} {a b c e tg iter : Expr} {st b₀ : Stmt} {sts bs sui : List Stmt} {ga gb gc gk : GE} {gf : GF} {gr : GR} {gi : GI} {g : GS} {gs gb' : GSs} {gh : GHs} {i j t y x : Nat} {ys : List Nat} {pos p np : Pos}
/-- X('..') -/
theorem pmk_cls {m : Str} {k : Nat} {p2 : Pos} (cl : Cls' X.K X.mg T.ca T.xs ys) (hy : x ∈ ys := by decide) (hg : Gl X (cname x) := by rfl) (hdb : (cname x == ("__debug__" : Str)) = false := by decide) :
    PMk X (.Call (.Name (cname x) p) [.Constant (.str m) k p2] [] pos) (fun _ H Q => Q (.ref (T.ca x)) none H) :=
  have o := cl.one x hy
  pmk_own PySem.F.excBase_ValueError o.x o.g o.k (raises_own o.b o.t) hg hdb
theorem psx_rais {m : Str} {k : Nat} {p2 : Pos} (cl : Cls' X.K X.mg T.ca T.xs ys) (hc : X.calm = true) (tk : Takes X W) (hy : x ∈ ys := by decide) (hg : Gl X (cname x) := by rfl) (hdb : (cname x == ("__debug__" : Str)) = false := by decide) :
    PS X (.Raise (some (.Call (.Name (cname x) p) [.Constant (.str m) k p2] [] pos)) none np) (tS T W (.raise_ x)) := psx_raise hc tk (pmk_cls cl hy hg hdb)

/-! ### try -/
def lsOf (T : Tb) : GHs → List (Value × (Addr → Value → Option Addr → TS))
  | .nil => []
  | .cons y s r => (.ref (T.ca y), fun _ _ _ => tSs T W0 s) :: lsOf T r
/-- within an except suite nothing is raised -/
theorem Real.suite {b0 H0 : Hp} {d : GD} {De : Ends} (r : Real T W b0 H0 d De) : Real T W0 b0 H0 { d with ex := fun _ _ => False } De := ⟨r.nx, r.rr, r.ro, (fun x B Γ σ H so q => q.elim), r.rm⟩
def hys : GHs → List Nat
  | .nil => []
  | .cons y _ r => y :: hys r
theorem try_go {De : Ends} {b0 H0 : Hp} {d : GD} (cl : Cls' X.K X.mg T.ca T.xs ys) (r : Real T W b0 H0 d De) : ∀ {gh : GHs}, (∀ y ∈ hys gh, y ∈ ys) → ∀ {x : Nat} {B H : Hp} {Γ : TD.Env} {σ : L2.St}, So b0 H0 B Γ σ H → wpH T gh d x Γ → wMany X.K W De (lsOf T gh) (.ref (T.ca x)) none σ H
  | .nil, _, _, _, _, _, _, so, w => r.ex _ _ _ _ _ so w
  | .cons y s gr, h, x, B, H, Γ, σ, so, w => by
    obtain ⟨hx, w1, w2⟩ := w
    refine ⟨subX x y, cl.exm hx (h y List.mem_cons_self), fun z a ha => ⟨b0, H0, B, Γ, _, so, w1 z, r.suite⟩, fun z => try_go cl r (gh := gr) (fun y hy => h y (List.mem_cons_of_mem _ hy)) so (w2 z)⟩
theorem hdx_nil : HdsOk X [] (lsOf T .nil) := .nil
theorem hdx_cons {hds : List ExceptHandler} (cl : Cls' X.K X.mg T.ca T.xs ys) (hs : ∀ (a : Addr) (oe : Obj) (pn : List (Addr × Obj)), PSs (X.suite a ((a, oe) :: pn)) (b₀ :: sui) (tSs T W0 gs)) (r : HdsOk X hds (lsOf T gh)) (hy : y ∈ ys := by decide) (hg : Gl X (cname y) := by rfl) (hdb : (cname y == ("__debug__" : Str)) = false := by decide) :
    HdsOk X (.ExceptHandler (some (.Name (cname y) np)) none (b₀ :: sui) pos :: hds) (lsOf T (.cons y gs gh)) :=
  .cons ⟨hg, hdb, .inl (cl.one y hy).g⟩ (fun a oe _ _ pn _ _ => hs a oe pn) r
theorem psx_try {h₀ : ExceptHandler} {hds : List ExceptHandler} (cl : Cls' X.K X.mg T.ca T.xs ys) (tk : Takes X W)
    (hb : ∀ (W : WX) (pn : List (Addr × Obj)) (xe : Value → Shared → Prop), Takes (X.tr pn xe) W → PassesOwn (model X.prog X.w) X.A X.env xe → PSs (X.tr pn xe) bs (tSs T W gb')) (hh : HdsOk X (h₀ :: hds) (lsOf T gh)) (hy : ∀ y ∈ hys gh, y ∈ ys := by decide)
    (hst : X.stack = X.env :: X.outer := by rfl) (hf : X.env.frame = some X.env.locals := by rfl) : PS X (.Try bs (h₀ :: hds) [] [] pos) (tS T W (.try_ gb' gh)) :=
  (ps_try_many (Wout := W) hst hf tk hb hh).imp fun De σ H ⟨b0, H0, B, Γ, d, so, w, r⟩ =>
    ⟨b0, H0, B, Γ, { d with ex := fun x Γ' => wpH T gh d x Γ' }, so, w, ⟨r.nx, r.rr, r.ro, (fun x B1 Γ1 σ1 H1 so1 w1 => try_go cl r hy so1 w1), r.rm⟩⟩
theorem pss_ex {α : Type} {P : α → Prop} {t : α → TS} (h : ∀ x, P x → PSs X sts (t x)) : PSs X sts (fun D σ H => ∃ x, P x ∧ t x D σ H) := ⟨fun pins s σ H D I ⟨x, hx, q⟩ => (h x hx).run pins s σ H D I q⟩
/-- try .. except X as n -/
theorem psx_tryAs {n : Str} {pos' : Pos} (cl : Cls' X.K X.mg T.ca T.xs ys) (tk : Takes X W) (hN : X.N.Nodup) (hi : X.N[i]? = some n) (hln : X.env.kindOf n = some .local)
    (hb : ∀ (W : WX) (pn : List (Addr × Obj)) (xe : Value → Shared → Prop), Takes (X.tr pn xe) W → PassesOwn (model X.prog X.w) X.A X.env xe → PSs (X.tr pn xe) bs (tSs T W gb'))
    (hs : ∀ (a : Addr) (oe : Obj) (pn : List (Addr × Obj)) (x : Nat), x ∈ T.xs → Zc (.ref (T.ca x)) none oe → (∃ vs, oe.data = .fields vs) → PSs (X.suite a ((a, oe) :: pn)) (b₀ :: sui) (tSs { T with xe := some (a, x) } W0 gs))
    (hy : y ∈ ys := by decide) (hg : Gl X (cname y) := by rfl) (hdb : (cname y == ("__debug__" : Str)) = false := by decide) (hst : X.stack = X.env :: X.outer := by rfl) (hf : X.env.frame = some X.env.locals := by rfl) :
    PS X (.Try bs [.ExceptHandler (some (.Name (cname y) np)) (some n) (b₀ :: sui) pos'] [] [] pos) (tS T W (.tryAs i y gb' gs)) :=
  (ps_try_as (i := i) (Wout := W) (tb := fun W => tSs T W gb') (ts := fun a cls d D σ H => ∃ x, (x ∈ T.xs ∧ cls = .ref (T.ca x) ∧ d = none) ∧ tSs { T with xe := some (a, x) } W0 gs D σ H) hst hf hN hi hln ⟨hg, hdb, .inl (cl.one y hy).g⟩ tk hb (fun a oe cls d pn hz hv => pss_ex fun x ⟨hx, e1, e2⟩ => by
    subst e1 e2
    exact hs a oe pn x hx hz hv)).imp fun De σ H ⟨b0, H0, B, Γ, d, so, w, r⟩ => by
  refine ⟨b0, H0, B, Γ, { d with ex := fun x Γ' => x ∈ T.xs ∧ (subX x y = true → ∀ a : Addr, wpSs { T with xe := some (a, x) } gs { d with ex := fun _ _ => False, nx := fun Γ2 => d.nx (Γ2.set i none) } (Γ'.set i (some (.xc a x)))) ∧ (subX x y = false → d.ex x Γ') }, so, w, ⟨r.nx, r.rr, r.ro, (fun x B1 Γ1 σ1 H1 so1 w1 => ?_), r.rm⟩⟩
  obtain ⟨hx, w2, w3⟩ := w1
  refine ⟨subX x y, cl.exm hx hy, fun z a ha => ⟨x, ⟨hx, rfl, rfl⟩, b0, H0, B1, _, _, ⟨so1.sk.put_xc i a x, so1.nv.set i (fun _ z => nomatch z), so1.sp⟩, w2 z a, ?_⟩, fun z => r.ex x _ _ _ _ so1 (w3 z)⟩
  exact ⟨fun B2 Γ2 σ2 H2 so2 w4 => r.nx _ _ _ _ ⟨so2.sk.put_no i none, so2.nv.set i (fun _ z => nomatch z), so2.sp⟩ w4, r.rr, r.ro, (fun _ _ _ _ _ _ q => q.elim), r.rm⟩

/-! ### isinstance of the error at hand -/
theorem xslot_inv {B H : Hp} {Γ : TD.Env} {σ : L2.St} {a : Addr} {x z : Nat} (hs : Se B Γ σ H) (hT : T.xe = some (a, x)) (h : xslot T Γ i = .ok z) : z = x ∧ σ[i]? = some (some (.ref a)) := by
  unfold xslot at h
  rw [hT] at h
  cases e : Γ[i]? with
  | none => rw [e] at h; cases h
  | some o =>
    cases o with
    | none => rw [e] at h; cases h
    | some s =>
      cases s with
      | xc a' x' =>
        rw [e] at h
        by_cases q : a' = a ∧ x' = x
        · simp only [q, and_self, if_true] at h
          cases h
          obtain ⟨rfl, rfl⟩ := q
          exact ⟨rfl, hs.ok i _ e⟩
        · simp only [q, if_false] at h
          cases h
      | _ => rw [e] at h; cases h
theorem xslot_or (i : Nat) {Γ : TD.Env} : (∃ z, xslot T Γ i = .ok z) ∨ xslot T Γ i = .bad := by
  unfold xslot
  split
  · split
    · exact .inl ⟨_, rfl⟩
    · exact .inr rfl
  · exact .inr rfl
section
variable {oe : Obj} {pn : List (Addr × Obj)} {ad : Addr} {n : Str} {p1 p2 : Pos}
theorem px_ise (cl : Cls' X.K X.mg T.ca T.xs ys) (bi : Bi X.mg) (hT : T.xe = some (ad, x)) (hx : x ∈ T.xs) (hz : Zc (.ref (T.ca x)) none oe) (hv : ∃ vs, oe.data = .fields vs) (hn : PE (X.suite ad ((ad, oe) :: pn)) (.Name n p1) (tVar i)) (hy : y ∈ ys := by decide) (hg : Gl X "isinstance" := by rfl) (hg2 : Gl X (cname y) := by rfl) (hdb : (cname y == ("__debug__" : Str)) = false := by decide)
    (he : starEach [.Name n p1, .Name (cname y) p2] X.env = (false, eval (.Name n p1) X.env) :: starEach [.Name (cname y) p2] X.env := by rfl) :
    PE (X.suite ad ((ad, oe) :: pn)) (.Call (.Name "isinstance" p) [.Name n p1, .Name (cname y) p2] [] pos) (tG T W (.ise i y)) :=
  (pe_callB (call_isE (cl.one x (cl.sub x hx).1).e hz hv) hg bi.isinstance (by decide +kernel) (pa_cons hn (pa_cons (pe_glob (v := .ref (T.ca y)) hg2 (cl.one y hy).g rfl hdb) pa_nil) he) (by decide) (by decide) he rfl).imp fun σ H Q ⟨B, Γ, hs, p⟩ => by
    have p' : Post T W σ B H ((xslot T Γ i).bind fun x => .ok (.bool (subX x y))) Q := p
    rcases xslot_or (T := T) i (Γ := Γ) with ⟨z, e⟩ | e
    · rw [e] at p'
      obtain ⟨rfl, h1⟩ := xslot_inv hs hT e
      exact ⟨_, h1, .ref (T.ca y), .ref (T.ca y), subX z y, rfl, fun u r => r, cl.kit hx hy, Post.here (d := .bool _) hs.ex p' (.bl _)⟩
    · rw [e] at p'
      exact p'.elim
theorem px_iseV (cl : Cls' X.K X.mg T.ca T.xs ys) (bi : Bi X.mg) (hT : T.xe = some (ad, x)) (hx : x ∈ T.xs) (hz : Zc (.ref (T.ca x)) none oe) (hv : ∃ vs, oe.data = .fields vs) (hn : PE (X.suite ad ((ad, oe) :: pn)) (.Name n p1) (tVar i)) (hg : Gl X "isinstance" := by rfl) (hg2 : Gl X "ValueError" := by rfl)
    (he : starEach [.Name n p1, .Name "ValueError" p2] X.env = (false, eval (.Name n p1) X.env) :: starEach [.Name "ValueError" p2] X.env := by rfl) :
    PE (X.suite ad ((ad, oe) :: pn)) (.Call (.Name "isinstance" p) [.Name n p1, .Name "ValueError" p2] [] pos) (tG T W (.ise i 11)) :=
  (pe_callB (call_isE (cl.one x (cl.sub x hx).1).e hz hv) hg bi.isinstance (by decide +kernel) (pa_cons hn (pa_cons (pe_bltn (v := .ty "ValueError") hg2 bi.valueError (by decide +kernel) rfl) pa_nil) he) (by decide) (by decide) he rfl).imp fun σ H Q ⟨B, Γ, hs, p⟩ => by
    have p' : Post T W σ B H ((xslot T Γ i).bind fun x => .ok (.bool (subX x 11))) Q := p
    rcases xslot_or (T := T) i (Γ := Γ) with ⟨z, e⟩ | e
    · rw [e] at p'
      obtain ⟨rfl, h1⟩ := xslot_inv hs hT e
      have hb : subX z 11 = true := by simp [subX]
      have q := Post.here (d := .bool (subX z 11)) hs.ex p' (.bl _)
      rw [hb] at q
      exact ⟨_, h1, .ty "ValueError", .type "ValueError", true, rfl, fun u r => r, cl.kitV hx, q⟩
    · rw [e] at p'
      exact p'.elim
/-- isinstance(e, (c1, c2, ..)) -/
def rIsET (K : PySem.W.Frag) (E a : Addr) : List V → Hp → VK → Prop := fun xs H Q => ∃ (tp : Addr) (cs : List Addr) (b : Bool), xs = [.ref a, .ref tp] ∧ H tp = some (.tup (cs.map V.ref)) ∧ PySem.W.kitAny K (.ref E) (cs.map Value.ref) = some b ∧ Q (.bl b) H
theorem vals_refs : ∀ {cs : List Addr} {us : List Value}, Vals (cs.map V.ref) us → us = cs.map Value.ref
  | [], _, .nil => rfl
  | c :: cs, _, .cons r t => by
    have e : _ = Value.ref c := r
    rw [e, vals_refs t]
    rfl
theorem call_isET {E a : Addr} (C : ExcC X.K E) (hz : Zc (.ref E) none oe) (hf : ∃ vs, oe.data = .fields vs) : CallR (X.suite a ((a, oe) :: pn)) (.builtin "isinstance") (rIsET X.K E a) := by
  intro pins s σ H xs us Q I r h
  obtain ⟨tp, cs, b, ex, ht, ea, q⟩ := h
  subst ex
  obtain ⟨u1, u2, eu, r1, r2⟩ := vals2 r
  subst eu
  have e1 : u1 = Value.ref a := r1
  have e2 : u2 = Value.ref tp := r2
  subst e1 e2
  obtain ⟨hget, _⟩ := I.pin (a, oe) (List.mem_append.mpr (.inl List.mem_cons_self))
  obtain ⟨vs, hvs⟩ := hf
  have J : PySem.W.InstAt s.heap a oe E none := by
    obtain ⟨k1, k2, k3, k4⟩ := oe
    obtain ⟨z1, z2⟩ := hz
    dsimp only at z1 z2 hvs
    subst z1 z2 hvs
    exact ⟨hget, rfl, rfl, trivial⟩
  obtain ⟨_, its, rv, o, g1, g2, m, g3⟩ := (show ObjOk X.prog X.w H s.heap tp (.tup (cs.map V.ref)) from I.hok tp _ ht)
  have ei := vals_refs rv
  subst ei
  obtain ⟨c1, c2, c3, c4⟩ := o
  dsimp only at g2 g3
  subst g2 g3
  refine PySem.W.kia_tup (PySem.W.handS_kitx_exc C.hg C.hk C.hs C.hd C.ha C.hn C.ht C.hm) I.kIn J g1 ea ?_ fun tk => ⟨.bl b, H, I.tok tk, rfl, q⟩
  exact fun z => nomatch z
theorem kit_any (cl : Cls' X.K X.mg T.ca T.xs ys) (hx : x ∈ T.xs) : ∀ {zs : List Nat}, (∀ y ∈ zs, y ∈ ys) → PySem.W.kitAny X.K (.ref (T.ca x)) ((zs.map T.ca).map Value.ref) = some (zs.any (subX x))
  | [], _ => rfl
  | z :: zs, h => by
    have k := cl.kit hx (h z List.mem_cons_self)
    have ih := kit_any cl hx (zs := zs) fun y hy => h y (List.mem_cons_of_mem _ hy)
    rw [List.map_cons, List.map_cons, List.any_cons]
    unfold PySem.W.kitAny
    rw [k]
    cases q : subX x z with
    | true => rfl
    | false => exact ih
theorem px_ises {zs : List Nat} {es : List Expr} {k : Nat} {ta : TA} (cl : Cls' X.K X.mg T.ca T.xs ys) (bi : Bi X.mg) (hT : T.xe = some (ad, x)) (hx : x ∈ T.xs) (hz : Zc (.ref (T.ca x)) none oe) (hv : ∃ vs, oe.data = .fields vs) (hn : PE (X.suite ad ((ad, oe) :: pn)) (.Name n p1) (tVar i))
    (ha : PA (X.suite ad ((ad, oe) :: pn)) es ta) (hta : ∀ σ H Q, Q ((zs.map T.ca).map V.ref) H → ta σ H Q) (hsz : zs.length ≤ 100 := by decide) (hy : ∀ y ∈ zs, y ∈ ys := by decide) (hg : Gl X "isinstance" := by rfl)
    (he : starEach [.Name n p1, .Tuple es k p2] X.env = (false, eval (.Name n p1) X.env) :: starEach [.Tuple es k p2] X.env := by rfl) :
    PE (X.suite ad ((ad, oe) :: pn)) (.Call (.Name "isinstance" p) [.Name n p1, .Tuple es k p2] [] pos) (tG T W (.ises i zs)) :=
  (pe_callB (call_isET (cl.one x (cl.sub x hx).1).e hz hv) hg bi.isinstance (by decide +kernel) (pa_cons hn (pa_cons (pe_tup ha) pa_nil) he) (by decide) (by decide) he rfl).imp fun σ H Q ⟨B, Γ, hs, p⟩ => by
    have p' : Post T W σ B H ((xslot T Γ i).bind fun x => .ok (.bool (zs.any (subX x)))) Q := p
    rcases xslot_or (T := T) i (Γ := Γ) with ⟨z, e⟩ | e
    · rw [e] at p'
      obtain ⟨rfl, h1⟩ := xslot_inv hs hT e
      refine ⟨_, h1, hta σ H _ ⟨?_, fun tp htp => ⟨tp, zs.map T.ca, zs.any (subX z), rfl, upd_same, kit_any cl hx hy, ?_⟩⟩⟩
      · rw [List.length_map, List.length_map, sizeLine_eq]
        omega
      · have p2 : Post T W σ B (upd H tp (.tup ((zs.map T.ca).map V.ref))) (.ok (.bool (zs.any (subX z)))) Q := Post.step p' (.new hs.ex htp)
        exact Post.here (d := .bool _) (ex_trans hs.ex (ex_new htp)) p2 (.bl _)
    · rw [e] at p'
      exact p'.elim
end
end
end TD

/-! TD13: a def by its body's data. -/
namespace TD
open PySem PySem.Spec PyProof.Rows L2

def startE (N : List Str) (ds : List D) : Env := (ds.map fun d => some (Sl.fz d)) ++ List.replicate (N.length - ds.length) none
def gdOf (o : Out) : GD := { nx := fun _ => o = .ret (.im .none), rt := fun x => x = o, ex := fun x _ => o = .exc x }
/-- a def that stands at a name and keeps the promise of φ -/
structure Cal (P : Program) (w : World) (K : PySem.W.Frag) (mg : Str → Option Value) (base : Heap) (ca : Nat → Addr) (x : Str) (φ : List D → Option Out) (k : Nat) : Prop where
  ex : ∃ f fd ps, FnOk P w K mg base (L2.CX P w) k f fd ps (spOf ca φ) ∧ mg x = some (.ref f) ∧ PySem.W.keepIn K (.ref f) = true ∧ Binds K fd ps []
theorem Cal.at {X : Cx} {T : Tb} {x : Str} {φ : List D → Option Out} {j k n : Nat} (c : Cal X.prog X.w X.K X.mg X.base T.ca x φ j) (hr : Room k X.A) (hj : j ≤ k := by decide) (h : T.fs[n]? = some φ := by rfl) : Callee X T n x := by
  obtain ⟨f, fd, ps, F, g, kp, b⟩ := c.ex
  exact ⟨φ, f, fd, ps, j, h, F, hr.mono hj, g, kp, b⟩
section
variable {P : Program} {w : World} {K : PySem.W.Frag} {mg : Str → Option Value} {base : Heap} {T : Tb}
theorem sk_start {H b : Hp} {N : List Str} {vs : List V} {ds : List D} (ex : Ex b H) (r : RpA b vs ds) : So b H b (startE N ds) (L2.start N vs) H := by
  have hl := r.len
  refine ⟨⟨?_, ex_refl _, ex, fun _ => [], fun _ _ _ _ hp => (by cases hp), fun _ _ hp => (by cases hp), fun i s e => ?_⟩, fun j kvs e => ?_, ex_refl _, ex_refl _, ex, fun _ _ _ _ z => z⟩
  · unfold startE L2.start
    simp only [List.length_append, List.length_map, List.length_replicate]
    omega
  · have hi : i < ds.length := by
      by_cases q : i < ds.length
      · exact q
      · unfold startE at e
        rw [List.getElem?_append_right (by simp; omega), List.getElem?_replicate] at e
        split at e <;> cases e
    have e' : ds[i]? = some ds[i] := List.getElem?_eq_getElem hi
    unfold startE at e
    rw [List.getElem?_append_left (by simp; exact hi), List.getElem?_map, e'] at e
    cases e
    obtain ⟨v, hv, rv⟩ := r.get e'
    refine ⟨v, ?_, rv⟩
    unfold L2.start
    rw [List.getElem?_append_left (by simp; omega), List.getElem?_map, hv]
    rfl
  · unfold startE at e
    by_cases q : j < ds.length
    · rw [List.getElem?_append_left (by simp; exact q), List.getElem?_map, List.getElem?_eq_getElem q] at e
      cases e
    · rw [List.getElem?_append_right (by simp; omega), List.getElem?_replicate] at e
      split at e <;> cases e
theorem fn_data {x qual : Str} {st : Stmt} {f : Addr} {fd : FuncData} {N ps : List Str} {k : Nat} {φ : List D → Option Out} {g : GSs} (F : Fun K qual qual st f fd) (gm : mg x = some (.ref f)) (bd : Binds K fd ps []) (S : FnScope N ps (defScope st)) (ar : ∀ ds o, φ ds = some o → ds.length = ps.length)
    (hb : ∀ (cdv : Value) (A : Around) (outer : List PySem.Env) (s : Shared) (H : Hp) (E : XK), Room k (A.deeper (envOfC qual (defScope st) s.heap.objs.size f cdv)) →
      PSs (cxOf (L2.CX P w) P w K mg base N qual (defScope st) f cdv A outer s H E) (defBody st) (tSs T (fun cls d _ H => E cls d H) g))
    (hw : ∀ ds o, φ ds = some o → wpSs T g (gdOf o) (startE N ds)) : Cal P w K mg base T.ca x φ (k + 1) := by
  refine ⟨f, fd, ps, F.okX S (fun vs H Q E h => ?_) (fun cdv A outer s H vs Q E hr h => ⟨_, hb cdv A outer s H E hr, ?_⟩), gm, F.kp, bd⟩
  · obtain ⟨b, ds, ex, r, q⟩ := h
    cases e : φ ds with
    | none => rw [e] at q; exact q.elim
    | some o => rw [r.len, ar ds o e]
  · obtain ⟨b, ds, ex, r, q⟩ := h
    cases e : φ ds with
    | none => rw [e] at q; exact q.elim
    | some o =>
      rw [e] at q
      refine ⟨b, H, b, _, gdOf o, sk_start ex r, hw ds o e, ⟨fun B1 Γ1 σ1 H1 so1 z => ?_, fun r v f B1 H1 s1 o1 n1 k1 i1 z => ?_, fun x v B1 H1 s1 r1 z => ?_, fun x B1 Γ1 σ1 H1 so1 z => ?_, fun p c x v B1 Γ1 σ1 H1 so1 _ _ _ z => ?_⟩⟩
      · have z' : o = .ret (.im .none) := z
        subst z'
        exact q .non [] B1 H1 so1.sp (fun _ hp => by cases hp) .nil (.im .non) rfl
      · have z' : .ret r = o := z
        subst z'
        exact q v f B1 H1 s1 k1 n1 o1 i1
      · have z' : .old x = o := z
        subst z'
        exact q v B1 H1 s1 r1
      · have z' : o = .exc x := z
        subst z'
        exact q B1 H1 so1.sp
      · have z' : .mu p c x = o := z
        subst z'
        exact q.elim
end
end TD

/-! TD14: working out what a def's data reaches. -/
namespace TD
open PySem PySem.Spec PyProof.Rows L2

structure GD.Le (d d' : GD) : Prop where
  nx : ∀ Γ, d.nx Γ → d'.nx Γ
  rt : ∀ o, d.rt o → d'.rt o
  ex : ∀ x Γ, d.ex x Γ → d'.ex x Γ
theorem onR_mono {α : Type} {r : Rs α} {e e' : Nat → Prop} {k k' : α → Prop} (h : onR r e k) (he : ∀ x, e x → e' x) (hk : ∀ a, k a → k' a) : onR r e' k' := by
  cases r with
  | ok a => exact hk a h
  | err x => exact he x h
  | bad => exact h
theorem wpForL_mono {wb : GD → Env → Prop} (hwb : ∀ d d' Γ, wb d Γ → GD.Le d d' → wb d' Γ) {ws ts : List Nat} : ∀ (items : List (List D)) {d d' : GD} {Γ : Env}, wpForL wb d ws ts items Γ → GD.Le d d' → wpForL wb d' ws ts items Γ
  | [], _, _, _, h, l => l.nx _ h
  | it :: r, d, d', Γ, h, l => hwb { d with nx := fun Γ' => wpForL wb d ws ts r (wipeE Γ' ws) } _ _ h ⟨fun _ z => wpForL_mono hwb r z l, l.rt, l.ex⟩
theorem wpForO_mono {wb : GD → Env → Prop} (hwb : ∀ d d' Γ, wb d Γ → GD.Le d d' → wb d' Γ) {ws : List Nat} {t i : Nat} {p : Addr} {ds : List D} : ∀ (items : List D) {d d' : GD} {Γ : Env}, wpForO wb d ws t i p ds items Γ → GD.Le d d' → wpForO wb d' ws t i p ds items Γ
  | [], _, _, _, h, l => l.nx _ h
  | x :: r, d, d', Γ, h, l => hwb { d with nx := fun Γ' => Γ'[i]? = some (some (.pin p ds)) ∧ (wipeE Γ' ws)[i]? = some (some (.pin p ds)) ∧ wpForO wb d ws t i p ds r (wipeE Γ' ws) } _ _ h ⟨fun _ z => ⟨z.1, z.2.1, wpForO_mono hwb r z.2.2 l⟩, l.rt, l.ex⟩
theorem wpWhl_mono {T : Tb} {wb : GD → Env → Prop} (hwb : ∀ d d' Γ, wb d Γ → GD.Le d d' → wb d' Γ) {ws : List Nat} {c : GE} : ∀ (n : Nat) {d d' : GD} {Γ : Env}, wpWhl T wb d ws c n Γ → GD.Le d d' → wpWhl T wb d' ws c n Γ
  | 0, _, _, _, h, _ => h
  | n + 1, d, d', Γ, h, l => onR_mono h (fun x z => l.ex _ _ z) fun b z => by
    cases b with
    | bool b => cases b with
      | true => exact hwb { d with nx := fun Γ' => wpWhl T wb d ws c n (wipeE Γ' ws) } _ _ z ⟨fun _ y => wpWhl_mono hwb n y l, l.rt, l.ex⟩
      | false => exact l.nx _ z
    | _ => exact z
mutual
theorem wpS_mono : ∀ (s : GS) {T : Tb} {d d' : GD} {Γ : Env}, TD.wpS T s d Γ → GD.Le d d' → TD.wpS T s d' Γ
  | .asgV i e, _, _, _, _, h, l => onR_mono h (fun _ z => l.ex _ _ z) fun _ z => ⟨z.1, l.nx _ z.2⟩
  | .asgS i e, _, _, _, _, h, l => onR_mono h (fun _ z => l.ex _ _ z) fun _ z => l.nx _ z
  | .asgF i g, _, _, _, _, h, l => onR_mono h (fun _ z => l.ex _ _ z) fun _ z => ⟨z.1, l.nx _ z.2⟩
  | .asgFS i g, _, _, _, _, h, l => onR_mono h (fun _ z => l.ex _ _ z) fun _ z => l.nx _ z
  | .asgR i r, _, _, _, _, h, l => onR_mono h (fun _ z => l.ex _ _ z) fun _ z => l.nx _ z
  | .asgD i, _, _, _, _, h, l => l.nx _ h
  | .appV i e, _, _, _, _, ⟨ds, h1, h2⟩, l => ⟨ds, h1, onR_mono h2 (fun _ z => l.ex _ _ z) fun _ z => ⟨z.1, z.2.1, l.nx _ z.2.2⟩⟩
  | .appS i e, _, _, _, _, ⟨ds, h1, h2⟩, l => ⟨ds, h1, onR_mono h2 (fun _ z => l.ex _ _ z) fun _ z => ⟨z.1, l.nx _ z.2⟩⟩
  | .rev i, _, _, _, _, ⟨ds, h1, h2⟩, l => ⟨ds, h1, l.nx _ h2⟩
  | .dset i k e, _, _, _, _, ⟨ds, h1, h2⟩, l => ⟨ds, h1, onR_mono h2 (fun _ z => l.ex _ _ z) fun _ z => ⟨z.1, onR_mono z.2 (fun _ z => l.ex _ _ z) fun _ ⟨j, y1, y2, y3⟩ => ⟨j, y1, y2, l.nx _ y3⟩⟩⟩
  | .dpop i k, _, _, _, _, ⟨ds, h1, h2⟩, l => ⟨ds, h1, onR_mono h2 (fun _ z => l.ex _ _ z) fun _ ⟨j, y1, y2, y3⟩ => ⟨j, y1, y2, l.nx _ y3⟩⟩
  | .setI i k e, _, _, _, _, ⟨ds, h1, h2⟩, l => ⟨ds, h1, onR_mono h2 (fun _ z => l.ex _ _ z) fun _ z => ⟨z.1, onR_mono z.2 (fun _ z => l.ex _ _ z) fun _ ⟨j, y1, y2, y3, y4⟩ => ⟨j, y1, y2, y3, l.nx _ y4⟩⟩⟩
  | .popApp i j k, _, _, _, _, ⟨ds, es, h0, h1, h2, h3⟩, l => ⟨ds, es, h0, h1, h2, onR_mono h3 (fun _ z => l.ex _ _ z) fun _ ⟨m, v, y1, y2, y3, y4, y5, y6⟩ => ⟨m, v, y1, y2, y3, y4, y5, l.nx _ y6⟩⟩
  | .frz i s, _, _, _, _, ⟨r, h1, h2⟩, l => ⟨r, h1, wpS_mono s h2 l⟩
  | .mutA p e, _, _, _, _, ⟨i, m, r, ds, h1, h2⟩, l => ⟨i, m, r, ds, h1, onR_mono h2 (fun _ z => l.ex _ _ z) fun _ z => ⟨z.1, z.2.1, l.nx _ z.2.2⟩⟩
  | .mutC p, _, _, _, _, ⟨i, m, r, ds, h1, h2⟩, l => ⟨i, m, r, ds, h1, l.nx _ h2⟩
  | .mutS p k e, _, _, _, _, ⟨i, m, r, ds, h1, h2⟩, l => ⟨i, m, r, ds, h1, onR_mono h2 (fun _ z => l.ex _ _ z) fun _ z => ⟨z.1, onR_mono z.2 (fun _ z => l.ex _ _ z) fun _ ⟨j, y1, y2, y3, y4⟩ => ⟨j, y1, y2, y3, l.nx _ y4⟩⟩⟩
  | .tmpApp r e, _, _, _, _, h, l => onR_mono h (fun _ z => l.ex _ _ z) fun _ ⟨ds, z1, z2⟩ => ⟨ds, z1, onR_mono z2 (fun _ z => l.ex _ _ z) fun _ z => ⟨z.1, z.2.1, l.nx _ z.2.2⟩⟩
  | .expr e, _, _, _, _, h, l => onR_mono h (fun _ z => l.ex _ _ z) fun _ z => l.nx _ z
  | .ifs c a b, _, _, _, _, h, l => onR_mono h (fun _ z => l.ex _ _ z) fun v z => by
    cases v with
    | bool q => cases q with
      | true => exact wpSs_mono a z l
      | false => exact wpSs_mono b z l
    | _ => exact z
  | .for_ ws ts gi body, T, _, _, _, h, l => onR_mono h (fun _ z => l.ex _ _ z) fun items z => wpForL_mono (wb := fun d' Γ' => wpSs T body d' Γ') (fun _ _ _ y m => wpSs_mono body y m) items z l
  | .forR ws t a body, T, _, _, _, ⟨n, h1, h2, h3⟩, l => ⟨n, h1, h2, wpForL_mono (wb := fun d' Γ' => wpSs T body d' Γ') (fun _ _ _ y m => wpSs_mono body y m) _ h3 l⟩
  | .forO ws t i body, T, _, _, _, ⟨ds, h1, h2⟩, l => ⟨ds, h1, fun p => ⟨(h2 p).1, wpForO_mono (wb := fun d' Γ' => wpSs T body d' Γ') (fun _ _ _ y m => wpSs_mono body y m) ds (h2 p).2 l⟩⟩
  | .whl ws c body, T, d, d', Γ, ⟨n, h⟩, l => ⟨n, wpWhl_mono (T := T) (wb := fun d' Γ' => wpSs T body d' Γ') (fun _ _ _ y m => wpSs_mono body y m) n h l⟩
  | .ret r, _, _, _, _, h, l => onR_mono h (fun _ z => l.ex _ _ z) fun _ z => l.rt _ z
  | .retMv i, _, _, _, _, ⟨r, h1, h2, h3⟩, l => ⟨r, h1, h2, l.rt _ h3⟩
  | .retTwo tup i j, _, _, _, _, ⟨r, q, h0, h1, h2, h3, h4, h5⟩, l => ⟨r, q, h0, h1, h2, h3, h4, l.rt _ h5⟩
  | .retOld e, _, _, _, _, h, l => onR_mono h (fun _ z => l.ex _ _ z) fun _ z => l.rt _ z
  | .retC j es i, _, _, _, _, ⟨r, h1, h2, h3, ds, r', h4, h5, h6⟩, l => ⟨r, h1, h2, h3, ds, r', h4, h5, l.rt _ h6⟩
  | .setP i k e, _, _, _, _, ⟨p, ds, h1, h2⟩, l => ⟨p, ds, h1, onR_mono h2 (fun _ z => l.ex _ _ z) fun _ z => ⟨z.1, onR_mono z.2 (fun _ z => l.ex _ _ z) fun _ ⟨j, y1, y2, y3, y4⟩ => ⟨j, y1, y2, y3, l.nx _ y4⟩⟩⟩
  | .dsetP i k e, _, _, _, _, ⟨p, ds, h1, h2⟩, l => ⟨p, ds, h1, onR_mono h2 (fun _ z => l.ex _ _ z) fun _ z => ⟨z.1, onR_mono z.2 (fun _ z => l.ex _ _ z) fun _ ⟨j, y1, y2, y3⟩ => ⟨j, y1, y2, l.nx _ y3⟩⟩⟩
  | .dpopP i k, _, _, _, _, ⟨p, ds, h1, h2⟩, l => ⟨p, ds, h1, onR_mono h2 (fun _ z => l.ex _ _ z) fun _ ⟨j, y1, y2, y3⟩ => ⟨j, y1, y2, l.nx _ y3⟩⟩
  | .callM t i j es, _, _, _, _, ⟨c, ds, c', x, h1, h2, h3, h4, h5⟩, l => ⟨c, ds, c', x, h1, h2, h3, h4, l.nx _ h5⟩
  | .ifM n i j es a b, _, _, _, _, ⟨c, ds, c', x, h1, h2, h3, h4, h5, h6⟩, l => ⟨c, ds, c', x, h1, h2, h3, h4, fun e => wpSs_mono a (h5 e) l, fun e => wpSs_mono b (h6 e) l⟩
  | .retM j es, _, _, _, _, ⟨p, c, ds, c', x, h1, h2, h3, h4, h5⟩, l => ⟨p, c, ds, c', x, h1, h2, h3, h4, l.rt _ h5⟩
  | .retP e, _, _, _, _, h, l => onR_mono h (fun _ z => l.ex _ _ z) fun _ ⟨z1, p, c, z2, z3⟩ => ⟨z1, p, c, z2, l.rt _ z3⟩
  | .raise_ x, _, _, _, _, h, l => l.ex _ _ h
  | .try_ body hs, T, d, d', _, h, l => wpSs_mono body (d := { d with ex := fun x Γ' => wpH T hs d x Γ' }) h ⟨l.nx, l.rt, fun x Γ z => wpH_mono hs z l⟩
  | .tryAs i y body suite, T, d, d', _, h, l => wpSs_mono body (d := { d with ex := fun x Γ' => x ∈ T.xs ∧ (subX x y = true → ∀ a : Addr, wpSs { T with xe := some (a, x) } suite { d with ex := fun _ _ => False, nx := fun Γ2 => d.nx (Γ2.set i none) } (Γ'.set i (some (.xc a x)))) ∧ (subX x y = false → d.ex x Γ') }) h ⟨l.nx, l.rt, fun x Γ z => ⟨z.1, fun e a => wpSs_mono suite (z.2.1 e a) ⟨fun _ z2 => l.nx _ z2, l.rt, fun _ _ z2 => z2⟩, fun e => l.ex _ _ (z.2.2 e)⟩⟩
theorem wpSs_mono : ∀ (s : GSs) {T : Tb} {d d' : GD} {Γ : Env}, wpSs T s d Γ → GD.Le d d' → wpSs T s d' Γ
  | .nil, _, _, _, _, h, l => l.nx _ h
  | .brw t i k g r, _, _, _, _, ⟨h0, rs, j, ds, new, h1, h2, h3, h4, h5, h6, h7, h8⟩, l => ⟨h0, rs, j, ds, new, h1, h2, h3, h4, h5, h6, h7, wpSs_mono r h8 l⟩
  | .cons s r, T, d, d', _, h, l => wpS_mono s (d := { d with nx := fun Γ' => wpSs T r d Γ' }) h ⟨fun _ z => wpSs_mono r z l, l.rt, l.ex⟩
theorem wpH_mono : ∀ (s : GHs) {T : Tb} {d d' : GD} {x : Nat} {Γ : Env}, wpH T s d x Γ → GD.Le d d' → wpH T s d' x Γ
  | .nil, _, _, _, _, _, h, l => l.ex _ _ h
  | .cons y s r, T, d, d', _, _, ⟨h1, h2, h3⟩, l => ⟨h1, fun e => wpSs_mono s (d := { d with ex := fun _ _ => False }) (h2 e) ⟨l.nx, l.rt, fun _ _ z => z⟩, fun e => wpH_mono r (h3 e) l⟩
end
/-- what is known between two statements -/
theorem wp_cut {T : Tb} {s : GS} {r : GSs} {d : GD} {Γ : Env} (Q : Env → Prop) (h : TD.wpS T s { d with nx := Q } Γ) (k : ∀ Γ', Q Γ' → wpSs T r d Γ') : wpSs T (.cons s r) d Γ := wpS_mono s h ⟨k, fun _ z => z, fun _ _ z => z⟩
theorem for_go {T : Tb} {ws ts : List Nat} {body : GSs} {d : GD} (I : List (List D) → Env → Prop)
    (hs : ∀ it r Γ, I (it :: r) Γ → wpSs T body { d with nx := fun Γ' => I r (wipeE Γ' ws) } (setTs Γ ts it)) (h1 : ∀ Γ, I [] Γ → d.nx Γ) : ∀ (r : List (List D)) (Γ0 : Env), I r Γ0 → wpForL (fun d' Γ' => wpSs T body d' Γ') d ws ts r Γ0
  | [], Γ0, z => h1 _ z
  | it :: r, Γ0, z => wpSs_mono body (hs it r Γ0 z) ⟨fun Γ' y => for_go I hs h1 r _ y, fun _ z => z, fun _ _ z => z⟩
/-- a loop over a list, by what is known ahead of the rest -/
theorem wp_for {T : Tb} {ws ts : List Nat} {gi : GI} {body : GSs} {d : GD} {Γ : Env} {items : List (List D)} (I : List (List D) → Env → Prop) (he : evI T (stab Γ) gi = .ok items) (h0 : I items (wipeE Γ ws))
    (hs : ∀ it r Γ, I (it :: r) Γ → wpSs T body { d with nx := fun Γ' => I r (wipeE Γ' ws) } (setTs Γ ts it)) (h1 : ∀ Γ, I [] Γ → d.nx Γ) : TD.wpS T (.for_ ws ts gi body) d Γ := by
  show onR (evI T (stab Γ) gi) _ _
  rw [he]
  exact for_go I hs h1 items _ h0
theorem whl_go {T : Tb} {ws : List Nat} {c : GE} {body : GSs} {d : GD} (I : Nat → Env → Prop)
    (hs : ∀ n Γ, I n Γ → (∃ m, n = m + 1 ∧ ev T (view Γ) c = .ok (.bool true) ∧ wpSs T body { d with nx := fun Γ' => I m (wipeE Γ' ws) } Γ) ∨ (ev T (view Γ) c = .ok (.bool false) ∧ d.nx Γ)) : ∀ (n : Nat) (Γ : Env), I n Γ → wpWhl T (fun d' Γ' => wpSs T body d' Γ') d ws c (n + 1) Γ
  | n, Γ, z => by
    show onR (ev T (view Γ) c) _ _
    rcases hs n Γ z with ⟨m, rfl, e, w⟩ | ⟨e, w⟩
    · rw [e]
      exact wpSs_mono body w ⟨fun Γ' y => whl_go I hs m _ y, fun _ z => z, fun _ _ z => z⟩
    · rw [e]
      exact w
/-- a loop while, by what is known with at most n rounds to go -/
theorem wp_whl {T : Tb} {ws : List Nat} {c : GE} {body : GSs} {d : GD} {Γ : Env} (I : Nat → Env → Prop) (n : Nat) (h0 : I n (wipeE Γ ws))
    (hs : ∀ n Γ, I n Γ → (∃ m, n = m + 1 ∧ ev T (view Γ) c = .ok (.bool true) ∧ wpSs T body { d with nx := fun Γ' => I m (wipeE Γ' ws) } Γ) ∨ (ev T (view Γ) c = .ok (.bool false) ∧ d.nx Γ)) : TD.wpS T (.whl ws c body) d Γ :=
  ⟨n + 1, whl_go I hs n _ h0⟩

/-! ### to work out by rewriting -/
def isT (v : D) (A B : Prop) : Prop := match v with
  | .bool true => A
  | .bool false => B
  | _ => False
theorem isT_iff {b : Bool} {A B : Prop} : isT (.bool b) A B ↔ (b = true → A) ∧ (b = false → B) := by
  cases b with
  | true => exact ⟨fun h => ⟨fun _ => h, fun z => nomatch z⟩, fun h => h.1 rfl⟩
  | false => exact ⟨fun h => ⟨fun z => (nomatch z), fun _ => h⟩, fun h => h.2 rfl⟩
section
variable {T : Tb} {d : GD} {Γ : Env}
@[simp] theorem w_nil : wpSs T .nil d Γ = d.nx Γ := rfl
@[simp] theorem w_cons {s : GS} {r : GSs} : wpSs T (.cons s r) d Γ = TD.wpS T s { d with nx := fun Γ' => wpSs T r d Γ' } Γ := rfl
@[simp] theorem w_brw {t i : Nat} {k : GE} {g : GF} {r : GSs} : wpSs T (.brw t i k g r) d Γ = (t ≠ i ∧ ∃ rs j ds new, ownR Γ i = some (.on rs) ∧ ev T (view Γ) k = .ok (.int j) ∧ 0 ≤ j ∧ rs[j.toNat]? = some (.ol ds) ∧ evF T ((view Γ).set t (some (.fz (.list ds)))) g = .ok new ∧ immA new = true ∧ rs.length < 16777216 ∧ wpSs T r d ((Γ.set t none).set i (some (.own (.on (rs ++ [.ol new])))))) := rfl
@[simp] theorem w_ifs {c : GE} {a b : GSs} : TD.wpS T (.ifs c a b) d Γ = onR (ev T (view Γ) c) (fun x => d.ex x Γ) fun v => isT v (wpSs T a d Γ) (wpSs T b d Γ) := by
  show onR _ _ _ = onR _ _ _
  congr 1
@[simp] theorem w_asgV {i : Nat} {e : GE} : TD.wpS T (.asgV i e) d Γ = onR (ev T (view Γ) e) (fun x => d.ex x Γ) fun v => TD.imm v = true ∧ d.nx (Γ.set i (some (.fz v))) := rfl
@[simp] theorem w_asgS {i : Nat} {e : GE} : TD.wpS T (.asgS i e) d Γ = onR (ev T (stab Γ) e) (fun x => d.ex x Γ) fun v => d.nx (Γ.set i (some (.fz v))) := rfl
@[simp] theorem w_asgF {i : Nat} {e : GF} : TD.wpS T (.asgF i e) d Γ = onR (evF T (view Γ) e) (fun x => d.ex x Γ) fun v => immA v = true ∧ d.nx (Γ.set i (some (.own (.ol v)))) := rfl
@[simp] theorem w_asgFS {i : Nat} {e : GF} : TD.wpS T (.asgFS i e) d Γ = onR (evF T (stab Γ) e) (fun x => d.ex x Γ) fun v => d.nx (Γ.set i (some (.own (.ol v)))) := rfl
@[simp] theorem w_asgR {i : Nat} {e : GR} : TD.wpS T (.asgR i e) d Γ = onR (evR T Γ e) (fun x => d.ex x Γ) fun v => d.nx (Γ.set i (some (.own v))) := rfl
@[simp] theorem w_asgD {i : Nat} : TD.wpS T (.asgD i) d Γ = d.nx (Γ.set i (some (.dc true []))) := rfl
@[simp] theorem w_expr {e : GE} : TD.wpS T (.expr e) d Γ = onR (ev T (view Γ) e) (fun x => d.ex x Γ) fun _ => d.nx Γ := rfl
@[simp] theorem w_ret {r : GR} : TD.wpS T (.ret r) d Γ = onR (evR T Γ r) (fun x => d.ex x Γ) fun r => d.rt (.ret r) := rfl
@[simp] theorem w_retOld {e : GE} : TD.wpS T (.retOld e) d Γ = onR (ev T (stab Γ) e) (fun x => d.ex x Γ) fun r => d.rt (.old r) := rfl
@[simp] theorem w_raise {x : Nat} : TD.wpS T (.raise_ x) d Γ = d.ex x Γ := rfl
@[simp] theorem w_appV {i : Nat} {e : GE} : TD.wpS T (.appV i e) d Γ = ∃ ds, ownL Γ i = some ds ∧ onR (ev T (view Γ) e) (fun x => d.ex x Γ) fun v => TD.imm v = true ∧ ds.length < 16777216 ∧ d.nx (Γ.set i (some (.own (.ol (ds ++ [v]))))) := rfl
@[simp] theorem w_appS {i : Nat} {e : GE} : TD.wpS T (.appS i e) d Γ = ∃ ds, ownL Γ i = some ds ∧ onR (ev T (stab Γ) e) (fun x => d.ex x Γ) fun v => ds.length < 16777216 ∧ d.nx (Γ.set i (some (.own (.ol (ds ++ [v]))))) := rfl
@[simp] theorem w_rev {i : Nat} : TD.wpS T (.rev i) d Γ = ∃ ds, ownL Γ i = some ds ∧ d.nx (Γ.set i (some (.own (.ol ds.reverse)))) := rfl
@[simp] theorem w_dset {i : Nat} {k e : GE} : TD.wpS T (.dset i k e) d Γ = ∃ kvs, ownD Γ i = some kvs ∧ onR (ev T (view Γ) e) (fun x => d.ex x Γ) fun v => TD.imm v = true ∧ onR (ev T (view Γ) k) (fun x => d.ex x Γ) fun n => ∃ j, n = .int j ∧ kvs.length < 16777216 ∧ d.nx (Γ.set i (some (.dc true (dput kvs j v)))) := rfl
@[simp] theorem w_setI {i : Nat} {k e : GE} : TD.wpS T (.setI i k e) d Γ = ∃ ds, ownL Γ i = some ds ∧ onR (ev T (view Γ) e) (fun x => d.ex x Γ) fun v => TD.imm v = true ∧ onR (ev T (view Γ) k) (fun x => d.ex x Γ) fun n => ∃ j, n = .int j ∧ 0 ≤ j ∧ j < ds.length ∧ d.nx (Γ.set i (some (.own (.ol (ds.set j.toNat v))))) := rfl
@[simp] theorem w_frz {i : Nat} {s : GS} : TD.wpS T (.frz i s) d Γ = ∃ r, ownR Γ i = some r ∧ TD.wpS T s d (Γ.set i (some (.fz r.toD))) := rfl
@[simp] theorem w_mutA {p : GP} {e : GE} : TD.wpS T (.mutA p e) d Γ = ∃ i l r ds, ownP T Γ p i l r ds ∧ onR (ev T (view Γ) e) (fun x => d.ex x Γ) fun v => TD.imm v = true ∧ ds.length < 16777216 ∧ d.nx (Γ.set i (some (.own (R.put r l (.ol (ds ++ [v])))))) := rfl
@[simp] theorem w_mutC {p : GP} : TD.wpS T (.mutC p) d Γ = ∃ i l r ds, ownP T Γ p i l r ds ∧ d.nx (Γ.set i (some (.own (R.put r l (.ol []))))) := rfl
@[simp] theorem w_mutS {p : GP} {k e : GE} : TD.wpS T (.mutS p k e) d Γ = ∃ i l r ds, ownP T Γ p i l r ds ∧ onR (ev T (view Γ) e) (fun x => d.ex x Γ) fun v => TD.imm v = true ∧ onR (ev T (view Γ) k) (fun x => d.ex x Γ) fun n => ∃ j, n = .int j ∧ 0 ≤ j ∧ j < ds.length ∧ d.nx (Γ.set i (some (.own (R.put r l (.ol (ds.set j.toNat v)))))) := rfl
@[simp] theorem w_tmpApp {r : GR} {e : GE} : TD.wpS T (.tmpApp r e) d Γ = onR (evR T Γ r) (fun x => d.ex x Γ) fun q => ∃ ds, q = .ol ds ∧ onR (ev T (view Γ) e) (fun x => d.ex x Γ) fun v => TD.imm v = true ∧ ds.length < 16777216 ∧ d.nx Γ := rfl
@[simp] theorem w_popApp {i j : Nat} {k : GE} : TD.wpS T (.popApp i j k) d Γ = ∃ ds es, i ≠ j ∧ ownL Γ i = some ds ∧ ownL Γ j = some es ∧ onR (ev T (view Γ) k) (fun x => d.ex x Γ) fun n => ∃ m v, n = .int m ∧ 0 ≤ m ∧ m < 2 ^ 63 ∧ es[m.toNat]? = some v ∧ ds.length < 16777216 ∧ d.nx ((Γ.set j (some (.own (.ol (es.eraseIdx m.toNat))))).set i (some (.own (.ol (ds ++ [v]))))) := rfl
@[simp] theorem w_retMv {i : Nat} : TD.wpS T (.retMv i) d Γ = ∃ r, ownR Γ i = some r ∧ r.imm = true ∧ d.rt (.ret r) := rfl
@[simp] theorem w_retTwo {tup : Bool} {i j : Nat} : TD.wpS T (.retTwo tup i j) d Γ = ∃ r q, i ≠ j ∧ ownR Γ i = some r ∧ ownR Γ j = some q ∧ r.imm = true ∧ q.imm = true ∧ d.rt (.ret (if tup then .ot [r, q] else .on [r, q])) := rfl
@[simp] theorem w_try {b : GSs} {hs : GHs} : TD.wpS T (.try_ b hs) d Γ = wpSs T b { d with ex := fun x Γ' => wpH T hs d x Γ' } Γ := rfl
@[simp] theorem w_tryAs {i y : Nat} {b s : GSs} : TD.wpS T (.tryAs i y b s) d Γ = wpSs T b { d with ex := fun x Γ' => x ∈ T.xs ∧ (subX x y = true → ∀ a : Addr, wpSs { T with xe := some (a, x) } s { d with ex := fun _ _ => False, nx := fun Γ2 => d.nx (Γ2.set i none) } (Γ'.set i (some (.xc a x)))) ∧ (subX x y = false → d.ex x Γ') } Γ := rfl
@[simp] theorem w_setP {i : Nat} {k e : GE} : TD.wpS T (.setP i k e) d Γ = ∃ p ds, ownM Γ i = some (p, .l ds) ∧ onR (ev T (view Γ) e) (fun x => d.ex x Γ) fun v => TD.imm v = true ∧ onR (ev T (view Γ) k) (fun x => d.ex x Γ) fun n => ∃ j, n = .int j ∧ 0 ≤ j ∧ j < ds.length ∧ d.nx (Γ.set i (some (.mp p (.l (ds.set j.toNat v))))) := rfl
@[simp] theorem w_dsetP {i : Nat} {k e : GE} : TD.wpS T (.dsetP i k e) d Γ = ∃ p kvs, ownM Γ i = some (p, .d kvs) ∧ onR (ev T (view Γ) e) (fun x => d.ex x Γ) fun v => TD.imm v = true ∧ onR (ev T (view Γ) k) (fun x => d.ex x Γ) fun n => ∃ j, n = .int j ∧ kvs.length < 16777216 ∧ d.nx (Γ.set i (some (.mp p (.d (dput kvs j v))))) := rfl
@[simp] theorem w_dpopP {i : Nat} {k : GE} : TD.wpS T (.dpopP i k) d Γ = ∃ p kvs, ownM Γ i = some (p, .d kvs) ∧ onR (ev T (view Γ) k) (fun x => d.ex x Γ) fun n => ∃ j, n = .int j ∧ (dget kvs j).isSome = true ∧ d.nx (Γ.set i (some (.mp p (.d (ddrop kvs j))))) := rfl
theorem w_callM {t : Option Nat} {i j : Nat} {es : GEs} : TD.wpS T (.callM t i j es) d Γ = ∃ c ds c' x, cnOf Γ i = some c ∧ evs T (stab Γ) es = .ok ds ∧ callM T j (c.enc :: ds) = some (c', x) ∧ c.alike c' ∧ d.nx (setO (putC Γ i c') t x) := rfl
theorem w_ifM {n : Bool} {i j : Nat} {es : GEs} {a b : GSs} : TD.wpS T (.ifM n i j es a b) d Γ = ∃ c ds c' x, cnOf Γ i = some c ∧ evs T (stab Γ) es = .ok ds ∧ callM T j (c.enc :: ds) = some (c', .bool x) ∧ c.alike c' ∧ (((n ^^ x) = true → wpSs T a d (putC Γ i c')) ∧ ((n ^^ x) = false → wpSs T b d (putC Γ i c'))) := rfl
theorem w_retM {j : Nat} {es : GEs} : TD.wpS T (.retM j es) d Γ = ∃ p c ds c' x, ownM Γ 0 = some (p, c) ∧ evs T (stab Γ) es = .ok ds ∧ callM T j (c.enc :: ds) = some (c', x) ∧ c.alike c' ∧ d.rt (.mu p c' x) := rfl
@[simp] theorem w_retP {e : GE} : TD.wpS T (.retP e) d Γ = onR (ev T (view Γ) e) (fun x => d.ex x Γ) fun x => TD.imm x = true ∧ ∃ p c, ownM Γ 0 = some (p, c) ∧ d.rt (.mu p c x) := rfl
@[simp] theorem w_hnil {x : Nat} : wpH T .nil d x Γ = d.ex x Γ := rfl
@[simp] theorem w_hcons {x y : Nat} {s : GSs} {r : GHs} : wpH T (.cons y s r) d x Γ = (x ∈ T.xs ∧ (subX x y = true → wpSs T s { d with ex := fun _ _ => False } Γ) ∧ (subX x y = false → wpH T r d x Γ)) := rfl
end
section
variable {α β : Type} {a : α} {x : Nat} {f : α → Rs β} {g : α → β} {e : Nat → Prop} {k : α → Prop} {i j : Int} {b c : Bool}
@[simp] theorem on_ok : onR (.ok a) e k = k a := rfl
@[simp] theorem on_err : onR (.err x : Rs α) e k = e x := rfl
@[simp] theorem bind_ok : (Rs.ok a).bind f = f a := rfl
@[simp] theorem bind_err : (Rs.err x : Rs α).bind f = .err x := rfl
@[simp] theorem map_ok : (Rs.ok a).map g = .ok (g a) := rfl
@[simp] theorem map_err : (Rs.err x : Rs α).map g = .err x := rfl
@[simp] theorem isT_b {A B : Prop} : isT (.bool b) A B ↔ (b = true → A) ∧ (b = false → B) := isT_iff
@[simp] theorem bin_i {o : BO} : binD o (.int i) (.int j) = bop o i j := rfl
@[simp] theorem bop_add : bop .add i j = .ok (.int (i + j)) := rfl
@[simp] theorem bop_sub : bop .sub i j = .ok (.int (i - j)) := rfl
theorem bop_mul (h : mulOk i j = true) : bop .mul i j = .ok (.int (i * j)) := by
  show (if mulOk i j = true then Rs.ok (PyData.int (i * j)) else Rs.bad) = _
  rw [if_pos h]
theorem mulOk_r (h1 : -(2 ^ 64) < j) (h2 : j < 2 ^ 64) : mulOk i j = true := by
  unfold mulOk
  rw [decide_eq_true (show j.natAbs < 18446744073709551616 by omega)]
  rfl
theorem mulOk_l (h1 : -(2 ^ 64) < i) (h2 : i < 2 ^ 64) : mulOk i j = true := by
  unfold mulOk
  rw [decide_eq_true (show i.natAbs < 18446744073709551616 by omega), Bool.or_true]
theorem bop_mod (h : 0 < j) : bop .mod i j = .ok (.int (i % j)) := by
  unfold bop; simp only [h, decide_true, if_true]
theorem bop_div (h : 0 < j) (h2 : j < 1073741824) : bop .div i j = .ok (.int (i / j)) := by
  unfold bop; simp only [h, show j.toNat < 1073741824 by omega, decide_true, Bool.and_true, if_true]
@[simp] theorem cmp_i {o : CO} : cmpD o (.int i) (.int j) = .ok (.bool (cop o i j)) := rfl
@[simp] theorem cop_lt : cop .lt i j = decide (i < j) := rfl
@[simp] theorem cop_le : cop .le i j = decide (i ≤ j) := rfl
@[simp] theorem cop_gt : cop .gt i j = decide (j < i) := rfl
@[simp] theorem cop_ge : cop .ge i j = decide (j ≤ i) := rfl
@[simp] theorem eq_i {n : Bool} : eqD n (.int i) (.int j) = .ok (.bool (n ^^ decide (i = j))) := rfl
@[simp] theorem eq_b {n : Bool} : eqD n (.bool b) (.bool c) = .ok (.bool (n ^^ decide (b = c))) := rfl
@[simp] theorem not_b : notD (.bool b) = .ok (.bool (!b)) := rfl
@[simp] theorem neg_i : negD (.int i) = .ok (.int (-i)) := rfl
@[simp] theorem abs_i : absD (.int i) = .ok (.int (if i < 0 then -i else i)) := rfl
@[simp] theorem len_l {ds : List D} : lenD (.list ds) = .ok (.int ds.length) := rfl
@[simp] theorem rs_some : Rs.of (some a) = .ok a := rfl
@[simp] theorem isn_i {n : Bool} : isnD n (.int i) = .ok (.bool (n ^^ false)) := rfl
@[simp] theorem isn_n {n : Bool} : isnD n .none = .ok (.bool (n ^^ true)) := rfl
@[simp] theorem isn_l {n : Bool} {ds : List D} : isnD n (.list ds) = .ok (.bool (n ^^ false)) := rfl
@[simp] theorem sum_l {ns : List Int} : sumD (.list (ns.map .int)) = .ok (.int ns.sum) := by
  simp only [sumD, decI_map]
@[simp] theorem inl_l {n : Bool} {ns : List Int} : inlD n (.int i) (.list (ns.map .int)) = .ok (.bool (n ^^ decide (i ∈ ns))) := by
  simp only [inlD, decI_map]
@[simp] theorem cnt_l {ns : List Int} : cntD (.list (ns.map .int)) (.int i) = .ok (.int (ns.count i)) := by
  simp only [cntD, decI_map]
theorem ix_l {ds : List D} {v : D} (h : 0 ≤ i) (e : ds[i.toNat]? = some v) : ixD (.list ds) (.int i) = .ok v := by
  unfold ixD; simp only [h, decide_true, if_true, e, rs_some]
theorem ix_t {ds : List D} {v : D} (h : 0 ≤ i) (e : ds[i.toNat]? = some v) : ixD (.tuple ds) (.int i) = .ok v := by
  unfold ixD; simp only [h, decide_true, if_true, e, rs_some]
@[simp] theorem ix_p0 {p : Int × Int} : ixD (eP p) (.int 0) = .ok (.int p.1) := rfl
@[simp] theorem ix_p1 {p : Int × Int} : ixD (eP p) (.int 1) = .ok (.int p.2) := rfl
@[simp] theorem view_cons {s : Option Sl} {l : Env} : view (s :: l) = s.bind vw1 :: view l := rfl
@[simp] theorem stab_cons {s : Option Sl} {l : Env} : stab (s :: l) = s.bind st1 :: stab l := rfl
@[simp] theorem view_nil : view [] = [] := rfl
@[simp] theorem stab_nil : stab [] = [] := rfl
@[simp] theorem vw_fz {v : D} : vw1 (.fz v) = some (.fz v) := rfl
@[simp] theorem vw_own {r : R} : vw1 (.own r) = some (.fz r.toD) := rfl
@[simp] theorem vw_dc {q : Bool} {kvs : List (Int × D)} : vw1 (.dc q kvs) = some (.dc false kvs) := rfl
@[simp] theorem vw_xc {p : Addr} : vw1 (.xc p x) = some (.xc p x) := rfl
@[simp] theorem vw_pin {p : Addr} {ds : List D} : vw1 (.pin p ds) = some (.fz (.list ds)) := rfl
@[simp] theorem st_fz {v : D} : st1 (.fz v) = some (.fz v) := rfl
@[simp] theorem st_own {r : R} : st1 (.own r) = none := rfl
@[simp] theorem st_dc {q : Bool} {kvs : List (Int × D)} : st1 (.dc q kvs) = some (.dc false kvs) := rfl
@[simp] theorem st_xc {p : Addr} : st1 (.xc p x) = some (.xc p x) := rfl
@[simp] theorem vw_mpl {p : Addr} {ds : List D} : vw1 (.mp p (.l ds)) = some (.fz (.list ds)) := rfl
@[simp] theorem vw_mpd {p : Addr} {kvs : List (Int × D)} : vw1 (.mp p (.d kvs)) = some (.dc false kvs) := rfl
@[simp] theorem st_mpl {p : Addr} {ds : List D} : st1 (.mp p (.l ds)) = none := rfl
@[simp] theorem st_mpd {p : Addr} {kvs : List (Int × D)} : st1 (.mp p (.d kvs)) = some (.dc false kvs) := rfl
@[simp] theorem st_pin {p : Addr} {ds : List D} : st1 (.pin p ds) = none := rfl
@[simp] theorem toD_im {v : D} : (R.im v).toD = v := rfl
@[simp] theorem toD_ol {v : List D} : (R.ol v).toD = .list v := rfl
@[simp] theorem toD_on {v : List R} : (R.on v).toD = .list (R.toDs v) := rfl
@[simp] theorem toD_ot {v : List R} : (R.ot v).toD = .tuple (R.toDs v) := rfl
@[simp] theorem toDs_nil : R.toDs [] = [] := rfl
@[simp] theorem toDs_cons {r : R} {rs : List R} : R.toDs (r :: rs) = r.toD :: R.toDs rs := rfl
@[simp] theorem imm_im {v : D} : (R.im v).imm = TD.imm v := rfl
@[simp] theorem imm_ol {v : List D} : (R.ol v).imm = immA v := rfl
@[simp] theorem imm_on {v : List R} : (R.on v).imm = R.imms v := rfl
@[simp] theorem imm_ot {v : List R} : (R.ot v).imm = R.imms v := rfl
@[simp] theorem imms_nil : R.imms [] = true := rfl
@[simp] theorem imms_cons {r : R} {rs : List R} : R.imms (r :: rs) = (r.imm && R.imms rs) := rfl
@[simp] theorem imm_i : TD.imm (.int i) = true := rfl
@[simp] theorem imm_b : TD.imm (.bool b) = true := rfl
@[simp] theorem imm_n : TD.imm .none = true := rfl
@[simp] theorem imm_s {s : Str} : TD.imm (.str s) = true := rfl
@[simp] theorem imm_p {p : Int × Int} : TD.imm (eP p) = true := rfl
@[simp] theorem immA_nil : immA [] = true := rfl
@[simp] theorem immA_cons {v : D} {l : List D} : immA (v :: l) = (TD.imm v && immA l) := rfl
@[simp] theorem immA_append : ∀ {l m : List D}, immA (l ++ m) = (immA l && immA m)
  | [], m => by simp
  | v :: l, m => by simp [immA_append (l := l), Bool.and_assoc]
@[simp] theorem immA_int : ∀ {ns : List Int}, immA (ns.map PyData.int) = true
  | [] => rfl
  | n :: ns => by simp [immA_int (ns := ns)]
@[simp] theorem immA_pair : ∀ {ps : List (Int × Int)}, immA (ps.map eP) = true
  | [] => rfl
  | n :: ns => by simp [immA_pair (ps := ns)]
@[simp] theorem gd_nx {o : Out} {Γ : Env} : (gdOf o).nx Γ = (o = .ret (.im .none)) := rfl
@[simp] theorem gd_rt {o q : Out} : (gdOf o).rt q = (q = o) := rfl
@[simp] theorem gd_ex {o : Out} {Γ : Env} : (gdOf o).ex x Γ = (o = .exc x) := rfl
@[simp] theorem wipe_nil {Γ : Env} : wipeE Γ [] = Γ := rfl
@[simp] theorem wipe_cons {Γ : Env} {n : Nat} {r : List Nat} : wipeE Γ (n :: r) = (wipeE Γ r).set n none := rfl
@[simp] theorem setTs_nil {Γ : Env} : setTs Γ [] [] = Γ := rfl
@[simp] theorem setTs_cons {Γ : Env} {t : Nat} {ts : List Nat} {v : D} {ds : List D} : setTs Γ (t :: ts) (v :: ds) = setTs (Γ.set t (some (.fz v))) ts ds := rfl
end
section
variable {T : Tb} {Γ : Env} {a b c : GE} {es : GEs} {n : Bool} {i : Nat}
def varD (o : Option (Option Sl)) : Rs D := match o with
  | some (some (.fz d)) => .ok d
  | _ => .bad
@[simp] theorem varD_ok {d : D} : varD (some (some (.fz d))) = .ok d := rfl
@[simp] theorem e_var : ev T Γ (.var i) = varD Γ[i]? := rfl
@[simp] theorem e_cst {d : D} : ev T Γ (.cst d) = .ok d := rfl
@[simp] theorem e_bin {o : BO} : ev T Γ (.bin o a b) = (ev T Γ a).bind fun x => (ev T Γ b).bind fun y => binD o x y := rfl
@[simp] theorem e_neg : ev T Γ (.neg a) = (ev T Γ a).bind negD := rfl
@[simp] theorem e_cmp {o : CO} : ev T Γ (.cmp o a b) = (ev T Γ a).bind fun x => (ev T Γ b).bind fun y => cmpD o x y := rfl
@[simp] theorem e_eq : ev T Γ (.eq n a b) = (ev T Γ a).bind fun x => (ev T Γ b).bind fun y => eqD n x y := rfl
@[simp] theorem e_isn : ev T Γ (.isn n a) = (ev T Γ a).bind (isnD n) := rfl
@[simp] theorem e_inl : ev T Γ (.inl n a b) = (ev T Γ a).bind fun x => (ev T Γ b).bind fun y => inlD n x y := rfl
def indD (n : Bool) (kvs : List (Int × D)) (x : D) : Rs D := match x with
  | .int k => .ok (.bool (n ^^ (dget kvs k).isSome))
  | _ => .bad
@[simp] theorem indD_i {kvs : List (Int × D)} {k : Int} : indD n kvs (.int k) = .ok (.bool (n ^^ (dget kvs k).isSome)) := rfl
@[simp] theorem e_ind : ev T Γ (.ind n a i) = (ev T Γ a).bind fun x => (dslot Γ i).bind fun kvs => indD n kvs x := rfl
def dixD (kvs : List (Int × D)) (x : D) : Rs D := match x with
  | .int k => Rs.of (dget kvs k)
  | _ => .bad
@[simp] theorem dixD_i {kvs : List (Int × D)} {k : Int} : dixD kvs (.int k) = Rs.of (dget kvs k) := rfl
@[simp] theorem e_dix : ev T Γ (.dix i a) = (dslot Γ i).bind fun kvs => (ev T Γ a).bind fun x => dixD kvs x := rfl
def boolR (x : D) : Rs D := match x with
  | .bool c => .ok (.bool c)
  | _ => .bad
@[simp] theorem boolR_b {q : Bool} : boolR (.bool q) = .ok (.bool q) := rfl
def andR (x : D) (r : Rs D) : Rs D := match x with
  | .bool true => r.bind boolR
  | .bool false => .ok (.bool false)
  | _ => .bad
def orR (x : D) (r : Rs D) : Rs D := match x with
  | .bool false => r.bind boolR
  | .bool true => .ok (.bool true)
  | _ => .bad
@[simp] theorem andR_b {p q : Bool} : andR (.bool p) (.ok (.bool q)) = .ok (.bool (p && q)) := by cases p <;> rfl
@[simp] theorem andR_f {r : Rs D} : andR (.bool false) r = .ok (.bool false) := rfl
@[simp] theorem andR_t {r : Rs D} : andR (.bool true) r = r.bind boolR := rfl
@[simp] theorem orR_b {p q : Bool} : orR (.bool p) (.ok (.bool q)) = .ok (.bool (p || q)) := by cases p <;> rfl
@[simp] theorem orR_f {r : Rs D} : orR (.bool true) r = .ok (.bool true) := rfl
@[simp] theorem orR_t {r : Rs D} : orR (.bool false) r = r.bind boolR := rfl
theorem boolR_eq : boolR = fun y => (match y with | .bool c => (.ok (.bool c) : Rs D) | _ => .bad) := rfl
theorem andR_if {p : Bool} {r : Rs D} {q : Bool} (h : p = true → r = .ok (.bool q)) : andR (.bool p) r = .ok (.bool (p && q)) := by
  cases p with
  | true => rw [h rfl]; rfl
  | false => rfl
theorem orR_if {p : Bool} {r : Rs D} {q : Bool} (h : p = false → r = .ok (.bool q)) : orR (.bool p) r = .ok (.bool (p || q)) := by
  cases p with
  | false => rw [h rfl]; rfl
  | true => rfl
@[simp] theorem e_and : ev T Γ (.and a b) = (ev T Γ a).bind fun x => andR x (ev T Γ b) := by
  show Rs.bind _ _ = Rs.bind _ _
  congr 1
@[simp] theorem e_or : ev T Γ (.or a b) = (ev T Γ a).bind fun x => orR x (ev T Γ b) := by
  show Rs.bind _ _ = Rs.bind _ _
  congr 1
@[simp] theorem e_not : ev T Γ (.not a) = (ev T Γ a).bind notD := rfl
def iteR (x : D) (r q : Rs D) : Rs D := match x with
  | .bool true => r
  | .bool false => q
  | _ => .bad
@[simp] theorem iteR_b {p : Bool} {r q : Rs D} : iteR (.bool p) r q = if p then r else q := by cases p <;> rfl
@[simp] theorem e_ite : ev T Γ (.ite c a b) = (ev T Γ c).bind fun x => iteR x (ev T Γ a) (ev T Γ b) := by
  show Rs.bind _ _ = Rs.bind _ _
  congr 1
@[simp] theorem e_ix : ev T Γ (.ix a b) = (ev T Γ a).bind fun x => (ev T Γ b).bind fun y => ixD x y := rfl
@[simp] theorem e_tup : ev T Γ (.tup es) = (evs T Γ es).bind fun ds => if sizeOk ds.length then .ok (.tuple ds) else .bad := rfl
@[simp] theorem e_call : ev T Γ (.call i es) = (evs T Γ es).bind (callD T i) := rfl
@[simp] theorem e_len : ev T Γ (.len a) = (ev T Γ a).bind lenD := rfl
@[simp] theorem e_sum : ev T Γ (.sum a) = (ev T Γ a).bind sumD := rfl
@[simp] theorem e_abs : ev T Γ (.abs a) = (ev T Γ a).bind absD := rfl
@[simp] theorem e_mn : ev T Γ (.mn a b) = (ev T Γ a).bind fun x => (ev T Γ b).bind fun y => mnD x y := rfl
@[simp] theorem e_mx : ev T Γ (.mx a b) = (ev T Γ a).bind fun x => (ev T Γ b).bind fun y => mxD x y := rfl
@[simp] theorem e_isi {t : IT} : ev T Γ (.isi t a) = (ev T Γ a).bind fun x => .ok (.bool (isiD t x)) := rfl
@[simp] theorem e_ise {y : Nat} : ev T Γ (.ise i y) = (xslot T Γ i).bind fun x => .ok (.bool (subX x y)) := rfl
@[simp] theorem e_ises {ys : List Nat} : ev T Γ (.ises i ys) = (xslot T Γ i).bind fun x => .ok (.bool (ys.any (subX x))) := rfl
@[simp] theorem e_f {g : GF} : ev T Γ (.f g) = (evF T Γ g).map PyData.list := rfl
@[simp] theorem e_lst : evF T Γ (.lst es) = (evs T Γ es).bind fun ds => if sizeOk ds.length then .ok ds else .bad := rfl
def lofR (x : D) : Rs (List D) := match seqD x with
  | some ds => .ok ds
  | none => .bad
@[simp] theorem lofR_l {ds : List D} : lofR (.list ds) = .ok ds := rfl
@[simp] theorem e_lof : evF T Γ (.lof a) = (ev T Γ a).bind lofR := rfl
def srtR (x : D) : Rs (List D) := match x with
  | .list ds => (match decP ds with
    | some ps => .ok ((pSort ps).map eP)
    | none => .bad)
  | _ => .bad
@[simp] theorem srtR_l {ps : List (Int × Int)} : srtR (.list (ps.map eP)) = .ok ((pSort ps).map eP) := by
  simp only [srtR, decP_map]
@[simp] theorem e_srt : evF T Γ (.srt a) = (ev T Γ a).bind srtR := rfl
@[simp] theorem e_nil : evs T Γ .nil = .ok [] := rfl
@[simp] theorem e_cons : evs T Γ (.cons a es) = (ev T Γ a).bind fun d => (evs T Γ es).map fun ds => d :: ds := rfl
@[simp] theorem r_im : evR T Γ (.im a) = (ev T (view Γ) a).bind fun d => if TD.imm d then .ok (.im d) else .bad := rfl
@[simp] theorem r_f {g : GF} : evR T Γ (.f g) = (evF T (view Γ) g).bind fun ds => if immA ds then .ok (.ol ds) else .bad := rfl
@[simp] theorem r_call : evR T Γ (.call i es) = (evs T (view Γ) es).bind (callR T i) := rfl
@[simp] theorem r_lst {rs : GRs} : evR T Γ (.lst rs) = (evRs T Γ rs).bind fun l => if sizeOk l.length then .ok (.on l) else .bad := rfl
@[simp] theorem r_tup {rs : GRs} : evR T Γ (.tup rs) = (evRs T Γ rs).bind fun l => if sizeOk l.length then .ok (.ot l) else .bad := rfl
@[simp] theorem r_nil : evRs T Γ .nil = .ok [] := rfl
@[simp] theorem r_cons {r : GR} {rs : GRs} : evRs T Γ (.cons r rs) = (evR T Γ r).bind fun x => (evRs T Γ rs).map fun l => x :: l := rfl
def outR (o : Option Out) : Rs R := match o with
  | some (.ret r) => .ok r
  | some (.old _) => .bad
  | some (.exc x) => .err x
  | some (.mu _ _ _) => .bad
  | none => .bad
@[simp] theorem outR_ret {r : R} : outR (some (.ret r)) = .ok r := rfl
@[simp] theorem outR_mut {p : Addr} {c : Cn} {x : D} : outR (some (.mu p c x)) = .bad := rfl
@[simp] theorem outR_exc {x : Nat} : outR (some (.exc x)) = .err x := rfl
theorem call_ret {ds : List D} {φ : List D → Option Out} {r : R} (h : T.fs[i]? = some φ) (e : φ ds = some (.ret r)) : callD T i ds = .ok r.toD := by
  unfold callD; rw [h]; simp only [e]
theorem call_old {ds : List D} {φ : List D → Option Out} {r : D} (h : T.fs[i]? = some φ) (e : φ ds = some (.old r)) : callD T i ds = .ok r := by
  unfold callD; rw [h]; simp only [e]
theorem call_exc {ds : List D} {φ : List D → Option Out} {x : Nat} (h : T.fs[i]? = some φ) (e : φ ds = some (.exc x)) : callD T i ds = .err x := by
  unfold callD; rw [h]; simp only [e]
def outD (o : Option Out) : Rs D := match o with
  | some (.ret r) => .ok r.toD
  | some (.old d) => .ok d
  | some (.exc x) => .err x
  | some (.mu _ _ _) => .bad
  | none => .bad
@[simp] theorem outD_ret {r : R} : outD (some (.ret r)) = .ok r.toD := rfl
@[simp] theorem outD_old {d : D} : outD (some (.old d)) = .ok d := rfl
@[simp] theorem outD_exc {x : Nat} : outD (some (.exc x)) = .err x := rfl
def fsOut (o : Option (List D → Option Out)) (ds : List D) : Option Out := o.bind fun φ => φ ds
@[simp] theorem fsOut_some {φ : List D → Option Out} {ds : List D} : fsOut (some φ) ds = φ ds := rfl
@[simp] theorem call_eq {ds : List D} : callD T i ds = outD (fsOut T.fs[i]? ds) := by
  unfold callD
  cases T.fs[i]? with
  | none => rfl
  | some φ => rfl
@[simp] theorem callR_eq {ds : List D} : callR T i ds = outR (fsOut T.fs[i]? ds) := by
  unfold callR
  cases T.fs[i]? with
  | none => rfl
  | some φ => rfl
@[simp] theorem mn_i {i j : Int} : mnD (.int i) (.int j) = .ok (.int (if j < i then j else i)) := rfl
@[simp] theorem mx_i {i j : Int} : mxD (.int i) (.int j) = .ok (.int (if j > i then j else i)) := rfl
end
end TD

/-! TD15: more rules. -/
namespace TD
open PySem PySem.Spec PyProof.Rows L2
section
variable {X : Cx} {T : Tb} {W : WX} {st : Stmt} {gf : GF} {i : Nat}
theorem tF_f {g : GF} {σ : L2.St} {H : Hp} {Q : VK} : tG T W (.f g) σ H Q → tF T W g σ H Q := fun ⟨B, Γ, hs, p⟩ => by
  have p' : Post T W σ B H ((evF T Γ g).map PyData.list) Q := p
  refine ⟨B, Γ, hs, ?_⟩
  cases e : evF T Γ g with
  | ok ds =>
    rw [e] at p'
    refine fun p xs B1 H1 s h1 h2 h3 h4 => p' (.ref p) (addF B1 H1 [p]) H1 (s.addF fun q hq => by cases List.mem_singleton.mp hq; exact h1) (.lst (.inl (addF_in s.bh List.mem_cons_self h3)) (h4.mono (addF_ex _ _ _)))
  | err x => rw [e] at p'; exact p'
  | bad => rw [e] at p'; exact p'
theorem psx_asgSF (h : PS X st (tAsg (tF T W gf) (gName i))) : PS X st (tS T W (.asgS i (.f gf))) := h.imp fun De σ H ⟨b0, H0, B, Γ, d, so, w, r⟩ =>
  tF_f (so.stab r w fun v x B1 H1 s rp q => r.nx _ _ _ _ ((so.step s).put_fz i rp) q)
end
end TD

/-! TD16: when data are alike. -/
namespace TD
open PySem PySem.Spec PyProof.Rows L2
/-- numbers and None, in lists and tuples, up to n deep -/
def okD : Nat → D → Bool
  | _, .none => true
  | _, .int _ => true
  | n + 1, .list ds => ds.all (okD n)
  | n + 1, .tuple ds => ds.all (okD n)
  | _, _ => false
theorem layAll_of {ds : List D} : (∀ d ∈ ds, d.canLay0 = true) → PyData.canLayAll0 ds = true := by
  induction ds with
  | nil => exact fun _ => rfl
  | cons a r ih => 
    intro h
    show (a.canLay0 && PyData.canLayAll0 r) = true
    rw [h a List.mem_cons_self, ih fun d hd => h d (List.mem_cons_of_mem _ hd)]
    rfl
theorem depAll_of {n : Nat} {ds : List D} : (∀ d ∈ ds, d.depth ≤ n) → PyData.depthAll ds ≤ n := by
  induction ds with
  | nil => exact fun _ => Nat.zero_le _
  | cons a r ih => exact fun h => Nat.max_le.mpr ⟨h a List.mem_cons_self, ih fun d hd => h d (List.mem_cons_of_mem _ hd)⟩
theorem okD_lay : ∀ (n : Nat) (d : D), okD n d = true → d.canLay0 = true ∧ d.depth ≤ n
  | n, .none, _ => ⟨rfl, Nat.zero_le _⟩
  | n, .int _, _ => ⟨rfl, Nat.zero_le _⟩
  | n, .bool _, h => by cases n <;> cases h
  | n, .str _, h => by cases n <;> cases h
  | n, .dict _, h => by cases n <;> cases h
  | 0, .list _, h => by cases h
  | 0, .tuple _, h => by cases h
  | n + 1, .list ds, h => by
    have h' := List.all_eq_true.mp (show ds.all (okD n) = true from h)
    exact ⟨layAll_of fun d hd => (okD_lay n d (h' d hd)).1, Nat.succ_le_succ (depAll_of fun d hd => (okD_lay n d (h' d hd)).2)⟩
  | n + 1, .tuple ds, h => by
    have h' := List.all_eq_true.mp (show ds.all (okD n) = true from h)
    exact ⟨layAll_of fun d hd => (okD_lay n d (h' d hd)).1, Nat.succ_le_succ (depAll_of fun d hd => (okD_lay n d (h' d hd)).2)⟩
theorem eqvAll_iff {xs ys : List D} (h : ∀ x ∈ xs, ∀ y ∈ ys, (PyData.eqv x y = true ↔ x = y)) : PyData.eqvAll xs ys = true ↔ xs = ys := by
  induction xs generalizing ys with
  | nil => cases ys with
    | nil => exact ⟨fun _ => rfl, fun _ => rfl⟩
    | cons y ys => exact ⟨(fun z => nomatch z), (fun z => nomatch z)⟩
  | cons x xs ih => cases ys with
    | nil => exact ⟨(fun z => nomatch z), (fun z => nomatch z)⟩
    | cons y ys =>
      show (PyData.eqv x y && PyData.eqvAll xs ys) = true ↔ _
      rw [Bool.and_eq_true, h x List.mem_cons_self y List.mem_cons_self, ih fun a ha b hb => h a (List.mem_cons_of_mem _ ha) b (List.mem_cons_of_mem _ hb), List.cons.injEq]
theorem eqv_iff : ∀ (n : Nat) {x y : D} {m : Nat}, okD n x = true → okD m y = true → (PyData.eqv x y = true ↔ x = y) := by
  intro n
  induction n with
  | zero =>
    intro x y m hx hy
    cases x <;> first | (cases hx; done) | skip
    all_goals cases y <;> first | (cases m <;> cases hy; done) | simp [PyData.eqv]
  | succ n ih =>
    intro x y m hx hy
    cases x with
    | bool _ => cases hx
    | str _ => cases hx
    | dict _ => cases hx
    | none => cases y <;> first | (cases m <;> cases hy; done) | simp [PyData.eqv]
    | int _ => cases y <;> first | (cases m <;> cases hy; done) | simp [PyData.eqv]
    | list xs =>
      have h' := List.all_eq_true.mp (show xs.all (okD n) = true from hx)
      cases y with
      | list ys =>
        cases m with
        | zero => cases hy
        | succ m =>
          have h2 := List.all_eq_true.mp (show ys.all (okD m) = true from hy)
          rw [PyData.eqv, eqvAll_iff fun a ha b hb => ih (h' a ha) (h2 b hb), PyData.list.injEq]
      | _ => simp [PyData.eqv]
    | tuple xs =>
      have h' := List.all_eq_true.mp (show xs.all (okD n) = true from hx)
      cases y with
      | tuple ys =>
        cases m with
        | zero => cases hy
        | succ m =>
          have h2 := List.all_eq_true.mp (show ys.all (okD m) = true from hy)
          rw [PyData.eqv, eqvAll_iff fun a ha b hb => ih (h' a ha) (h2 b hb), PyData.tuple.injEq]
      | _ => simp [PyData.eqv]
theorem okD_shaped {n : Nat} {d : D} (h : okD n d = true) (hn : n ≤ 64) : SeqAt.shaped d = true := by
  obtain ⟨a, b⟩ := okD_lay n d h
  unfold SeqAt.shaped
  rw [a, decide_eq_true (Nat.le_trans b hn)]
  rfl
theorem eq_list {n : Bool} {k m : Nat} {xs ys : List D} (hx : okD k (.list xs) = true) (hy : okD m (.list ys) = true) (hk : k ≤ 64) (hm : m ≤ 64) {b : Bool} (hb : b = true ↔ xs = ys) : eqD n (.list xs) (.list ys) = .ok (.bool (n ^^ b)) := by
  show (if (SeqAt.shaped (.list xs) && SeqAt.shaped (.list ys)) = true then Rs.ok (PyData.bool (n ^^ PyData.eqv (.list xs) (.list ys))) else .bad) = _
  rw [okD_shaped hx hk, okD_shaped hy hm]
  have := eqv_iff k hx hy
  rw [PyData.list.injEq] at this
  have e : PyData.eqv (.list xs) (.list ys) = b := Bool.eq_iff_iff.mpr (this.trans hb.symm)
  rw [e]
  rfl
theorem eq_tup {n : Bool} {k m : Nat} {xs ys : List D} (hx : okD k (.tuple xs) = true) (hy : okD m (.tuple ys) = true) (hk : k ≤ 64) (hm : m ≤ 64) {b : Bool} (hb : b = true ↔ xs = ys) : eqD n (.tuple xs) (.tuple ys) = .ok (.bool (n ^^ b)) := by
  show (if (SeqAt.shaped (.tuple xs) && SeqAt.shaped (.tuple ys)) = true then Rs.ok (PyData.bool (n ^^ PyData.eqv (.tuple xs) (.tuple ys))) else .bad) = _
  rw [okD_shaped hx hk, okD_shaped hy hm]
  have := eqv_iff k hx hy
  rw [PyData.tuple.injEq] at this
  have e : PyData.eqv (.tuple xs) (.tuple ys) = b := Bool.eq_iff_iff.mpr (this.trans hb.symm)
  rw [e]
  rfl
theorem eq_same {n : Bool} {k : Nat} {xs : List D} (hx : okD k (.list xs) = true) (hk : k ≤ 64) : eqD n (.list xs) (.list xs) = .ok (.bool (n ^^ true)) := eq_list hx hx hk hk ⟨fun _ => rfl, fun _ => rfl⟩
theorem okD_int (ns : List Int) : okD 1 (.list (ns.map .int)) = true := List.all_eq_true.mpr fun d hd => by
  obtain ⟨n, _, rfl⟩ := List.mem_map.mp hd
  rfl
theorem okD_pair (ps : List (Int × Int)) : okD 2 (.list (ps.map eP)) = true := List.all_eq_true.mpr fun d hd => by
  obtain ⟨n, _, rfl⟩ := List.mem_map.mp hd
  rfl
theorem eP_inj {ps qs : List (Int × Int)} : ps.map eP = qs.map eP ↔ ps = qs := by
  refine ⟨fun h => ?_, fun h => h ▸ rfl⟩
  have := congrArg decP h
  rw [decP_map, decP_map] at this
  exact Option.some.inj this
theorem int_inj {ps qs : List Int} : ps.map PyData.int = qs.map PyData.int ↔ ps = qs := by
  refine ⟨fun h => ?_, fun h => h ▸ rfl⟩
  have := congrArg decI h
  rw [decI_map, decI_map] at this
  exact Option.some.inj this
@[simp] theorem eq_pairs {n : Bool} {ps qs : List (Int × Int)} : eqD n (.list (ps.map eP)) (.list (qs.map eP)) = .ok (.bool (n ^^ decide (ps = qs))) := eq_list (okD_pair _) (okD_pair _) (by decide) (by decide) (by rw [decide_eq_true_iff, eP_inj])
@[simp] theorem eq_ints {n : Bool} {ps qs : List Int} : eqD n (.list (ps.map .int)) (.list (qs.map .int)) = .ok (.bool (n ^^ decide (ps = qs))) := eq_list (okD_int _) (okD_int _) (by decide) (by decide) (by rw [decide_eq_true_iff, int_inj])
end TD

/-! TD17: what the end is made of. -/
namespace TD
open PySem PySem.Spec PyProof.Rows L2
section
variable {P : Program} {w : World} {K : PySem.W.Frag} {mg : Str → Option Value} {base : Heap} {T : Tb}
theorem fn_dataF {x qual : Str} {st : Stmt} {f : Addr} {fd : FuncData} {N ps : List Str} {k : Nat} {φ : List D → Option Out} {g : GSs} (F : Fun K x qual st f fd) (S : FnScope N ps (defScope st)) (ar : ∀ ds o, φ ds = some o → ds.length = ps.length)
    (hb : ∀ (cdv : Value) (A : Around) (outer : List PySem.Env) (s : Shared) (H : Hp) (E : XK), Room k (A.deeper (envOfC qual (defScope st) s.heap.objs.size f cdv)) →
      PSs (cxOf (L2.CX P w) P w K mg base N qual (defScope st) f cdv A outer s H E) (defBody st) (tSs T (fun cls d _ H => E cls d H) g))
    (hw : ∀ ds o, φ ds = some o → wpSs T g (gdOf o) (startE N ds)) : FnOk P w K mg base (L2.CX P w) (k + 1) f fd ps (spOf T.ca φ) := by
  refine F.okX S (fun vs H Q E h => ?_) (fun cdv A outer s H vs Q E hr h => ⟨_, hb cdv A outer s H E hr, ?_⟩)
  · obtain ⟨b, ds, ex, r, q⟩ := h
    cases e : φ ds with
    | none => rw [e] at q; exact q.elim
    | some o => rw [r.len, ar ds o e]
  · obtain ⟨b, ds, ex, r, q⟩ := h
    cases e : φ ds with
    | none => rw [e] at q; exact q.elim
    | some o =>
      rw [e] at q
      refine ⟨b, H, b, _, gdOf o, sk_start ex r, hw ds o e, ⟨fun B1 Γ1 σ1 H1 so1 z => ?_, fun r v f B1 H1 s1 o1 n1 k1 i1 z => ?_, fun x v B1 H1 s1 r1 z => ?_, fun x B1 Γ1 σ1 H1 so1 z => ?_, fun p c x v B1 Γ1 σ1 H1 so1 _ _ _ z => ?_⟩⟩
      · have z' : o = .ret (.im .none) := z
        subst z'
        exact q .non [] B1 H1 so1.sp (fun _ hp => by cases hp) .nil (.im .non) rfl
      · have z' : .ret r = o := z
        subst z'
        exact q v f B1 H1 s1 k1 n1 o1 i1
      · have z' : .old x = o := z
        subst z'
        exact q v B1 H1 s1 r1
      · have z' : o = .exc x := z
        subst z'
        exact q B1 H1 so1.sp
      · have z' : .mu p c x = o := z
        subst z'
        exact q.elim
end
def caL (l : List (Nat × Addr)) (n : Nat) : Addr := (l.lookup n).getD 0
theorem memc {P : Nat → Prop} {a : Nat} {l : List Nat} (h : P a) (r : ∀ y ∈ l, P y) : ∀ y ∈ a :: l, P y := fun y hy => by
  cases hy with
  | head => exact h
  | tail _ hy => exact r y hy
theorem memn {P : Nat → Prop} : ∀ y ∈ ([] : List Nat), P y := fun y hy => nomatch hy
/-- the written part holds no list -/
def noL (K : PySem.W.Frag) : Bool := K.all fun p => !(p.2.cls == .type "list")
theorem noL_lookup {K : PySem.W.Frag} (h : noL K = true) {a : Addr} {o : Obj} (e : K.lookup a = some o) : o.cls ≠ .type "list" := by
  unfold noL at h
  induction K with
  | nil => cases e
  | cons p r ih =>
    obtain ⟨b, o'⟩ := p
    rw [List.all_cons, Bool.and_eq_true] at h
    rw [List.lookup_cons] at e
    cases q : a == b with
    | true =>
      rw [q] at e
      cases e
      intro z
      have h1 := h.1
      simp only [z, beq_self_eq_true, Bool.not_true] at h1
      cases h1
    | false =>
      rw [q] at e
      exact ih h.2 e
/-- a promise with no error -/
def spV (φ : List D → Option Out) : Sp := fun vs H Q E => ∃ b ds, Ex b H ∧ RpA b vs ds ∧ match φ ds with
  | some (.ret r) => ∀ v f B1 H1, Sp' b H B1 H1 → (∀ p ∈ f, H p = none) → f.Nodup → Or B1 H1 v r f → r.imm = true → Q v H1
  | _ => False
theorem spV_of {ca : Nat → Addr} {φ : List D → Option Out} : ∀ vs H Q E, spV φ vs H Q E → spOf ca φ vs H Q E := fun vs H Q E ⟨b, ds, h1, h2, h3⟩ => by
  refine ⟨b, ds, h1, h2, ?_⟩
  cases e : φ ds with
  | none => rw [e] at h3; exact h3
  | some o =>
    rw [e] at h3
    cases o with
    | ret r => exact h3
    | old d => exact h3.elim
    | exc x => exact h3.elim
    | mu p c x => exact h3.elim
theorem sp_script {K : PySem.W.Frag} {φ : List D → Option Out} (nl : noL K = true) {H : Hp} {a : Addr} {ns : List Int} (hS : SqL K H a (ns.map V.int)) (hφ : φ [.list (ns.map .int)] = some (.ret (.im (.bool true)))) : spV φ [.ref a] H (fun v _ => v = .bl true) fun _ _ _ => False := by
  rcases hS with h | ⟨o, its, n, h1, h2, _⟩
  · refine ⟨H, [.list (ns.map .int)], ex_refl _, .cons (.lst h (ints_rp ns)) .nil, ?_⟩
    rw [hφ]
    intro v f B1 H1 s k n o i
    cases o with
    | im r => cases r; rfl
  · exact absurd h2 (noL_lookup nl h1)
where
  ints_rp {H : Hp} : ∀ ns : List Int, RpA H (ns.map V.int) (ns.map PyData.int)
    | [] => .nil
    | n :: r => .cons (.int n) (ints_rp r)
end TD

/-! TD18: what is one's own is given to the base; a change at a place within. -/
namespace TD
open PySem PySem.Spec PyProof.Rows L2
section
variable {H0 B H B1 H1 b0 : Hp} {Γ : Env} {σ : L2.St}
theorem SlotOk.frz {s : Sl} {x : Option (Option V)} {f g : List Addr} (e : Ex B H) (h : SlotOk B H s x f) (k : ∀ p ∈ f, B p = none) (dj : ∀ p ∈ f, p ∉ g) : SlotOk (addF B H g) H s x f := by
  cases s with
  | fz d =>
    obtain ⟨v, e, r⟩ := h
    exact ⟨v, e, r.mono (addF_ex _ _ _)⟩
  | own r =>
    obtain ⟨v, e, r, n⟩ := h
    exact ⟨v, e, r.frame (addF_ex _ _ _) fun p hp => ⟨rfl, addF_out (dj p hp) (k p hp)⟩, n⟩
  | dc o kvs =>
    obtain ⟨p, ks, e, h1, h2, h3⟩ := h
    exact ⟨p, ks, e, h1, h2.mono (addF_ex _ _ _), h3⟩
  | xc a x => exact h
  | pin p ds =>
    obtain ⟨e, rfl, h1, xs, h2, h3⟩ := h
    exact ⟨e, rfl, addF_out (dj p List.mem_cons_self) h1, xs, h2, h3.mono (addF_ex _ _ _)⟩
  | mp p c =>
    obtain ⟨e, rfl, h1, h2⟩ := h
    exact ⟨e, rfl, addF_out (dj p List.mem_cons_self) h1, h2.step (addF_ex _ _ _) rfl⟩
theorem Sk.freeze (h : Sk H0 B Γ σ H) {i : Nat} {r : R} (e : Γ[i]? = some (some (.own r))) : ∃ f, (∀ p ∈ f, H0 p = none) ∧ Sk H0 (addF B H f) (Γ.set i (some (.fz r.toD))) σ H := by
  obtain ⟨F, g⟩ := h.sl
  have hl : i < Γ.length := (List.getElem?_eq_some_iff.mp e).1
  refine ⟨F i, fun p hp => (g.at' i p hp).1, by rw [List.length_set]; exact h.len, h.e0, addF_le h.ex, fun j => if j = i then [] else F j, ⟨fun a b hab p hp => ?_, fun a p hp => ?_, fun j s' ej => ?_⟩⟩
  · by_cases ha : a = i
    · simp only [ha, if_true] at hp
      cases hp
    · simp only [ha, if_false] at hp
      by_cases hb : b = i
      · simp only [hb, if_true]
        exact fun z => nomatch z
      · simp only [hb, if_false]
        exact g.dis a b hab p hp
  · by_cases ha : a = i
    · simp only [ha, if_true] at hp
      cases hp
    · simp only [ha, if_false] at hp
      obtain ⟨h1, h2, h3⟩ := g.at' a p hp
      exact ⟨h1, addF_out (g.dis a i ha p hp) h2, h3⟩
  · by_cases hj : j = i
    · subst hj
      rw [List.getElem?_set_self hl] at ej
      cases ej
      obtain ⟨v, e1, o, n⟩ := g.ok j _ e
      exact ⟨v, e1, o.freeze h.ex fun p hp => hp⟩
    · rw [get_set_ne (Ne.symm hj)] at ej
      simp only [hj, if_false]
      exact (g.ok j s' ej).frz h.ex (fun p hp => (g.at' j p hp).2.1) fun p hp => g.dis j i hj p hp
theorem So.freeze (h : So b0 H0 B Γ σ H) {i : Nat} {r : R} (e : Γ[i]? = some (some (.own r))) : ∃ B1, So b0 H0 B1 (Γ.set i (some (.fz r.toD))) σ H := by
  obtain ⟨f, k, s⟩ := h.sk.freeze e
  exact ⟨_, s, h.nv.set i (fun _ z => nomatch z), h.sp.addF k⟩
end
section
variable {X : Cx} {T : Tb} {W : WX} {a b c e : Expr} {st : Stmt} {ga gk : GE} {g : GS} {gp : GP} {gr : GR} {i : Nat} {pos : Pos}
theorem psx_frz (h : PS X st (tS T W g)) : PS X st (tS T W (.frz i g)) := h.imp fun De σ H ⟨b0, H0, B, Γ, d, so, w, r⟩ => by
  obtain ⟨q, e, w'⟩ := w
  obtain ⟨B1, so1⟩ := so.freeze (ownR_at e)
  exact ⟨b0, H0, B1, _, d, so1, w', r⟩

/-! ### places -/
def Walk (H : Hp) : V → List Nat → V → Prop
  | v, [], u => u = v
  | v, k :: ks, u => ∃ a xs y, v = .ref a ∧ (H a = some (.lst xs) ∨ H a = some (.tup xs)) ∧ xs[k]? = some y ∧ Walk H y ks u
theorem Walk.mono {H H1 : Hp} (e : Ex H H1) : ∀ {l : List Nat} {v u : V}, Walk H v l u → Walk H1 v l u
  | [], _, _, h => h
  | k :: ks, _, _, ⟨a, xs, y, h1, h2, h3, h4⟩ => ⟨a, xs, y, h1, h2.imp (e _ _) (e _ _), h3, h4.mono e⟩
theorem Walk.det {H : Hp} : ∀ {l : List Nat} {v u w : V}, Walk H v l u → Walk H v l w → u = w
  | [], _, _, _, h, k => h.trans k.symm
  | k :: ks, _, _, _, ⟨a, xs, y, h1, h2, h3, h4⟩, ⟨a', xs', y', g1, g2, g3, g4⟩ => by
    subst h1
    cases g1
    have e : xs = xs' := by
      rcases h2 with h2 | h2 <;> rcases g2 with g2 | g2 <;> rw [h2] at g2 <;> cases g2 <;> rfl
    subst e
    rw [h3] at g3
    cases g3
    exact h4.det g4
theorem Walk.snoc {H : Hp} {a : Addr} {xs : List V} {k : Nat} {y : V} (h2 : H a = some (.lst xs) ∨ H a = some (.tup xs)) (h3 : xs[k]? = some y) : ∀ {l : List Nat} {v : V}, Walk H v l (.ref a) → Walk H v (l ++ [k]) y
  | [], _, h => ⟨a, xs, y, h.symm, h2, h3, rfl⟩
  | j :: ks, _, ⟨a', xs', y', g1, g2, g3, g4⟩ => ⟨a', xs', y', g1, g2, g3, Walk.snoc h2 h3 g4⟩
theorem OrA.nth {B H : Hp} : ∀ {xs : List V} {rs : List R} {f : List Addr}, OrA B H xs rs f → ∀ {k : Nat} {q : R}, rs[k]? = some q → ∃ y g, xs[k]? = some y ∧ Or B H y q g ∧ (∀ p ∈ g, p ∈ f) ∧ (f.Nodup → g.Nodup) ∧
      ∀ (q' : R) (H' : Hp), f.Nodup → Or B H' y q' g → (∀ p ∈ f, p ∉ g → H' p = H p) → OrA B H' xs (rs.set k q') f
  | _, _, _, .nil, k, q, e => by cases e
  | _, _, _, .cons (v := v) (vs := vs) (r := r) (rs := rs) (f := f) (g := g) o t, 0, q, e => by
    cases e
    refine ⟨v, f, rfl, o, fun p hp => List.mem_append_left _ hp, fun n => (List.nodup_append.mp n).1, fun q' H' n o' k => ?_⟩
    refine .cons o' (t.frame (ex_refl _) fun p hp => ⟨k p (List.mem_append_right _ hp) fun z => (List.nodup_append.mp n).2.2 p z p hp rfl, ?_⟩)
    exact (t.at p hp).1
  | _, _, _, .cons (v := v) (vs := vs) (r := r) (rs := rs) (f := f) (g := g) o t, j + 1, q, e => by
    obtain ⟨y, g', h1, h2, h3, h4, h5⟩ := t.nth (k := j) e
    refine ⟨y, g', h1, h2, fun p hp => List.mem_append_right _ (h3 p hp), fun n => h4 (List.nodup_append.mp n).2.1, fun q' H' n o' k => ?_⟩
    refine .cons (o.frame (ex_refl _) fun p hp => ⟨k p (List.mem_append_left _ hp) fun z => (List.nodup_append.mp n).2.2 p hp p (h3 p z) rfl, (o.at p hp).1⟩) (h5 q' H' (List.nodup_append.mp n).2.1 o' fun p hp hn => k p (List.mem_append_right _ hp) hn)
theorem R.at_cons {r : R} {k : Nat} {ks : List Nat} {q : R} (h : R.at r (k :: ks) = some q) : ∃ rs r', (r = .on rs ∨ r = .ot rs) ∧ rs[k]? = some r' ∧ R.at r' ks = some q := by
  cases r with
  | im d => cases h
  | ol d => cases h
  | on rs =>
    have h' : (rs[k]?.bind fun q => q.at ks) = some q := h
    cases e : rs[k]? with
    | none => rw [e] at h'; cases h'
    | some r' => rw [e] at h'; exact ⟨rs, r', .inl rfl, e, h'⟩
  | ot rs =>
    have h' : (rs[k]?.bind fun q => q.at ks) = some q := h
    cases e : rs[k]? with
    | none => rw [e] at h'; cases h'
    | some r' => rw [e] at h'; exact ⟨rs, r', .inr rfl, e, h'⟩
/-- a list of one's own at a place: where it lies, and what a change makes -/
theorem Or.place {B H : Hp} (ex : Ex B H) {ds : List D} : ∀ {l : List Nat} {v : V} {r : R} {f : List Addr}, Or B H v r f → f.Nodup → R.at r l = some (.ol ds) → ∃ p xs, Walk H v l (.ref p) ∧ p ∈ f ∧ B p = none ∧ H p = some (.lst xs) ∧ RpA B xs ds ∧
      ∀ ys es, RpA B ys es → Or B (upd H p (.lst ys)) v (R.put r l (.ol es)) f
  | [], v, r, f, o, n, e => by
    have e' : some r = some (.ol ds) := by
      cases r <;> exact e
    cases e'
    cases o with
    | ol h1 h2 h3 => exact ⟨_, _, rfl, List.mem_cons_self, h1, h2, h3, fun ys es k => by
        have : R.put (.ol ds) [] (.ol es) = .ol es := rfl
        rw [this]
        exact .ol h1 upd_same k⟩
  | k :: ks, v, r, f, o, n, e => by
    obtain ⟨rs, r', hr, e1, e2⟩ := R.at_cons e
    rcases hr with rfl | rfl
    · cases o with
      | on h1 h2 h3 =>
        rename_i p xs g
        have n' := List.nodup_cons.mp n
        obtain ⟨y, g', k1, k2, k3, k4, k5⟩ := h3.nth e1
        obtain ⟨p', ys, w1, w2, w3, w4, w5, w6⟩ := Or.place ex k2 (k4 n'.2) e2
        have hpp : p ≠ p' := fun z => n'.1 (z ▸ k3 p' w2)
        refine ⟨p', ys, ⟨p, xs, y, rfl, .inl h2, k1, w1⟩, List.mem_cons_of_mem _ (k3 p' w2), w3, w4, w5, fun zs es q => ?_⟩
        have : R.put (.on rs) (k :: ks) (.ol es) = .on (rs.set k (R.put r' ks (.ol es))) := by
          show R.on (match rs[k]? with | some r => rs.set k (R.put r ks (.ol es)) | none => rs) = _
          rw [e1]
        rw [this]
        refine .on h1 (by rw [upd_ne hpp]; exact h2) (k5 _ _ n'.2 (w6 zs es q) fun a ha hn => upd_ne fun z => hn (z ▸ w2))
    · cases o with
      | ot h1 h3 =>
        rename_i p xs
        obtain ⟨y, g', k1, k2, k3, k4, k5⟩ := h3.nth e1
        obtain ⟨p', ys, w1, w2, w3, w4, w5, w6⟩ := Or.place ex k2 (k4 n) e2
        refine ⟨p', ys, ⟨p, xs, y, rfl, .inr (ex _ _ h1), k1, w1⟩, k3 p' w2, w3, w4, w5, fun zs es q => ?_⟩
        have : R.put (.ot rs) (k :: ks) (.ol es) = .ot (rs.set k (R.put r' ks (.ol es))) := by
          show R.ot (match rs[k]? with | some r => rs.set k (R.put r ks (.ol es)) | none => rs) = _
          rw [e1]
        rw [this]
        refine .ot h1 (k5 _ _ n (w6 zs es q) fun a ha hn => upd_ne fun z => hn (z ▸ w2))
theorem Or.walk {B H : Hp} (ex : Ex B H) {q : R} : ∀ {l : List Nat} {v : V} {r : R} {f : List Addr}, Or B H v r f → R.at r l = some q → ∃ u g, Walk H v l u ∧ Or B H u q g
  | [], v, r, f, o, e => by
    have e' : some r = some q := by cases r <;> exact e
    cases e'
    exact ⟨v, f, rfl, o⟩
  | k :: ks, v, r, f, o, e => by
    obtain ⟨rs, r', hr, e1, e2⟩ := R.at_cons e
    rcases hr with rfl | rfl
    · cases o with
      | on h1 h2 h3 =>
        obtain ⟨y, g', k1, k2, _⟩ := h3.nth e1
        obtain ⟨u, g, w, o'⟩ := Or.walk ex k2 e2
        exact ⟨u, g, ⟨_, _, y, rfl, .inl h2, k1, w⟩, o'⟩
    · cases o with
      | ot h1 h3 =>
        obtain ⟨y, g', k1, k2, _⟩ := h3.nth e1
        obtain ⟨u, g, w, o'⟩ := Or.walk ex k2 e2
        exact ⟨u, g, ⟨_, _, y, rfl, .inr (ex _ _ h1), k1, w⟩, o'⟩
theorem R.at_snoc {q : R} {k : Nat} : ∀ {l : List Nat} {r : R}, R.at r (l ++ [k]) = some q → ∃ rs r', R.at r l = some r' ∧ (r' = .on rs ∨ r' = .ot rs) ∧ rs[k]? = some q
  | [], r, e => by
    obtain ⟨rs, r', hr, e1, e2⟩ := R.at_cons (show R.at r (k :: []) = some q from e)
    have e' : some r' = some q := by cases r' <;> exact e2
    cases e'
    exact ⟨rs, r, by cases r <;> rfl, hr, e1⟩
  | j :: ks, r, e => by
    obtain ⟨rs, r', hr, e1, e2⟩ := R.at_cons (show R.at r (j :: (ks ++ [k])) = some q from e)
    obtain ⟨rs2, r2, h1, h2, h3⟩ := R.at_snoc e2
    refine ⟨rs2, r2, ?_, h2, h3⟩
    rcases hr with rfl | rfl
    · show (rs[j]?.bind fun q => q.at ks) = _
      rw [e1]
      exact h1
    · show (rs[j]?.bind fun q => q.at ks) = _
      rw [e1]
      exact h1
def tP (T : Tb) (W : WX) (K : PySem.W.Frag) : GP → TE
  | .var i => tVar i
  | .sub p k => tOp (fun x y H Q => rIxL K x y H Q ∨ rIxT K x y H Q) (tP T W K p) (tG T W k)
theorem pp_var {n : Str} {pp : Pos} (h : PE X (.Name n pp) (tVar i)) : PE X (.Name n pp) (tP T W X.K (.var i)) := h
theorem pp_sub (ha : PE X a (tP T W X.K gp)) (hb : PE X b (tG T W gk)) (hs : PlainIx b := by intro _ _; rfl) : PE X (.Subscript a b pos) (tP T W X.K (.sub gp gk)) := pe_ix (ix_list.or ix_tup) ha hb hs
theorem evP_inv {Γ : Env} {k : GE} {i : Nat} {l : List Nat} (h : evP T Γ (.sub gp k) = .ok (i, l)) : ∃ l' j, evP T Γ gp = .ok (i, l') ∧ ev T Γ k = .ok (.int j) ∧ 0 ≤ j ∧ l = l' ++ [j.toNat] := by
  have h' : ((evP T Γ gp).bind fun x => (ev T Γ k).bind fun d => match d with
    | .int j => if decide (0 ≤ j) then Rs.ok (x.1, x.2 ++ [j.toNat]) else .bad
    | _ => .bad) = .ok (i, l) := h
  cases e1 : evP T Γ gp with
  | err x => rw [e1] at h'; cases h'
  | bad => rw [e1] at h'; cases h'
  | ok x =>
    rw [e1] at h'
    cases e2 : ev T Γ k with
    | err x => rw [e2] at h'; cases h'
    | bad => rw [e2] at h'; cases h'
    | ok d =>
      rw [e2] at h'
      cases d with
      | int j =>
        by_cases z : 0 ≤ j
        · have h2 : (if decide (0 ≤ j) then Rs.ok (x.1, x.2 ++ [j.toNat]) else Rs.bad) = .ok (i, l) := h'
          rw [decide_eq_true z, if_pos rfl] at h2
          cases h2
          exact ⟨x.2, j, rfl, rfl, z, rfl⟩
        · have h2 : (if decide (0 ≤ j) then Rs.ok (x.1, x.2 ++ [j.toNat]) else Rs.bad) = .ok (i, l) := h'
          rw [decide_eq_false z] at h2
          cases h2
      | _ => cases h'
theorem tP_run {H0 B H b0 : Hp} {Γ : Env} {σ : L2.St} {K : PySem.W.Frag} {r : R} {v : V} (so : So b0 H0 B Γ σ H) (hr : ownR Γ i = some r) (hv : σ[i]? = some (some v)) : ∀ {gp : GP} {l : List Nat} {q : R} {Q : VK}, evP T (TD.view Γ) gp = .ok (i, l) → R.at r l = some q →
    (∀ u b1 H1, Sp' H H b1 H1 → Walk H1 v l u → Q u H1) → tP T W K gp σ H Q
  | .var j, l, q, Q, e, e2, k => by
    cases e
    exact ⟨v, hv, k v H H (.refl (ex_refl _)) rfl⟩
  | .sub p gk, l, q, Q, e, e2, k => by
    obtain ⟨l', j, h1, h2, h3, rfl⟩ := evP_inv e
    obtain ⟨rs, r', k1, k2, k3⟩ := R.at_snoc e2
    show tP T W K p σ H fun x H1 => tG T W gk σ H1 fun y H2 => rIxL K x y H2 Q ∨ rIxT K x y H2 Q
    refine tP_run so hr hv h1 k1 fun x b1 H1 s w => ?_
    have so1 := so.step (.tups so.sk.ex s.h)
    refine ⟨H1, _, so1.sk.view, ?_⟩
    rw [h2]
    intro y b2 H2 s2 rp
    cases rp_int rp
    have so2 := so1.step (.tups so1.sk.ex s2.h)
    obtain ⟨f, ⟨v', hv', o, n⟩, _⟩ := so2.change (ownR_at hr)
    rw [hv] at hv'
    cases hv'
    obtain ⟨u, g, w2, o2⟩ := Or.walk so2.sk.ex o k1
    have eu := (w.mono s2.h).det w2
    subst eu
    have ss : Sp' H H H2 H2 := ⟨ex_trans s.h s2.h, ex_trans s.h s2.h, ex_refl _, fun p o h1 h2 h3 => by rw [h1] at h3; cases h3⟩
    rcases k2 with rfl | rfl
    · cases o2 with
      | on g1 g2 g3 =>
        obtain ⟨z, _, z1, _⟩ := g3.nth k3
        exact .inl ⟨_, _, j, z, rfl, rfl, .inl (.inl g2), atI_of h3 z1, k z _ _ ss (Walk.snoc (.inl g2) z1 (w.mono s2.h))⟩
    · cases o2 with
      | ot g1 g3 =>
        obtain ⟨z, _, z1, _⟩ := g3.nth k3
        exact .inr ⟨_, _, j, z, rfl, rfl, .inl (.inl (so2.sk.ex _ _ g1)), atI_of h3 z1, k z _ _ ss (Walk.snoc (.inr (so2.sk.ex _ _ g1)) z1 (w.mono s2.h))⟩
/-- a list at a place, ready to be changed -/
theorem So.place {H0 B H b0 : Hp} {Γ : Env} {σ : L2.St} {r : R} {v : V} {l : List Nat} {ds : List D} (so : So b0 H0 B Γ σ H) (hr : TD.ownR Γ i = some r) (hv : σ[i]? = some (some v)) (ha : R.at r l = some (.ol ds)) : ∃ p xs, Walk H v l (.ref p) ∧ H p = some (.lst xs) ∧ RpA B xs ds ∧
    ∀ ys es, RpA B ys es → So b0 H0 B (Γ.set i (some (.own (R.put r l (.ol es))))) σ (upd H p (.lst ys)) := by
  obtain ⟨f, ⟨v', hv', o, n⟩, h2, h3⟩ := so.change (ownR_at hr)
  rw [hv] at hv'
  cases hv'
  obtain ⟨p, xs, w1, w2, w3, w4, w5, w6⟩ := o.place so.sk.ex n ha
  exact ⟨p, xs, w1, w4, w5, fun ys es k => h3 p _ _ f w2 (lst_noTup _) (fun _ z => nomatch z) ⟨v, hv, w6 ys es k, n⟩ fun q hq => hq⟩
theorem So.val {H0 B H b0 : Hp} {Γ : Env} {σ : L2.St} {r : R} (so : So b0 H0 B Γ σ H) (hr : TD.ownR Γ i = some r) : ∃ v, σ[i]? = some (some v) := by
  obtain ⟨f, ⟨v', hv', _⟩, _⟩ := so.change (ownR_at hr)
  exact ⟨v', hv'⟩
theorem psx_mutA (h : PS X st (tDrop (tBM X.K "list" rAppend (tP T W X.K gp) (tCons (tG T W ga) tNil)))) : PS X st (tS T W (.mutA gp ga)) := h.imp fun De σ H ⟨b0, H0, B, Γ, d, so, w, r⟩ => by
  obtain ⟨i, l, q, ds, ⟨e1, e2, e3⟩, w'⟩ := w
  obtain ⟨v, hv⟩ := so.val e2
  refine tP_run so e2 hv e1 e3 fun u b1 H1 s wk => ?_
  have so1 := so.step (.tups so.sk.ex s.h)
  obtain ⟨p, xs, k1, k2, k3, k4⟩ := so1.place e2 hv e3
  cases wk.det k1
  refine ⟨.inl ⟨rfl, xs, .inl (.inl k2)⟩, so1.view r w' fun y x b2 H2 s2 rp ⟨z, h8, q2⟩ => ?_⟩
  have so2 := so1.step (.tups so1.sk.ex s2.h)
  obtain ⟨p', xs', g1, g2, g3, g4⟩ := so2.place e2 hv e3
  cases (wk.mono s2.h).det g1
  refine ⟨p, xs', y, rfl, rfl, g2, ?_, r.nx _ _ _ _ (g4 _ _ (g3.app (.one (Rp.imm (ex_trans so1.sk.ex s2.h) s2.bh x rp z)))) q2⟩
  rw [g3.len, sizeLine_eq]
  exact h8
theorem psx_mutC (h : PS X st (tDrop (tBM0 X.K "list" rClear (tP T W X.K gp)))) : PS X st (tS T W (.mutC gp)) := h.imp fun De σ H ⟨b0, H0, B, Γ, d, so, w, r⟩ => by
  obtain ⟨i, l, q, ds, ⟨e1, e2, e3⟩, w'⟩ := w
  obtain ⟨v, hv⟩ := so.val e2
  refine tP_run so e2 hv e1 e3 fun u b1 H1 s wk => ?_
  have so1 := so.step (.tups so.sk.ex s.h)
  obtain ⟨p, xs, k1, k2, k3, k4⟩ := so1.place e2 hv e3
  cases wk.det k1
  exact ⟨.inl ⟨rfl, xs, .inl (.inl k2)⟩, p, xs, rfl, rfl, k2, r.nx _ _ _ _ (k4 _ _ .nil) w'⟩
theorem psx_mutS (h : PS X st (tAsg (tG T W ga) (gSub (tP T W X.K gp) (tG T W gk) rSetL))) : PS X st (tS T W (.mutS gp gk ga)) := h.imp fun De σ H ⟨b0, H0, B, Γ, d, so, w, r⟩ => by
  obtain ⟨i, l, q, ds, ⟨e1, e2, e3⟩, w'⟩ := w
  obtain ⟨v, hv⟩ := so.val e2
  refine so.view r w' fun y x b1 H1 s rp ⟨z, w2⟩ => ?_
  have so1 := so.step (.tups so.sk.ex s.h)
  have rv := Rp.imm (ex_trans so.sk.ex s.h) s.bh x rp z
  refine tP_run so1 e2 hv e1 e3 fun u b2 H2 s2 wk => ?_
  have so2 := so1.step (.tups so1.sk.ex s2.h)
  refine so2.view r w2 fun n y b3 H3 s3 rp2 ⟨j, ej, j0, j1, q2⟩ => ?_
  subst ej
  have so3 := so2.step (.tups so2.sk.ex s3.h)
  obtain ⟨p, xs, k1, k2, k3, k4⟩ := so3.place e2 hv e3
  cases (wk.mono s3.h).det k1
  cases rp_int rp2
  refine ⟨p, xs, j, j.toNat, rfl, rfl, k2, ?_, r.nx _ _ _ _ (k4 _ _ (k3.set j.toNat ((rv.mono (tups_ex _ _)).mono (tups_ex _ _)))) q2⟩
  unfold ixN
  rw [if_pos j0, if_pos (by rw [k3.len]; exact j1)]
theorem psx_tmpApp (h : PS X st (tDrop (tBM X.K "list" rAppend (tR T W gr) (tCons (tG T W ga) tNil)))) : PS X st (tS T W (.tmpApp gr ga)) := h.imp fun De σ H ⟨b0, H0, B, Γ, d, so, w, r⟩ => by
  refine ⟨H0, B, Γ, so.sk, ?_⟩
  have w' : onR (evR T Γ gr) (fun x => d.ex x Γ) fun q => ∃ ds, q = .ol ds ∧ onR (ev T (TD.view Γ) ga) (fun x => d.ex x Γ) fun v => imm v = true ∧ ds.length < 16777216 ∧ d.nx Γ := w
  cases q : evR T Γ gr with
  | ok x =>
    rw [q] at w'
    obtain ⟨ds, rfl, w2⟩ := w'
    intro v f B1 H1 s o n k im
    cases o with
    | ol h1 h2 h3 =>
      rename_i p xs
      have so1 := so.step s
      refine ⟨.inl ⟨rfl, xs, .inl (.inl h2)⟩, so1.view r w2 fun y x b2 H2 s2 rp ⟨z, h8, q2⟩ => ?_⟩
      refine ⟨p, xs, y, rfl, rfl, s2.h _ _ h2, ?_, r.nx B1 Γ _ _ (so.step ⟨s.b, fun a u e => ?_, fun a u e => ?_, s.own⟩) q2⟩
      · rw [h3.len, sizeLine_eq]
        exact h8
      · have : a ≠ p := fun z => by
          subst z
          rw [k a List.mem_cons_self] at e
          cases e
        rw [upd_ne this]
        exact s2.h _ _ (s.h _ _ e)
      · have : a ≠ p := fun z => by
          subst z
          rw [h1] at e
          cases e
        rw [upd_ne this]
        exact s2.h _ _ (s.bh _ _ e)
  | err x => rw [q] at w'; exact so.err r w'
  | bad => rw [q] at w'; exact w'
end
end TD

/-! TD19: how often a truth value stands in a list. -/
namespace TD
open PySem PySem.Spec PyProof.Rows L2
def rCntB (K : PySem.W.Frag) : V → List V → Hp → VK → Prop := fun x xs H Q => ∃ (p : Addr) (bs : List Bool) (k : Bool), x = .ref p ∧ xs = [.bl k] ∧ SqL K H p (bs.map V.bl) ∧ Q (.int (bs.count k : Nat)) H
def eqb (k : Bool) (v : Value) : Bool := match v with
  | .bool n => n == k
  | _ => false
theorem eqb_all {k : Bool} {A : Around} {s : Shared} : ∀ {us : List Value} {bs : List Bool}, Vals (bs.map V.bl) us → (∀ y ∈ us, SeqAt.EqAt A s y (.bool k) (eqb k y)) ∧ us.countP (eqb k) = bs.count k
  | us, [], r => by
    cases r
    exact ⟨fun y hy => (nomatch hy), rfl⟩
  | us, b :: bs, r => by
    cases r with
    | cons a r =>
      cases (show _ = Value.bool b from a)
      have ih := eqb_all (k := k) (A := A) (s := s) r
      refine ⟨fun y hy => ?_, ?_⟩
      · rcases List.mem_cons.mp hy with e | e
        · rw [e]
          exact SeqAt.EqAt.bool_bool b k
        · exact ih.1 y e
      · rw [List.countP_cons, List.count_cons, ih.2]
        rfl
section
variable {X : Cx} {T : Tb} {W : WX} {a b : Expr} {ga gb : GE} {pos : Pos}
theorem mt_lcountB : MtR X "list.count" (rCntB X.K) := by
  intro pins s σ H x xs v us Q I rx rxs h
  obtain ⟨p, bs, k, rfl, rfl, hs, q⟩ := h
  cases rx
  obtain ⟨u, rfl, ru⟩ := rxs.one
  cases (show u = Value.bool k from ru)
  obtain ⟨its, rv, ⟨⟨cls, dd, data, sl⟩, n, ho, hc, hdn, hd⟩, hlen⟩ := I.list hs
  simp only at hc hd
  subst hc hd
  have hi := fun A s => eqb_all (k := k) (A := A) (s := s) rv
  refine call_meets PySem.F.slot_list_count ⟨_, ho, rfl⟩ PySem.F.entry_list_count (PySem.F.args_list_count_2 _ _)
    (SeqAt.list_countAt p its.toArray n dd sl (.bool k) (eqb k)) ⟨ho, fun y hy => (hi _ _).1 y (by simpa using hy), ?_⟩
  refine ⟨.int (bs.count k : Nat), H, I.tok _, ⟨s.toks, ?_⟩, q⟩
  show Value.int ((its.toArray.toList.countP (eqb k) : Nat) : Int) s.toks = Value.int ((bs.count k : Nat) : Int) s.toks
  rw [show its.toArray.toList = its from rfl, (hi X.A s).2]
theorem decB_sound : ∀ {ds : List D} {ns : List Bool}, decB ds = some ns → ds = ns.map PyData.bool
  | [], _, h => by cases h; rfl
  | d :: r, ns, h => by
    cases d with
    | bool i =>
      have h' : (decB r).map (i :: ·) = some ns := h
      cases e : decB r with
      | none => rw [e] at h'; cases h'
      | some l =>
        rw [e] at h'
        cases h'
        rw [decB_sound e]
        rfl
    | _ => cases h
theorem RpA.bools {H : Hp} : ∀ {vs : List V} {ns : List Bool}, RpA H vs (ns.map PyData.bool) → vs = ns.map V.bl
  | [], [], .nil => rfl
  | _, _ :: _, .cons a b => by cases a; rw [RpA.bools b]; rfl
theorem cntB_inv {σ : L2.St} {B H : Hp} {x y : D} {Q : VK} (p : Post T W σ B H (cntBD x y) Q) : ∃ (ns : List Bool) (k : Bool), x = .list (ns.map .bool) ∧ y = .bool k ∧ Post T W σ B H (.ok (.int (ns.count k))) Q := by
  cases x with
  | list ds => cases y with
    | bool k =>
      have p' : Post T W σ B H (match decB ds with
        | some ns => .ok (.int (ns.count k))
        | none => .bad) Q := p
      cases e : decB ds with
      | none => rw [e] at p'; exact p'.elim
      | some ns => rw [e] at p'; exact ⟨ns, k, by rw [decB_sound e], rfl, p'⟩
    | _ => exact False.elim p
  | _ => exact False.elim p
theorem px_cntB (ha : PE X a (tG T W ga)) (hb : PE X b (tG T W gb)) {ap : Pos} (hm : PE X (.Call (.Attribute a "count" ap) [b] [] pos) (tBM X.K "list" (rCntB X.K) (tG T W ga) (tCons (tG T W gb) tNil))) : PE X (.Call (.Attribute a "count" ap) [b] [] pos) (tG T W (.cntB ga gb)) := hm.imp fun σ H Q ⟨B, Γ, hs, p⟩ =>
  tG_mono (g_bind hs p) fun x H1 ⟨d, B1, st, hs1, rx, p1⟩ => by
    cases d with
    | list ds =>
      cases rx with
      | lst h1 h2 =>
        refine ⟨.inl ⟨rfl, _, .inl (rd_mono hs1.ex h1)⟩, tG_mono (g_bind hs1 p1) fun y H2 ⟨e, B2, st2, hs2, ry, p2⟩ => ?_⟩
        obtain ⟨ns, k, e1, e3, q⟩ := cntB_inv p2
        cases e1
        subst e3
        have e2 := RpA.bools h2
        subst e2
        cases ry
        exact ⟨_, ns, k, rfl, rfl, .inl (rd_mono hs2.ex (rd_mono st2.b h1)), q.here (d := .int _) hs2.ex (.int _)⟩
    | _ => exact False.elim p1
end
@[simp] theorem decB_map : ∀ bs : List Bool, decB (bs.map .bool) = some bs
  | [] => rfl
  | b :: bs => by
    show (decB (bs.map .bool)).map (b :: ·) = _
    rw [decB_map bs]
    rfl
section
variable {T : Tb} {Γ : Env} {a b : GE}
def lstR (x : D) (r : Rs D) : Rs D := match x with
  | .list _ => r
  | _ => .bad
@[simp] theorem lstR_l {ds : List D} {r : Rs D} : lstR (.list ds) r = r := rfl
@[simp] theorem e_cnt : ev T Γ (.cnt a b) = (ev T Γ a).bind fun x => lstR x ((ev T Γ b).bind fun y => cntD x y) := by
  show Rs.bind _ _ = Rs.bind _ _
  congr 1
  funext x
  cases x <;> rfl
@[simp] theorem e_cntB : ev T Γ (.cntB a b) = (ev T Γ a).bind fun x => lstR x ((ev T Γ b).bind fun y => cntBD x y) := by
  show Rs.bind _ _ = Rs.bind _ _
  congr 1
  funext x
  cases x <;> rfl
@[simp] theorem cntB_l {bs : List Bool} {k : Bool} : cntBD (.list (bs.map .bool)) (.bool k) = .ok (.int (bs.count k)) := by
  show (match decB (bs.map .bool) with | some ns => Rs.ok (PyData.int (ns.count k)) | none => .bad) = _
  rw [decB_map]
end
end TD

/-! TD20: loops over numbers and pairs; short words. -/
namespace TL
open PySem PySem.Spec PyProof.Rows L2 TD
abbrev oI (n : Int) : Out := .ret (.im (.int n))
abbrev oB (n : Bool) : Out := .ret (.im (.bool n))
theorem mapO {α β : Type} {o : Option α} {f : α → β} {b : β} (h : o.map f = some b) : ∃ a, o = some a ∧ f a = b := by
  cases o with
  | none => cases h
  | some a => exact ⟨a, rfl, Option.some.inj h⟩
@[simp] theorem pu0 (b : Bool) : (false ^^ b) = b := by cases b <;> rfl
@[simp] theorem size_lit {n : Nat} (h : n ≤ 16777216) : TD.sizeOk n = true := by unfold TD.sizeOk; exact decide_eq_true h
/-- a loop over the numbers from 0 -/
theorem wp_rng {T : Tb} {ws : List Nat} {t : Nat} {a : GE} {body : GSs} {d : GD} {Γ : TD.Env} {n : Int} (I : Nat → TD.Env → Prop) (he : ev T (stab Γ) a = .ok (.int n)) (hn : n < 2 ^ 62) (h0' : 0 ≤ n) (h0 : I 0 (wipeE Γ ws))
    (hs : ∀ (i : Nat) (Γ : TD.Env), (i : Int) < n → I i Γ → wpSs T body { d with nx := fun Γ' => I (i + 1) (wipeE Γ' ws) } (Γ.set t (some (.fz (.int i))))) (h1 : ∀ Γ, I n.toNat Γ → d.nx Γ) : TD.wpS T (.for_ ws [t] (.i1 a) body) d Γ := by
  have e2 : evI T (stab Γ) (.i1 a) = .ok (rngL 0 n) := by
    show (ev T (stab Γ) a).bind _ = _
    rw [he]
    show (if rngOk n = true then Rs.ok (rngL 0 n) else .bad) = _
    rw [if_pos (by unfold rngOk; exact decide_eq_true (by omega))]
  refine wp_for (fun r Γ' => ∃ i : Nat, r = (rngL 0 n).drop i ∧ i ≤ n.toNat ∧ I i Γ') e2 ⟨0, rfl, Nat.zero_le _, h0⟩ (fun it r Γ1 z => ?_) (fun Γ1 z => ?_)
  · obtain ⟨i, e, hi, hI⟩ := z
    have hl : (rngL 0 n).length = n.toNat := by unfold rngL; simp
    have hlt : i < n.toNat := by
      by_cases q : i < n.toNat
      · exact q
      · rw [List.drop_of_length_le (by omega)] at e
        cases e
    rw [List.drop_eq_getElem_cons (by omega)] at e
    have e3 : (rngL 0 n)[i]'(by omega) = [PyData.int i] := by
      unfold rngL
      simp
    rw [e3] at e
    cases e
    exact wpSs_mono body (hs i Γ1 (by omega) hI) ⟨fun Γ2 y => ⟨i + 1, rfl, by omega, y⟩, fun _ y => y, fun _ _ y => y⟩
  · obtain ⟨i, e, hi, hI⟩ := z
    have hl : (rngL 0 n).length = n.toNat := by unfold rngL; simp
    have : i = n.toNat := by
      have := congrArg List.length e
      simp [hl] at this
      omega
    subst this
    exact h1 _ hI

/-- a loop over a list of pairs -/
theorem wp_prs {T : Tb} {ws : List Nat} {t : Nat} {a : GE} {body : GSs} {d : GD} {Γ : TD.Env} {ps : List (Int × Int)} (I : List (Int × Int) → TD.Env → Prop) (he : ev T (stab Γ) a = .ok (.list (ps.map eP))) (h0 : I ps (wipeE Γ ws))
    (hs : ∀ p r Γ, I (p :: r) Γ → wpSs T body { d with nx := fun Γ' => I r (wipeE Γ' ws) } (Γ.set t (some (.fz (eP p))))) (h1 : ∀ Γ, I [] Γ → d.nx Γ) : TD.wpS T (.for_ ws [t] (.il a) body) d Γ := by
  have e2 : evI T (stab Γ) (.il a) = .ok (ps.map fun p => [eP p]) := by
    show (ev T (stab Γ) a).bind _ = _
    rw [he]
    show Rs.ok ((ps.map eP).map fun d => [d]) = _
    rw [List.map_map]
    rfl
  refine wp_for (fun r Γ' => ∃ qs : List (Int × Int), r = qs.map (fun p => [eP p]) ∧ I qs Γ') e2 ⟨ps, rfl, h0⟩ (fun it r Γ1 z => ?_) (fun Γ1 z => ?_)
  · obtain ⟨qs, e, hI⟩ := z
    cases qs with
    | nil => cases e
    | cons p qs =>
      cases e
      exact wpSs_mono body (hs p qs Γ1 hI) ⟨fun Γ2 y => ⟨qs, rfl, y⟩, fun _ y => y, fun _ _ y => y⟩
  · obtain ⟨qs, e, hI⟩ := z
    cases qs with
    | nil => exact h1 _ hI
    | cons p qs => cases e
/-- a list by each of a list -/
theorem lcM_all {α : Type} {f : α → Rs (Option D)} {g : α → D} : ∀ {l : List α}, (∀ a ∈ l, f a = .ok (some (g a))) → lcM f l = .ok (l.map g)
  | [], _ => rfl
  | a :: r, h => by
    unfold lcM
    rw [h a List.mem_cons_self]
    show (lcM f r).map _ = _
    rw [lcM_all fun b hb => h b (List.mem_cons_of_mem _ hb)]
    rfl
theorem bindO {α β : Type} {o : Option α} {f : α → Option β} {b : β} (h : o.bind f = some b) : ∃ a, o = some a ∧ f a = some b := by
  cases o with
  | none => cases h
  | some a => exact ⟨a, rfl, h⟩
theorem e_lc {T : Tb} {Γ : TD.Env} {t : Nat} {a e : GE} {ps : List (Int × Int)} {g : Int × Int → D} (he : ev T Γ a = .ok (.list (ps.map eP))) (hl : ps.length ≤ 16777216) (hg : ∀ p ∈ ps, ev T ((wipeE Γ [t]).set t (some (.fz (eP p)))) e = .ok (g p)) :
    evF T Γ (.lc [t] (.il a) e) = .ok (ps.map g) := by
  show (evI T Γ (.il a)).bind _ = _
  have e2 : evI T Γ (.il a) = .ok (ps.map fun p => [eP p]) := by
    show (ev T Γ a).bind _ = _
    rw [he]
    show Rs.ok ((ps.map eP).map fun d => [d]) = _
    rw [List.map_map]
    rfl
  rw [e2]
  show (if TD.sizeOk (ps.map fun p => [eP p]).length = true then lcM _ (ps.map fun p => [eP p]) else Rs.bad) = _
  rw [if_pos (size_lit (by rw [List.length_map]; exact hl))]
  have := lcM_all (f := fun it => (ev T (setTs (wipeE Γ [t]) [t] it) e).map some) (l := ps.map fun p => [eP p]) (g := fun it => match it with | [.tuple [.int x, .int y]] => g (x, y) | _ => .none) (fun it hit => by
    obtain ⟨p, hp, rfl⟩ := List.mem_map.mp hit
    show (ev T ((wipeE Γ [t]).set t (some (.fz (eP p)))) e).map some = _
    rw [hg p hp]
    rfl)
  rw [this, List.map_map]
  rfl
end TL
namespace TD
open PySem PySem.Spec PyProof.Rows L2
section
variable {T : Tb} {Γ : Env} {a b c : GE} {i j : Int} {ds es : List D}
def slToR (x y : D) : Rs (List D) := match x, y with
  | .list ds, .int j => if decide (0 ≤ j) then .ok (ds.take j.toNat) else .bad
  | _, _ => .bad
theorem slToR_l (h : 0 ≤ j) : slToR (.list ds) (.int j) = .ok (ds.take j.toNat) := by
  show (if decide (0 ≤ j) = true then Rs.ok (ds.take j.toNat) else .bad) = _
  rw [decide_eq_true h, if_pos rfl]
@[simp] theorem e_slTo : evF T Γ (.slTo a b) = (ev T Γ a).bind fun x => (ev T Γ b).bind fun y => slToR x y := rfl
def slFromR (x y : D) : Rs (List D) := match x, y with
  | .list ds, .int j => if decide (0 ≤ j) then .ok (ds.drop j.toNat) else .bad
  | _, _ => .bad
theorem slFromR_l (h : 0 ≤ j) : slFromR (.list ds) (.int j) = .ok (ds.drop j.toNat) := by
  show (if decide (0 ≤ j) = true then Rs.ok (ds.drop j.toNat) else .bad) = _
  rw [decide_eq_true h, if_pos rfl]
@[simp] theorem e_slFrom : evF T Γ (.slFrom a b) = (ev T Γ a).bind fun x => (ev T Γ b).bind fun y => slFromR x y := rfl
def catR (x y : D) : Rs (List D) := match x, y with
  | .list ds, .list es => if TD.sizeOk (ds.length + es.length) then .ok (ds ++ es) else .bad
  | _, _ => .bad
theorem catR_l (h : ds.length + es.length ≤ 16777216) : catR (.list ds) (.list es) = .ok (ds ++ es) := by
  show (if TD.sizeOk (ds.length + es.length) = true then Rs.ok (ds ++ es) else .bad) = _
  rw [TL.size_lit h, if_pos rfl]
@[simp] theorem e_cat : evF T Γ (.cat a b) = (ev T Γ a).bind fun x => (ev T Γ b).bind fun y => catR x y := rfl
def repR (x y : D) : Rs (List D) := match y with
  | .int k => if repOk k then .ok (List.replicate k.toNat x) else .bad
  | _ => .bad
theorem repR_i {x : D} (h : 0 ≤ j) (h2 : j ≤ 16777216) : repR x (.int j) = .ok (List.replicate j.toNat x) := by
  show (if repOk j = true then Rs.ok (List.replicate j.toNat x) else .bad) = _
  unfold repOk
  rw [decide_eq_true h, TL.size_lit (by omega)]
  rfl
@[simp] theorem e_rep : evF T Γ (.rep a b) = (ev T Γ a).bind fun x => (ev T Γ b).bind fun y => repR x y := rfl
@[simp] theorem e_sl2 : evF T Γ (.slBoth a b c) = (ev T Γ a).bind fun x => (ev T Γ b).bind fun y => match y with
    | .int i => (ev T Γ c).bind fun z => match x, z with
      | .list ds, .int j => if decide (0 ≤ i) && decide (i ≤ j) then .ok ((ds.drop i.toNat).take (j - i).toNat) else .bad
      | _, _ => .bad
    | _ => .bad := rfl
end
end TD

/-! TD21: a row of one's own rows is read, and a new one is put behind. -/
namespace TD
open PySem PySem.Spec PyProof.Rows L2
section
variable {H0 B H B1 H1 b0 : Hp} {Γ : Env} {σ : L2.St}
theorem Sk.change2 (h : Sk H0 B Γ σ H) (nv : NV Γ) (st : Sp' B H B1 H1) {i : Nat} {s : Sl} (e : Γ[i]? = some (some s)) : ∃ f, SlotOk B1 H1 s (σ[i]?) f ∧ (∀ p ∈ f, H0 p = none ∧ H p ≠ none ∧ B1 p = none ∧ ∃ o, H1 p = some o ∧ NoTup o) ∧
    ∀ p o s' f', p ∈ f → NoTup o → SlotOk B1 (upd H1 p o) s' (σ[i]?) f' → (∀ q ∈ f', q ∈ f ∨ (H q = none ∧ B1 q = none ∧ ∃ u, H1 q = some u ∧ NoTup u)) → Sk H0 B1 (Γ.set i (some s')) σ (upd H1 p o) := by
  obtain ⟨F, g0⟩ := h.sl
  have g := g0.step st
  have old : ∀ c, ∀ q ∈ F c, H q ≠ none := fun c q hq z => by
    obtain ⟨_, _, o, q3, _⟩ := g0.at' c q hq
    rw [q3] at z
    cases z
  refine ⟨F i, g.ok i s e, fun p hp => ⟨(g.at' i p hp).1, old i p hp, (g.at' i p hp).2⟩, fun p o s' f' hp no k sub => ?_⟩
  obtain ⟨p1, p2, _⟩ := g.at' i p hp
  have exu : ∀ {G : Hp}, G p = none → Ex G H1 → Ex G (upd H1 p o) := fun {G} hn he a u ha => by
    rw [upd_ne (ne_of_none ha hn)]
    exact he a u ha
  have hl : i < Γ.length := (List.getElem?_eq_some_iff.mp e).1
  have new : ∀ c, c ≠ i → ∀ q ∈ f', q ∉ F c := fun c hc q hq z => by
    rcases sub q hq with y | ⟨y, _⟩
    · exact g.dis i c (Ne.symm hc) q y z
    · exact old c q z y
  refine ⟨by rw [List.length_set]; exact h.len, exu p1 (ex_trans h.e0 st.h), exu p2 st.bh, fun j => if j = i then f' else F j, ⟨fun a b hab q hq => ?_, fun a q hq => ?_, fun j t ej => ?_⟩⟩
  · by_cases ha : a = i
    · simp only [ha, if_true] at hq
      by_cases hb : b = i
      · exact absurd (ha.trans hb.symm) hab
      · simp only [hb, if_false]
        exact new b hb q hq
    · simp only [ha, if_false] at hq
      by_cases hb : b = i
      · simp only [hb, if_true]
        exact fun z => new a ha q z hq
      · simp only [hb, if_false]
        exact g.dis a b hab q hq
  · have there : ∀ u, H1 q = some u → NoTup u → ∃ u, upd H1 p o q = some u ∧ NoTup u := fun u q3 q4 => by
      by_cases z : q = p
      · subst z
        exact ⟨o, upd_same, no⟩
      · exact ⟨u, by rw [upd_ne z]; exact q3, q4⟩
    have there2 : ∀ c, q ∈ F c → H0 q = none ∧ B1 q = none ∧ ∃ u, upd H1 p o q = some u ∧ NoTup u := fun c hq => by
      obtain ⟨q1, q2, u, q3, q4⟩ := g.at' c q hq
      exact ⟨q1, q2, there u q3 q4⟩
    by_cases ha : a = i
    · simp only [ha, if_true] at hq
      rcases sub q hq with y | ⟨y1, y2, u, y3, y4⟩
      · exact there2 i y
      · exact ⟨ex_back h.e0 y1, y2, there u y3 y4⟩
    · simp only [ha, if_false] at hq
      exact there2 a hq
  · by_cases hj : j = i
    · subst hj
      rw [List.getElem?_set_self hl] at ej
      cases ej
      simp only [if_true]
      exact k
    · rw [get_set_ne (Ne.symm hj)] at ej
      simp only [hj, if_false]
      have q := g.ok j t ej
      have np : p ∉ F j := g.dis i j (Ne.symm hj) p hp
      cases t with
      | fz d => exact q
      | own r =>
        obtain ⟨v, e1, r1, n1⟩ := q
        exact ⟨v, e1, r1.frame (ex_refl _) fun a ha => ⟨upd_ne fun z => np (z ▸ ha), (r1.at a ha).1⟩, n1⟩
      | dc ow kvs =>
        obtain ⟨d, ks, e1, h1, h2, h3⟩ := q
        cases ow with
        | false => exact absurd ej (nv j kvs)
        | true =>
          have np' : d ≠ p := fun z => np (by rw [h3 rfl, z]; exact List.mem_cons_self)
          exact ⟨d, ks, e1, by rw [upd_ne np']; exact h1, h2, h3⟩
      | xc a x => exact q
      | pin d ds =>
        obtain ⟨e1, ef, h1, xs, h2, h3⟩ := q
        exact ⟨e1, ef, h1, xs, by rw [upd_ne fun z => np (by rw [ef, z]; exact List.mem_cons_self)]; exact h2, h3⟩
      | mp d c =>
        obtain ⟨e1, ef, h1, h2⟩ := q
        exact ⟨e1, ef, h1, h2.step (ex_refl _) (upd_ne fun z => np (by rw [ef, z]; exact List.mem_cons_self))⟩
theorem OrA.snoc {B H : Hp} {v : V} {r : R} {g : List Addr} (o : Or B H v r g) : ∀ {vs : List V} {rs : List R} {f : List Addr}, OrA B H vs rs f → OrA B H (vs ++ [v]) (rs ++ [r]) (f ++ g)
  | _, _, _, .nil => by
    have := OrA.cons o OrA.nil
    rw [List.append_nil] at this
    exact this
  | _, _, _, .cons a b => by
    have := OrA.cons a (OrA.snoc o b)
    rw [← List.append_assoc] at this
    exact this
/-- a new row behind one's own rows -/
theorem So.addRow (h : So b0 H0 B Γ σ H) (st : Sp' B H B1 H1) {i : Nat} {rs : List R} (e : Γ[i]? = some (some (.own (.on rs)))) {q : Addr} {ys : List V} {ds : List D} (q0 : H q = none) (q1 : B1 q = none) (q2 : H1 q = some (.lst ys)) (q3 : RpA B1 ys ds) :
    ∃ l xs, σ[i]? = some (some (.ref l)) ∧ H1 l = some (.lst xs) ∧ xs.length = rs.length ∧ So b0 H0 B1 (Γ.set i (some (.own (.on (rs ++ [.ol ds]))))) σ (upd H1 l (.lst (xs ++ [.ref q]))) := by
  obtain ⟨f, ⟨v, h1, h2, h3⟩, h4, h5⟩ := h.sk.change2 h.nv st e
  cases h2 with
  | on h6 h7 h8 =>
    rename_i l xs g
    have n' := List.nodup_cons.mp h3
    have hql : q ≠ l := fun z => (h4 l List.mem_cons_self).2.1 (z ▸ q0)
    have hqg : q ∉ g := fun z => (h4 q (List.mem_cons_of_mem _ z)).2.1 q0
    have s1 := h5 l (.lst (xs ++ [.ref q])) (.own (.on (rs ++ [.ol ds]))) (l :: (g ++ [q])) List.mem_cons_self (lst_noTup _)
      ⟨_, h1, .on h6 upd_same (OrA.snoc (.ol q1 (by rw [upd_ne hql]; exact q2) q3) (h8.frame (ex_refl _) fun a ha => ⟨upd_ne fun (z : a = l) => n'.1 (z ▸ ha), (h8.at a ha).1⟩)), by
        refine List.nodup_cons.mpr ⟨fun z => ?_, List.nodup_append.mpr ⟨n'.2, by simp, fun a ha b hb => ?_⟩⟩
        · rcases List.mem_append.mp z with z | z
          · exact n'.1 z
          · exact hql (List.mem_singleton.mp z).symm
        · cases List.mem_singleton.mp hb
          exact fun z => hqg (z ▸ ha)⟩
      (fun a ha => by
        rcases List.mem_cons.mp ha with z | z
        · exact .inl (z ▸ List.mem_cons_self)
        · rcases List.mem_append.mp z with z | z
          · exact .inl (List.mem_cons_of_mem _ z)
          · cases List.mem_singleton.mp z
            exact .inr ⟨q0, q1, _, q2, lst_noTup _⟩)
    refine ⟨l, xs, h1, h7, h8.len, s1, h.nv.set i (fun _ z => nomatch z), ?_⟩
    have sp := h.sp.trans st
    have hH0 : H0 l = none := (h4 l List.mem_cons_self).1
    have exu : ∀ {G K : Hp}, G l = none → Ex G K → Ex G (upd K l (.lst (xs ++ [.ref q]))) := fun {G K} hn he a w ha => by
      rw [upd_ne (ne_of_none ha hn)]
      exact he a w ha
    exact ⟨sp.b, exu hH0 sp.h, exu h6 sp.bh, sp.own⟩
end
section
variable {X : Cx} {T : Tb} {W : WX} {st1 st2 : Stmt} {sts : List Stmt} {gk : GE} {gf : GF} {gs : GSs} {t i : Nat}
theorem pss_brw (h1 : PS X st1 (tAsg (tP T W X.K (.sub (.var i) gk)) (gName t))) (h2 : PS X st2 (tDrop (tBM X.K "list" rAppend (tVar i) (tCons (tF T W gf) tNil)))) (h3 : PSs X sts (tSs T W gs)) : PSs X (st1 :: st2 :: sts) (tSs T W (.brw t i gk gf gs)) :=
  (pss_cons h1 (pss_cons h2 h3)).imp fun De σ H ⟨b0, H0, B, Γ, d, so, w, r⟩ => by
  obtain ⟨hti, rs, j, ds, new, e1, e2, e3, e4, e5, e6, e7, w'⟩ := w
  obtain ⟨v, hv⟩ := so.val e1
  have ep : evP T (TD.view Γ) (.sub (.var i) gk) = .ok (i, [j.toNat]) := by
    show (evP T (TD.view Γ) (.var i)).bind _ = _
    show (ev T (TD.view Γ) gk).bind _ = _
    rw [e2]
    show (if decide (0 ≤ j) = true then Rs.ok (i, [] ++ [j.toNat]) else .bad) = _
    rw [decide_eq_true e3, if_pos rfl]
    rfl
  have ea : R.at (.on rs) [j.toNat] = some (.ol ds) := by
    show (rs[j.toNat]?.bind fun q => q.at []) = _
    rw [e4]
    rfl
  refine tP_run so e1 hv ep ea fun u b1 H1 s wk => ?_
  have so1 := so.step (.tups so.sk.ex s.h)
  obtain ⟨p, xs, k1, k2, k3, _⟩ := so1.place e1 hv ea
  cases wk.det k1
  have hs : (σ.set t (some (.ref p)))[i]? = σ[i]? := get_set_ne hti
  refine ⟨v, by rw [hs]; exact hv, ?_⟩
  obtain ⟨f, ⟨v', hv', o, n⟩, _⟩ := so1.change (ownR_at e1)
  rw [hv] at hv'
  cases hv'
  cases o with
  | on g1 g2 g3 =>
    refine ⟨.inl ⟨rfl, _, .inl (.inl g2)⟩, H1, (TD.view Γ).set t (some (.fz (.list ds))), so1.sk.view.put t _ _ (fun s' z => by cases z; exact ⟨_, rfl, .lst (.inl k2) (k3.mono so1.sk.ex)⟩), ?_⟩
    rw [e5]
    intro q zs b2 H2 s2 q0 q1 q2 q3
    have q1' : tups (tups B H1) H2 q = none := tups_none (tups_none (ex_back so.sk.ex (ex_back s.h q0)) fun ys z => by rw [q0] at z; cases z) fun ys z => by rw [q2] at z; cases z
    have q3' : RpA (tups (tups B H1) H2) zs new := RpA.imm (ex_trans so1.sk.ex s2.h) s2.bh new q3 e6
    obtain ⟨l', xs', r1, r2, r3, r4⟩ := so1.addRow (.tups so1.sk.ex s2.h) (ownR_at e1) q0 q1' q2 q3'
    rw [hv] at r1
    cases r1
    refine ⟨_, xs', .ref q, rfl, rfl, r2, ?_, b0, H0, tups (tups B H1) H2, _, d, ?_, w', r⟩
    · rw [r3, sizeLine_eq]
      exact e7
    · have e8 : (Γ.set t none).set i (some (.own (.on (rs ++ [.ol new])))) = (Γ.set i (some (.own (.on (rs ++ [.ol new]))))).set t none := List.set_comm _ _ hti
      rw [e8]
      exact ⟨r4.sk.put_no t _, r4.nv.set t (fun _ z => nomatch z), r4.sp⟩
end
end TD

/-! TD22: one's own lists, made by a comprehension. -/
namespace TD
open PySem PySem.Spec PyProof.Rows L2
section
variable {X : Cx} {T : Tb} {W : WX} {g : TG} {ts : List Nat} {B H H0 : Hp} {Γ : TD.Env} {σ : L2.St} {Q : VK}
theorem lcLs_err {f : List D → Rs (List D)} {x : Nat} : ∀ {l : List (List D)}, lcLs f l ≠ .err x
  | [], z => by cases z
  | a :: r, z => by
    unfold lcLs at z
    cases q : f a with
    | ok o =>
      rw [q] at z
      by_cases h : immA o = true
      · simp only [h, if_true] at z
        cases q2 : lcLs f r with
        | ok l => simp only [q2] at z; cases z
        | err y => exact lcLs_err q2
        | bad => simp only [q2] at z; cases z
      · simp only [h, if_false] at z
        cases z
    | err y => rw [q] at z; cases z
    | bad => rw [q] at z; cases z
theorem OrA.snoc' {B H : Hp} {p : Addr} {xs : List V} {ds : List D} {vs : List V} {ls : List (List D)} {f : List Addr} (o : OrA B H vs (ls.map .ol) f) (h1 : B p = none) (h2 : H p = some (.lst xs)) (h3 : RpA B xs ds) : OrA B H (vs ++ [.ref p]) ((ls ++ [ds]).map .ol) (f ++ [p]) := by
  rw [List.map_append]
  exact OrA.snoc (.ol h1 h2 h3) o
theorem imms_ol : ∀ {ls : List (List PyData)}, (ls.all fun l => immA l) = true → R.imms (ls.map .ol) = true
  | [], _ => rfl
  | l :: r, h => by
    rw [List.all_cons, Bool.and_eq_true] at h
    have ih := imms_ol h.2
    show (immA l && R.imms (r.map .ol)) = true
    rw [h.1, ih]
    rfl
theorem lcL_go {gi : GI} {gf : GF} (hk : Sk H0 B Γ σ H) (p : PostR T W σ B H (evR T Γ (.lcL ts gi gf)) Q) : tLc (tI T W gi g ts) g tYes (tF T W0 gf) ts σ H Q := by
  have hs : Se H (TD.view Γ) σ H := hk.view
  have p' : PostR T W σ B H ((evI T (TD.view Γ) gi).bind fun items => if sizeOk items.length then (lcLs (fun it => evF T (setTs (wipeE (TD.view Γ) ts) ts it) gf) items).map fun ls => R.on (ls.map .ol) else .bad) Q := p
  refine ⟨H, _, hs, ?_⟩
  cases e : evI T (TD.view Γ) gi with
  | err x => rw [e] at p'; exact PErr.view hk.ex p'
  | bad => rw [e] at p'; exact p'
  | ok items =>
    rw [e] at p'
    refine fun J B1 H1 st m D hD => ?_
    have p2 : PostR T W σ B H (if sizeOk items.length then (lcLs (fun it => evF T (setTs (wipeE (TD.view Γ) ts) ts it) gf) items).map fun ls => R.on (ls.map .ol) else .bad) Q := p'
    by_cases hz' : sizeOk items.length = true
    · rw [if_pos hz'] at p2
      have hz := sizeOk_le hz'
      generalize hf : (fun it => evF T (setTs (wipeE (TD.view Γ) ts) ts it) gf) = f at p2
      cases el : lcLs f items with
      | err x => exact (lcLs_err el).elim
      | bad => rw [el] at p2; exact p2.elim
      | ok ds =>
        rw [el] at p2
        have hsw := hs.step st
        have start : ∃ (b : Hp) (acc : List V) (pre rest : List (List PyData)) (fp : List Addr), Sp' B1 H1 b (upd H1 D (.lst [])) ∧ b D = none ∧ upd H1 D (.lst []) D = some (.lst acc) ∧ OrA b (upd H1 D (.lst [])) acc (pre.map .ol) fp ∧ fp.Nodup ∧ (∀ q ∈ fp, H1 q = none ∧ q ≠ D) ∧ (pre.all fun l => immA l) = true ∧ lcLs f (items.drop 0) = .ok rest ∧ ds = pre ++ rest ∧ pre.length ≤ 0 :=
          ⟨B1, [], [], ds, [], .new st.bh hD, ex_back st.bh hD, upd_same, .nil, List.nodup_nil, fun q hq => (nomatch hq), rfl, el, rfl, Nat.le_refl _⟩
        refine ⟨fun i m' H' => m' = items.length - i ∧ i ≤ items.length ∧ ∃ (b : Hp) (acc : List V) (pre rest : List (List PyData)) (fp : List Addr), Sp' B1 H1 b H' ∧ b D = none ∧ H' D = some (.lst acc) ∧ OrA b H' acc (pre.map .ol) fp ∧ fp.Nodup ∧ (∀ q ∈ fp, H1 q = none ∧ q ≠ D) ∧ (pre.all fun l => immA l) = true ∧ lcLs f (items.drop i) = .ok rest ∧ ds = pre ++ rest ∧ pre.length ≤ i, ⟨_, rfl, Nat.zero_le _, start⟩, ?_⟩
        rintro i m' H' ⟨rfl, hi, b, acc, pre, rest, fp, s1, bD, hH, hacc, hnd, hfr, him, hrest, hds, hpl⟩
        have keep : ∀ {b2 H2 : Hp}, Sp' b H' b2 H2 → OrA b2 H2 acc (pre.map .ol) fp := fun {b2 H2} s => hacc.frame s.b fun q hq => by
          obtain ⟨q1, o, q2, q3⟩ := hacc.at q hq
          exact ⟨by rw [s.h _ _ q2, q2], s.own q o q2 q3 q1⟩
        by_cases hlt : i < items.length
        · have hit : items[i]? = some items[i] := List.getElem?_eq_getElem hlt
          rw [List.drop_eq_getElem_cons hlt] at hrest
          refine .inr ⟨m.go i b H' s1.b s1.bh hlt, fun H2 => ∃ (b : Hp) (acc : List V) (pre rest : List (List PyData)) (fp : List Addr), Sp' B1 H1 b H2 ∧ b D = none ∧ H2 D = some (.lst acc) ∧ OrA b H2 acc (pre.map .ol) fp ∧ fp.Nodup ∧ (∀ q ∈ fp, H1 q = none ∧ q ≠ D) ∧ (pre.all fun l => immA l) = true ∧ lcLs f (items.drop (i + 1)) = .ok rest ∧ ds = pre ++ rest ∧ pre.length ≤ i + 1,
            fun H2 w => ⟨_, by omega, rfl, hlt, w⟩, fun x H2 y => ?_⟩
          obtain ⟨b', s2, gk⟩ := m.yld i _ b H' x H2 s1.b s1.bh hit y
          refine gk _ _ fun vs rv => ⟨?_, ?_⟩
          · rw [wipe_setV fun u hu => hu, wipe_wipe fun u hu => hu]
          · have se : Se b' (setTs (wipeE (TD.view Γ) ts) ts items[i]) (setV (L2.wipe σ ts) ts vs) H2 := (((hsw.step s1).step s2).wipe ts).setTs rv
            have b'D : b' D = none := s2.own D _ hH (lst_noTup _) bD
            have hH2 := s2.h _ _ hH
            have s12 := s1.trans s2
            unfold lcLs at hrest
            unfold tYes
            dsimp only
            rw [if_pos rfl]
            refine ⟨b', _, se, ?_⟩
            have hfi : f items[i] = evF T (setTs (wipeE (TD.view Γ) ts) ts items[i]) gf := by rw [← hf]
            cases q : f items[i] with
            | err y => rw [q] at hrest; cases hrest
            | bad => rw [q] at hrest; cases hrest
            | ok o =>
              rw [q] at hrest
              rw [hfi] at q
              rw [q]
              intro pn xs b2 H3 s3 n1 n2 n3 n4
              by_cases hio : immA o = true
              · simp only [hio, if_true] at hrest
                cases q2 : lcLs f (items.drop (i + 1)) with
                | err y => simp only [q2] at hrest; cases hrest
                | bad => simp only [q2] at hrest; cases hrest
                | ok l =>
                  simp only [q2] at hrest
                  cases hrest
                  have b2D : b2 D = none := s3.own D _ hH2 (lst_noTup _) b'D
                  have s := s12.trans s3
                  have hpD : pn ≠ D := fun z => by
                    rw [z, hH2] at n1
                    cases n1
                  have hpf : pn ∉ fp := fun z => by
                    obtain ⟨_, o', q2', _⟩ := hacc.at pn z
                    rw [s2.h _ _ q2'] at n1
                    cases n1
                  have k := (keep (s2.trans s3)).snoc' n2 n3 n4
                  refine ⟨acc, s3.h _ _ hH2, ?_, b2, acc ++ [.ref pn], pre ++ [o], l, fp ++ [pn], ⟨s.b, fun a o ha => ?_, fun a o ha => ?_, s.own⟩, b2D, upd_same, k.frame (ex_refl _) (fun a ha => ⟨upd_ne fun (z : a = D) => ?_, (k.at a ha).1⟩), ?_, ?_, ?_, rfl, by rw [hds]; simp, by simp; omega⟩
                  · rw [hacc.len, List.length_map]
                    omega
                  · rw [upd_ne (ne_of_none ha hD)]
                    exact s.h a o ha
                  · rw [upd_ne (ne_of_none ha b2D)]
                    exact s.bh a o ha
                  · subst z
                    rcases List.mem_append.mp ha with w | w
                    · exact (hfr a w).2 rfl
                    · exact hpD (List.mem_singleton.mp w).symm
                  · refine List.nodup_append.mpr ⟨hnd, by simp, fun a ha c hc => ?_⟩
                    cases List.mem_singleton.mp hc
                    exact fun z => hpf (z ▸ ha)
                  · intro a ha
                    rcases List.mem_append.mp ha with w | w
                    · exact hfr a w
                    · cases List.mem_singleton.mp w
                      exact ⟨ex_back s12.h n1, hpD⟩
                  · rw [List.all_append, him]
                    simp [hio]
              · simp only [hio, if_false] at hrest
                cases hrest
        · have ei : i = items.length := by omega
          subst ei
          rw [List.drop_length] at hrest
          cases hrest
          rw [List.append_nil] at hds
          subst hds
          refine .inl ⟨m.stop _ b H' s1.b s1.bh (Nat.le_refl _), ?_⟩
          have hh : Ex H H' := ex_trans st.h s1.h
          have nH : ∀ q ∈ D :: fp, H q = none := fun q hq => by
            rcases List.mem_cons.mp hq with w | w
            · rw [w]
              exact ex_back st.h hD
            · exact ex_back st.h (hfr q w).1
          have im : R.imm (.on (ds.map .ol)) = true := by
            exact imms_ol him
          exact p2 (.ref D) (D :: fp) (tups B H') H' (.tups hk.ex hh) ((Or.on bD hH hacc).rebase (ex_trans hk.ex hh) s1.bh im fun q hq => ex_back hk.ex (nH q hq)) (List.nodup_cons.mpr ⟨fun z => (hfr D z).2 rfl, hnd⟩) nH im
    · rw [if_neg hz'] at p2
      exact p2.elim
theorem lcL_imp {gi : GI} {gf : GF} : ∀ σ H Q, tR T W (.lcL ts gi gf) σ H Q → tLc (tI T W gi g ts) g tYes (tF T W0 gf) ts σ H Q := fun σ H Q ⟨H0, B, Γ, hk, p⟩ => lcL_go hk p
end
section
variable {T : Tb} {Γ : Env}
@[simp] theorem r_lcL {ts : List Nat} {gi : GI} {g : GF} : evR T Γ (.lcL ts gi g) = (evI T (view Γ) gi).bind fun items => if sizeOk items.length then (lcLs (fun it => evF T (setTs (wipeE (view Γ) ts) ts it) g) items).map fun ls => .on (ls.map .ol) else .bad := rfl
theorem lcLs_all {f : List PyData → Rs (List PyData)} {g : List PyData → List PyData} : ∀ {l : List (List PyData)}, (∀ a ∈ l, f a = .ok (g a) ∧ immA (g a) = true) → lcLs f l = .ok (l.map g)
  | [], _ => rfl
  | a :: r, h => by
    obtain ⟨h1, h2⟩ := h a List.mem_cons_self
    unfold lcLs
    rw [h1]
    show (if immA (g a) = true then (lcLs f r).map _ else .bad) = _
    rw [if_pos h2, lcLs_all fun b hb => h b (List.mem_cons_of_mem _ hb)]
    rfl
end
end TD

/-! TD23: a loop over numbers, their number worked out as things stand. -/
namespace TD
open PySem PySem.Spec PyProof.Rows L2
section
variable {X : Cx} {T : Tb} {W : WX} {tg iter a : Expr} {bs : List Stmt} {ga : GE} {gs : GSs} {ws : List Nat} {t : Nat} {pos p : Pos}
def tIr (T : Tb) (ga : GE) (t : Nat) : TI := fun σ H R => ∃ B Γ n, Se B Γ σ H ∧ ev T Γ ga = .ok (.int n) ∧ rngOk n = true ∧ ∀ J b1 H1, Sp' B H b1 H1 → (∀ B1, Itm J (rngL 0 n) (gName t) [t] B1) → R J H1
theorem pir_range1 (bi : Bi X.mg) (ha : PE X a (tG T W ga)) (hg : Gl X "range" := by rfl) (he : starEach [a] X.env = (false, eval a X.env) :: starEach [] X.env := by rfl) : PI X tg (.Call (.Name "range" p) [a] [] pos) (tIr T ga t) := by
  refine ⟨fun pins s σ H R I h => (pi_range1 (X := X) (tg := tg) hg bi.range (pa_cons ha pa_nil he) he).run pins s σ H R I ?_⟩
  obtain ⟨B, Γ, n, hs, e, hn, k⟩ := h
  refine ⟨B, Γ, hs, ?_⟩
  rw [e]
  intro v B1 H1 st rx
  obtain ⟨q1, q2⟩ := rngOk_iff hn
  refine ⟨n, by rw [rp_int rx], q1, q2, k _ B1 H1 st fun B2 => ?_⟩
  have e1 : (n - 0).toNat = n.toNat := by rw [Int.sub_zero]
  unfold rngL
  rw [e1]
  exact itm_range
theorem psx_forR (hp : PassesOwn (model X.prog X.w) X.A X.env X.xe) (hc : X.calm = true) (hi : PI X tg iter (tIr T ga t)) (hg : PG X tg (gName t)) (hb : PSs X bs (tSs T W gs)) (hf : ∀ x, foldedSetIterable iter X.env x = pure x := by intro _; rfl) :
    PS X (.For tg iter bs [] pos) (tS T W (.forR ws t ga gs)) := (ps_for hp hc hi hg hb hf).imp fun De σ H ⟨b0, H0, B, Γ, d, so, w, r⟩ => by
  obtain ⟨n, e, hn, w'⟩ := w
  refine ⟨H, _, n, so.sk.view, e, hn, fun J b1 H1 s0 m0 => ?_⟩
  have s : Sp' B H (tups B H1) H1 := .tups so.sk.ex s0.h
  have m := m0 (tups B H1)
  generalize rngL 0 n = items at w' m
  refine ⟨fun i n σ H => n = items.length - i ∧ i ≤ items.length ∧ ∃ B2 Γ2, Ex (tups B H1) B2 ∧ So b0 H0 B2 Γ2 σ H ∧ wpForL (fun d' Γ' => wpSs T gs d' Γ') d ws [t] (items.drop i) Γ2,
      ⟨_, rfl, Nat.zero_le _, tups B H1, _, ex_refl _, (so.step s).wipe ws, w'⟩, ?_⟩
  rintro i n σ2 H2 ⟨rfl, hi, B2, Γ2, ex2, so2, w2⟩
  by_cases hlt : i < items.length
  · rw [List.drop_eq_getElem_cons hlt] at w2
    refine .inr ⟨m.go i B2 H2 ex2 so2.sk.ex hlt, fun σ3 H3 => ∃ B3 Γ3, Ex (tups B H1) B3 ∧ So b0 H0 B3 Γ3 σ3 H3 ∧ wpForL (fun d' Γ' => wpSs T gs d' Γ') d ws [t] (items.drop (i + 1)) Γ3, fun σ3 H3 h => ⟨_, by omega, rfl, hlt, h⟩, fun x H3 y => ?_⟩
    obtain ⟨B3, s3, k3⟩ := m.yld i _ B2 H2 x H3 ex2 so2.sk.ex (List.getElem?_eq_getElem hlt) y
    have so3 := so2.step s3
    exact k3 _ _ fun vs rv => ⟨B3, H0, B3, _, _, (so3.inn).setTs rv, w2, r.inn so3.sp fun B4 Γ4 σ4 H4 so4 w4 => ⟨B4, _, ex_trans ex2 (ex_trans s3.b so4.sp.b), (so4.out so3.sp).wipe ws, w4⟩⟩
  · have ei : i = items.length := by omega
    subst ei
    rw [List.drop_length] at w2
    exact .inl ⟨m.stop _ B2 H2 ex2 so2.sk.ex (Nat.le_refl _), r.nx _ _ _ _ so2 w2⟩
end
end TD
namespace TL
open PySem PySem.Spec PyProof.Rows L2 TD
/-- a loop over the numbers from 0, told as things stand -/
theorem wp_rngR {T : Tb} {ws : List Nat} {t : Nat} {a : GE} {body : GSs} {d : GD} {Γ : TD.Env} {n : Int} (I : Nat → TD.Env → Prop) (he : ev T (view Γ) a = .ok (.int n)) (hn : n < 2 ^ 62) (h0' : 0 ≤ n) (h0 : I 0 (wipeE Γ ws))
    (hs : ∀ (i : Nat) (Γ : TD.Env), (i : Int) < n → I i Γ → wpSs T body { d with nx := fun Γ' => I (i + 1) (wipeE Γ' ws) } (Γ.set t (some (.fz (.int i))))) (h1 : ∀ Γ, I n.toNat Γ → d.nx Γ) : TD.wpS T (.forR ws t a body) d Γ := by
  refine ⟨n, he, by unfold rngOk; exact decide_eq_true (by omega), ?_⟩
  have hl : (rngL 0 n).length = n.toNat := by unfold rngL; simp
  refine for_go (fun r Γ' => ∃ i : Nat, r = (rngL 0 n).drop i ∧ i ≤ n.toNat ∧ I i Γ') (fun it r Γ1 z => ?_) (fun Γ1 z => ?_) _ _ ⟨0, rfl, Nat.zero_le _, h0⟩
  · obtain ⟨i, e, hi, hI⟩ := z
    have hlt : i < n.toNat := by
      by_cases q : i < n.toNat
      · exact q
      · rw [List.drop_of_length_le (by omega)] at e
        cases e
    rw [List.drop_eq_getElem_cons (by omega)] at e
    have e3 : (rngL 0 n)[i]'(by omega) = [PyData.int i] := by
      unfold rngL
      simp
    rw [e3] at e
    cases e
    exact wpSs_mono body (hs i Γ1 (by omega) hI) ⟨fun Γ2 y => ⟨i + 1, rfl, by omega, y⟩, fun _ y => y, fun _ _ y => y⟩
  · obtain ⟨i, e, hi, hI⟩ := z
    have : i = n.toNat := by
      have := congrArg List.length e
      simp [hl] at this
      omega
    subst this
    exact h1 _ hI
end TL

/-! TD24: a loop over a list of one's own. -/
namespace TD
open PySem PySem.Spec PyProof.Rows L2
section
variable {H0 B H B1 H1 b0 : Hp} {Γ : Env} {σ : L2.St}
/-- a slot told in other words -/
theorem Sk.reslot (h : Sk H0 B Γ σ H) {i : Nat} {s s' : Sl} (e : Γ[i]? = some (some s)) (k : ∀ f, SlotOk B H s (σ[i]?) f → SlotOk B H s' (σ[i]?) f) : Sk H0 B (Γ.set i (some s')) σ H := by
  obtain ⟨F, g⟩ := h.sl
  refine ⟨by rw [List.length_set]; exact h.len, h.e0, h.ex, F, g.dis, g.at', fun j t ej => ?_⟩
  by_cases hj : i = j
  · subst hj
    have hl : i < Γ.length := (List.getElem?_eq_some_iff.mp e).1
    rw [List.getElem?_set_self hl] at ej
    cases ej
    exact k _ (g.ok i s e)
  · rw [get_set_ne hj] at ej
    exact g.ok j t ej
theorem So.pin (h : So b0 H0 B Γ σ H) {i : Nat} {ds : List D} (e : ownL Γ i = some ds) : ∃ p, σ[i]? = some (some (.ref p)) ∧ So b0 H0 B (Γ.set i (some (.pin p ds))) σ H := by
  obtain ⟨p, xs, h1, _⟩ := h.list e
  refine ⟨p, h1, h.sk.reslot (ownL_at e) fun f k => ?_, h.nv.set i (fun _ z => nomatch z), h.sp⟩
  obtain ⟨v, k1, k2, k3⟩ := k
  rw [h1] at k1
  cases k1
  cases k2 with
  | ol a b c => exact ⟨h1, rfl, a, _, b, c⟩
theorem So.unpin (h : So b0 H0 B Γ σ H) {i : Nat} {p : Addr} {ds : List D} (e : Γ[i]? = some (some (.pin p ds))) : So b0 H0 B (Γ.set i (some (.own (.ol ds)))) σ H := by
  refine ⟨h.sk.reslot e fun f k => ?_, h.nv.set i (fun _ z => nomatch z), h.sp⟩
  obtain ⟨k1, rfl, k2, xs, k3, k4⟩ := k
  exact ⟨_, k1, .ol k2 k3 k4, List.nodup_cons.mpr ⟨(fun z => by cases z), List.nodup_nil⟩⟩
theorem So.pinned (h : So b0 H0 B Γ σ H) {i : Nat} {p : Addr} {ds : List D} (e : Γ[i]? = some (some (.pin p ds))) : σ[i]? = some (some (.ref p)) ∧ ∃ xs, H p = some (.lst xs) ∧ RpA B xs ds := by
  obtain ⟨F, g⟩ := h.sk.sl
  obtain ⟨k1, _, _, xs, k3, k4⟩ := g.ok i _ e
  exact ⟨k1, xs, k3, k4⟩
end
section
variable {X : Cx} {T : Tb} {W : WX} {tg iter : Expr} {bs : List Stmt} {gs : GSs} {ws : List Nat} {t i : Nat} {pos : Pos}
theorem psx_forO (hp : PassesOwn (model X.prog X.w) X.A X.env X.xe) (hc : X.calm = true) (hi : PI X tg iter (iList X.K (tVar i))) (hg : PG X tg (gName t)) (hb : PSs X bs (tSs T W gs)) (hf : ∀ x, foldedSetIterable iter X.env x = pure x := by intro _; rfl) :
    PS X (.For tg iter bs [] pos) (tS T W (.forO ws t i gs)) := (ps_for hp hc hi hg hb hf).imp fun De σ H ⟨b0, H0, B, Γ, d, so, w, r⟩ => by
  obtain ⟨ds, e, w'⟩ := w
  obtain ⟨p, hv, so1⟩ := so.pin e
  obtain ⟨hws, w2⟩ := w' p
  have hl : i < Γ.length := (List.getElem?_eq_some_iff.mp (ownL_at e)).1
  have hpin : (Γ.set i (some (.pin p ds)))[i]? = some (some (.pin p ds)) := List.getElem?_set_self hl
  obtain ⟨_, xs, hH, rx⟩ := so1.pinned hpin
  refine ⟨.ref p, hv, p, rfl, ⟨xs, .inl (.inl hH)⟩, ?_⟩
  refine ⟨fun k n σ H => n = ds.length - k ∧ k ≤ ds.length ∧ ∃ B2 Γ2, So b0 H0 B2 Γ2 σ H ∧ Γ2[i]? = some (some (.pin p ds)) ∧ wpForO (fun d' Γ' => wpSs T gs d' Γ') d ws t i p ds (ds.drop k) Γ2, ⟨_, rfl, Nat.zero_le _, B, _, so1.wipe ws, hws, w2⟩, ?_⟩
  rintro k n σ2 H2 ⟨rfl, hk, B2, Γ2, so2, hpin2, w3⟩
  obtain ⟨_, ys, hH2, ry⟩ := so2.pinned hpin2
  by_cases hlt : k < ds.length
  · rw [List.drop_eq_getElem_cons hlt] at w3
    have hdk : ds[k]? = some ds[k] := List.getElem?_eq_getElem hlt
    obtain ⟨v, hyk, rv⟩ := ry.get hdk
    refine .inr ⟨⟨ys, v, .inl (.inl hH2), hyk⟩, fun σ3 H3 => ∃ B3 Γ3, So b0 H0 B3 Γ3 σ3 H3 ∧ Γ3[i]? = some (some (.pin p ds)) ∧ wpForO (fun d' Γ' => wpSs T gs d' Γ') d ws t i p ds (ds.drop (k + 1)) Γ3, fun σ3 H3 h => ⟨_, by omega, rfl, hlt, h⟩, fun x H3 y => ?_⟩
    obtain ⟨rfl, y⟩ := y
    have hx : ys[k]? = some x := y ys (.inl (.inl hH2))
    rw [hyk] at hx
    cases hx
    exact ⟨B2, H0, B2, _, _, so2.inn.put_fz t rv, w3, r.inn so2.sp fun B4 Γ4 σ4 H4 so4 w4 => ⟨B4, _, (so4.out so2.sp).wipe ws, w4.2.1, w4.2.2⟩⟩
  · have ei : k = ds.length := by omega
    subst ei
    rw [List.drop_length] at w3
    exact .inl ⟨⟨ys, .inl (.inl hH2), by rw [ry.len]; exact Nat.le_refl _⟩, r.nx _ _ _ _ (so2.unpin hpin2) w3⟩
end
end TD
namespace TL
open PySem PySem.Spec PyProof.Rows L2 TD
theorem forO_go {T : Tb} {ws : List Nat} {t i : Nat} {p : Addr} {ds : List D} {body : GSs} {d : GD} (I : List D → TD.Env → Prop)
    (hs : ∀ x r Γ, I (x :: r) Γ → wpSs T body { d with nx := fun Γ' => Γ'[i]? = some (some (.pin p ds)) ∧ (wipeE Γ' ws)[i]? = some (some (.pin p ds)) ∧ I r (wipeE Γ' ws) } (Γ.set t (some (.fz x)))) (h1 : ∀ Γ, I [] Γ → d.nx (Γ.set i (some (.own (.ol ds))))) : ∀ (r : List D) (Γ0 : TD.Env), I r Γ0 → wpForO (fun d' Γ' => wpSs T body d' Γ') d ws t i p ds r Γ0
  | [], Γ0, z => h1 _ z
  | x :: r, Γ0, z => wpSs_mono body (hs x r Γ0 z) ⟨fun Γ' y => ⟨y.1, y.2.1, forO_go I hs h1 r _ y.2.2⟩, fun _ z => z, fun _ _ z => z⟩
/-- a loop over a list of one's own, each told as something else -/
theorem wp_forO {α : Type} {f : α → D} {T : Tb} {ws : List Nat} {t i : Nat} {body : GSs} {d : GD} {Γ : TD.Env} {xs : List α} (I : Addr → List α → TD.Env → Prop) (he : ownL Γ i = some (xs.map f)) (h0 : ∀ p, (wipeE (Γ.set i (some (.pin p (xs.map f)))) ws)[i]? = some (some (.pin p (xs.map f))) ∧ I p xs (wipeE (Γ.set i (some (.pin p (xs.map f)))) ws))
    (hs : ∀ p x r Γ, I p (x :: r) Γ → wpSs T body { d with nx := fun Γ' => Γ'[i]? = some (some (.pin p (xs.map f))) ∧ (wipeE Γ' ws)[i]? = some (some (.pin p (xs.map f))) ∧ I p r (wipeE Γ' ws) } (Γ.set t (some (.fz (f x))))) (h1 : ∀ p Γ, I p [] Γ → d.nx (Γ.set i (some (.own (.ol (xs.map f)))))) : TD.wpS T (.forO ws t i body) d Γ := by
  refine ⟨xs.map f, he, fun p => ⟨(h0 p).1, ?_⟩⟩
  refine forO_go (fun r Γ' => ∃ qs : List α, r = qs.map f ∧ I p qs Γ') (fun x r Γ1 z => ?_) (fun Γ1 z => ?_) _ _ ⟨xs, rfl, (h0 p).2⟩
  · obtain ⟨qs, e, hI⟩ := z
    cases qs with
    | nil => cases e
    | cons q qs =>
      cases e
      exact wpSs_mono body (hs p q qs Γ1 hI) ⟨fun Γ2 y => ⟨y.1, y.2.1, qs, rfl, y.2.2⟩, fun _ y => y, fun _ _ y => y⟩
  · obtain ⟨qs, e, hI⟩ := z
    cases qs with
    | nil => exact h1 _ _ hI
    | cons q qs => cases e
end TL

/-! TD25: a def that takes over what is its caller's own: its last parameter. -/
namespace TD
open PySem PySem.Spec PyProof.Rows L2

def minus (H : Hp) (f : List Addr) : Hp := fun a => if a ∈ f then none else H a
theorem minus_in {H : Hp} {f : List Addr} {a : Addr} (h : a ∈ f) : minus H f a = none := if_pos h
theorem minus_out {H : Hp} {f : List Addr} {a : Addr} (h : a ∉ f) : minus H f a = H a := if_neg h
theorem minus_ex (H : Hp) (f : List Addr) : Ex (minus H f) H := fun a o h => by
  unfold minus at h
  split at h
  · cases h
  · exact h
theorem ex_minus {B H : Hp} {f : List Addr} (e : Ex B H) (k : ∀ p ∈ f, B p = none) : Ex B (minus H f) := fun a o h => by
  rw [minus_out fun z => by rw [k a z] at h; cases h]
  exact e a o h
/-- what is promised of such a def -/
def spC (φ : List D → Option Out) : Sp := fun vs H Q E => ∃ b ds vs' v r f, vs = vs' ++ [v] ∧ Ex b H ∧ RpA b vs' ds ∧ Or b H v r f ∧ f.Nodup ∧ shp r.toD = r ∧ r.imm = true ∧ match φ (ds ++ [r.toD]) with
  | some (.ret r') => ∀ v f' B1 H1, Sp' b (minus H f) B1 H1 → (∀ p ∈ f', minus H f p = none) → f'.Nodup → Or B1 H1 v r' f' → r'.imm = true → Q v H1
  | _ => False
structure CalleeC (X : Cx) (T : Tb) (j : Nat) (x : Str) : Prop where
  ex : ∃ φ f fd ps k, T.fs[j]? = some φ ∧ FnOk X.prog X.w X.K X.mg X.base (L2.CX X.prog X.w) k f fd ps (spC φ) ∧ Room k X.A ∧ X.mg x = some (.ref f) ∧ PySem.W.keepIn X.K (.ref f) = true ∧ Binds X.K fd ps []
structure CalC (P : Program) (w : World) (K : PySem.W.Frag) (mg : Str → Option Value) (base : Heap) (ca : Nat → Addr) (x : Str) (φ : List D → Option Out) (k : Nat) : Prop where
  ex : ∃ f fd ps, FnOk P w K mg base (L2.CX P w) k f fd ps (spC φ) ∧ mg x = some (.ref f) ∧ PySem.W.keepIn K (.ref f) = true ∧ Binds K fd ps []
theorem CalC.at {X : Cx} {T : Tb} {x : Str} {φ : List D → Option Out} {j k n : Nat} (c : CalC X.prog X.w X.K X.mg X.base T.ca x φ j) (hr : Room k X.A) (hj : j ≤ k := by decide) (h : T.fs[n]? = some φ := by rfl) : CalleeC X T n x := by
  obtain ⟨f, fd, ps, F, g, kp, b⟩ := c.ex
  exact ⟨φ, f, fd, ps, j, h, F, hr.mono hj, g, kp, b⟩
def startC (N : List Str) (ds : List D) (r : R) : Env := (ds.map fun d => some (Sl.fz d)) ++ some (.own r) :: List.replicate (N.length - ds.length - 1) none
theorem sk_startC {H b : Hp} {N : List Str} {vs : List V} {ds : List D} {v : V} {r : R} {f : List Addr} (hN : ds.length < N.length) (ex : Ex b H) (rp : RpA b vs ds) (o : Or b H v r f) (nd : f.Nodup) : So b (minus H f) b (startC N ds r) (L2.start N (vs ++ [v])) H := by
  have hl := rp.len
  have gets : ∀ i s, (startC N ds r)[i]? = some (some s) → (∃ d, ds[i]? = some d ∧ s = .fz d) ∨ (i = ds.length ∧ s = .own r) := fun i s e => by
    unfold startC at e
    by_cases hi : i < ds.length
    · have e' : ds[i]? = some ds[i] := List.getElem?_eq_getElem hi
      rw [List.getElem?_append_left (by simp; exact hi), List.getElem?_map, e'] at e
      cases e
      exact .inl ⟨_, e', rfl⟩
    · rw [List.getElem?_append_right (by simp; omega), List.length_map] at e
      by_cases h0 : i = ds.length
      · subst h0
        rw [Nat.sub_self] at e
        cases e
        exact .inr ⟨rfl, rfl⟩
      · obtain ⟨j, hj⟩ : ∃ j, i - ds.length = j + 1 := ⟨i - ds.length - 1, by omega⟩
        rw [hj, List.getElem?_cons_succ, List.getElem?_replicate] at e
        split at e <;> cases e
  refine ⟨⟨?_, minus_ex _ _, ex, fun j => if j = ds.length then f else [], fun i j hij p hp => ?_, fun i p hp => ?_, fun i s e => ?_⟩, fun j kvs e => ?_, ex_refl _, minus_ex _ _, ex, fun _ _ _ _ z => z⟩
  · unfold startC L2.start
    simp only [List.length_append, List.length_map, List.length_replicate, List.length_cons, List.length_nil]
    omega
  · by_cases hi : i = ds.length
    · simp only [hi, if_true] at hp
      have : ¬(j = ds.length) := fun z => hij (hi.trans z.symm)
      simp only [this, if_false]
      exact fun z => nomatch z
    · simp only [hi, if_false] at hp
      cases hp
  · by_cases hi : i = ds.length
    · simp only [hi, if_true] at hp
      obtain ⟨h1, h2⟩ := o.at p hp
      exact ⟨minus_in hp, h1, h2⟩
    · simp only [hi, if_false] at hp
      cases hp
  · rcases gets i s e with ⟨d, hd, rfl⟩ | ⟨rfl, rfl⟩
    · obtain ⟨u, hu, ru⟩ := rp.get hd
      refine ⟨u, ?_, ru⟩
      have hi : i < vs.length := (List.getElem?_eq_some_iff.mp hu).1
      unfold L2.start
      rw [List.getElem?_append_left (by simp; omega), List.getElem?_map, List.getElem?_append_left hi, hu]
      rfl
    · simp only [if_true]
      refine ⟨v, ?_, o, nd⟩
      unfold L2.start
      rw [List.getElem?_append_left (by simp; omega), List.getElem?_map, List.getElem?_append_right (by omega), hl, Nat.sub_self]
      rfl
  · rcases gets j _ e with ⟨d, _, z⟩ | ⟨_, z⟩ <;> cases z
section
variable {P : Program} {w : World} {K : PySem.W.Frag} {mg : Str → Option Value} {base : Heap} {T : Tb}
theorem fn_dataC {x qual : Str} {st : Stmt} {f : Addr} {fd : FuncData} {N ps : List Str} {k : Nat} {φ : List D → Option Out} {g : GSs} (F : Fun K qual qual st f fd) (gm : mg x = some (.ref f)) (bd : Binds K fd ps []) (S : FnScope N ps (defScope st)) (ar : ∀ ds o, φ ds = some o → ds.length = ps.length) (hN : ps.length ≤ N.length)
    (hb : ∀ (cdv : Value) (A : Around) (outer : List PySem.Env) (s : Shared) (H : Hp) (E : XK), Room k (A.deeper (envOfC qual (defScope st) s.heap.objs.size f cdv)) →
      PSs (cxOf (L2.CX P w) P w K mg base N qual (defScope st) f cdv A outer s H E) (defBody st) (tSs T (fun cls d _ H => E cls d H) g))
    (hw : ∀ ds d o, φ (ds ++ [d]) = some o → wpSs T g (gdOf o) (startC N ds (shp d))) : CalC P w K mg base T.ca x φ (k + 1) := by
  refine ⟨f, fd, ps, F.okX S (fun vs H Q E h => ?_) (fun cdv A outer s H vs Q E hr h => ⟨_, hb cdv A outer s H E hr, ?_⟩), gm, F.kp, bd⟩
  · obtain ⟨b, ds, vs', v, r, fo, rfl, ex, rp, o, nd, hs, im, q⟩ := h
    cases e : φ (ds ++ [r.toD]) with
    | none => rw [e] at q; exact q.elim
    | some u =>
      have := ar _ _ e
      rw [List.length_append, List.length_singleton] at this
      rw [List.length_append, List.length_singleton, rp.len, this]
  · obtain ⟨b, ds, vs', v, r, fo, rfl, ex, rp, o, nd, hs, im, q⟩ := h
    cases e : φ (ds ++ [r.toD]) with
    | none => rw [e] at q; exact q.elim
    | some u =>
      rw [e] at q
      have hl := ar _ _ e
      rw [List.length_append, List.length_singleton] at hl
      cases u with
      | old _ => exact q.elim
      | exc _ => exact q.elim
      | mu _ _ _ => exact q.elim
      | ret r' =>
        have wq := hw ds r.toD _ e
        rw [hs] at wq
        refine ⟨b, minus H fo, b, _, gdOf (.ret r'), sk_startC (by omega) ex rp o nd, wq, ⟨fun B1 Γ1 σ1 H1 so1 z => ?_, fun r2 v2 f2 B1 H1 s1 o1 n1 k1 i1 z => ?_, fun x2 v2 B1 H1 s1 r1 z => ?_, fun x2 B1 Γ1 σ1 H1 so1 z => ?_, fun p2 c2 x2 v2 B1 Γ1 σ1 H1 so1 _ _ _ z => ?_⟩⟩
        · have z' : Out.ret r' = .ret (.im .none) := z
          cases z'
          exact q .non [] B1 H1 so1.sp (fun _ hp => by cases hp) .nil (.im .non) rfl
        · have z' : Out.ret r2 = .ret r' := z
          cases z'
          exact q v2 f2 B1 H1 s1 k1 n1 o1 i1
        · have z' : Out.old x2 = .ret r' := z
          cases z'
        · have z' : Out.ret r' = .exc x2 := z
          cases z'
        · have z' : Out.mu p2 c2 x2 = .ret r' := z
          cases z'
end
/-! ### handing over -/
def tAV (T : Tb) (W : WX) (i : Nat) (g : GEs) : TA := fun σ H Q => tA T W g σ H fun vs H1 => ∃ v, σ[i]? = some (some v) ∧ Q (vs ++ [v]) H1
section
variable {X : Cx} {T : Tb} {W : WX} {a e : Expr} {es : List Expr} {ga : GE} {ges : GEs} {i : Nat} {pos pos2 : Pos}
theorem pav_nil (h : PE X a (tVar i)) (hs : starEach [a] X.env = (false, eval a X.env) :: starEach [] X.env := by rfl) : PA X [a] (tAV T W i .nil) := (pa_cons h pa_nil hs).imp fun σ H Q ⟨B, Γ, hs, p⟩ => by
  obtain ⟨v, hv, q⟩ := p [] B H (.refl hs.ex) .nil
  exact ⟨v, hv, q⟩
theorem pav_cons (ha : PE X a (tG T W ga)) (hr : PA X es (tAV T W i ges)) (hs : starEach (a :: es) X.env = (false, eval a X.env) :: starEach es X.env := by rfl) : PA X (a :: es) (tAV T W i (.cons ga ges)) := (pa_cons ha hr hs).imp fun σ H Q ⟨B, Γ, hs, p⟩ => by
  have k : tG T W ga σ H fun v H1 => ∃ d B1, Sp' B H B1 H1 ∧ Se B1 Γ σ H1 ∧ Rp B1 v d ∧ PostA T W σ B1 H1 ((evs T Γ ges).map fun ds => d :: ds) fun vs H1 => ∃ v, σ[i]? = some (some v) ∧ Q (vs ++ [v]) H1 := by
    have p' : PostA T W σ B H ((ev T Γ ga).bind fun d => (evs T Γ ges).map fun ds => d :: ds) fun vs H1 => ∃ v, σ[i]? = some (some v) ∧ Q (vs ++ [v]) H1 := p
    refine ⟨B, Γ, hs, ?_⟩
    cases e : ev T Γ ga with
    | ok d => rw [e] at p'; exact fun v B1 H1 s r => ⟨d, B1, s, hs.step s, r, PostA.step p' s⟩
    | err x => rw [e] at p'; exact p'
    | bad => rw [e] at p'; exact p'
  refine tG_mono k fun v H1 ⟨d, B1, st, hs1, rx, p1⟩ => ⟨B1, Γ, hs1, ?_⟩
  cases e : evs T Γ ges with
  | ok ds => rw [e] at p1; exact fun vs B2 H2 s r => p1 (v :: vs) B2 H2 s (.cons (rx.mono s.b) r)
  | err x => rw [e] at p1; exact p1
  | bad => rw [e] at p1; exact p1
theorem psx_retC {x : Str} {p : Pos} {j : Nat} (c : CalleeC X T j x) (tk : Takes X W) (ha : PA X (e :: es) (tAV T W i ges)) (hg : Gl X x := by rfl)
    (hdb : (x == ("__debug__" : Str)) = false := by decide) (he : starEach (e :: es) X.env = (false, eval e X.env) :: starEach es X.env := by rfl) (hpl : (backTo pos (starEach es X.env)).any (·.1) = false := by rfl) :
    PS X (.Return (some (.Call (.Name x p) (e :: es) [] pos)) pos2) (tS T W (.retC j ges i)) := by
  obtain ⟨φ, f, fd, ps, k, hφ, F, hr, hm, hk, hb⟩ := c.ex
  refine (ps_ret (pe_callS F hr hg hm hk hb (fun σ => passAt tk σ) ha hdb he hpl)).imp fun De σ H ⟨b0, H0, B, Γ, d, so, w, r⟩ => ?_
  obtain ⟨q, e1, e2, e3, ds, r', e4, e5, e6⟩ := w
  show tA T W ges σ H _
  refine ⟨B, _, so.sk.stab, ?_⟩
  rw [e4]
  intro vs B1 H1 s rx
  have so1 := so.step s
  obtain ⟨v, fo, h1, h2, h3, h4⟩ := so1.ownR e1
  refine ⟨v, h1, B1, ds, vs, v, q, fo, rfl, so1.sk.ex, rx, h2, h3, e2, e3, ?_⟩
  unfold callR at e5
  rw [hφ] at e5
  cases z : φ (ds ++ [q.toD]) with
  | none => simp only [z] at e5; cases e5
  | some u =>
    cases u with
    | old _ => simp only [z] at e5; cases e5
    | exc _ => simp only [z] at e5; cases e5
    | mu _ _ _ => simp only [z] at e5; cases e5
    | ret r2 =>
      simp only [z] at e5
      cases e5
      intro v2 f2 B2 H2 s2 fr nd o im
      have hb1 : ∀ p ∈ fo, H0 p = none := h4
      refine r.rr _ v2 f2 B2 H2 ⟨ex_trans so1.sp.b s2.b, fun a u ha => ?_, s2.bh, fun a u ha hn hb => ?_⟩ o nd (fun a ha => ?_) im e6
      · have hf : a ∉ fo := fun y => by rw [hb1 a y] at ha; cases ha
        exact s2.h a u (by rw [minus_out hf]; exact so1.sp.h a u ha)
      · have hf : a ∉ fo := fun y => by rw [hb1 a y] at ha; cases ha
        exact s2.own a u (by rw [minus_out hf]; exact so1.sp.h a u ha) hn (so1.sp.own a u ha hn hb)
      · by_cases hf : a ∈ fo
        · exact hb1 a hf
        · have := fr a ha
          rw [minus_out hf] at this
          exact ex_back so1.sp.h this
end
end TD

/-! TD26: a def that changes its first parameter in place. -/
namespace TD
open PySem PySem.Spec PyProof.Rows L2

/-- what is promised of such a def -/
def spM (φ : List D → Option Out) : Sp := fun vs H Q E => ∃ b p vs' c ds, vs = .ref p :: vs' ∧ Ex b H ∧ b p = none ∧ CnAt b H p c ∧ RpA b vs' ds ∧ match φ (c.enc :: ds) with
  | some (.mu _ c' x) => ∀ v B1 H1, Sp' b (minus H [p]) B1 H1 → B1 p = none → CnAt B1 H1 p c' → Rp B1 v x → TD.imm x = true → Q v H1
  | _ => False
structure CalleeM (X : Cx) (T : Tb) (j : Nat) (x : Str) : Prop where
  ex : ∃ φ f fd ps k, T.fs[j]? = some φ ∧ FnOk X.prog X.w X.K X.mg X.base (L2.CX X.prog X.w) k f fd ps (spM φ) ∧ Room k X.A ∧ X.mg x = some (.ref f) ∧ PySem.W.keepIn X.K (.ref f) = true ∧ Binds X.K fd ps []
structure CalM (P : Program) (w : World) (K : PySem.W.Frag) (mg : Str → Option Value) (base : Heap) (ca : Nat → Addr) (x : Str) (φ : List D → Option Out) (k : Nat) : Prop where
  ex : ∃ f fd ps, FnOk P w K mg base (L2.CX P w) k f fd ps (spM φ) ∧ mg x = some (.ref f) ∧ PySem.W.keepIn K (.ref f) = true ∧ Binds K fd ps []
theorem CalM.at {X : Cx} {T : Tb} {x : Str} {φ : List D → Option Out} {j k n : Nat} (c : CalM X.prog X.w X.K X.mg X.base T.ca x φ j) (hr : Room k X.A) (hj : j ≤ k := by decide) (h : T.fs[n]? = some φ := by rfl) : CalleeM X T n x := by
  obtain ⟨f, fd, ps, F, g, kp, b⟩ := c.ex
  exact ⟨φ, f, fd, ps, j, h, F, hr.mono hj, g, kp, b⟩
def startM (N : List Str) (p : Addr) (c : Cn) (ds : List D) : Env := some (Sl.mp p c) :: (ds.map fun d => some (Sl.fz d)) ++ List.replicate (N.length - ds.length - 1) none
def gdM (p : Addr) (c : Cn) (x : D) : GD := { nx := fun Γ => ownM Γ 0 = some (p, c) ∧ x = .none, rt := fun o => o = .mu p c x, ex := fun _ _ => False }
@[simp] theorem gdm_nx {p : Addr} {c : Cn} {x : D} {Γ : Env} : (gdM p c x).nx Γ = (ownM Γ 0 = some (p, c) ∧ x = .none) := rfl
@[simp] theorem gdm_rt {p : Addr} {c : Cn} {x : D} {o : Out} : (gdM p c x).rt o = (o = .mu p c x) := rfl
@[simp] theorem gdm_ex {p : Addr} {c : Cn} {x : D} {k : Nat} {Γ : Env} : (gdM p c x).ex k Γ = False := rfl
theorem sk_startM {H b : Hp} {N : List Str} {p : Addr} {c : Cn} {vs : List V} {ds : List D} (hN : ds.length < N.length) (ex : Ex b H) (hp : b p = none) (hc : CnAt b H p c) (rp : RpA b vs ds) : So b (minus H [p]) b (startM N p c ds) (L2.start N (.ref p :: vs)) H := by
  have hl := rp.len
  have gets : ∀ i s, (startM N p c ds)[i]? = some (some s) → (∃ j d, i = j + 1 ∧ ds[j]? = some d ∧ s = .fz d) ∨ (i = 0 ∧ s = .mp p c) := fun i s e => by
    unfold startM at e
    cases i with
    | zero => cases e; exact .inr ⟨rfl, rfl⟩
    | succ j =>
      rw [List.cons_append, List.getElem?_cons_succ] at e
      by_cases hi : j < ds.length
      · have e' : ds[j]? = some ds[j] := List.getElem?_eq_getElem hi
        rw [List.getElem?_append_left (by simp; exact hi), List.getElem?_map, e'] at e
        cases e
        exact .inl ⟨j, _, rfl, e', rfl⟩
      · rw [List.getElem?_append_right (by simp; omega), List.getElem?_replicate] at e
        split at e <;> cases e
  refine ⟨⟨?_, minus_ex _ _, ex, fun j => if j = 0 then [p] else [], fun i j hij q hq => ?_, fun i q hq => ?_, fun i s e => ?_⟩, fun j kvs e => ?_, ex_refl _, minus_ex _ _, ex, fun _ _ _ _ z => z⟩
  · unfold startM L2.start
    simp only [List.length_append, List.length_map, List.length_replicate, List.length_cons]
    omega
  · by_cases hi : i = 0
    · have : ¬(j = 0) := fun z => hij (hi.trans z.symm)
      simp only [this, if_false]
      exact fun z => nomatch z
    · simp only [hi, if_false] at hq
      cases hq
  · by_cases hi : i = 0
    · simp only [hi, if_true] at hq
      cases List.mem_singleton.mp hq
      exact ⟨minus_in List.mem_cons_self, hp, hc.at⟩
    · simp only [hi, if_false] at hq
      cases hq
  · rcases gets i s e with ⟨j, d, rfl, hd, rfl⟩ | ⟨rfl, rfl⟩
    · obtain ⟨u, hu, ru⟩ := rp.get hd
      refine ⟨u, ?_, ru⟩
      have hi : j < vs.length := (List.getElem?_eq_some_iff.mp hu).1
      unfold L2.start
      rw [List.getElem?_append_left (by simp; omega), List.getElem?_map, List.getElem?_cons_succ, hu]
      rfl
    · exact ⟨rfl, rfl, hp, hc⟩
  · rcases gets j _ e with ⟨_, d, _, _, z⟩ | ⟨_, z⟩ <;> cases z
section
variable {b0 H0 B H B1 H1 : Hp} {Γ : Env} {σ : L2.St}
theorem ownM_at {i : Nat} {p : Addr} {c : Cn} (h : ownM Γ i = some (p, c)) : Γ[i]? = some (some (.mp p c)) := by
  unfold ownM at h
  split at h
  · cases h
    assumption
  · cases h
theorem So.mlist (h : So b0 H0 B Γ σ H) {i : Nat} {p : Addr} {ds : List D} (e : ownM Γ i = some (p, .l ds)) : ∃ xs, σ[i]? = some (some (.ref p)) ∧ H p = some (.lst xs) ∧ RpA B xs ds ∧
    ∀ ys es, RpA B ys es → So b0 H0 B (Γ.set i (some (.mp p (.l es)))) σ (upd H p (.lst ys)) := by
  obtain ⟨f, ⟨h1, rfl, h2, xs, h3, h4⟩, _, h6⟩ := h.change (ownM_at e)
  exact ⟨xs, h1, h3, h4, fun ys es r => h6 p _ _ [p] List.mem_cons_self (lst_noTup _) (fun _ z => nomatch z) ⟨h1, rfl, h2, ys, upd_same, r⟩ fun q hq => hq⟩
theorem So.mdict (h : So b0 H0 B Γ σ H) {i : Nat} {p : Addr} {kvs : List (Int × D)} (e : ownM Γ i = some (p, .d kvs)) : ∃ ks, σ[i]? = some (some (.ref p)) ∧ H p = some (.dK ks) ∧ KvRp B ks kvs ∧
    ∀ ls es, KvRp B ls es → So b0 H0 B (Γ.set i (some (.mp p (.d es)))) σ (upd H p (.dK ls)) := by
  obtain ⟨f, ⟨h1, rfl, h2, xs, h3, h4⟩, _, h6⟩ := h.change (ownM_at e)
  exact ⟨xs, h1, h3, h4, fun ys es r => h6 p _ _ [p] List.mem_cons_self (dK_noTup _) (fun _ z => nomatch z) ⟨h1, rfl, h2, ys, upd_same, r⟩ fun q hq => hq⟩
theorem So.mheld (h : So b0 H0 B Γ σ H) {i : Nat} {p : Addr} {c : Cn} (e : ownM Γ i = some (p, c)) : σ[i]? = some (some (.ref p)) ∧ B p = none ∧ CnAt B H p c := by
  obtain ⟨F, g⟩ := h.sk.sl
  obtain ⟨k1, _, k2, k3⟩ := g.ok i _ (ownM_at e)
  exact ⟨k1, k2, k3⟩
theorem SlotOk.swap {H' : Hp} {s : Sl} {x : Option (Option V)} {f : List Addr} (h : SlotOk B H s x f) (ns : ∀ kvs, s ≠ .dc false kvs) (k : ∀ q ∈ f, H' q = H q) : SlotOk B H' s x f := by
  cases s with
  | fz d => exact h
  | own r =>
    obtain ⟨v, e, r, n⟩ := h
    exact ⟨v, e, r.frame (ex_refl _) fun p hp => ⟨k p hp, (r.at p hp).1⟩, n⟩
  | dc o kvs =>
    cases o with
    | false => exact absurd rfl (ns kvs)
    | true =>
      obtain ⟨p, ks, e, h1, h2, h3⟩ := h
      exact ⟨p, ks, e, by rw [k p (by rw [h3 rfl]; exact List.mem_cons_self)]; exact h1, h2, h3⟩
  | xc a x => exact h
  | pin p ds =>
    obtain ⟨e, rfl, h1, xs, h2, h3⟩ := h
    exact ⟨e, rfl, h1, xs, by rw [k p List.mem_cons_self]; exact h2, h3⟩
  | mp p c =>
    obtain ⟨e, rfl, h1, h2⟩ := h
    exact ⟨e, rfl, h1, h2.step (ex_refl _) (k p List.mem_cons_self)⟩
/-- a slot's list or dict is lent, and comes back with something else in it -/
theorem So.lend (h : So b0 H0 B Γ σ H) {i : Nat} {c : Cn} (e : cnOf Γ i = some c) : ∃ p, σ[i]? = some (some (.ref p)) ∧ B p = none ∧ CnAt B H p c ∧
    ∀ B2 H2 c', c.alike c' → Sp' B (minus H [p]) B2 H2 → B2 p = none → CnAt B2 H2 p c' → So b0 H0 B2 (putC Γ i c') σ H2 := by
  obtain ⟨F, g⟩ := h.sk.sl
  have key : ∃ p s, Γ[i]? = some (some s) ∧ F i = [p] ∧ σ[i]? = some (some (.ref p)) ∧ B p = none ∧ CnAt B H p c ∧ ∀ B2 H2 c', c.alike c' → B2 p = none → CnAt B2 H2 p c' → ∃ s', putC Γ i c' = Γ.set i (some s') ∧ (∀ kvs, s' ≠ .dc false kvs) ∧ SlotOk B2 H2 s' (some (some (.ref p))) [p] := by
    unfold cnOf at e
    split at e
    · rename_i ds hs
      cases e
      obtain ⟨v, k1, k2, k3⟩ := g.ok i _ hs
      generalize hF : F i = f at k2 k3
      cases k2 with
      | ol a b r =>
        rename_i p xs
        refine ⟨p, _, hs, rfl, k1, a, ⟨xs, b, r⟩, fun B2 H2 c' al hb hc => ?_⟩
        cases c' with
        | d _ => exact al.elim
        | l es =>
          obtain ⟨ys, y1, y2⟩ := hc
          refine ⟨.own (.ol es), ?_, (fun _ z => nomatch z), _, rfl, .ol hb y1 y2, List.nodup_cons.mpr ⟨(fun z => by cases z), List.nodup_nil⟩⟩
          unfold putC
          rw [hs]
    · rename_i kvs hs
      cases e
      obtain ⟨p, ks, k1, k2, k3, k4⟩ := g.ok i _ hs
      have hF := k4 rfl
      obtain ⟨_, hb, _⟩ := g.at' i p (by rw [hF]; exact List.mem_cons_self)
      refine ⟨p, _, hs, hF, k1, hb, ⟨ks, k2, k3⟩, fun B2 H2 c' al hb hc => ?_⟩
      cases c' with
      | l _ => exact al.elim
      | d es =>
        obtain ⟨ys, y1, y2⟩ := hc
        refine ⟨.dc true es, ?_, (fun _ z => nomatch z), p, ys, rfl, y1, y2, fun _ => rfl⟩
        unfold putC
        rw [hs]
    · rename_i p c' hs
      cases e
      obtain ⟨k1, k2, k3, k4⟩ := g.ok i _ hs
      refine ⟨p, _, hs, k2, k1, k3, k4, fun B2 H2 c' al hb hc => ⟨.mp p c', ?_, (fun _ z => nomatch z), rfl, rfl, hb, hc⟩⟩
      unfold putC
      rw [hs]
    · cases e
  obtain ⟨p, s, hs, hF, h1, h2, h3, k⟩ := key
  refine ⟨p, h1, h2, h3, fun B2 H2 c' al st hb hc => ?_⟩
  obtain ⟨s', e', ns, so'⟩ := k B2 H2 c' al hb hc
  rw [e']
  obtain ⟨p0, _, _⟩ := g.at' i p (by rw [hF]; exact List.mem_cons_self)
  have hl : i < Γ.length := (List.getElem?_eq_some_iff.mp hs).1
  have e0 : Ex H0 H2 := fun a o ha => st.h a o (by
    rw [minus_out fun z => by cases List.mem_singleton.mp z; rw [p0] at ha; cases ha]
    exact h.sk.e0 a o ha)
  have apart : ∀ j, j ≠ i → p ∉ F j := fun j hj => g.dis i j (Ne.symm hj) p (by rw [hF]; exact List.mem_cons_self)
  have there : ∀ j, ∀ q ∈ F j, B2 q = none ∧ (∃ o, H2 q = some o ∧ NoTup o) ∧ (q ≠ p → H2 q = minus H [p] q) := fun j q hq => by
    obtain ⟨_, q2, o, q3, q4⟩ := g.at' j q hq
    by_cases z : q = p
    · subst z
      exact ⟨hb, hc.at, fun y => absurd rfl y⟩
    · have hm : minus H [p] q = some o := by rw [minus_out fun y => z (List.mem_singleton.mp y)]; exact q3
      exact ⟨st.own q o hm q4 q2, ⟨o, st.h q o hm, q4⟩, fun _ => by rw [hm]; exact st.h q o hm⟩
  refine ⟨⟨by rw [List.length_set]; exact h.sk.len, e0, st.bh, F, g.dis, fun j q hq => ⟨(g.at' j q hq).1, (there j q hq).1, (there j q hq).2.1⟩, fun j t ej => ?_⟩, h.nv.set i (fun kvs z => ns kvs (Option.some.inj z)), ex_trans h.sp.b st.b, e0, st.bh, fun q o h4 h5 h6 => ?_⟩
  · by_cases hj : i = j
    · subst hj
      rw [List.getElem?_set_self hl] at ej
      cases ej
      rw [h1, hF]
      exact so'
    · rw [get_set_ne hj] at ej
      have np := apart j (Ne.symm hj)
      have q1 := (g.ok j t ej).swap (H' := minus H [p]) (fun kvs z => h.nv j kvs (by rw [ej, z])) fun q hq => minus_out fun y => np (by cases List.mem_singleton.mp y; exact hq)
      exact q1.step st fun q hq => ⟨(there j q hq).1, (there j q hq).2.2 fun z => np (z ▸ hq)⟩
  · exact st.own q o (by
      rw [minus_out fun z => by cases List.mem_singleton.mp z; rw [p0] at h4; cases h4]
      exact h.sp.h q o h4) h5 (h.sp.own q o h4 h5 h6)
end
section
variable {P : Program} {w : World} {K : PySem.W.Frag} {mg : Str → Option Value} {base : Heap} {T : Tb}
theorem fn_dataM {x qual : Str} {st : Stmt} {f : Addr} {fd : FuncData} {N ps : List Str} {k : Nat} {φ : List D → Option Out} {g : GSs} (F : Fun K qual qual st f fd) (gm : mg x = some (.ref f)) (bd : Binds K fd ps []) (S : FnScope N ps (defScope st)) (ar : ∀ ds o, φ ds = some o → ds.length = ps.length) (hN : ps.length ≤ N.length)
    (hb : ∀ (cdv : Value) (A : Around) (outer : List PySem.Env) (s : Shared) (H : Hp) (E : XK), Room k (A.deeper (envOfC qual (defScope st) s.heap.objs.size f cdv)) →
      PSs (cxOf (L2.CX P w) P w K mg base N qual (defScope st) f cdv A outer s H E) (defBody st) (tSs T (fun cls d _ H => E cls d H) g))
    (hw : ∀ c ds q c' x, φ (c.enc :: ds) = some (.mu q c' x) → ∀ p, wpSs T g (gdM p c' x) (startM N p c ds)) : CalM P w K mg base T.ca x φ (k + 1) := by
  refine ⟨f, fd, ps, F.okX S (fun vs H Q E h => ?_) (fun cdv A outer s H vs Q E hr h => ⟨_, hb cdv A outer s H E hr, ?_⟩), gm, F.kp, bd⟩
  · obtain ⟨b, p, vs', c, ds, rfl, ex, hp, hc, rp, q⟩ := h
    cases e : φ (c.enc :: ds) with
    | none => rw [e] at q; exact q.elim
    | some u =>
      have := ar _ _ e
      rw [List.length_cons] at this
      rw [List.length_cons, rp.len, this]
  · obtain ⟨b, p, vs', c, ds, rfl, ex, hp, hc, rp, q⟩ := h
    cases e : φ (c.enc :: ds) with
    | none => rw [e] at q; exact q.elim
    | some u =>
      rw [e] at q
      have hl := ar _ _ e
      rw [List.length_cons] at hl
      cases u with
      | old _ => exact q.elim
      | exc _ => exact q.elim
      | ret _ => exact q.elim
      | mu q0 c' x =>
        refine ⟨b, minus H [p], b, _, gdM p c' x, sk_startM (by omega) ex hp hc rp, hw c ds q0 c' x e p, ⟨fun B1 Γ1 σ1 H1 so1 z => ?_, fun r2 v2 f2 B1 H1 s1 o1 n1 k1 i1 z => ?_, fun x2 v2 B1 H1 s1 r1 z => ?_, fun x2 B1 Γ1 σ1 H1 so1 z => z.elim, fun p2 c2 x2 v2 B1 Γ1 σ1 H1 so1 e1 e2 e3 z => ?_⟩⟩
        · have z' : ownM Γ1 0 = some (p, c') ∧ x = .none := z
          obtain ⟨z1, rfl⟩ := z'
          obtain ⟨_, m1, m2⟩ := so1.mheld z1
          exact q .non B1 H1 so1.sp m1 m2 .non rfl
        · have z' : Out.ret r2 = .mu p c' x := z
          cases z'
        · have z' : Out.old x2 = .mu p c' x := z
          cases z'
        · have z' : Out.mu p2 c2 x2 = .mu p c' x := z
          cases z'
          obtain ⟨_, m1, m2⟩ := so1.mheld e1
          exact q v2 B1 H1 so1.sp m1 m2 e2 e3
end
/-! ### statements -/
/-- the slot itself, then the rest -/
def tAM (T : Tb) (W : WX) (i : Nat) (g : GEs) : TA := fun σ H Q => ∃ v, σ[i]? = some (some v) ∧ tA T W g σ H fun vs H1 => Q (v :: vs) H1
def tM (T : Tb) (W : WX) (i j : Nat) (g : GEs) : TE := fun σ H Q => ∃ b0 H0 B Γ, So b0 H0 B Γ σ H ∧ ∃ c ds c' x, cnOf Γ i = some c ∧ evs T (stab Γ) g = .ok ds ∧ callM T j (c.enc :: ds) = some (c', x) ∧ c.alike c' ∧ ∀ v B1 H1, So b0 H0 B1 (putC Γ i c') σ H1 → Rp B1 v x → TD.imm x = true → Q v H1
section
variable {X : Cx} {T : Tb} {W : WX} {a e : Expr} {st : Stmt} {es : List Expr} {bs cs : List Stmt} {ga gk : GE} {ges : GEs} {gs hs : GSs} {i j t : Nat} {pos pos2 : Pos}
theorem pam (h : PE X a (tVar i)) (hr : PA X es (tA T W ges)) (hs : starEach (a :: es) X.env = (false, eval a X.env) :: starEach es X.env := by rfl) : PA X (a :: es) (tAM T W i ges) := (pa_cons h hr hs).imp fun σ H Q ⟨v, h1, h2⟩ => ⟨v, h1, h2⟩
theorem px_callM {x : Str} {p : Pos} (c : CalleeM X T j x) (tk : Takes X W) (ha : PA X (e :: es) (tAM T W i ges)) (hg : Gl X x := by rfl)
    (hdb : (x == ("__debug__" : Str)) = false := by decide) (he : starEach (e :: es) X.env = (false, eval e X.env) :: starEach es X.env := by rfl) (hpl : (backTo pos (starEach es X.env)).any (·.1) = false := by rfl) :
    PE X (.Call (.Name x p) (e :: es) [] pos) (tM T W i j ges) := by
  obtain ⟨φ, f, fd, ps, k, hφ, F, hr, hm, hk, hb⟩ := c.ex
  refine (pe_callS F hr hg hm hk hb (fun σ => passAt tk σ) ha hdb he hpl).imp fun σ H Q ⟨b0, H0, B, Γ, so, c, ds, c', x, h1, h2, h3, h4, h5⟩ => ?_
  obtain ⟨p, k1, _⟩ := so.lend h1
  refine ⟨.ref p, k1, B, _, so.sk.stab, ?_⟩
  rw [h2]
  intro vs B1 H1 s rx
  have so1 := so.step s
  obtain ⟨p', m1, m2, m3, m4⟩ := so1.lend h1
  rw [k1] at m1
  cases m1
  refine ⟨B1, p, vs, c, ds, rfl, so1.sk.ex, m2, m3, rx, ?_⟩
  unfold callM at h3
  rw [hφ, Option.bind_some] at h3
  cases z : φ (c.enc :: ds) with
  | none => rw [z] at h3; cases h3
  | some u =>
    rw [z] at h3
    cases u with
    | old _ => cases h3
    | exc _ => cases h3
    | ret _ => cases h3
    | mu q0 c2 x2 =>
      cases h3
      exact fun v B2 H2 s2 hb hc r im => h5 v B2 H2 (m4 B2 H2 c' h4 s2 hb hc) r im
theorem callM_of {φ : List D → Option Out} {ds : List D} {q : Addr} {c : Cn} {x : D} (h : T.fs[j]? = some φ) (e : φ ds = some (.mu q c x)) : TD.callM T j ds = some (c, x) := by
  unfold TD.callM
  rw [h, Option.bind_some, e]
  rfl
theorem psx_callM (h : PE X e (tM T W i j ges)) (hs : swapsWith e none pos.line X.env = pure false := by rfl) : PS X (.Expr e pos) (tS T W (.callM none i j ges)) := (ps_expr h hs).imp fun De σ H ⟨b0, H0, B, Γ, d, so, ⟨c, ds, c', x, h1, h2, h3, h4, h5⟩, r⟩ =>
  ⟨b0, H0, B, Γ, so, c, ds, c', x, h1, h2, h3, h4, fun v B1 H1 so1 rx im => r.nx _ _ _ _ so1 h5⟩
theorem psx_asgM (h : PS X st (tAsg (tM T W i j ges) (gName t))) : PS X st (tS T W (.callM (some t) i j ges)) := h.imp fun De σ H ⟨b0, H0, B, Γ, d, so, ⟨c, ds, c', x, h1, h2, h3, h4, h5⟩, r⟩ =>
  ⟨b0, H0, B, Γ, so, c, ds, c', x, h1, h2, h3, h4, fun v B1 H1 so1 rx im => r.nx _ _ _ _ (so1.put_fz t rx) h5⟩
theorem own_put {Γ : Env} {p : Addr} {c c' : Cn} (h : ownM Γ 0 = some (p, c)) : cnOf Γ 0 = some c ∧ ownM (putC Γ 0 c') 0 = some (p, c') := by
  have e := ownM_at h
  have hl : 0 < Γ.length := (List.getElem?_eq_some_iff.mp e).1
  refine ⟨by unfold cnOf; rw [e], ?_⟩
  unfold putC
  rw [e]
  show ownM (Γ.set 0 (some (.mp p c'))) 0 = _
  unfold ownM
  rw [List.getElem?_set_self hl]
theorem psx_retM (h : PE X e (tM T W 0 j ges)) : PS X (.Return (some e) pos) (tS T W (.retM j ges)) := (ps_ret h).imp fun De σ H ⟨b0, H0, B, Γ, d, so, ⟨p, c, ds, c', x, h1, h2, h3, h4, h5⟩, r⟩ =>
  ⟨b0, H0, B, Γ, so, c, ds, c', x, (own_put (c' := c') h1).1, h2, h3, h4, fun v B1 H1 so1 rx im => r.rm p c' x v B1 _ _ H1 so1 (own_put h1).2 rx im h5⟩
theorem psx_retP (h : PE X e (tG T W ga)) : PS X (.Return (some e) pos) (tS T W (.retP ga)) := (ps_ret h).imp fun De σ H ⟨b0, H0, B, Γ, d, so, w, r⟩ =>
  so.view r w fun v x b1 H1 s rp ⟨z, p, c, h1, h2⟩ => r.rm p c x v _ _ _ _ (so.step (.tups so.sk.ex s.h)) h1 (Rp.imm (ex_trans so.sk.ex s.h) s.bh x rp z) z h2
theorem psx_ifNM {p2 : Pos} (h : PE X e (tM T W i j ges)) (ha : PSs X bs (tSs T W gs)) (hb : PSs X cs (tSs T W hs)) (he : ∀ whole, isTrue e X.env whole = (do let v ← whole; standAt e.pos; holding [v] (truthy v)) := by intro _; rfl) : PS X (.If (.UnaryOp .Not e p2) bs cs pos) (tS T W (.ifM true i j ges gs hs)) := (ps_if (pt_not (pt_val h he)) ha hb).imp fun De σ H ⟨b0, H0, B, Γ, d, so, ⟨c, ds, c', x, h1, h2, h3, h4, h5, h6⟩, r⟩ =>
  ⟨b0, H0, B, Γ, so, c, ds, c', _, h1, h2, h3, h4, fun v B1 H1 so1 rx im => ⟨x, rp_bl rx, by
    cases x with
    | true => exact iteF ⟨b0, H0, B1, _, d, so1, h6 rfl, r⟩
    | false => exact iteT ⟨b0, H0, B1, _, d, so1, h5 rfl, r⟩⟩⟩
theorem psx_setP (h : PS X st (tAsg (tG T W ga) (gSub (tVar i) (tG T W gk) rSetL))) : PS X st (tS T W (.setP i gk ga)) := h.imp fun De σ H ⟨b0, H0, B, Γ, d, so, w, r⟩ => by
  obtain ⟨p, ds, q, w'⟩ := w
  refine so.view r w' fun v x b1 H1 s rp ⟨z, w2⟩ => ?_
  have so1 := so.step (.tups so.sk.ex s.h)
  have rv := Rp.imm (ex_trans so.sk.ex s.h) s.bh x rp z
  obtain ⟨xs, h1, h2, h3, h6⟩ := so1.mlist q
  refine ⟨.ref p, h1, so1.view r w2 fun n y b2 H2 s2 rp2 ⟨j, ej, j0, j1, q2⟩ => ?_⟩
  subst ej
  have so2 := so1.step (.tups so1.sk.ex s2.h)
  obtain ⟨xs', k1, k2, k3, k6⟩ := so2.mlist q
  cases rp_int rp2
  refine ⟨p, xs', j, j.toNat, rfl, rfl, k2, ?_, r.nx _ _ _ _ (k6 _ _ (k3.set j.toNat (rv.mono (tups_ex _ _)))) q2⟩
  unfold ixN
  rw [if_pos j0, if_pos (by rw [k3.len]; exact j1)]
theorem psx_dsetP (h : PS X st (sDPut (tVar i) (tG T W gk) (tG T W ga))) : PS X st (tS T W (.dsetP i gk ga)) := h.imp fun De σ H ⟨b0, H0, B, Γ, d, so, w, r⟩ => by
  obtain ⟨p, kvs, q, w'⟩ := w
  refine so.view r w' fun v x b1 H1 s rp ⟨z, w2⟩ => ?_
  have so1 := so.step (.tups so.sk.ex s.h)
  have rv := Rp.imm (ex_trans so.sk.ex s.h) s.bh x rp z
  obtain ⟨ks, h1, h2, h3, h4⟩ := so1.mdict q
  refine ⟨.ref p, h1, so1.view r w2 fun n y b2 H2 s2 rp2 ⟨j, ej, hl, q2⟩ => ?_⟩
  subst ej
  have so2 := so1.step (.tups so1.sk.ex s2.h)
  obtain ⟨ks', k1, k2, k3, k4⟩ := so2.mdict q
  cases rp_int rp2
  refine ⟨p, _, rfl, DPut.k (k := Sum.inl j) k2 (by rw [k3.len, sizeLine_eq]; exact hl), r.nx _ _ _ _ (k4 _ _ (k3.put j (rv.mono (tups_ex _ _)))) q2⟩
theorem psx_dpopP (h : PS X st (tDrop (tDPop1 (tVar i) (tG T W gk)))) : PS X st (tS T W (.dpopP i gk)) := h.imp fun De σ H ⟨b0, H0, B, Γ, d, so, w, r⟩ => by
  obtain ⟨p, kvs, q, w'⟩ := w
  obtain ⟨ks, h1, h2, h3, h4⟩ := so.mdict q
  refine ⟨.ref p, h1, p, rfl, .inl ⟨ks, .inl h2⟩, so.view r w' fun n y b2 H2 s2 rp2 ⟨j, ej, hl, q2⟩ => ?_⟩
  subst ej
  have so2 := so.step (.tups so.sk.ex s2.h)
  obtain ⟨ks', k1, k2, k3, k4⟩ := so2.mdict q
  cases rp_int rp2
  have v := k3.val j
  cases z : dget kvs j with
  | none => rw [z] at hl; cases hl
  | some x =>
    rw [z] at v
    obtain ⟨u, hu, _⟩ := v
    exact ⟨ks', Sum.inl j, u, k2, rfl, hu, r.nx _ _ _ _ (k4 _ _ (k3.drop j)) q2⟩
end
end TD

namespace TL
open PySem PySem.Spec PyProof.Rows L2 TD
def topS (i : Nat) : Stmt := PySem.Challenge.pw_tilldrawer_k05_sums.main.body.getD i (.Pass ⟨0, 0, 0, 0⟩)
abbrev xsL : List Nat := [5]
abbrev ysL : List Nat := [5]
section
variable {P : Program} {w : World} {K : PySem.W.Frag} {mg : Str → Option Value} {base : Heap} {ca : Nat → Addr}

/-! ### need_sum -/
abbrev s_need_sum : Stmt := topS 5
theorem sc_need_sum : FnScope ["due"] ["due"] (defScope s_need_sum) := ⟨rfl, rfl, rfl, by decide +kernel, rfl, by decide +kernel, by decide +kernel⟩
def g_need_sum : GSs := .cons (.ifs (.or (.cmp .lt (.var 0) (.cst (.int 0))) (.cmp .gt (.var 0) (.cst (.int 1000)))) (.cons (.raise_ 5) (.nil)) (.nil)) (.nil)
abbrev n_need_sum : List Str := ["due"]
theorem dv_need_sum {ph_need_sum : List D → Option Out} {f : Addr} {fd : FuncData} (F : Fun K "need_sum" "need_sum" s_need_sum f fd) (gm : mg "need_sum" = some (.ref f)) (bd : Binds K fd ["due"] []) (bi : Bi mg) (cl : Cls' K mg ca xsL ysL) (k_GREATEST_SUM : ∃ t, mg "GREATEST_SUM" = some (.int 1000 t))
    (ar : ∀ ds o, ph_need_sum ds = some o → ds.length = 1) (wp : ∀ ds o, ph_need_sum ds = some o → wpSs ⟨[], ca, xsL, none⟩ g_need_sum (gdOf o) (startE n_need_sum ds)) :
    Cal P w K mg base ca "need_sum" ph_need_sum 1 :=
  fn_data (T := ⟨[], ca, xsL, none⟩) (g := g_need_sum) F gm bd sc_need_sum ar (fun cdv A outer s H E hr => by
    have hu := hr.units
    exact psx_cons (psx_if (PW.pt (pw_o (pt_lt (px_var 0) (px_int)) (pw_o1 (pt_gt (px_var 0) (px_glob (by rfl) k_GREATEST_SUM.choose_spec))))) (psx_cons (psx_rais (x := 5) cl rfl (takes_of rfl rfl rfl rfl)) (psx_nil)) (psx_nil)) (psx_nil)) wp

/-! ### least -/
abbrev s_least : Stmt := topS 6
theorem sc_least : FnScope ["ahead", "at", "pair", "found", "many", "few"] ["ahead", "at", "pair"] (defScope s_least) := ⟨rfl, rfl, rfl, by decide +kernel, rfl, by decide +kernel, by decide +kernel⟩
def g_least : GSs := .cons (.asgV 3 (.cst .none)) (.cons (.for_ [4, 5] [4] (.i1 (.bin .add (.mn (.ix (.var 2) (.cst (.int 1))) (.bin .div (.var 1) (.ix (.var 2) (.cst (.int 0))))) (.cst (.int 1)))) (.cons (.asgV 5 (.ix (.var 0) (.bin .sub (.var 1) (.bin .mul (.var 4) (.ix (.var 2) (.cst (.int 0))))))) (.cons (.ifs (.and (.isn true (.var 5)) (.or (.isn false (.var 3)) (.cmp .lt (.bin .add (.var 5) (.var 4)) (.var 3)))) (.cons (.asgV 3 (.bin .add (.var 5) (.var 4))) (.nil)) (.nil)) (.nil)))) (.cons (.ret (.im (.var 3))) (.nil)))
abbrev n_least : List Str := ["ahead", "at", "pair", "found", "many", "few"]
theorem dv_least {ph_least : List D → Option Out} {f : Addr} {fd : FuncData} (F : Fun K "least" "least" s_least f fd) (gm : mg "least" = some (.ref f)) (bd : Binds K fd ["ahead", "at", "pair"] []) (bi : Bi mg) (cl : Cls' K mg ca xsL ysL)
    (ar : ∀ ds o, ph_least ds = some o → ds.length = 3) (wp : ∀ ds o, ph_least ds = some o → wpSs ⟨[], ca, xsL, none⟩ g_least (gdOf o) (startE n_least ds)) :
    Cal P w K mg base ca "least" ph_least 1 :=
  fn_data (T := ⟨[], ca, xsL, none⟩) (g := g_least) F gm bd sc_least ar (fun cdv A outer s H E hr => by
    have hu := hr.units
    exact psx_cons (psx_asgV (ps_set (i := 3) sc_least.nd rfl (by first | exact Or.inl rfl | exact Or.inr rfl) (px_non))) (psx_cons (psx_for (ws := [4, 5]) (ts := [4]) (gx := (gName 4)) (passes_of rfl) rfl (pix_range1 bi (px_add (px_mn bi rfl (px_ix (px_var 2) (px_int)) (px_div (px_var 1) (px_ix (px_var 2) (px_int)))) (px_int))) (pg_name (i := 4) sc_least.nd rfl (by first | exact Or.inl rfl | exact Or.inr rfl)) (psx_cons (psx_asgV (ps_set (i := 5) sc_least.nd rfl (by first | exact Or.inl rfl | exact Or.inr rfl) (px_ix (px_var 0) (px_sub (px_var 1) (px_mul (px_var 4) (px_ix (px_var 2) (px_int))))))) (psx_cons (psx_if (PW.pt (pw_a (pt_notN (px_var 5)) (pw_a1 (PW.pt (pw_o (pt_isN (px_var 3)) (pw_o1 (pt_lt (px_add (px_var 5) (px_var 4)) (px_var 3)))))))) (psx_cons (psx_asgV (ps_set (i := 3) sc_least.nd rfl (by first | exact Or.inl rfl | exact Or.inr rfl) (px_add (px_var 5) (px_var 4)))) (psx_nil)) (psx_nil)) (psx_nil)))) (psx_cons (psx_ret (px_r (px_var 3))) (psx_nil)))) wp

/-! ### table -/
abbrev s_table : Stmt := topS 7
theorem sc_table : FnScope ["till", "most", "rows", "pair", "ahead", "at"] ["till", "most"] (defScope s_table) := ⟨rfl, rfl, rfl, by decide +kernel, rfl, by decide +kernel, by decide +kernel⟩
def g_table : GSs := .cons (.expr (.call 0 (.cons (.var 1) (.nil)))) (.cons (.asgR 2 (.lst (.cons (.f (.cat (.f (.lst (.cons (.cst (.int 0)) (.nil)))) (.f (.rep (.cst .none) (.var 1))))) (.nil)))) (.cons (.for_ [3, 4] [3] (.il (.var 0)) (.brw 4 2 (.bin .sub (.len (.var 2)) (.cst (.int 1))) (.lc [5] (.i1 (.bin .add (.var 1) (.cst (.int 1)))) (.call 1 (.cons (.var 4) (.cons (.var 5) (.cons (.var 3) (.nil)))))) (.nil))) (.cons (.retMv 2) (.nil))))
abbrev n_table : List Str := ["till", "most", "rows", "pair", "ahead", "at"]
theorem dv_table {ph_need_sum : List D → Option Out} {ph_least : List D → Option Out} {ph_table : List D → Option Out} {f : Addr} {fd : FuncData} (F : Fun K "table" "table" s_table f fd) (gm : mg "table" = some (.ref f)) (bd : Binds K fd ["till", "most"] []) (bi : Bi mg) (cl : Cls' K mg ca xsL ysL) (c_need_sum : Cal P w K mg base ca "need_sum" ph_need_sum 1) (c_least : Cal P w K mg base ca "least" ph_least 1)
    (ar : ∀ ds o, ph_table ds = some o → ds.length = 2) (wp : ∀ ds o, ph_table ds = some o → wpSs ⟨[ph_need_sum, ph_least], ca, xsL, none⟩ g_table (gdOf o) (startE n_table ds)) :
    Cal P w K mg base ca "table" ph_table 2 :=
  fn_data (T := ⟨[ph_need_sum, ph_least], ca, xsL, none⟩) (g := g_table) F gm bd sc_table ar (fun cdv A outer s H E hr => by
    have hu := hr.units
    exact psx_cons (psx_expr (px_call (c_need_sum.at hr) (takes_of rfl rfl rfl rfl) (pax_cons (px_var 1) (pax_nil)))) (psx_cons (psx_asgR (ps_set (i := 2) sc_table.nd rfl (by first | exact Or.inl rfl | exact Or.inr rfl) (px_rlst (prs_cons (px_rf (pf_cat (px_f (pf_lst (pax_cons (px_int) (pax_nil)))) (px_f (pf_rep (px_non) (px_var 1))))) (prs_nil))))) (psx_cons (psx_for (ws := [3, 4]) (ts := [3]) (gx := (gName 3)) (passes_of rfl) rfl (pix_list (px_var 0)) (pg_name (i := 3) sc_table.nd rfl (by first | exact Or.inl rfl | exact Or.inr rfl)) (pss_brw (ps_set (i := 4) sc_table.nd rfl (by first | exact Or.inl rfl | exact Or.inr rfl) (pp_sub (pp_var (pv 2)) (px_sub (px_len bi (px_var 2)) (px_int)))) (ps_expr (pe_bm PySem.F.plainAttrs_list PySem.F.slot_list_append PySem.F.type_list_append mt_append (pv 2) (pa_cons (pf_lc (own := [("at", 5)]) (g := (gName 5)) (ts := [5]) rfl sc_table.nd (pix_range1 bi (px_add (px_var 1) (px_int))) (blkOk_by (own := [("at", 5)]) (N := ["till", "most", "rows", "pair", "ahead", "at"]) (sc := defScope s_table) (by decide +kernel)) rfl (fun _ _ _ _ _ => pg_name (i := 5) sc_table.nd rfl (by first | exact Or.inl rfl | exact Or.inr rfl)) (fun _ _ _ _ _ => px_call (c_least.at hr) takes0 (pax_cons (px_var 4) (pax_cons (px_var 5) (pax_cons (px_var 3) (pax_nil)))))) pa_nil))) (psx_nil))) (psx_cons (psx_retMv (pv 2)) (psx_nil))))) wp

/-! ### sums -/
abbrev s_sums : Stmt := topS 8
theorem sc_sums : FnScope ["till", "most", "last", "at"] ["till", "most"] (defScope s_sums) := ⟨rfl, rfl, rfl, by decide +kernel, rfl, by decide +kernel, by decide +kernel⟩
def g_sums : GSs := .cons (.asgS 2 (.ix (.call 0 (.cons (.var 0) (.cons (.var 1) (.nil)))) (.len (.var 0)))) (.cons (.ret (.f (.lcf [3] (.i1 (.bin .add (.var 1) (.cst (.int 1)))) (.isn true (.ix (.var 2) (.var 3))) (.var 3)))) (.nil))
abbrev n_sums : List Str := ["till", "most", "last", "at"]
theorem dv_sums {ph_table : List D → Option Out} {ph_sums : List D → Option Out} {f : Addr} {fd : FuncData} (F : Fun K "sums" "sums" s_sums f fd) (gm : mg "sums" = some (.ref f)) (bd : Binds K fd ["till", "most"] []) (bi : Bi mg) (cl : Cls' K mg ca xsL ysL) (c_table : Cal P w K mg base ca "table" ph_table 2)
    (ar : ∀ ds o, ph_sums ds = some o → ds.length = 2) (wp : ∀ ds o, ph_sums ds = some o → wpSs ⟨[ph_table], ca, xsL, none⟩ g_sums (gdOf o) (startE n_sums ds)) :
    Cal P w K mg base ca "sums" ph_sums 3 :=
  fn_data (T := ⟨[ph_table], ca, xsL, none⟩) (g := g_sums) F gm bd sc_sums ar (fun cdv A outer s H E hr => by
    have hu := hr.units
    exact psx_cons (psx_asgS (ps_set (i := 2) sc_sums.nd rfl (by first | exact Or.inl rfl | exact Or.inr rfl) (px_ix (px_call (c_table.at hr) (takes_of rfl rfl rfl rfl) (pax_cons (px_var 0) (pax_cons (px_var 1) (pax_nil)))) (px_len bi (px_var 0))))) (psx_cons (psx_ret (px_rf (pf_lcf (own := [("at", 3)]) (g := (gName 3)) (ts := [3]) rfl sc_sums.nd (pix_range1 bi (px_add (px_var 1) (px_int))) (blkOk_by (own := [("at", 3)]) (N := ["till", "most", "last", "at"]) (sc := defScope s_sums) (by decide +kernel)) rfl (fun _ _ _ _ _ => pg_name (i := 3) sc_sums.nd rfl (by first | exact Or.inl rfl | exact Or.inr rfl)) (fun _ _ _ _ _ => pt_notN (px_ix (px_var 2) (px_var 3))) (fun _ _ _ _ _ => px_var 3)))) (psx_nil))) wp

/-! ### law_cell_at -/
abbrev s_l_cell_at : Stmt := topS 10
theorem sc_l_cell_at : FnScope ["_law_script", "_law_k"] ["_law_script", "_law_k"] (defScope s_l_cell_at) := ⟨rfl, rfl, rfl, by decide +kernel, rfl, by decide +kernel, by decide +kernel⟩
def g_l_cell_at : GSs := .cons (.ifs (.cmp .lt (.var 1) (.len (.var 0))) (.cons (.ret (.im (.ix (.var 0) (.var 1)))) (.nil)) (.nil)) (.cons (.ret (.im (.cst (.int 0)))) (.nil))
abbrev n_l_cell_at : List Str := ["_law_script", "_law_k"]
theorem dv_l_cell_at {ph_l_cell_at : List D → Option Out} {f : Addr} {fd : FuncData} (F : Fun K "_law_cell_at" "_law_cell_at" s_l_cell_at f fd) (gm : mg "_law_cell_at" = some (.ref f)) (bd : Binds K fd ["_law_script", "_law_k"] []) (bi : Bi mg) (cl : Cls' K mg ca xsL ysL)
    (ar : ∀ ds o, ph_l_cell_at ds = some o → ds.length = 2) (wp : ∀ ds o, ph_l_cell_at ds = some o → wpSs ⟨[], ca, xsL, none⟩ g_l_cell_at (gdOf o) (startE n_l_cell_at ds)) :
    Cal P w K mg base ca "_law_cell_at" ph_l_cell_at 1 :=
  fn_data (T := ⟨[], ca, xsL, none⟩) (g := g_l_cell_at) F gm bd sc_l_cell_at ar (fun cdv A outer s H E hr => by
    have hu := hr.units
    exact psx_cons (psx_if (pt_lt (px_var 1) (px_len bi (px_var 0))) (psx_cons (psx_ret (px_r (px_ix (px_var 0) (px_var 1)))) (psx_nil)) (psx_nil)) (psx_cons (psx_ret (px_r (px_int))) (psx_nil))) wp

/-! ### law_whole -/
abbrev s_l_whole : Stmt := topS 11
theorem sc_l_whole : FnScope ["_law_found"] ["_law_found"] (defScope s_l_whole) := ⟨rfl, rfl, rfl, by decide +kernel, rfl, by decide +kernel, by decide +kernel⟩
def g_l_whole : GSs := .cons (.ret (.im (.and (.isi .int (.var 0)) (.not (.isi .bool (.var 0)))))) (.nil)
abbrev n_l_whole : List Str := ["_law_found"]
theorem dv_l_whole {ph_l_whole : List D → Option Out} {f : Addr} {fd : FuncData} (F : Fun K "_law_whole" "_law_whole" s_l_whole f fd) (gm : mg "_law_whole" = some (.ref f)) (bd : Binds K fd ["_law_found"] []) (bi : Bi mg) (cl : Cls' K mg ca xsL ysL)
    (ar : ∀ ds o, ph_l_whole ds = some o → ds.length = 1) (wp : ∀ ds o, ph_l_whole ds = some o → wpSs ⟨[], ca, xsL, none⟩ g_l_whole (gdOf o) (startE n_l_whole ds)) :
    Cal P w K mg base ca "_law_whole" ph_l_whole 1 :=
  fn_data (T := ⟨[], ca, xsL, none⟩) (g := g_l_whole) F gm bd sc_l_whole ar (fun cdv A outer s H E hr => by
    have hu := hr.units
    exact psx_cons (psx_ret (px_r (px_and (px_isInt bi (px_var 0)) (px_one (px_not (px_isBool bi (px_var 0))))))) (psx_nil)) wp

/-! ### law_mixed -/
abbrev s_l_mixed : Stmt := topS 12
theorem sc_l_mixed : FnScope ["_law_cell", "_law_k"] ["_law_cell", "_law_k"] (defScope s_l_mixed) := ⟨rfl, rfl, rfl, by decide +kernel, rfl, by decide +kernel, by decide +kernel⟩
def g_l_mixed : GSs := .cons (.ret (.im (.bin .mod (.bin .mul (.bin .add (.var 0) (.bin .mul (.cst (.int 7919)) (.var 1))) (.cst (.int 48271))) (.cst (.int 2147483647))))) (.nil)
abbrev n_l_mixed : List Str := ["_law_cell", "_law_k"]
theorem dv_l_mixed {ph_l_mixed : List D → Option Out} {f : Addr} {fd : FuncData} (F : Fun K "_law_mixed" "_law_mixed" s_l_mixed f fd) (gm : mg "_law_mixed" = some (.ref f)) (bd : Binds K fd ["_law_cell", "_law_k"] []) (bi : Bi mg) (cl : Cls' K mg ca xsL ysL)
    (ar : ∀ ds o, ph_l_mixed ds = some o → ds.length = 2) (wp : ∀ ds o, ph_l_mixed ds = some o → wpSs ⟨[], ca, xsL, none⟩ g_l_mixed (gdOf o) (startE n_l_mixed ds)) :
    Cal P w K mg base ca "_law_mixed" ph_l_mixed 1 :=
  fn_data (T := ⟨[], ca, xsL, none⟩) (g := g_l_mixed) F gm bd sc_l_mixed ar (fun cdv A outer s H E hr => by
    have hu := hr.units
    exact psx_cons (psx_ret (px_r (px_mod (px_mul (px_add (px_var 0) (px_mul (px_int) (px_var 1))) (px_int)) (px_int)))) (psx_nil)) wp

/-! ### law_value -/
abbrev s_l_value : Stmt := topS 13
theorem sc_l_value : FnScope ["_law_cell", "_law_k", "_law_drawn"] ["_law_cell", "_law_k"] (defScope s_l_value) := ⟨rfl, rfl, rfl, by decide +kernel, rfl, by decide +kernel, by decide +kernel⟩
def g_l_value : GSs := .cons (.asgV 2 (.call 0 (.cons (.var 0) (.cons (.var 1) (.nil))))) (.cons (.ifs (.eq false (.bin .mod (.var 0) (.cst (.int 3))) (.cst (.int 0))) (.cons (.ret (.im (.ix (.f (.lst (.cons (.cst (.int 1)) (.cons (.cst (.int 2)) (.cons (.cst (.int 5)) (.cons (.cst (.int 10)) (.cons (.cst (.int 20)) (.cons (.cst (.int 50)) (.cons (.cst (.int 100)) (.cons (.cst (.int 200)) (.cons (.cst (.int 500)) (.cons (.cst (.int 1000)) (.nil))))))))))))) (.bin .mod (.var 2) (.cst (.int 10)))))) (.nil)) (.nil)) (.cons (.ifs (.eq false (.bin .mod (.var 0) (.cst (.int 3))) (.cst (.int 1))) (.cons (.ret (.im (.bin .add (.cst (.int 1)) (.bin .mod (.var 2) (.cst (.int 30)))))) (.nil)) (.nil)) (.cons (.ret (.im (.bin .add (.cst (.int 1)) (.bin .mod (.var 2) (.cst (.int 1000)))))) (.nil))))
abbrev n_l_value : List Str := ["_law_cell", "_law_k", "_law_drawn"]
theorem dv_l_value {ph_l_mixed : List D → Option Out} {ph_l_value : List D → Option Out} {f : Addr} {fd : FuncData} (F : Fun K "_law_value" "_law_value" s_l_value f fd) (gm : mg "_law_value" = some (.ref f)) (bd : Binds K fd ["_law_cell", "_law_k"] []) (bi : Bi mg) (cl : Cls' K mg ca xsL ysL) (c_l_mixed : Cal P w K mg base ca "_law_mixed" ph_l_mixed 1)
    (ar : ∀ ds o, ph_l_value ds = some o → ds.length = 2) (wp : ∀ ds o, ph_l_value ds = some o → wpSs ⟨[ph_l_mixed], ca, xsL, none⟩ g_l_value (gdOf o) (startE n_l_value ds)) :
    Cal P w K mg base ca "_law_value" ph_l_value 2 :=
  fn_data (T := ⟨[ph_l_mixed], ca, xsL, none⟩) (g := g_l_value) F gm bd sc_l_value ar (fun cdv A outer s H E hr => by
    have hu := hr.units
    exact psx_cons (psx_asgV (ps_set (i := 2) sc_l_value.nd rfl (by first | exact Or.inl rfl | exact Or.inr rfl) (px_call (c_l_mixed.at hr) (takes_of rfl rfl rfl rfl) (pax_cons (px_var 0) (pax_cons (px_var 1) (pax_nil)))))) (psx_cons (psx_if (pt_eq hu (px_mod (px_var 0) (px_int)) (px_int)) (psx_cons (psx_ret (px_r (px_ix (px_f (pf_lst (pax_cons (px_int) (pax_cons (px_int) (pax_cons (px_int) (pax_cons (px_int) (pax_cons (px_int) (pax_cons (px_int) (pax_cons (px_int) (pax_cons (px_int) (pax_cons (px_int) (pax_cons (px_int) (pax_nil))))))))))))) (px_mod (px_var 2) (px_int))))) (psx_nil)) (psx_nil)) (psx_cons (psx_if (pt_eq hu (px_mod (px_var 0) (px_int)) (px_int)) (psx_cons (psx_ret (px_r (px_add (px_int) (px_mod (px_var 2) (px_int))))) (psx_nil)) (psx_nil)) (psx_cons (psx_ret (px_r (px_add (px_int) (px_mod (px_var 2) (px_int))))) (psx_nil))))) wp

/-! ### law_count -/
abbrev s_l_count : Stmt := topS 14
theorem sc_l_count : FnScope ["_law_cell", "_law_k", "_law_drawn"] ["_law_cell", "_law_k"] (defScope s_l_count) := ⟨rfl, rfl, rfl, by decide +kernel, rfl, by decide +kernel, by decide +kernel⟩
def g_l_count : GSs := .cons (.asgV 2 (.call 0 (.cons (.var 0) (.cons (.var 1) (.nil))))) (.cons (.ifs (.eq false (.bin .mod (.bin .div (.var 0) (.cst (.int 3))) (.cst (.int 4))) (.cst (.int 1))) (.cons (.ret (.im (.bin .mod (.var 2) (.cst (.int 61))))) (.nil)) (.nil)) (.cons (.ifs (.eq false (.bin .mod (.bin .div (.var 0) (.cst (.int 3))) (.cst (.int 12))) (.cst (.int 6))) (.cons (.ret (.im (.bin .mul (.bin .mod (.bin .div (.var 2) (.cst (.int 7))) (.cst (.int 2))) (.bin .sub (.cst (.int 1000000000)) (.bin .mod (.var 2) (.cst (.int 50))))))) (.nil)) (.nil)) (.cons (.ret (.im (.bin .mod (.var 2) (.cst (.int 5))))) (.nil))))
abbrev n_l_count : List Str := ["_law_cell", "_law_k", "_law_drawn"]
theorem dv_l_count {ph_l_mixed : List D → Option Out} {ph_l_count : List D → Option Out} {f : Addr} {fd : FuncData} (F : Fun K "_law_count" "_law_count" s_l_count f fd) (gm : mg "_law_count" = some (.ref f)) (bd : Binds K fd ["_law_cell", "_law_k"] []) (bi : Bi mg) (cl : Cls' K mg ca xsL ysL) (c_l_mixed : Cal P w K mg base ca "_law_mixed" ph_l_mixed 1)
    (ar : ∀ ds o, ph_l_count ds = some o → ds.length = 2) (wp : ∀ ds o, ph_l_count ds = some o → wpSs ⟨[ph_l_mixed], ca, xsL, none⟩ g_l_count (gdOf o) (startE n_l_count ds)) :
    Cal P w K mg base ca "_law_count" ph_l_count 2 :=
  fn_data (T := ⟨[ph_l_mixed], ca, xsL, none⟩) (g := g_l_count) F gm bd sc_l_count ar (fun cdv A outer s H E hr => by
    have hu := hr.units
    exact psx_cons (psx_asgV (ps_set (i := 2) sc_l_count.nd rfl (by first | exact Or.inl rfl | exact Or.inr rfl) (px_call (c_l_mixed.at hr) (takes_of rfl rfl rfl rfl) (pax_cons (px_var 0) (pax_cons (px_var 1) (pax_nil)))))) (psx_cons (psx_if (pt_eq hu (px_mod (px_div (px_var 0) (px_int)) (px_int)) (px_int)) (psx_cons (psx_ret (px_r (px_mod (px_var 2) (px_int)))) (psx_nil)) (psx_nil)) (psx_cons (psx_if (pt_eq hu (px_mod (px_div (px_var 0) (px_int)) (px_int)) (px_int)) (psx_cons (psx_ret (px_r (px_mul (px_mod (px_div (px_var 2) (px_int)) (px_int)) (px_sub (px_pow (by unfold CPow; decide) (by decide)) (px_mod (px_var 2) (px_int)))))) (psx_nil)) (psx_nil)) (psx_cons (psx_ret (px_r (px_mod (px_var 2) (px_int)))) (psx_nil))))) wp

/-! ### law_pairs -/
abbrev s_l_pairs : Stmt := topS 15
theorem sc_l_pairs : FnScope ["_law_script", "_law_cell", "_law_many", "_law_found", "_law_seen", "_law_k", "_law_value_here"] ["_law_script"] (defScope s_l_pairs) := ⟨rfl, rfl, rfl, by decide +kernel, rfl, by decide +kernel, by decide +kernel⟩
def g_l_pairs : GSs := .cons (.asgV 1 (.call 0 (.cons (.var 0) (.cons (.cst (.int 0)) (.nil))))) (.cons (.asgV 2 (.bin .add (.cst (.int 1)) (.bin .mod (.var 1) (.cst (.int 5))))) (.cons (.ifs (.eq false (.bin .mod (.bin .div (.var 1) (.cst (.int 5))) (.cst (.int 8))) (.cst (.int 1))) (.cons (.asgV 2 (.bin .add (.cst (.int 6)) (.bin .mod (.bin .div (.var 1) (.cst (.int 40))) (.cst (.int 5))))) (.nil)) (.nil)) (.cons (.asgF 3 (.lst (.nil))) (.cons (.asgD 4) (.cons (.for_ [5, 6] [5] (.i1 (.var 2)) (.cons (.asgV 6 (.call 1 (.cons (.call 0 (.cons (.var 0) (.cons (.cst (.int 1)) (.nil)))) (.cons (.bin .add (.var 5) (.cst (.int 1))) (.nil))))) (.cons (.whl [] (.ind false (.var 6) 4) (.cons (.asgV 6 (.bin .add (.bin .mod (.var 6) (.cst (.int 1000))) (.cst (.int 1)))) (.nil))) (.cons (.dset 4 (.var 6) (.cst (.bool true))) (.cons (.appV 3 (.tup (.cons (.var 6) (.cons (.call 2 (.cons (.call 0 (.cons (.var 0) (.cons (.cst (.int 2)) (.nil)))) (.cons (.bin .add (.var 5) (.cst (.int 1))) (.nil)))) (.nil))))) (.nil)))))) (.cons (.retMv 3) (.nil)))))))
abbrev n_l_pairs : List Str := ["_law_script", "_law_cell", "_law_many", "_law_found", "_law_seen", "_law_k", "_law_value_here"]
theorem dv_l_pairs {ph_l_cell_at : List D → Option Out} {ph_l_value : List D → Option Out} {ph_l_count : List D → Option Out} {ph_l_pairs : List D → Option Out} {f : Addr} {fd : FuncData} (F : Fun K "_law_pairs" "_law_pairs" s_l_pairs f fd) (gm : mg "_law_pairs" = some (.ref f)) (bd : Binds K fd ["_law_script"] []) (bi : Bi mg) (cl : Cls' K mg ca xsL ysL) (c_l_cell_at : Cal P w K mg base ca "_law_cell_at" ph_l_cell_at 1) (c_l_value : Cal P w K mg base ca "_law_value" ph_l_value 2) (c_l_count : Cal P w K mg base ca "_law_count" ph_l_count 2)
    (ar : ∀ ds o, ph_l_pairs ds = some o → ds.length = 1) (wp : ∀ ds o, ph_l_pairs ds = some o → wpSs ⟨[ph_l_cell_at, ph_l_value, ph_l_count], ca, xsL, none⟩ g_l_pairs (gdOf o) (startE n_l_pairs ds)) :
    Cal P w K mg base ca "_law_pairs" ph_l_pairs 3 :=
  fn_data (T := ⟨[ph_l_cell_at, ph_l_value, ph_l_count], ca, xsL, none⟩) (g := g_l_pairs) F gm bd sc_l_pairs ar (fun cdv A outer s H E hr => by
    have hu := hr.units
    exact psx_cons (psx_asgV (ps_set (i := 1) sc_l_pairs.nd rfl (by first | exact Or.inl rfl | exact Or.inr rfl) (px_call (c_l_cell_at.at hr) (takes_of rfl rfl rfl rfl) (pax_cons (px_var 0) (pax_cons (px_int) (pax_nil)))))) (psx_cons (psx_asgV (ps_set (i := 2) sc_l_pairs.nd rfl (by first | exact Or.inl rfl | exact Or.inr rfl) (px_add (px_int) (px_mod (px_var 1) (px_int))))) (psx_cons (psx_if (pt_eq hu (px_mod (px_div (px_var 1) (px_int)) (px_int)) (px_int)) (psx_cons (psx_asgV (ps_set (i := 2) sc_l_pairs.nd rfl (by first | exact Or.inl rfl | exact Or.inr rfl) (px_add (px_int) (px_mod (px_div (px_var 1) (px_int)) (px_int))))) (psx_nil)) (psx_nil)) (psx_cons (psx_asgF (ps_set (i := 3) sc_l_pairs.nd rfl (by first | exact Or.inl rfl | exact Or.inr rfl) (pf_lst (pax_nil)))) (psx_cons (psx_asgD (ps_set (i := 4) sc_l_pairs.nd rfl (by first | exact Or.inl rfl | exact Or.inr rfl) (pe_dnewK))) (psx_cons (psx_for (ws := [5, 6]) (ts := [5]) (gx := (gName 5)) (passes_of rfl) rfl (pix_range1 bi (px_var 2)) (pg_name (i := 5) sc_l_pairs.nd rfl (by first | exact Or.inl rfl | exact Or.inr rfl)) (psx_cons (psx_asgV (ps_set (i := 6) sc_l_pairs.nd rfl (by first | exact Or.inl rfl | exact Or.inr rfl) (px_call (c_l_value.at hr) (takes_of rfl rfl rfl rfl) (pax_cons (px_call (c_l_cell_at.at hr) (takes_of rfl rfl rfl rfl) (pax_cons (px_var 0) (pax_cons (px_int) (pax_nil)))) (pax_cons (px_add (px_var 5) (px_int)) (pax_nil)))))) (psx_cons (psx_while (ws := []) (passes_of rfl) (pt_ind hu (px_var 6) (pv 4)) (psx_cons (psx_asgV (ps_set (i := 6) sc_l_pairs.nd rfl (by first | exact Or.inl rfl | exact Or.inr rfl) (px_add (px_mod (px_var 6) (px_int)) (px_int)))) (psx_nil))) (psx_cons (psx_dset (ps_dput (Nat.lt_of_le_of_lt (Nat.add_le_add_left (by decide) _) hu) (pv 4) (px_var 6) (px_bl) (by rfl))) (psx_cons (psx_appV (ps_expr (pe_bm PySem.F.plainAttrs_list PySem.F.slot_list_append PySem.F.type_list_append mt_append (pv 3) (pa_cons (px_tup (pax_cons (px_var 6) (pax_cons (px_call (c_l_count.at hr) (takes_of rfl rfl rfl rfl) (pax_cons (px_call (c_l_cell_at.at hr) (takes_of rfl rfl rfl rfl) (pax_cons (px_var 0) (pax_cons (px_int) (pax_nil)))) (pax_cons (px_add (px_var 5) (px_int)) (pax_nil)))) (pax_nil)))) pa_nil)))) (psx_nil)))))) (psx_cons (psx_retMv (pv 3)) (psx_nil)))))))) wp

/-! ### law_most -/
abbrev s_l_most : Stmt := topS 16
theorem sc_l_most : FnScope ["_law_cell", "_law_many"] ["_law_cell", "_law_many"] (defScope s_l_most) := ⟨rfl, rfl, rfl, by decide +kernel, rfl, by decide +kernel, by decide +kernel⟩
def g_l_most : GSs := .cons (.ifs (.or (.and (.eq false (.bin .mod (.bin .div (.var 0) (.cst (.int 5))) (.cst (.int 6))) (.cst (.int 1))) (.cmp .lt (.var 1) (.cst (.int 4)))) (.eq false (.bin .mod (.bin .div (.var 0) (.cst (.int 5))) (.cst (.int 18))) (.cst (.int 2)))) (.cons (.ret (.im (.bin .mod (.bin .div (.var 0) (.cst (.int 90))) (.cst (.int 1001))))) (.nil)) (.nil)) (.cons (.ifs (.eq false (.bin .mod (.var 0) (.cst (.int 5))) (.cst (.int 1))) (.cons (.ret (.im (.bin .mod (.bin .div (.var 0) (.cst (.int 5))) (.cst (.int 200))))) (.nil)) (.nil)) (.cons (.ret (.im (.bin .mod (.bin .div (.var 0) (.cst (.int 5))) (.cst (.int 60))))) (.nil)))
abbrev n_l_most : List Str := ["_law_cell", "_law_many"]
theorem dv_l_most {ph_l_most : List D → Option Out} {f : Addr} {fd : FuncData} (F : Fun K "_law_most" "_law_most" s_l_most f fd) (gm : mg "_law_most" = some (.ref f)) (bd : Binds K fd ["_law_cell", "_law_many"] []) (bi : Bi mg) (cl : Cls' K mg ca xsL ysL)
    (ar : ∀ ds o, ph_l_most ds = some o → ds.length = 2) (wp : ∀ ds o, ph_l_most ds = some o → wpSs ⟨[], ca, xsL, none⟩ g_l_most (gdOf o) (startE n_l_most ds)) :
    Cal P w K mg base ca "_law_most" ph_l_most 1 :=
  fn_data (T := ⟨[], ca, xsL, none⟩) (g := g_l_most) F gm bd sc_l_most ar (fun cdv A outer s H E hr => by
    have hu := hr.units
    exact psx_cons (psx_if (PW.pt (pw_o (PW.pt (pw_a (pt_eq hu (px_mod (px_div (px_var 0) (px_int)) (px_int)) (px_int)) (pw_a1 (pt_lt (px_var 1) (px_int))))) (pw_o1 (pt_eq hu (px_mod (px_div (px_var 0) (px_int)) (px_int)) (px_int))))) (psx_cons (psx_ret (px_r (px_mod (px_div (px_var 0) (px_int)) (px_int)))) (psx_nil)) (psx_nil)) (psx_cons (psx_if (pt_eq hu (px_mod (px_var 0) (px_int)) (px_int)) (psx_cons (psx_ret (px_r (px_mod (px_div (px_var 0) (px_int)) (px_int)))) (psx_nil)) (psx_nil)) (psx_cons (psx_ret (px_r (px_mod (px_div (px_var 0) (px_int)) (px_int)))) (psx_nil)))) wp

/-! ### law_more -/
abbrev s_l_more : Stmt := topS 17
theorem sc_l_more : FnScope ["_law_made", "_law_value_here", "_law_count_here", "_law_most_here", "_law_used", "_law_at"] ["_law_made", "_law_value_here", "_law_count_here", "_law_most_here"] (defScope s_l_more) := ⟨rfl, rfl, rfl, by decide +kernel, rfl, by decide +kernel, by decide +kernel⟩
def g_l_more : GSs := .cons (.asgF 4 (.rep (.cst (.int 0)) (.bin .add (.var 3) (.cst (.int 1))))) (.cons (.for_ [5] [5] (.i2 (.var 1) (.bin .add (.var 3) (.cst (.int 1)))) (.cons (.ifs (.and (.not (.ix (.var 0) (.var 5))) (.and (.ix (.var 0) (.bin .sub (.var 5) (.var 1))) (.cmp .lt (.ix (.var 4) (.bin .sub (.var 5) (.var 1))) (.var 2)))) (.cons (.setP 0 (.var 5) (.cst (.bool true))) (.cons (.setI 4 (.var 5) (.bin .add (.ix (.var 4) (.bin .sub (.var 5) (.var 1))) (.cst (.int 1)))) (.nil))) (.nil)) (.nil))) (.nil))
abbrev n_l_more : List Str := ["_law_made", "_law_value_here", "_law_count_here", "_law_most_here", "_law_used", "_law_at"]
theorem dv_l_more {ph_l_more : List D → Option Out} {f : Addr} {fd : FuncData} (F : Fun K "_law_more" "_law_more" s_l_more f fd) (gm : mg "_law_more" = some (.ref f)) (bd : Binds K fd ["_law_made", "_law_value_here", "_law_count_here", "_law_most_here"] []) (bi : Bi mg) (cl : Cls' K mg ca xsL ysL)
    (ar : ∀ ds o, ph_l_more ds = some o → ds.length = 4) (wp : ∀ c ds q c' x, ph_l_more (c.enc :: ds) = some (.mu q c' x) → ∀ p, wpSs ⟨[], ca, xsL, none⟩ g_l_more (gdM p c' x) (startM n_l_more p c ds)) :
    CalM P w K mg base ca "_law_more" ph_l_more 1 :=
  fn_dataM (T := ⟨[], ca, xsL, none⟩) (g := g_l_more) F gm bd sc_l_more ar (by decide) (fun cdv A outer s H E hr => by
    have hu := hr.units
    exact psx_cons (psx_asgF (ps_set (i := 4) sc_l_more.nd rfl (by first | exact Or.inl rfl | exact Or.inr rfl) (pf_rep (px_int) (px_add (px_var 3) (px_int))))) (psx_cons (psx_for (ws := [5]) (ts := [5]) (gx := (gName 5)) (passes_of rfl) rfl (pix_range2 bi (px_var 1) (px_add (px_var 3) (px_int))) (pg_name (i := 5) sc_l_more.nd rfl (by first | exact Or.inl rfl | exact Or.inr rfl)) (psx_cons (psx_if (PW.pt (pw_a (pt_n (pt_v (px_ix (px_var 0) (px_var 5)))) (pw_a (pt_v (px_ix (px_var 0) (px_sub (px_var 5) (px_var 1)))) (pw_a1 (pt_lt (px_ix (px_var 4) (px_sub (px_var 5) (px_var 1))) (px_var 2)))))) (psx_cons (psx_setP (ps_asg (px_bl) (pg_sub (pv 0) (px_var 5) set_list))) (psx_cons (psx_setI (ps_asg (px_add (px_ix (px_var 4) (px_sub (px_var 5) (px_var 1))) (px_int)) (pg_sub (pv 4) (px_var 5) set_list))) (psx_nil))) (psx_nil)) (psx_nil))) (psx_nil))) wp

/-! ### law_refused -/
abbrev s_l_refused : Stmt := topS 18
theorem sc_l_refused : FnScope ["_law_till", "_law_most_here"] ["_law_till", "_law_most_here"] (defScope s_l_refused) := ⟨rfl, rfl, rfl, by decide +kernel, rfl, by decide +kernel, by decide +kernel⟩
def g_l_refused : GSs := .cons (.try_ (.cons (.expr (.call 0 (.cons (.var 0) (.cons (.var 1) (.nil))))) (.nil)) (.cons 5 (.cons (.ret (.im (.cst (.bool true)))) (.nil)) (.nil))) (.cons (.ret (.im (.cst (.bool false)))) (.nil))
abbrev n_l_refused : List Str := ["_law_till", "_law_most_here"]
theorem dv_l_refused {ph_sums : List D → Option Out} {ph_l_refused : List D → Option Out} {f : Addr} {fd : FuncData} (F : Fun K "_law_refused" "_law_refused" s_l_refused f fd) (gm : mg "_law_refused" = some (.ref f)) (bd : Binds K fd ["_law_till", "_law_most_here"] []) (bi : Bi mg) (cl : Cls' K mg ca xsL ysL) (c_sums : Cal P w K mg base ca "sums" ph_sums 3)
    (ar : ∀ ds o, ph_l_refused ds = some o → ds.length = 2) (wp : ∀ ds o, ph_l_refused ds = some o → wpSs ⟨[ph_sums], ca, xsL, none⟩ g_l_refused (gdOf o) (startE n_l_refused ds)) :
    Cal P w K mg base ca "_law_refused" ph_l_refused 4 :=
  fn_data (T := ⟨[ph_sums], ca, xsL, none⟩) (g := g_l_refused) F gm bd sc_l_refused ar (fun cdv A outer s H E hr => by
    have hu := hr.units
    exact psx_cons (psx_try cl (takes_of rfl rfl rfl rfl) (fun W pn xe tk' ow' => psx_cons (psx_expr (px_call (c_sums.at hr) tk' (pax_cons (px_var 0) (pax_cons (px_var 1) (pax_nil))))) (psx_nil)) (hdx_cons (y := 5) cl (fun ad oe pn => psx_cons (psx_ret (px_r (px_bl))) (psx_nil)) (hdx_nil))) (psx_cons (psx_ret (px_r (px_bl))) (psx_nil))) wp

/-! ### law_within -/
abbrev s_l_within : Stmt := topS 19
theorem sc_l_within : FnScope ["_law_till", "_law_most_here", "_law_pair"] ["_law_till", "_law_most_here"] (defScope s_l_within) := ⟨rfl, rfl, rfl, by decide +kernel, rfl, by decide +kernel, by decide +kernel⟩
def g_l_within : GSs := .cons (.whl [] (.cmp .gt (.sum (.f (.lc [2] (.il (.var 0)) (.mn (.bin .mul (.ix (.var 2) (.cst (.int 1))) (.var 1)) (.bin .div (.bin .mul (.var 1) (.var 1)) (.bin .mul (.cst (.int 2)) (.ix (.var 2) (.cst (.int 0))))))))) (.cst (.int 40000))) (.cons (.asgV 1 (.bin .div (.var 1) (.cst (.int 2)))) (.nil))) (.cons (.ret (.im (.var 1))) (.nil))
abbrev n_l_within : List Str := ["_law_till", "_law_most_here", "_law_pair"]
theorem dv_l_within {ph_l_within : List D → Option Out} {f : Addr} {fd : FuncData} (F : Fun K "_law_within" "_law_within" s_l_within f fd) (gm : mg "_law_within" = some (.ref f)) (bd : Binds K fd ["_law_till", "_law_most_here"] []) (bi : Bi mg) (cl : Cls' K mg ca xsL ysL)
    (ar : ∀ ds o, ph_l_within ds = some o → ds.length = 2) (wp : ∀ ds o, ph_l_within ds = some o → wpSs ⟨[], ca, xsL, none⟩ g_l_within (gdOf o) (startE n_l_within ds)) :
    Cal P w K mg base ca "_law_within" ph_l_within 1 :=
  fn_data (T := ⟨[], ca, xsL, none⟩) (g := g_l_within) F gm bd sc_l_within ar (fun cdv A outer s H E hr => by
    have hu := hr.units
    exact psx_cons (psx_while (ws := []) (passes_of rfl) (pt_gt (px_sum bi rfl (px_f (pf_lc (own := [("_law_pair", 2)]) (g := (gName 2)) (ts := [2]) rfl sc_l_within.nd (pix_list (px_var 0)) (blkOk_by (own := [("_law_pair", 2)]) (N := ["_law_till", "_law_most_here", "_law_pair"]) (sc := defScope s_l_within) (by decide +kernel)) rfl (fun _ _ _ _ _ => pg_name (i := 2) sc_l_within.nd rfl (by first | exact Or.inl rfl | exact Or.inr rfl)) (fun _ _ _ _ _ => px_mn bi rfl (px_mul (px_ix (px_var 2) (px_int)) (px_var 1)) (px_div (px_mul (px_var 1) (px_var 1)) (px_mul (px_int) (px_ix (px_var 2) (px_int)))))))) (px_int)) (psx_cons (psx_asgV (ps_set (i := 1) sc_l_within.nd rfl (by first | exact Or.inl rfl | exact Or.inr rfl) (px_div (px_var 1) (px_int)))) (psx_nil))) (psx_cons (psx_ret (px_r (px_var 1))) (psx_nil))) wp

/-! ### law -/
abbrev s_law : Stmt := topS 20
theorem sc_law : FnScope ["_law_script", "_law_till", "_law_handed", "_law_cell", "_law_most_here", "_law_made", "_law_pair", "_law_due", "_law_at", "_law_found"] ["_law_script"] (defScope s_law) := ⟨rfl, rfl, rfl, by decide +kernel, rfl, by decide +kernel, by decide +kernel⟩
def g_law : GSs := .cons (.asgS 1 (.f (.srt (.call 3 (.cons (.var 0) (.nil)))))) (.cons (.asgS 2 (.f (.lof (.var 1)))) (.cons (.asgV 3 (.call 0 (.cons (.var 0) (.cons (.cst (.int 3)) (.nil))))) (.cons (.ifs (.eq false (.bin .mod (.call 0 (.cons (.var 0) (.cons (.cst (.int 4)) (.nil)))) (.cst (.int 8))) (.cst (.int 1))) (.cons (.asgV 4 (.ix (.f (.lst (.cons (.cst (.int (-1))) (.cons (.cst (.int 1001)) (.cons (.bin .sub (.cst (.int (-2))) (.bin .mod (.var 3) (.cst (.int 1000000000)))) (.cons (.bin .add (.cst (.int 1002)) (.bin .mod (.var 3) (.cst (.int 1000000000)))) (.nil))))))) (.bin .mod (.bin .div (.call 0 (.cons (.var 0) (.cons (.cst (.int 4)) (.nil)))) (.cst (.int 8))) (.cst (.int 4))))) (.cons (.ret (.im (.and (.call 6 (.cons (.var 2) (.cons (.var 4) (.nil)))) (.eq false (.var 2) (.var 1))))) (.nil))) (.nil)) (.cons (.asgV 4 (.call 1 (.cons (.var 1) (.cons (.call 4 (.cons (.var 3) (.cons (.len (.var 1)) (.nil)))) (.nil))))) (.cons (.asgF 5 (.cat (.f (.lst (.cons (.cst (.bool true)) (.nil)))) (.f (.rep (.cst (.bool false)) (.var 4))))) (.cons (.for_ [6] [6] (.il (.var 1)) (.cons (.callM none 5 5 (.cons (.ix (.var 6) (.cst (.int 0))) (.cons (.ix (.var 6) (.cst (.int 1))) (.cons (.var 4) (.nil))))) (.nil))) (.cons (.asgF 7 (.lcf [8] (.i1 (.bin .add (.var 4) (.cst (.int 1)))) (.ix (.var 5) (.var 8)) (.var 8))) (.cons (.tmpApp (.call 2 (.cons (.var 2) (.cons (.var 4) (.nil)))) (.cst (.int (-1)))) (.cons (.asgS 9 (.call 2 (.cons (.var 2) (.cons (.var 4) (.nil))))) (.cons (.ifs (.or (.not (.isi .list (.var 9))) (.or (.eq true (.var 9) (.var 7)) (.eq true (.var 2) (.var 1)))) (.cons (.ret (.im (.cst (.bool false)))) (.nil)) (.nil)) (.cons (.for_ [8] [8] (.il (.var 9)) (.cons (.ifs (.not (.call 7 (.cons (.var 8) (.nil)))) (.cons (.ret (.im (.cst (.bool false)))) (.nil)) (.nil)) (.nil))) (.cons (.ret (.im (.cst (.bool true)))) (.nil)))))))))))))
abbrev n_law : List Str := ["_law_script", "_law_till", "_law_handed", "_law_cell", "_law_most_here", "_law_made", "_law_pair", "_law_due", "_law_at", "_law_found"]
theorem dv_law {ph_l_cell_at : List D → Option Out} {ph_l_within : List D → Option Out} {ph_sums : List D → Option Out} {ph_l_pairs : List D → Option Out} {ph_l_most : List D → Option Out} {ph_l_more : List D → Option Out} {ph_l_refused : List D → Option Out} {ph_l_whole : List D → Option Out} {ph_law : List D → Option Out} {f : Addr} {fd : FuncData} (F : Fun K "law" "law" s_law f fd) (bi : Bi mg) (cl : Cls' K mg ca xsL ysL) (c_l_cell_at : Cal P w K mg base ca "_law_cell_at" ph_l_cell_at 1) (c_l_within : Cal P w K mg base ca "_law_within" ph_l_within 1) (c_sums : Cal P w K mg base ca "sums" ph_sums 3) (c_l_pairs : Cal P w K mg base ca "_law_pairs" ph_l_pairs 3) (c_l_most : Cal P w K mg base ca "_law_most" ph_l_most 1) (c_l_more : CalM P w K mg base ca "_law_more" ph_l_more 1) (c_l_refused : Cal P w K mg base ca "_law_refused" ph_l_refused 4) (c_l_whole : Cal P w K mg base ca "_law_whole" ph_l_whole 1)
    (ar : ∀ ds o, ph_law ds = some o → ds.length = 1) (wp : ∀ ds o, ph_law ds = some o → wpSs ⟨[ph_l_cell_at, ph_l_within, ph_sums, ph_l_pairs, ph_l_most, ph_l_more, ph_l_refused, ph_l_whole], ca, xsL, none⟩ g_law (gdOf o) (startE n_law ds)) :
    FnOk P w K mg base (L2.CX P w) 5 f fd ["_law_script"] (spOf ca ph_law) :=
  fn_dataF (T := ⟨[ph_l_cell_at, ph_l_within, ph_sums, ph_l_pairs, ph_l_most, ph_l_more, ph_l_refused, ph_l_whole], ca, xsL, none⟩) (g := g_law) F sc_law ar (fun cdv A outer s H E hr => by
    have hu := hr.units
    exact psx_cons (psx_asgS (ps_set (i := 1) sc_law.nd rfl (by first | exact Or.inl rfl | exact Or.inr rfl) (px_f (pf_srt bi (px_call (c_l_pairs.at hr) (takes_of rfl rfl rfl rfl) (pax_cons (px_var 0) (pax_nil))))))) (psx_cons (psx_asgS (ps_set (i := 2) sc_law.nd rfl (by first | exact Or.inl rfl | exact Or.inr rfl) (px_f (pf_lof bi (px_var 1))))) (psx_cons (psx_asgV (ps_set (i := 3) sc_law.nd rfl (by first | exact Or.inl rfl | exact Or.inr rfl) (px_call (c_l_cell_at.at hr) (takes_of rfl rfl rfl rfl) (pax_cons (px_var 0) (pax_cons (px_int) (pax_nil)))))) (psx_cons (psx_if (pt_eq hu (px_mod (px_call (c_l_cell_at.at hr) (takes_of rfl rfl rfl rfl) (pax_cons (px_var 0) (pax_cons (px_int) (pax_nil)))) (px_int)) (px_int)) (psx_cons (psx_asgV (ps_set (i := 4) sc_law.nd rfl (by first | exact Or.inl rfl | exact Or.inr rfl) (px_ix (px_f (pf_lst (pax_cons (px_negc (by decide)) (pax_cons (px_int) (pax_cons (px_sub (px_negc (by decide)) (px_mod (px_var 3) (px_pow (by unfold CPow; decide) (by decide)))) (pax_cons (px_add (px_int) (px_mod (px_var 3) (px_pow (by unfold CPow; decide) (by decide)))) (pax_nil))))))) (px_mod (px_div (px_call (c_l_cell_at.at hr) (takes_of rfl rfl rfl rfl) (pax_cons (px_var 0) (pax_cons (px_int) (pax_nil)))) (px_int)) (px_int))))) (psx_cons (psx_ret (px_r (px_and (px_call (c_l_refused.at hr) (takes_of rfl rfl rfl rfl) (pax_cons (px_var 2) (pax_cons (px_var 4) (pax_nil)))) (px_one (px_eq hu (px_var 2) (px_var 1)))))) (psx_nil))) (psx_nil)) (psx_cons (psx_asgV (ps_set (i := 4) sc_law.nd rfl (by first | exact Or.inl rfl | exact Or.inr rfl) (px_call (c_l_within.at hr) (takes_of rfl rfl rfl rfl) (pax_cons (px_var 1) (pax_cons (px_call (c_l_most.at hr) (takes_of rfl rfl rfl rfl) (pax_cons (px_var 3) (pax_cons (px_len bi (px_var 1)) (pax_nil)))) (pax_nil)))))) (psx_cons (psx_asgF (ps_set (i := 5) sc_law.nd rfl (by first | exact Or.inl rfl | exact Or.inr rfl) (pf_cat (px_f (pf_lst (pax_cons (px_bl) (pax_nil)))) (px_f (pf_rep (px_bl) (px_var 4)))))) (psx_cons (psx_for (ws := [6]) (ts := [6]) (gx := (gName 6)) (passes_of rfl) rfl (pix_list (px_var 1)) (pg_name (i := 6) sc_law.nd rfl (by first | exact Or.inl rfl | exact Or.inr rfl)) (psx_cons (psx_callM (px_callM (i := 5) (c_l_more.at hr) (takes_of rfl rfl rfl rfl) (pam (pv 5) (pax_cons (px_ix (px_var 6) (px_int)) (pax_cons (px_ix (px_var 6) (px_int)) (pax_cons (px_var 4) (pax_nil))))))) (psx_nil))) (psx_cons (psx_asgF ((ps_setLc (i := 7) (own := [("_law_at", 8)]) (g := (gName 8)) rfl sc_law.nd rfl rfl (sw_true rfl rfl rfl (by decide +kernel)) (pix_range1 bi (px_add (px_var 4) (px_int))) (blkOk_by (own := [("_law_at", 8)]) (N := ["_law_script", "_law_till", "_law_handed", "_law_cell", "_law_most_here", "_law_made", "_law_pair", "_law_due", "_law_at", "_law_found"]) (sc := defScope s_law) (by decide +kernel)) (fun _ _ _ _ _ => pg_name (i := 8) sc_law.nd rfl (by first | exact Or.inl rfl | exact Or.inr rfl)) (fun _ _ _ _ _ => pts_one (pt_v (px_ix (px_var 5) (px_var 8)))) (fun _ _ _ _ _ => px_var 8)).imp fun De σ H q => lcf_imp (ts := [8]) σ H _ q)) (psx_cons (psx_tmpApp (ps_expr (pe_bm PySem.F.plainAttrs_list PySem.F.slot_list_append PySem.F.type_list_append mt_append (px_rcall (c_sums.at hr) (takes_of rfl rfl rfl rfl) (pax_cons (px_var 2) (pax_cons (px_var 4) (pax_nil)))) (pa_cons (px_negc (by decide)) pa_nil)))) (psx_cons (psx_asgS (ps_set (i := 9) sc_law.nd rfl (by first | exact Or.inl rfl | exact Or.inr rfl) (px_call (c_sums.at hr) (takes_of rfl rfl rfl rfl) (pax_cons (px_var 2) (pax_cons (px_var 4) (pax_nil)))))) (psx_cons (psx_if (PW.pt (pw_o (pt_n (pt_v (px_isList bi (px_var 9)))) (pw_o (pt_ne hu (px_var 9) (px_var 7)) (pw_o1 (pt_ne hu (px_var 2) (px_var 1)))))) (psx_cons (psx_ret (px_r (px_bl))) (psx_nil)) (psx_nil)) (psx_cons (psx_for (ws := [8]) (ts := [8]) (gx := (gName 8)) (passes_of rfl) rfl (pix_list (px_var 9)) (pg_name (i := 8) sc_law.nd rfl (by first | exact Or.inl rfl | exact Or.inr rfl)) (psx_cons (psx_if (pt_n (pt_v (px_call (c_l_whole.at hr) (takes_of rfl rfl rfl rfl) (pax_cons (px_var 8) (pax_nil))))) (psx_cons (psx_ret (px_r (px_bl))) (psx_nil)) (psx_nil)) (psx_nil))) (psx_cons (psx_ret (px_r (px_bl))) (psx_nil)))))))))))))) wp

end
end TL

namespace TL
open PySem PySem.Spec PyProof.Rows L2 TD
def cell (ns : List Int) (k : Int) : Int := if k < ns.length then ns.getD k.toNat 0 else 0
def ph_l_cell_at : List D → Option Out
  | [.list ds, .int k] => if 0 ≤ k then (decI ds).map fun ns => oI (cell ns k) else none
  | _ => none
theorem v_cell_at {ns : List Int} {k : Int} (h : 0 ≤ k) : ph_l_cell_at [.list (ns.map .int), .int k] = some (oI (cell ns k)) := by
  simp only [ph_l_cell_at, h, if_true, decI_map, Option.map_some]
theorem ar_l_cell_at : ∀ ds o, ph_l_cell_at ds = some o → ds.length = 2 := by
  intro ds o h
  unfold ph_l_cell_at at h
  split at h
  · rfl
  · cases h
theorem wp_l_cell_at {ca : Nat → Addr} {xs : List Nat} : ∀ ds o, ph_l_cell_at ds = some o → wpSs ⟨[], ca, xs, none⟩ g_l_cell_at (gdOf o) (startE n_l_cell_at ds) := by
  intro ds o h
  unfold ph_l_cell_at at h
  split at h
  · rename_i ds k
    split at h
    · rename_i hk
      obtain ⟨ns, e, rfl⟩ := mapO h
      cases decI_sound e
      simp [g_l_cell_at, startE, n_l_cell_at, cell]
      refine ⟨fun h => ?_, fun h h2 => absurd h2 (by omega)⟩
      rw [ix_l (v := .int (ns.getD k.toNat 0)) hk (by rw [List.getElem?_map, List.getElem?_eq_getElem (by omega), List.getD_eq_getElem?_getD, List.getElem?_eq_getElem (by omega)]; rfl)]
      simp [h]
    · cases h
  · cases h
def ph_l_whole : List D → Option Out
  | [d] => some (oB (isiD .int d && !isiD .bool d))
  | _ => none
theorem ar_l_whole : ∀ ds o, ph_l_whole ds = some o → ds.length = 1 := by
  intro ds o h
  unfold ph_l_whole at h
  split at h
  · rfl
  · cases h
theorem wp_l_whole {ca : Nat → Addr} {xs : List Nat} : ∀ ds o, ph_l_whole ds = some o → wpSs ⟨[], ca, xs, none⟩ g_l_whole (gdOf o) (startE n_l_whole ds) := by
  intro ds o h
  unfold ph_l_whole at h
  split at h
  · cases h
    simp [g_l_whole, startE, n_l_whole]
  · cases h
def mixed (c k : Int) : Int := (c + 7919 * k) * 48271 % 2147483647
def ph_l_mixed : List D → Option Out
  | [.int c, .int k] => some (oI (mixed c k))
  | _ => none
theorem ar_l_mixed : ∀ ds o, ph_l_mixed ds = some o → ds.length = 2 := by
  intro ds o h
  unfold ph_l_mixed at h
  split at h
  · rfl
  · cases h
theorem wp_l_mixed {ca : Nat → Addr} {xs : List Nat} : ∀ ds o, ph_l_mixed ds = some o → wpSs ⟨[], ca, xs, none⟩ g_l_mixed (gdOf o) (startE n_l_mixed ds) := by
  intro ds o h
  unfold ph_l_mixed at h
  split at h
  · cases h
    simp [g_l_mixed, startE, n_l_mixed, bop_mul, bop_mod, mulOk_l, mulOk_r, mixed]
  · cases h
theorem mixed_nn (c k : Int) : 0 ≤ mixed c k := Int.emod_nonneg _ (by decide)
def coins : List Int := [1, 2, 5, 10, 20, 50, 100, 200, 500, 1000]
theorem coins_at (m : Int) : ∃ v, coins[(m % 10).toNat]? = some v ∧ coins.getD (m % 10).toNat 0 = v ∧ 1 ≤ v ∧ v ≤ 1000 := by
  have h1 : 0 ≤ m % 10 := Int.emod_nonneg _ (by decide)
  have h2 : m % 10 < 10 := Int.emod_lt_of_pos _ (by decide)
  have h3 : (m % 10).toNat < 10 := by omega
  generalize (m % 10).toNat = j at h3
  match j, h3 with
  | 0, _ | 1, _ | 2, _ | 3, _ | 4, _ | 5, _ | 6, _ | 7, _ | 8, _ | 9, _ => exact ⟨_, rfl, rfl, by decide, by decide⟩
def valueOf (c k : Int) : Int := if c % 3 = 0 then coins.getD (mixed c k % 10).toNat 0 else if c % 3 = 1 then 1 + mixed c k % 30 else 1 + mixed c k % 1000
theorem value_in (c k : Int) : 1 ≤ valueOf c k ∧ valueOf c k ≤ 1000 := by
  unfold valueOf
  split
  · obtain ⟨v, _, e, h1, h2⟩ := coins_at (mixed c k)
    rw [e]
    exact ⟨h1, h2⟩
  · split
    · have h1 : 0 ≤ mixed c k % 30 := Int.emod_nonneg _ (by decide)
      have h2 : mixed c k % 30 < 30 := Int.emod_lt_of_pos _ (by decide)
      omega
    · have h1 : 0 ≤ mixed c k % 1000 := Int.emod_nonneg _ (by decide)
      have h2 : mixed c k % 1000 < 1000 := Int.emod_lt_of_pos _ (by decide)
      omega
theorem value_inK (c : Int) (k : Nat) (_ : k ≤ 10) : 1 ≤ valueOf c (k + 1) ∧ valueOf c (k + 1) ≤ 1000 := value_in c (k + 1)
def ph_l_value : List D → Option Out
  | [.int c, .int k] => some (oI (valueOf c k))
  | _ => none
theorem ar_l_value : ∀ ds o, ph_l_value ds = some o → ds.length = 2 := by
  intro ds o h
  unfold ph_l_value at h
  split at h
  · rfl
  · cases h
theorem wp_l_value {ca : Nat → Addr} {xs : List Nat} : ∀ ds o, ph_l_value ds = some o → wpSs ⟨[ph_l_mixed], ca, xs, none⟩ g_l_value (gdOf o) (startE n_l_value ds) := by
  intro ds o h
  unfold ph_l_value at h
  split at h
  · cases h
    rename_i c k
    simp [g_l_value, startE, n_l_value, ph_l_mixed, bop_mul, bop_mod, mulOk_l, mulOk_r]
    refine ⟨fun h => ?_, fun h => ⟨fun h2 => ?_, fun h2 => ?_⟩⟩
    · obtain ⟨v, e, e2, _⟩ := coins_at (mixed c k)
      rw [ix_l (v := .int v) (Int.emod_nonneg _ (by decide)) (by
        have := congrArg (Option.map PyData.int) e
        rw [← List.getElem?_map] at this
        exact this)]
      unfold valueOf
      rw [if_pos h, e2]
      simp
    · unfold valueOf
      rw [if_neg h, if_pos h2]
    · unfold valueOf
      rw [if_neg h, if_neg h2]
  · cases h
def countOf (c k : Int) : Int := if c / 3 % 4 = 1 then mixed c k % 61 else if c / 3 % 12 = 6 then mixed c k / 7 % 2 * (1000000000 - mixed c k % 50) else mixed c k % 5
theorem count_in (c k : Int) : 0 ≤ countOf c k ∧ countOf c k ≤ 1000000000 := by
  unfold countOf
  split
  · omega
  · split
    · have h1 : mixed c k / 7 % 2 = 0 ∨ mixed c k / 7 % 2 = 1 := by omega
      rcases h1 with h | h <;> rw [h] <;> omega
    · omega
def ph_l_count : List D → Option Out
  | [.int c, .int k] => some (oI (countOf c k))
  | _ => none
theorem ar_l_count : ∀ ds o, ph_l_count ds = some o → ds.length = 2 := by
  intro ds o h
  unfold ph_l_count at h
  split at h
  · rfl
  · cases h
theorem wp_l_count {ca : Nat → Addr} {xs : List Nat} : ∀ ds o, ph_l_count ds = some o → wpSs ⟨[ph_l_mixed], ca, xs, none⟩ g_l_count (gdOf o) (startE n_l_count ds) := by
  intro ds o h
  unfold ph_l_count at h
  split at h
  · cases h
    rename_i c k
    have hm : mulOk (mixed c k / 7 % 2) (1000000000 - mixed c k % 50) = true := mulOk_l (by omega) (by omega)
    simp [g_l_count, startE, n_l_count, ph_l_mixed, bop_mul, bop_mod, bop_div, mulOk_l, mulOk_r, hm, countOf]
    refine ⟨fun h h2 => absurd h h2, fun h => ⟨fun h2 => ?_, fun h2 => ?_⟩⟩ <;> simp [h, h2]
  · cases h
/-! ### pairs -/
def bump : Nat → List Int → Int → Int
  | 0, _, v => v
  | n + 1, seen, v => if v ∈ seen then bump n seen (v % 1000 + 1) else v
def hop (v : Int) (j : Nat) : Int := (v - 1 + j) % 1000 + 1
theorem hop_0 {v : Int} (h1 : 1 ≤ v) (h2 : v ≤ 1000) : hop v 0 = v := by unfold hop; omega
theorem hop_s {v : Int} (j : Nat) (h1 : 1 ≤ v) (h2 : v ≤ 1000) : hop (v % 1000 + 1) j = hop v (j + 1) := by unfold hop; omega
theorem bump_bad {seen : List Int} : ∀ (n : Nat) {v : Int}, 1 ≤ v → v ≤ 1000 → bump n seen v ∈ seen → ∀ j, j ≤ n → hop v j ∈ seen
  | 0, v, h1, h2, h, j, hj => by
    have : j = 0 := by omega
    subst this
    rw [hop_0 h1 h2]
    exact h
  | n + 1, v, h1, h2, h, j, hj => by
    by_cases q : v ∈ seen
    · have e : bump (n + 1) seen v = bump n seen (v % 1000 + 1) := if_pos q
      rw [e] at h
      cases j with
      | zero => rw [hop_0 h1 h2]; exact q
      | succ j =>
        rw [← hop_s j h1 h2]
        exact bump_bad n (by omega) (by omega) h j (by omega)
    · have e : bump (n + 1) seen v = v := if_neg q
      rw [e] at h
      exact absurd h q
theorem bump_new {seen : List Int} {v : Int} (n : Nat) (h1 : 1 ≤ v) (h2 : v ≤ 1000) (hn : seen.length ≤ n) (h3 : n < 1000) : bump n seen v ∉ seen := fun h => by
  have hb := bump_bad n h1 h2 h
  have nd : ((List.range (n + 1)).map (hop v)).Nodup := by
    refine List.Pairwise.map _ ?_ (List.Pairwise.and_mem.mp List.nodup_range)
    intro a b ⟨ha, hb, hne⟩ e
    have ha := List.mem_range.mp ha
    have hb := List.mem_range.mp hb
    unfold hop at e
    omega
  have := List.Nodup.length_le_of_subset nd (l₂ := seen) (fun x hx => by
    obtain ⟨j, hj, rfl⟩ := List.mem_map.mp hx
    exact hb j (by have := List.mem_range.mp hj; omega))
  simp at this
  omega
theorem bump_in {seen : List Int} : ∀ (n : Nat) {v : Int}, 1 ≤ v → v ≤ 1000 → 1 ≤ bump n seen v ∧ bump n seen v ≤ 1000
  | 0, v, h1, h2 => ⟨h1, h2⟩
  | n + 1, v, h1, h2 => by
    by_cases q : v ∈ seen
    · have e : bump (n + 1) seen v = bump n seen (v % 1000 + 1) := if_pos q
      rw [e]
      exact bump_in n (by omega) (by omega)
    · have e : bump (n + 1) seen v = v := if_neg q
      rw [e]
      exact ⟨h1, h2⟩
/-- what a drawn till is -/
structure Drawn (ps : List (Int × Int)) : Prop where
  nd : (ps.map fun p => p.1).Nodup
  vals : ∀ p ∈ ps, 1 ≤ p.1 ∧ p.1 ≤ 1000 ∧ 0 ≤ p.2 ∧ p.2 ≤ 1000000000
  few : ps.length ≤ 10
theorem Drawn.perm {ps qs : List (Int × Int)} (d : Drawn ps) (p : qs.Perm ps) : Drawn qs :=
  ⟨(p.map _).nodup_iff.mpr d.nd, fun x hx => d.vals x (p.mem_iff.mp hx), by rw [p.length_eq]; exact d.few⟩
def seenD (ps : List (Int × Int)) : List (Int × D) := ps.map fun p => (p.1, .bool true)
theorem seen_get {k : Int} : ∀ ps : List (Int × Int), (dget (seenD ps) k).isSome = decide (k ∈ ps.map (·.1))
  | [] => rfl
  | p :: r => by
    have ih := seen_get (k := k) r
    unfold dget seenD at ih ⊢
    rw [List.map_cons, List.find?_cons]
    by_cases q : p.1 = k
    · simp [q]
    · simp only [q, decide_false]
      rw [ih]
      simp [List.mem_cons, Ne.symm q, eq_comm (a := k)]
theorem seen_put {k c : Int} {ps : List (Int × Int)} (h : k ∉ ps.map (·.1)) : dput (seenD ps) k (.bool true) = seenD (ps ++ [(k, c)]) := by
  unfold dput
  rw [if_neg]
  · simp [seenD]
  · intro z
    obtain ⟨kv, hkv, e⟩ := List.any_eq_true.mp z
    obtain ⟨p, hp, rfl⟩ := List.mem_map.mp hkv
    exact h (List.mem_map.mpr ⟨p, hp, of_decide_eq_true e⟩)
theorem ix_mod {ps : List (Int × Int)} {m : Int} (hl : ¬ps.length = 0) : ixD (.list (ps.map eP)) (.int (m % ps.length)) = .ok (eP (ps.getD (m % ps.length).toNat (0, 0))) := by
  have h0 : 0 ≤ m % (ps.length : Int) := Int.emod_nonneg _ (by omega)
  have h1 : m % (ps.length : Int) < ps.length := Int.emod_lt_of_pos _ (by omega)
  refine ix_l h0 ?_
  rw [List.getElem?_map, List.getD_eq_getElem?_getD, List.getElem?_eq_getElem (by omega)]
  rfl
theorem rising_of {ps : List (Int × Int)} (nd : (ps.map fun p => p.1).Nodup) : (pSort ps).Pairwise fun a b => a.1 < b.1 := by
  have h1 := pSort_sorted ps
  have h2 : (pSort ps).Pairwise fun a b => a.1 ≠ b.1 := by
    have := ((pSort_perm ps).map (fun p => p.1)).nodup_iff.mpr nd
    exact List.pairwise_map.mp this
  refine (h1.and h2).imp fun {a b} h => ?_
  have := pLe_iff.mp h.1
  have h3 := h.2
  omega
def pairsTo (cv cc : Int) : Nat → List (Int × Int)
  | 0 => []
  | k + 1 => pairsTo cv cc k ++ [(bump 10 ((pairsTo cv cc k).map (·.1)) (valueOf cv (k + 1)), countOf cc (k + 1))]
def manyOf (c : Int) : Int := if c / 5 % 8 = 1 then 6 + c / 40 % 5 else 1 + c % 5
theorem many_in (c : Int) : 1 ≤ manyOf c ∧ manyOf c ≤ 10 := by
  unfold manyOf
  split <;> omega
def pairsOf (ns : List Int) : List (Int × Int) := pairsTo (cell ns 1) (cell ns 2) (manyOf (cell ns 0)).toNat
theorem pairsTo_len (cv cc : Int) : ∀ k, (pairsTo cv cc k).length = k
  | 0 => rfl
  | k + 1 => by simp [pairsTo, pairsTo_len cv cc k]
theorem pairsTo_val (cv cc : Int) : ∀ (k : Nat) (p : Int × Int), p ∈ pairsTo cv cc k → 1 ≤ p.1 ∧ p.1 ≤ 1000 ∧ 0 ≤ p.2 ∧ p.2 ≤ 1000000000
  | 0, p, h => by cases h
  | k + 1, p, h => by
    rcases List.mem_append.mp h with h | h
    · exact pairsTo_val cv cc k p h
    · cases List.mem_singleton.mp h
      have h1 := bump_in (seen := (pairsTo cv cc k).map (·.1)) 10 (value_in cv (k + 1)).1 (value_in cv (k + 1)).2
      have h2 := count_in cc (k + 1)
      exact ⟨h1.1, h1.2, h2.1, h2.2⟩
theorem pairsTo_nd (cv cc : Int) : ∀ k, k ≤ 10 → ((pairsTo cv cc k).map fun p => p.1).Nodup
  | 0, _ => List.nodup_nil
  | k + 1, h => by
    rw [pairsTo, List.map_append]
    refine List.nodup_append.mpr ⟨pairsTo_nd cv cc k (by omega), (by simp), fun a ha b hb e => ?_⟩
    cases List.mem_singleton.mp hb
    subst e
    exact bump_new 10 (value_in cv (k + 1)).1 (value_in cv (k + 1)).2 (by rw [List.length_map, pairsTo_len]; omega) (by decide) ha
theorem pairsOf_drawn (ns : List Int) : Drawn (pairsOf ns) := by
  have h := many_in (cell ns 0)
  exact ⟨pairsTo_nd _ _ _ (by omega), pairsTo_val _ _ _, by unfold pairsOf; rw [pairsTo_len]; omega⟩
/-- the till handed: drawn pairs, sorted -/
theorem sorted_drawn (ns : List Int) : Drawn (pSort (pairsOf ns)) := (pairsOf_drawn ns).perm (pSort_perm _)
def ph_l_pairs : List D → Option Out
  | [.list ds] => (decI ds).map fun ns => .ret (.ol ((pairsOf ns).map eP))
  | _ => none
theorem v_pairs {ns : List Int} : ph_l_pairs [.list (ns.map .int)] = some (.ret (.ol ((pairsOf ns).map eP))) := by
  simp only [ph_l_pairs, decI_map, Option.map_some]
theorem ar_l_pairs : ∀ ds o, ph_l_pairs ds = some o → ds.length = 1 := by
  intro ds o h
  unfold ph_l_pairs at h
  split at h
  · rfl
  · cases h
theorem wp_l_pairs {ca : Nat → Addr} {xs : List Nat} : ∀ ds o, ph_l_pairs ds = some o → wpSs ⟨[ph_l_cell_at, ph_l_value, ph_l_count], ca, xs, none⟩ g_l_pairs (gdOf o) (startE n_l_pairs ds) := by
  intro ds o h
  unfold ph_l_pairs at h
  split at h
  · rename_i ds
    obtain ⟨ns, e, rfl⟩ := mapO h
    cases decI_sound e
    unfold g_l_pairs
    refine wp_cut (fun Γ => Γ = [some (.fz (.list (ns.map .int))), some (.fz (.int (cell ns 0))), none, none, none, none, none]) (by simp [startE, n_l_pairs, v_cell_at]) ?_
    rintro _ rfl
    refine wp_cut (fun Γ => Γ = [some (.fz (.list (ns.map .int))), some (.fz (.int (cell ns 0))), some (.fz (.int (1 + cell ns 0 % 5))), none, none, none, none]) (by simp [bop_mod]) ?_
    rintro _ rfl
    refine wp_cut (fun Γ => Γ = [some (.fz (.list (ns.map .int))), some (.fz (.int (cell ns 0))), some (.fz (.int (manyOf (cell ns 0)))), none, none, none, none]) (by
      simp [bop_mod, bop_div, manyOf]
      exact ⟨fun h h2 => absurd h h2, fun h h2 => absurd h2 h⟩) ?_
    rintro _ rfl
    have hm := many_in (cell ns 0)
    simp only [w_cons, w_asgF, w_asgD, e_lst, e_nil, bind_ok, size_lit (show 0 ≤ 16777216 by decide), if_true, on_ok, List.length_nil, List.set_cons_succ, List.set_cons_zero]
    refine ⟨rfl, ?_⟩
    refine wp_rng (n := manyOf (cell ns 0)) (fun k Γ => Γ = [some (.fz (.list (ns.map .int))), some (.fz (.int (cell ns 0))), some (.fz (.int (manyOf (cell ns 0)))), some (.own (.ol ((pairsTo (cell ns 1) (cell ns 2) k).map eP))), some (.dc true (seenD (pairsTo (cell ns 1) (cell ns 2) k))), none, none]) (by simp) (by omega) (by omega) (by simp [pairsTo, seenD]) ?_ ?_
    · rintro k _ hk rfl
      generalize hp : pairsTo (cell ns 1) (cell ns 2) k = ps
      have hlen : ps.length = k := by rw [← hp, pairsTo_len]
      have hv := value_in (cell ns 1) (k + 1)
      have hnew : bump 10 (ps.map (·.1)) (valueOf (cell ns 1) (k + 1)) ∉ ps.map (·.1) := bump_new 10 hv.1 hv.2 (by rw [List.length_map]; omega) (by decide)
      refine wp_cut (fun Γ => Γ = [some (.fz (.list (ns.map .int))), some (.fz (.int (cell ns 0))), some (.fz (.int (manyOf (cell ns 0)))), some (.own (.ol (ps.map eP))), some (.dc true (seenD ps)), some (.fz (.int k)), some (.fz (.int (valueOf (cell ns 1) (k + 1))))]) (by simp [v_cell_at, ph_l_value]) ?_
      rintro _ rfl
      refine wp_cut (fun Γ => Γ = [some (.fz (.list (ns.map .int))), some (.fz (.int (cell ns 0))), some (.fz (.int (manyOf (cell ns 0)))), some (.own (.ol (ps.map eP))), some (.dc true (seenD ps)), some (.fz (.int k)), some (.fz (.int (bump 10 (ps.map (·.1)) (valueOf (cell ns 1) (k + 1)))))]) ?_ ?_
      · refine wp_whl (fun n Γ => ∃ v, Γ = [some (.fz (.list (ns.map .int))), some (.fz (.int (cell ns 0))), some (.fz (.int (manyOf (cell ns 0)))), some (.own (.ol (ps.map eP))), some (.dc true (seenD ps)), some (.fz (.int k)), some (.fz (.int v))] ∧ bump n (ps.map (·.1)) v = bump 10 (ps.map (·.1)) (valueOf (cell ns 1) (k + 1))) 10 ⟨_, rfl, rfl⟩ ?_
        rintro n _ ⟨v, rfl, hb⟩
        by_cases q : v ∈ ps.map (·.1)
        · cases n with
          | zero => exact absurd (hb ▸ q : bump 10 (ps.map (·.1)) (valueOf (cell ns 1) (k + 1)) ∈ ps.map (·.1)) hnew
          | succ m =>
            refine .inl ⟨m, rfl, ?_, ?_⟩
            · simp [dslot, seen_get]
              simpa using q
            · simp [bop_mod]
              rw [← hb]
              simp only [bump, q, if_true]
        · refine .inr ⟨?_, ?_⟩
          · simp [dslot, seen_get]
            simpa using q
          · rw [← hb]
            cases n with
            | zero => rfl
            | succ m => simp only [bump, q, if_false]
      · rintro _ rfl
        simp [ownD, ownL, v_cell_at, ph_l_count]
        refine ⟨by unfold seenD; rw [List.length_map]; omega, rfl, by omega, ?_⟩
        rw [pairsTo, hp]
        refine ⟨?_, ?_⟩
        · simp [eP]
        · exact seen_put hnew
    · rintro _ rfl
      simp [ownR, pairsOf]
  · cases h
theorem pairsOf_pos (ns : List Int) : 1 ≤ (pairsOf ns).length := by
  have h := many_in (cell ns 0)
  unfold pairsOf
  rw [pairsTo_len]
  omega
theorem sorted_pos (ns : List Int) : 1 ≤ (pSort (pairsOf ns)).length := by
  rw [(pSort_perm _).length_eq]
  exact pairsOf_pos ns
/-! ### loops -/
theorem wp_dn {T : Tb} {ws : List Nat} {t : Nat} {a : GE} {body : GSs} {d : GD} {Γ : TD.Env} {n : Int} (I : Nat → TD.Env → Prop) (he : ev T (stab Γ) a = .ok (.int n)) (hn : n < 2 ^ 62) (h0' : 0 ≤ n) (h0 : I n.toNat (wipeE Γ ws))
    (hs : ∀ (k : Nat) (Γ : TD.Env), (k : Int) + 1 ≤ n → I (k + 1) Γ → wpSs T body { d with nx := fun Γ' => I k (wipeE Γ' ws) } (Γ.set t (some (.fz (.int (k + 1)))))) (h1 : ∀ Γ, I 0 Γ → d.nx Γ) : TD.wpS T (.for_ ws [t] (.idn a) body) d Γ := by
  have e2 : evI T (stab Γ) (.idn a) = .ok (dnL n) := by
    show (ev T (stab Γ) a).bind _ = _
    rw [he]
    show (if rngOk n = true then Rs.ok (dnL n) else .bad) = _
    rw [if_pos (by unfold rngOk; exact decide_eq_true (by omega))]
  have hl : (dnL n).length = n.toNat := by unfold dnL; simp
  refine wp_for (fun r Γ' => ∃ i : Nat, r = (dnL n).drop i ∧ i ≤ n.toNat ∧ I (n.toNat - i) Γ') e2 ⟨0, rfl, Nat.zero_le _, h0⟩ (fun it r Γ1 z => ?_) (fun Γ1 z => ?_)
  · obtain ⟨i, e, hi, hI⟩ := z
    have hlt : i < n.toNat := by
      by_cases q : i < n.toNat
      · exact q
      · rw [List.drop_of_length_le (by omega)] at e
        cases e
    rw [List.drop_eq_getElem_cons (by omega)] at e
    have e3 : (dnL n)[i]'(by omega) = [PyData.int (n - i)] := by
      unfold dnL
      simp
    rw [e3] at e
    cases e
    obtain ⟨k, hk⟩ : ∃ k, n.toNat - i = k + 1 := ⟨n.toNat - i - 1, by omega⟩
    rw [hk] at hI
    have e4 : n - (i : Int) = k + 1 := by omega
    rw [e4]
    exact wpSs_mono body (hs k Γ1 (by omega) hI) ⟨fun Γ2 y => ⟨i + 1, rfl, by omega, by rw [show n.toNat - (i + 1) = k by omega]; exact y⟩, fun _ y => y, fun _ _ y => y⟩
  · obtain ⟨i, e, hi, hI⟩ := z
    have : i = n.toNat := by
      have := congrArg List.length e
      simp [hl] at this
      omega
    subst this
    rw [Nat.sub_self] at hI
    exact h1 _ hI
/-- a loop over a list, each told as something else -/
theorem wp_map {α : Type} {f : α → D} {T : Tb} {ws : List Nat} {t : Nat} {a : GE} {body : GSs} {d : GD} {Γ : TD.Env} {xs : List α} (I : List α → TD.Env → Prop) (he : ev T (stab Γ) a = .ok (.list (xs.map f))) (h0 : I xs (wipeE Γ ws))
    (hs : ∀ p r Γ, I (p :: r) Γ → wpSs T body { d with nx := fun Γ' => I r (wipeE Γ' ws) } (Γ.set t (some (.fz (f p))))) (h1 : ∀ Γ, I [] Γ → d.nx Γ) : TD.wpS T (.for_ ws [t] (.il a) body) d Γ := by
  have e2 : evI T (stab Γ) (.il a) = .ok (xs.map fun p => [f p]) := by
    show (ev T (stab Γ) a).bind _ = _
    rw [he]
    show Rs.ok ((xs.map f).map fun d => [d]) = _
    rw [List.map_map]
    rfl
  refine wp_for (fun r Γ' => ∃ qs : List α, r = qs.map (fun p => [f p]) ∧ I qs Γ') e2 ⟨xs, rfl, h0⟩ (fun it r Γ1 z => ?_) (fun Γ1 z => ?_)
  · obtain ⟨qs, e, hI⟩ := z
    cases qs with
    | nil => cases e
    | cons p qs =>
      cases e
      exact wpSs_mono body (hs p qs Γ1 hI) ⟨fun Γ2 y => ⟨qs, rfl, y⟩, fun _ y => y, fun _ _ y => y⟩
  · obtain ⟨qs, e, hI⟩ := z
    cases qs with
    | nil => exact h1 _ hI
    | cons p qs => cases e
/-- a loop over two lists side by side -/
theorem wp_zip {α β : Type} {f : α → D} {g : β → D} {T : Tb} {ws : List Nat} {t u : Nat} {a b : GE} {body : GSs} {d : GD} {Γ : TD.Env} {xs : List α} {ys : List β} (I : List (α × β) → TD.Env → Prop) (he : ev T (stab Γ) a = .ok (.list (xs.map f))) (he2 : ev T (stab Γ) b = .ok (.list (ys.map g))) (h0 : I (xs.zip ys) (wipeE Γ ws))
    (hs : ∀ p r Γ, I (p :: r) Γ → wpSs T body { d with nx := fun Γ' => I r (wipeE Γ' ws) } ((Γ.set t (some (.fz (f p.1)))).set u (some (.fz (g p.2))))) (h1 : ∀ Γ, I [] Γ → d.nx Γ) : TD.wpS T (.for_ ws [t, u] (.iz a b) body) d Γ := by
  have e2 : evI T (stab Γ) (.iz a b) = .ok ((xs.zip ys).map fun p => [f p.1, g p.2]) := by
    show (ev T (stab Γ) a).bind _ = _
    rw [he]
    show (ev T (stab Γ) b).bind _ = _
    rw [he2]
    show Rs.ok (((xs.map f).zip (ys.map g)).map fun p => [p.1, p.2]) = _
    rw [List.zip_map, List.map_map]
    rfl
  refine wp_for (fun r Γ' => ∃ qs : List (α × β), r = qs.map (fun p => [f p.1, g p.2]) ∧ I qs Γ') e2 ⟨_, rfl, h0⟩ (fun it r Γ1 z => ?_) (fun Γ1 z => ?_)
  · obtain ⟨qs, e, hI⟩ := z
    cases qs with
    | nil => cases e
    | cons p qs =>
      cases e
      exact wpSs_mono body (hs p qs Γ1 hI) ⟨fun Γ2 y => ⟨qs, rfl, y⟩, fun _ y => y, fun _ _ y => y⟩
  · obtain ⟨qs, e, hI⟩ := z
    cases qs with
    | nil => exact h1 _ hI
    | cons p qs => cases e
theorem lcM_flt {α β : Type} {F : β → Rs (Option D)} {m : α → β} {q : α → Bool} {h : α → D} : ∀ {l : List α}, (∀ p ∈ l, F (m p) = .ok (if q p = true then some (h p) else none)) → lcM F (l.map m) = .ok ((l.filter q).map h)
  | [], _ => rfl
  | p :: r, k => by
    have ih := lcM_flt fun x hx => k x (List.mem_cons_of_mem _ hx)
    rw [List.map_cons]
    unfold lcM
    rw [k p List.mem_cons_self, List.filter_cons]
    cases z : q p with
    | true =>
      show (lcM F (r.map m)).map _ = _
      rw [ih]
      rfl
    | false =>
      show lcM F (r.map m) = _
      rw [ih]
      rfl
/-- a list of what is wanted of two lists side by side -/
theorem e_lcfz {α β : Type} {f : α → D} {g : β → D} {T : Tb} {Γ : TD.Env} {t u : Nat} {a b c e : GE} {xs : List α} {ys : List β} {q : α × β → Bool} {h : α × β → D} (he : ev T Γ a = .ok (.list (xs.map f))) (he2 : ev T Γ b = .ok (.list (ys.map g))) (hl : (xs.zip ys).length ≤ 16777216)
    (hg : ∀ p ∈ xs.zip ys, ev T (((wipeE Γ [t, u]).set t (some (.fz (f p.1)))).set u (some (.fz (g p.2)))) c = .ok (.bool (q p)) ∧ (q p = true → ev T (((wipeE Γ [t, u]).set t (some (.fz (f p.1)))).set u (some (.fz (g p.2)))) e = .ok (h p))) :
    evF T Γ (.lcf [t, u] (.iz a b) c e) = .ok (((xs.zip ys).filter q).map h) := by
  have e2 : evI T Γ (.iz a b) = .ok ((xs.zip ys).map fun p => [f p.1, g p.2]) := by
    show (ev T Γ a).bind _ = _
    rw [he]
    show (ev T Γ b).bind _ = _
    rw [he2]
    show Rs.ok (((xs.map f).zip (ys.map g)).map fun p => [p.1, p.2]) = _
    rw [List.zip_map, List.map_map]
    rfl
  show (evI T Γ (.iz a b)).bind _ = _
  rw [e2]
  show (if TD.sizeOk ((xs.zip ys).map fun p => [f p.1, g p.2]).length = true then lcM _ ((xs.zip ys).map fun p => [f p.1, g p.2]) else Rs.bad) = _
  rw [if_pos (size_lit (by rw [List.length_map]; exact hl))]
  refine lcM_flt fun p hp => ?_
  obtain ⟨h1, h2⟩ := hg p hp
  show ((ev T (((wipeE Γ [t, u]).set t (some (.fz (f p.1)))).set u (some (.fz (g p.2)))) c).bind fun b => _) = _
  rw [h1]
  cases z : q p with
  | true =>
    show (ev T (((wipeE Γ [t, u]).set t (some (.fz (f p.1)))).set u (some (.fz (g p.2)))) e).map some = _
    rw [h2 z]
    rfl
  | false => rfl
/-- a loop over the numbers from lo to hi -/
theorem wp_rng2 {T : Tb} {ws : List Nat} {t : Nat} {a b : GE} {body : GSs} {d : GD} {Γ : TD.Env} {lo hi : Int} (I : Nat → TD.Env → Prop) (he : ev T (stab Γ) a = .ok (.int lo)) (he2 : ev T (stab Γ) b = .ok (.int hi)) (h1l : lo.natAbs < 2 ^ 62) (h2l : hi.natAbs < 2 ^ 62) (h0 : I 0 (wipeE Γ ws))
    (hs : ∀ (i : Nat) (Γ : TD.Env), i < (hi - lo).toNat → I i Γ → wpSs T body { d with nx := fun Γ' => I (i + 1) (wipeE Γ' ws) } (Γ.set t (some (.fz (.int (lo + i)))))) (h1 : ∀ Γ, I (hi - lo).toNat Γ → d.nx Γ) : TD.wpS T (.for_ ws [t] (.i2 a b) body) d Γ := by
  have e2 : evI T (stab Γ) (.i2 a b) = .ok (rngL lo hi) := by
    show (ev T (stab Γ) a).bind _ = _
    rw [he]
    show (ev T (stab Γ) b).bind _ = _
    rw [he2]
    show (if (rngOk lo && rngOk hi) = true then Rs.ok (rngL lo hi) else .bad) = _
    have r1 : rngOk lo = true := by unfold rngOk; exact decide_eq_true (by omega)
    have r2 : rngOk hi = true := by unfold rngOk; exact decide_eq_true (by omega)
    rw [r1, r2]
    rfl
  have hl : (rngL lo hi).length = (hi - lo).toNat := by unfold rngL; simp
  refine wp_for (fun r Γ' => ∃ i : Nat, r = (rngL lo hi).drop i ∧ i ≤ (hi - lo).toNat ∧ I i Γ') e2 ⟨0, rfl, Nat.zero_le _, h0⟩ (fun it r Γ1 z => ?_) (fun Γ1 z => ?_)
  · obtain ⟨i, e, hle, hI⟩ := z
    have hlt : i < (hi - lo).toNat := by
      refine Nat.lt_of_not_le fun q => ?_
      rw [List.drop_of_length_le (by omega)] at e
      cases e
    rw [List.drop_eq_getElem_cons (by omega)] at e
    have e3 : (rngL lo hi)[i]'(by omega) = [PyData.int (lo + i)] := by
      unfold rngL
      simp
    rw [e3] at e
    cases e
    exact wpSs_mono body (hs i Γ1 hlt hI) ⟨fun Γ2 y => ⟨i + 1, rfl, by omega, y⟩, fun _ y => y, fun _ _ y => y⟩
  · obtain ⟨i, e, hle, hI⟩ := z
    have : i = (hi - lo).toNat := by
      have := congrArg List.length e
      simp [hl] at this
      omega
    subst this
    exact h1 _ hI
theorem lcM_each {α β : Type} {F : β → Rs (Option D)} {m : α → β} {h : α → D} : ∀ {l : List α}, (∀ p ∈ l, F (m p) = .ok (some (h p))) → lcM F (l.map m) = .ok (l.map h)
  | [], _ => rfl
  | p :: r, k => by
    have ih := lcM_each fun x hx => k x (List.mem_cons_of_mem _ hx)
    rw [List.map_cons]
    unfold lcM
    rw [k p List.mem_cons_self]
    show (lcM F (r.map m)).map _ = _
    rw [ih]
    rfl
/-- a list by each of a list, each told as something else -/
theorem e_lcm {α : Type} {f : α → D} {T : Tb} {Γ : TD.Env} {t : Nat} {a e : GE} {xs : List α} {g : α → D} (he : ev T Γ a = .ok (.list (xs.map f))) (hl : xs.length ≤ 16777216) (hg : ∀ p ∈ xs, ev T ((wipeE Γ [t]).set t (some (.fz (f p)))) e = .ok (g p)) :
    evF T Γ (.lc [t] (.il a) e) = .ok (xs.map g) := by
  have e2 : evI T Γ (.il a) = .ok (xs.map fun p => [f p]) := by
    show (ev T Γ a).bind _ = _
    rw [he]
    show Rs.ok ((xs.map f).map fun d => [d]) = _
    rw [List.map_map]
    rfl
  show (evI T Γ (.il a)).bind _ = _
  rw [e2]
  show (if TD.sizeOk (xs.map fun p => [f p]).length = true then lcM _ (xs.map fun p => [f p]) else Rs.bad) = _
  rw [if_pos (size_lit (by rw [List.length_map]; exact hl))]
  refine lcM_each fun p hp => ?_
  show (ev T ((wipeE Γ [t]).set t (some (.fz (f p)))) e).map some = _
  rw [hg p hp]
  rfl
def oD : Option Int → D
  | none => .none
  | some n => .int n
def rowD (r : List (Option Int)) : D := .list (r.map oD)
def decO : List D → Option (List (Option Int))
  | [] => some []
  | .none :: r => (decO r).map (none :: ·)
  | .int i :: r => (decO r).map (some i :: ·)
  | _ :: _ => none
theorem decO_map : ∀ r : List (Option Int), decO (r.map oD) = some r
  | [] => rfl
  | none :: r => by
    show (decO (r.map oD)).map (none :: ·) = _
    rw [decO_map r]
    rfl
  | some i :: r => by
    show (decO (r.map oD)).map (some i :: ·) = _
    rw [decO_map r]
    rfl
theorem decO_sound : ∀ {ds : List D} {r : List (Option Int)}, decO ds = some r → ds = r.map oD
  | [], _, h => by cases h; rfl
  | d :: ds, r, h => by
    cases d with
    | none =>
      obtain ⟨l, e, rfl⟩ := mapO (show (decO ds).map (none :: ·) = some r from h)
      rw [decO_sound e]
      rfl
    | int i =>
      obtain ⟨l, e, rfl⟩ := mapO (show (decO ds).map (some i :: ·) = some r from h)
      rw [decO_sound e]
      rfl
    | _ => cases h
def decR : List D → Option (List (List (Option Int)))
  | [] => some []
  | .list ds :: r => (decO ds).bind fun x => (decR r).map (x :: ·)
  | _ :: _ => none
theorem decR_map : ∀ r : List (List (Option Int)), decR (r.map rowD) = some r
  | [] => rfl
  | x :: r => by
    show (decO (x.map oD)).bind (fun x => (decR (r.map rowD)).map (x :: ·)) = _
    rw [decO_map, decR_map r]
    rfl
theorem decR_sound : ∀ {ds : List D} {r : List (List (Option Int))}, decR ds = some r → ds = r.map rowD
  | [], _, h => by cases h; rfl
  | d :: ds, r, h => by
    cases d with
    | list xs =>
      obtain ⟨x, e, h2⟩ := bindO (show (decO xs).bind (fun x => (decR ds).map (x :: ·)) = some r from h)
      obtain ⟨l, e2, rfl⟩ := mapO h2
      rw [decR_sound e2, decO_sound e]
      rfl
    | _ => cases h
@[simp] theorem eq_o {n : Bool} {a b : Option Int} : eqD n (oD a) (oD b) = .ok (.bool (n ^^ decide (a = b))) := by
  cases a with
  | none => cases b with
    | none => rfl
    | some j => rfl
  | some i => cases b with
    | none => rfl
    | some j =>
      show Rs.ok (PyData.bool (n ^^ decide (i = j))) = _
      simp
@[simp] theorem imm_o {a : Option Int} : TD.imm (oD a) = true := by cases a <;> rfl
@[simp] theorem immA_o : ∀ {r : List (Option Int)}, immA (r.map oD) = true
  | [] => rfl
  | a :: r => by simp [immA_o (r := r)]
theorem okD_o (r : List (Option Int)) : okD 1 (.list (r.map oD)) = true := List.all_eq_true.mpr fun d hd => by
  obtain ⟨n, _, rfl⟩ := List.mem_map.mp hd
  cases n <;> rfl
theorem okD_rows (rs : List (List (Option Int))) : okD 2 (.list (rs.map rowD)) = true := List.all_eq_true.mpr fun d hd => by
  obtain ⟨r, _, rfl⟩ := List.mem_map.mp hd
  exact okD_o r
theorem o_inj {a b : List (Option Int)} : a.map oD = b.map oD ↔ a = b := by
  refine ⟨fun h => ?_, fun h => h ▸ rfl⟩
  have := congrArg decO h
  rw [decO_map, decO_map] at this
  exact Option.some.inj this
theorem rows_inj {a b : List (List (Option Int))} : a.map rowD = b.map rowD ↔ a = b := by
  refine ⟨fun h => ?_, fun h => h ▸ rfl⟩
  have := congrArg decR h
  rw [decR_map, decR_map] at this
  exact Option.some.inj this
@[simp] theorem eq_row {n : Bool} {a b : List (Option Int)} : eqD n (.list (a.map oD)) (.list (b.map oD)) = .ok (.bool (n ^^ decide (a = b))) := eq_list (okD_o _) (okD_o _) (by decide) (by decide) (by rw [decide_eq_true_iff, o_inj])
@[simp] theorem eq_rowD {n : Bool} {a b : List (Option Int)} : eqD n (rowD a) (rowD b) = .ok (.bool (n ^^ decide (a = b))) := eq_row
@[simp] theorem eq_rows {n : Bool} {a b : List (List (Option Int))} : eqD n (.list (a.map rowD)) (.list (b.map rowD)) = .ok (.bool (n ^^ decide (a = b))) := eq_list (okD_rows _) (okD_rows _) (by decide) (by decide) (by rw [decide_eq_true_iff, rows_inj])
theorem e_lcr {T : Tb} {Γ : TD.Env} {t : Nat} {a e : GE} {n : Int} {g : Nat → D} (he : ev T Γ a = .ok (.int n)) (h0 : 0 ≤ n) (hl : n ≤ 16777216) (hg : ∀ i : Nat, (i : Int) < n → ev T ((wipeE Γ [t]).set t (some (.fz (.int i)))) e = .ok (g i)) :
    evF T Γ (.lc [t] (.i1 a) e) = .ok ((List.range n.toNat).map g) := by
  show (evI T Γ (.i1 a)).bind _ = _
  have e2 : evI T Γ (.i1 a) = .ok ((List.range n.toNat).map fun i => [PyData.int (i : Nat)]) := by
    show (ev T Γ a).bind _ = _
    rw [he]
    show (if rngOk n = true then Rs.ok (rngL 0 n) else .bad) = _
    rw [if_pos (by unfold rngOk; exact decide_eq_true (by omega))]
    unfold rngL
    simp
  rw [e2]
  show (if TD.sizeOk ((List.range n.toNat).map fun i => [PyData.int (i : Nat)]).length = true then lcM _ ((List.range n.toNat).map fun i => [PyData.int (i : Nat)]) else Rs.bad) = _
  rw [if_pos (size_lit (by rw [List.length_map, List.length_range]; omega))]
  have := lcM_all (f := fun it => (ev T (setTs (wipeE Γ [t]) [t] it) e).map some) (l := (List.range n.toNat).map fun i => [PyData.int (i : Nat)]) (g := fun it => match it with | [.int x] => g x.toNat | _ => .none) (fun it hit => by
    obtain ⟨i, hi, rfl⟩ := List.mem_map.mp hit
    have hi := List.mem_range.mp hi
    show (ev T ((wipeE Γ [t]).set t (some (.fz (.int i)))) e).map some = _
    rw [hg i (by omega)]
    rfl)
  rw [this, List.map_map]
  rfl
/-! ### tills as they are handed -/
abbrev Row := List (Option Int)
def okP (p : Int × Int) : Prop := 1 ≤ p.1 ∧ p.1 ≤ 1000 ∧ 0 ≤ p.2
instance (p : Int × Int) : Decidable (okP p) := inferInstanceAs (Decidable (_ ∧ _ ∧ _))
theorem ix_row {row : Row} {i : Int} (h0 : 0 ≤ i) (h1 : i < row.length) : ixD (.list (row.map oD)) (.int i) = .ok (oD (row.getD i.toNat none)) := by
  refine ix_l h0 ?_
  rw [List.getElem?_map, List.getD_eq_getElem?_getD, List.getElem?_eq_getElem (by omega)]
  rfl
def okTill (ps : List (Int × Int)) : Bool := decide (ps.length ≤ 1000) && ps.all fun p => decide (okP p)
theorem okTill_of {ps : List (Int × Int)} (h : okTill ps = true) : ps.length ≤ 1000 ∧ ∀ p ∈ ps, okP p := by
  unfold okTill at h
  obtain ⟨a, b⟩ := Bool.and_eq_true_iff.mp h
  exact ⟨of_decide_eq_true a, fun p hp => of_decide_eq_true (List.all_eq_true.mp b p hp)⟩
theorem okTill_mk {ps : List (Int × Int)} (h : ps.length ≤ 1000) (h2 : ∀ p ∈ ps, okP p) : okTill ps = true := by
  unfold okTill
  rw [decide_eq_true h]
  exact List.all_eq_true.mpr fun p hp => decide_eq_true (h2 p hp)
/-! ### rows of numbers and None -/
def tabR (rs : List Row) : R := .on (rs.map fun r => .ol (r.map oD))
theorem tabR_imm (rs : List Row) : (tabR rs).imm = true := by
  show R.imms (rs.map fun r => .ol (r.map oD)) = true
  induction rs with
  | nil => rfl
  | cons r rs ih =>
    show (immA (r.map oD) && R.imms (rs.map fun r => .ol (r.map oD))) = true
    rw [immA_o, ih]
    rfl
theorem tabR_toD (rs : List Row) : (tabR rs).toD = .list (rs.map rowD) := by
  show PyData.list (R.toDs (rs.map fun r => .ol (r.map oD))) = _
  congr 1
  induction rs with
  | nil => rfl
  | cons r rs ih =>
    show PyData.list (r.map oD) :: R.toDs (rs.map fun r => .ol (r.map oD)) = _
    rw [ih]
    rfl
def rowAt (rs : List Row) (k : Nat) : Row := rs.getD k []
def cellR (rs : List Row) (k a : Nat) : Option Int := (rowAt rs k).getD a none
theorem rowAt_some {rs : List Row} {k : Nat} {r : Row} (h : rs[k]? = some r) : rowAt rs k = r := by
  unfold rowAt
  rw [List.getD_eq_getElem?_getD, h]
  rfl
section
variable {rs : List Row} {ps : List (Int × Int)} {M k a : Nat} {p : Int × Int} {few : Int}
theorem ix_rows {i : Int} (h0 : 0 ≤ i) (h : i < rs.length) : ixD (.list (rs.map rowD)) (.int i) = .ok (.list ((rowAt rs i.toNat).map oD)) := by
  have e : rs[i.toNat]? = some rs[i.toNat] := List.getElem?_eq_getElem (by omega)
  refine ix_l h0 ?_
  rw [List.getElem?_map, e, rowAt_some e]
  rfl
theorem ix_rowsN (h : k < rs.length) : ixD (.list (rs.map rowD)) (.int k) = .ok (.list ((rowAt rs k).map oD)) := ix_rows (i := k) (by omega) (by omega)
theorem ix_rowsS (h : k + 1 < rs.length) : ixD (.list (rs.map rowD)) (.int (k + 1)) = .ok (.list ((rowAt rs (k + 1)).map oD)) := ix_rows (i := k + 1) (by omega) (by omega)
theorem ix_ps (h : ps[k]? = some p) : ixD (.list (ps.map eP)) (.int k) = .ok (eP p) := ix_l (by omega) (by rw [Int.toNat_natCast, List.getElem?_map, h]; rfl)
theorem ix_cell (h : a < (rowAt rs k).length) : ixD (.list ((rowAt rs k).map oD)) (.int a) = .ok (oD (cellR rs k a)) := ix_row (i := a) (by omega) (by omega)
end
theorem ix_rowD {rs : List Row} {k : Nat} {r : Row} (h : rs[k]? = some r) : ixD (.list (rs.map rowD)) (.int k) = .ok (.list (r.map oD)) := ix_l (by omega) (by rw [Int.toNat_natCast, List.getElem?_map, h]; rfl)
def ph_need_sum : List D → Option Out
  | [.int v] => some (if v < 0 ∨ v > 1000 then .exc 5 else .ret (.im .none))
  | _ => none
theorem ar_need_sum : ∀ ds o, ph_need_sum ds = some o → ds.length = 1 := by
  intro ds o h
  unfold ph_need_sum at h
  split at h
  · rfl
  · cases h
theorem wp_need_sum {ca : Nat → Addr} {xs : List Nat} : ∀ ds o, ph_need_sum ds = some o → wpSs ⟨[], ca, xs, none⟩ g_need_sum (gdOf o) (startE n_need_sum ds) := by
  intro ds o h
  unfold ph_need_sum at h
  split at h
  · rename_i v
    cases h
    simp [g_need_sum, startE, n_need_sum]
    first | omega | (refine ⟨?_, ?_⟩ <;> omega)
  · cases h
def lstep (row : Row) (at' : Nat) (v : Int) (found : Option Int) (k : Nat) : Option Int :=
  match row.getD ((at' : Int) - k * v).toNat none with
  | none => found
  | some few => match found with
    | none => some (few + k)
    | some f => if few + k < f then some (few + k) else some f
def leastN (row : Row) (at' : Nat) (v : Int) : Nat → Option Int
  | 0 => none
  | k + 1 => lstep row at' v (leastN row at' v k) k
def limOf (at' : Nat) (v c : Int) : Int := (if (at' : Int) / v < c then (at' : Int) / v else c) + 1
def leastOf (row : Row) (at' : Nat) (v c : Int) : Option Int := leastN row at' v (limOf at' v c).toNat
theorem lim_in {at' : Nat} {v c : Int} (h1 : 1 ≤ v) (h2 : 0 ≤ c) : 1 ≤ limOf at' v c ∧ limOf at' v c ≤ (at' : Int) + 1 ∧ ∀ k : Nat, (k : Int) < limOf at' v c → (k : Int) * v ≤ at' := by
  unfold limOf
  have hd0 : 0 ≤ (at' : Int) / v := Int.ediv_nonneg (by omega) (by omega)
  have hd1 : (at' : Int) / v ≤ at' := Int.ediv_le_self _ (by omega)
  have hd2 : v * ((at' : Int) / v) ≤ at' := Int.mul_ediv_self_le (by omega)
  refine ⟨?_, ?_, fun k hk => ?_⟩
  · split <;> omega
  · split <;> omega
  · have hk' : (k : Int) ≤ (at' : Int) / v := by split at hk <;> omega
    calc (k : Int) * v ≤ ((at' : Int) / v) * v := Int.mul_le_mul_of_nonneg_right hk' (by omega)
      _ = v * ((at' : Int) / v) := Int.mul_comm _ _
      _ ≤ at' := hd2
def ph_least : List D → Option Out
  | [.list ds, .int a, .tuple [.int v, .int c]] => (decO ds).bind fun row => if (0 ≤ a ∧ a < row.length) ∧ row.length ≤ 2000 ∧ okP (v, c) then some (.ret (.im (oD (leastOf row a.toNat v c)))) else none
  | _ => none
theorem ar_least : ∀ ds o, ph_least ds = some o → ds.length = 3 := by
  intro ds o h
  unfold ph_least at h
  split at h
  · rfl
  · cases h
theorem wp_least {ca : Nat → Addr} {xs : List Nat} : ∀ ds o, ph_least ds = some o → wpSs ⟨[], ca, xs, none⟩ g_least (gdOf o) (startE n_least ds) := by
  intro ds o h
  unfold ph_least at h
  split at h
  · rename_i ds a v c
    obtain ⟨row, e, h2⟩ := bindO h
    clear h
    cases decO_sound e
    split at h2
    · rename_i hg
      obtain ⟨⟨h0, h1⟩, hlen, g1, g2, g3⟩ := hg
      have g1 : 1 ≤ v := g1
      have g2 : v ≤ 1000 := g2
      have g3 : 0 ≤ c := g3
      cases h2
      obtain ⟨at', rfl⟩ := Int.eq_ofNat_of_zero_le h0
      have hlim := @lim_in at' v c g1 g3
      have ep : PyData.tuple [.int v, .int c] = eP (v, c) := rfl
      rw [ep, Int.toNat_natCast]
      unfold g_least
      refine wp_cut (fun Γ => Γ = [some (.fz (.list (row.map oD))), some (.fz (.int at')), some (.fz (eP (v, c))), some (.fz .none), none, none]) (by simp [startE, n_least]) ?_
      rintro _ rfl
      refine wp_cut (fun Γ => Γ = [some (.fz (.list (row.map oD))), some (.fz (.int at')), some (.fz (eP (v, c))), some (.fz (oD (leastOf row at' v c))), none, none]) ?_ ?_
      · refine wp_rng (n := limOf at' v c) (fun k Γ => Γ = [some (.fz (.list (row.map oD))), some (.fz (.int at')), some (.fz (eP (v, c))), some (.fz (oD (leastN row at' v k))), none, none]) (by simp [bop_div (show 0 < v by omega) (show v < 1073741824 by omega), limOf]) (by omega) (by omega) (by simp [leastN, oD]) ?_ ?_
        · rintro k _ hk rfl
          have hkv := hlim.2.2 k hk
          have hkn : 0 ≤ (k : Int) * v := Int.mul_nonneg (by omega) (by omega)
          have hmul : bop .mul (k : Int) v = .ok (.int (k * v)) := bop_mul (mulOk_r (by omega) (by omega))
          have hix := @ix_row row ((at' : Int) - k * v) (by omega) (by omega)
          have hs : leastN row at' v (k + 1) = lstep row at' v (leastN row at' v k) k := rfl
          rw [hs]
          unfold lstep
          generalize leastN row at' v k = found
          generalize row.getD ((at' : Int) - k * v).toNat none = few at hix
          cases few with
          | none => simp [hmul, hix, oD]
          | some w => cases found with
            | none => simp [hmul, hix, oD]
            | some f =>
              by_cases q : w + k < f
              · simp [hmul, hix, oD, q]
              · simp [hmul, hix, oD, q]
        · rintro _ rfl
          rfl
      · rintro _ rfl
        simp
    · cases h2
  · cases h
/-! ### the table -/
def nextRow (row : Row) (p : Int × Int) (m : Nat) : Row := (List.range (m + 1)).map fun at' => leastOf row at' p.1 p.2
def row0 (m : Nat) : Row := some 0 :: List.replicate m none
def tabGo (m : Nat) (row : Row) : List (Int × Int) → List Row
  | [] => [row]
  | p :: r => row :: tabGo m (nextRow row p m) r
def tableOf (ps : List (Int × Int)) (m : Nat) : List Row := tabGo m (row0 m) ps
theorem nextRow_len (row : Row) (p : Int × Int) (m : Nat) : (nextRow row p m).length = m + 1 := by simp [nextRow]
theorem row0_len (m : Nat) : (row0 m).length = m + 1 := by simp [row0]
theorem tabGo_len (m : Nat) : ∀ (ps : List (Int × Int)) (row : Row), (tabGo m row ps).length = ps.length + 1
  | [], _ => rfl
  | p :: r, row => by simp [tabGo, tabGo_len m r]
theorem tabGo_rows (m : Nat) : ∀ (ps : List (Int × Int)) (row : Row), row.length = m + 1 → ∀ r ∈ tabGo m row ps, r.length = m + 1
  | [], row, h, r, hr => by
    cases List.mem_singleton.mp hr
    exact h
  | p :: ps, row, h, r, hr => by
    rcases List.mem_cons.mp hr with z | z
    · rw [z]; exact h
    · exact tabGo_rows m ps _ (nextRow_len _ _ _) r z
theorem okTill_drawn {ps : List (Int × Int)} (d : Drawn ps) : okTill ps = true := by
  unfold okTill
  rw [decide_eq_true (by have := d.few; omega)]
  refine List.all_eq_true.mpr fun p hp => decide_eq_true ?_
  have := d.vals p hp
  exact ⟨this.1, this.2.1, this.2.2.1⟩
theorem v_least {row : Row} {a : Nat} {p : Int × Int} (h1 : a < row.length) (h2 : row.length ≤ 2000) (h3 : okP p) : ph_least [.list (row.map oD), .int a, eP p] = some (.ret (.im (oD (leastOf row a p.1 p.2)))) := by
  show (decO (row.map oD)).bind _ = _
  rw [decO_map]
  show (if (0 ≤ (a : Int) ∧ (a : Int) < row.length) ∧ row.length ≤ 2000 ∧ okP (p.1, p.2) then some (Out.ret (.im (oD (leastOf row (a : Int).toNat p.1 p.2)))) else none) = _
  rw [if_pos ⟨⟨by omega, by omega⟩, h2, h3⟩, Int.toNat_natCast]
def ph_table : List D → Option Out
  | [.list ds, .int m] => (decP ds).bind fun ps => if m < 0 ∨ m > 1000 then some (.exc 5) else if okTill ps then some (.ret (tabR (tableOf ps m.toNat))) else none
  | _ => none
theorem ar_table : ∀ ds o, ph_table ds = some o → ds.length = 2 := by
  intro ds o h
  unfold ph_table at h
  split at h
  · rfl
  · cases h
theorem wp_table {ca : Nat → Addr} {xs : List Nat} : ∀ ds o, ph_table ds = some o → wpSs ⟨[ph_need_sum, ph_least], ca, xs, none⟩ g_table (gdOf o) (startE n_table ds) := by
  intro ds o h
  unfold ph_table at h
  split at h
  · rename_i ds m
    obtain ⟨ps, e, h2⟩ := bindO h
    clear h
    cases decP_sound e
    split at h2
    · rename_i hm
      cases h2
      simp [g_table, startE, n_table, ph_need_sum, hm]
    · rename_i hm
      split at h2
      · rename_i hok
        cases h2
        obtain ⟨hlen, hall⟩ := okTill_of hok
        obtain ⟨M, rfl⟩ := Int.eq_ofNat_of_zero_le (show 0 ≤ m by omega)
        rw [Int.toNat_natCast]
        have hM : M ≤ 1000 := by omega
        unfold g_table
        refine wp_cut (fun Γ => Γ = [some (.fz (.list (ps.map eP))), some (.fz (.int M)), none, none, none, none]) (by simp [startE, n_table, ph_need_sum, hm]) ?_
        rintro _ rfl
        refine wp_cut (fun Γ => Γ = [some (.fz (.list (ps.map eP))), some (.fz (.int M)), some (.own (tabR [row0 M])), none, none, none]) ?_ ?_
        · have hrep : repR .none (.int M) = .ok (List.replicate M .none) := by
            rw [repR_i (by omega) (by omega), Int.toNat_natCast]
          have hcat : catR (.list [.int 0]) (.list (List.replicate M .none)) = .ok ((row0 M).map oD) := by
            rw [catR_l (by simp; omega)]
            simp [row0, oD]
          simp [hrep, hcat]
          rfl
        rintro _ rfl
        refine wp_cut (fun Γ => Γ = [some (.fz (.list (ps.map eP))), some (.fz (.int M)), some (.own (tabR (tableOf ps M))), none, none, none]) ?_ ?_
        · refine wp_prs (ps := ps) (fun r Γ => ∃ (done : List Row) (last : Row), Γ = [some (.fz (.list (ps.map eP))), some (.fz (.int M)), some (.own (tabR (done ++ [last]))), none, none, none] ∧ done ++ tabGo M last r = tableOf ps M ∧ last.length = M + 1 ∧ done.length + r.length ≤ 1000 ∧ ∀ p ∈ r, okP p) (by simp) ⟨[], row0 M, by simp, rfl, row0_len M, by simpa using hlen, hall⟩ ?_ ?_
          · rintro p r _ ⟨done, last, rfl, ht, hl, hn, hp⟩
            have hp0 := hp p List.mem_cons_self
            have hn' : done.length + (r.length + 1) ≤ 1000 := hn
            rw [w_brw]
            refine ⟨by decide, (done ++ [last]).map (fun r => .ol (r.map oD)), done.length, last.map oD, (nextRow last p M).map oD, rfl, ?_, by omega, ?_, ?_, immA_o, ?_, ?_⟩
            · simp [tabR_toD]
            · rw [Int.toNat_natCast, List.getElem?_map, List.getElem?_append_right (by omega)]
              simp
            · have := e_lcr (T := ⟨[ph_need_sum, ph_least], ca, xs, none⟩) (Γ := (view [some (.fz (.list (ps.map eP))), some (.fz (.int M)), some (.own (tabR (done ++ [last]))), some (.fz (eP p)), none, none]).set 4 (some (.fz (.list (last.map oD))))) (t := 5) (a := .bin .add (.var 1) (.cst (.int 1))) (e := .call 1 (.cons (.var 4) (.cons (.var 5) (.cons (.var 3) (.nil))))) (n := M + 1) (g := fun a => oD (leastOf last a p.1 p.2)) (by simp) (by omega) (by omega) (fun a ha => by
                  have := @v_least last a p (by omega) (by omega) hp0
                  simp [this])
              rw [show ((M : Int) + 1).toNat = M + 1 by omega] at this
              rw [nextRow, List.map_map]
              exact this
            · rw [List.length_map, List.length_append, List.length_singleton]
              omega
            · simp only [w_nil]
              refine ⟨done ++ [last], nextRow last p M, ?_, ?_, nextRow_len _ _ _, ?_, fun q hq => hp q (List.mem_cons_of_mem _ hq)⟩
              · simp [tabR]
              · rw [← ht]
                simp [tabGo]
              · simp
                omega
          · rintro _ ⟨done, last, rfl, ht, _, _, _⟩
            rw [← ht]
            rfl
        · rintro _ rfl
          rw [w_cons, w_retMv]
          exact ⟨_, rfl, tabR_imm _, rfl⟩
      · cases h2
  · cases h
def badSum (m : Int) : Prop := m < 0 ∨ m > 1000
instance (m : Int) : Decidable (badSum m) := inferInstanceAs (Decidable (_ ∨ _))
theorem v_table_bad {ps : List (Int × Int)} {m : Int} (h : badSum m) : ph_table [.list (ps.map eP), .int m] = some (.exc 5) := by
  have h' : m < 0 ∨ m > 1000 := h
  simp only [ph_table, decP_map, Option.bind_some, if_pos h']
theorem v_table {ps : List (Int × Int)} {m : Nat} (h : m ≤ 1000) (hk : okTill ps = true) : ph_table [.list (ps.map eP), .int m] = some (.ret (tabR (tableOf ps m))) := by
  have h' : ¬((m : Int) < 0 ∨ (m : Int) > 1000) := by omega
  simp only [ph_table, decP_map, Option.bind_some, if_neg h', if_pos hk, Int.toNat_natCast]
def mostOf (c n : Int) : Int := if (c / 5 % 6 = 1 ∧ n < 4) ∨ c / 5 % 18 = 2 then c / 90 % 1001 else if c % 5 = 1 then c / 5 % 200 else c / 5 % 60
theorem most_in (c n : Int) : 0 ≤ mostOf c n ∧ mostOf c n ≤ 1000 := by
  unfold mostOf
  split
  · omega
  · split <;> omega
def ph_l_most : List D → Option Out
  | [.int c, .int n] => some (oI (mostOf c n))
  | _ => none
theorem ar_l_most : ∀ ds o, ph_l_most ds = some o → ds.length = 2 := by
  intro ds o h
  unfold ph_l_most at h
  split at h
  · rfl
  · cases h
theorem wp_l_most {ca : Nat → Addr} {xs : List Nat} : ∀ ds o, ph_l_most ds = some o → wpSs ⟨[], ca, xs, none⟩ g_l_most (gdOf o) (startE n_l_most ds) := by
  intro ds o h
  unfold ph_l_most at h
  split at h
  · rename_i c n
    cases h
    unfold mostOf
    by_cases h1 : (c / 5 % 6 = 1 ∧ n < 4) ∨ c / 5 % 18 = 2
    · rw [if_pos h1]
      simp [g_l_most, startE, n_l_most, bop_mod, bop_div]
      omega
    · rw [if_neg h1]
      by_cases h2 : c % 5 = 1
      · rw [if_pos h2]
        simp [g_l_most, startE, n_l_most, bop_mod, bop_div, h2]
        omega
      · rw [if_neg h2]
        simp [g_l_most, startE, n_l_most, bop_mod, bop_div, h2]
        omega
  · cases h
def wItem (m : Int) (p : Int × Int) : Int := if m * m / (2 * p.1) < p.2 * m then m * m / (2 * p.1) else p.2 * m
def wSum (ps : List (Int × Int)) (m : Int) : Int := (ps.map (wItem m)).sum
def within : Nat → List (Int × Int) → Int → Int
  | 0, _, m => m
  | n + 1, ps, m => if wSum ps m > 40000 then within n ps (m / 2) else m
theorem within_in : ∀ (n : Nat) (ps : List (Int × Int)) (m : Int), 0 ≤ m → 0 ≤ within n ps m ∧ within n ps m ≤ m
  | 0, _, m, h => ⟨h, Int.le_refl _⟩
  | n + 1, ps, m, h => by
    unfold within
    split
    · have := within_in n ps (m / 2) (by omega)
      omega
    · exact ⟨h, Int.le_refl _⟩
theorem wSum_0 (ps : List (Int × Int)) : wSum ps 0 = 0 := by
  unfold wSum
  have : ps.map (wItem 0) = ps.map fun _ => (0 : Int) := by
    refine List.map_congr_left fun p _ => ?_
    unfold wItem
    simp
  rw [this]
  clear this
  induction ps with
  | nil => rfl
  | cons p r ih =>
    show (0 : Int) + (r.map fun _ => (0 : Int)).sum = 0
    rw [ih]
    rfl
theorem within_end : ∀ (n : Nat) (ps : List (Int × Int)) (m : Int), 0 ≤ m → m < n → ¬wSum ps (within n ps m) > 40000
  | 0, _, m, h, h2 => by omega
  | n + 1, ps, m, h, h2 => by
    unfold within
    split
    · rename_i hs
      by_cases hm : m = 0
      · rw [hm, wSum_0] at hs
        omega
      · exact within_end n ps (m / 2) (by omega) (by omega)
    · rename_i hs
      exact hs
def ph_l_within : List D → Option Out
  | [.list ds, .int m] => (decP ds).bind fun ps => if okTill ps ∧ 0 ≤ m ∧ m ≤ 1000 then some (oI (within 1001 ps m)) else none
  | _ => none
theorem ar_l_within : ∀ ds o, ph_l_within ds = some o → ds.length = 2 := by
  intro ds o h
  unfold ph_l_within at h
  split at h
  · rfl
  · cases h
theorem wp_l_within {ca : Nat → Addr} {xs : List Nat} : ∀ ds o, ph_l_within ds = some o → wpSs ⟨[], ca, xs, none⟩ g_l_within (gdOf o) (startE n_l_within ds) := by
  intro ds o h
  unfold ph_l_within at h
  split at h
  · rename_i ds m
    obtain ⟨ps, e, h2⟩ := bindO h
    clear h
    cases decP_sound e
    split at h2
    · rename_i hg
      obtain ⟨hok, hm0, hm1⟩ := hg
      obtain ⟨hlen, hall⟩ := okTill_of hok
      cases h2
      have hend := within_end 1001 ps m hm0 (by omega)
      unfold g_l_within
      refine wp_cut (fun Γ => ∃ x, Γ = [some (.fz (.list (ps.map eP))), some (.fz (.int (within 1001 ps m))), x]) ?_ ?_
      · refine wp_whl (fun n Γ => ∃ (k : Int) (x : Option Sl), Γ = [some (.fz (.list (ps.map eP))), some (.fz (.int k)), x] ∧ 0 ≤ k ∧ k ≤ 1000 ∧ within n ps k = within 1001 ps m) 1001 ⟨m, none, by simp [startE, n_l_within], hm0, hm1, rfl⟩ ?_
        rintro n _ ⟨k, x, rfl, hk0, hk1, hw⟩
        have hev : ev ⟨[], ca, xs, none⟩ (view [some (.fz (.list (ps.map eP))), some (.fz (.int k)), x]) (.cmp .gt (.sum (.f (.lc [2] (.il (.var 0)) (.mn (.bin .mul (.ix (.var 2) (.cst (.int 1))) (.var 1)) (.bin .div (.bin .mul (.var 1) (.var 1)) (.bin .mul (.cst (.int 2)) (.ix (.var 2) (.cst (.int 0))))))))) (.cst (.int 40000))) = .ok (.bool (decide (wSum ps k > 40000))) := by
          have hlc : evF ⟨[], ca, xs, none⟩ (view [some (.fz (.list (ps.map eP))), some (.fz (.int k)), x]) (.lc [2] (.il (.var 0)) (.mn (.bin .mul (.ix (.var 2) (.cst (.int 1))) (.var 1)) (.bin .div (.bin .mul (.var 1) (.var 1)) (.bin .mul (.cst (.int 2)) (.ix (.var 2) (.cst (.int 0))))))) = .ok ((ps.map (wItem k)).map .int) := by
            rw [e_lc (ps := ps) (g := fun p => .int (wItem k p)) (by simp) (by omega) (fun p hp => by
              obtain ⟨q1, q2, q3⟩ := hall p hp
              have m1 : bop .mul p.2 k = .ok (.int (p.2 * k)) := bop_mul (mulOk_r (by omega) (by omega))
              have m2 : bop .mul k k = .ok (.int (k * k)) := bop_mul (mulOk_r (by omega) (by omega))
              have m3 : bop .mul 2 p.1 = .ok (.int (2 * p.1)) := bop_mul (mulOk_r (by omega) (by omega))
              have m4 : bop .div (k * k) (2 * p.1) = .ok (.int (k * k / (2 * p.1))) := bop_div (by omega) (by omega)
              simp [m1, m2, m3, m4, wItem]), List.map_map]
            rfl
          simp only [e_cmp, e_sum, e_f, hlc, map_ok, bind_ok, sum_l, e_cst, cmp_i, cop_gt]
          rfl
        rw [hev]
        by_cases q : wSum ps k > 40000
        · cases n with
          | zero =>
            have hwk : k = within 1001 ps m := hw
            rw [← hwk] at hend
            exact absurd q hend
          | succ n =>
            refine .inl ⟨n, rfl, by rw [decide_eq_true q], ?_⟩
            simp [bop_div]
            refine ⟨by omega, by omega, ?_⟩
            rw [← hw, within, if_pos q]
        · refine .inr ⟨by rw [decide_eq_false q], x, ?_⟩
          have : k = within 1001 ps m := by
            rw [← hw]
            cases n with
            | zero => rfl
            | succ n => rw [within, if_neg q]
          rw [← this]
      · rintro _ ⟨x, rfl⟩
        simp
    · cases h2
  · cases h
theorem tabGo_step (m : Nat) : ∀ (ps : List (Int × Int)) (row : Row) (k : Nat) (p : Int × Int), ps[k]? = some p → ∃ a b, (tabGo m row ps)[k]? = some a ∧ (tabGo m row ps)[k + 1]? = some b ∧ b = nextRow a p m
  | [], _, _, _, h => by cases h
  | q :: r, row, 0, p, h => by
    cases h
    refine ⟨row, nextRow row q m, rfl, ?_, rfl⟩
    cases r <;> rfl
  | q :: r, row, k + 1, p, h => tabGo_step m r (nextRow row q m) k p h
theorem tab_0 (ps : List (Int × Int)) (m : Nat) : (tableOf ps m)[0]? = some (row0 m) := by
  cases ps <;> rfl
/-! ### the greatest count that fits -/
/-- the place in a row for k pieces of v less -/
def cut (row : Row) (a : Nat) (v : Int) (k : Nat) : Option Int := row.getD ((a : Int) - k * v).toNat none
theorem leastN_s {row : Row} {a : Nat} {v : Int} {k : Nat} : leastN row a v (k + 1) = match cut row a v k with
  | none => leastN row a v k
  | some few => match leastN row a v k with
    | none => some (few + k)
    | some f => if few + k < f then some (few + k) else some f := rfl
theorem leastN_hit {row : Row} {a : Nat} {v : Int} : ∀ {n : Nat} {f : Int}, leastN row a v n = some f → ∃ k, k < n ∧ cut row a v k = some (f - k)
  | 0, f, h => by cases h
  | n + 1, f, h => by
    rw [leastN_s] at h
    cases hc : cut row a v n with
    | none =>
      rw [hc] at h
      obtain ⟨k, h1, h2⟩ := leastN_hit h
      exact ⟨k, by omega, h2⟩
    | some w =>
      rw [hc] at h
      cases hl : leastN row a v n with
      | none =>
        rw [hl] at h
        cases h
        exact ⟨n, by omega, by rw [hc]; congr 1; omega⟩
      | some g =>
        rw [hl] at h
        dsimp only at h
        split at h
        · cases h
          exact ⟨n, by omega, by rw [hc]; congr 1; omega⟩
        · cases h
          obtain ⟨k, h1, h2⟩ := leastN_hit hl
          exact ⟨k, by omega, h2⟩
theorem leastN_le {row : Row} {a : Nat} {v : Int} : ∀ {n k : Nat} {w : Int}, k < n → cut row a v k = some w → ∃ f, leastN row a v n = some f ∧ f ≤ w + k
  | 0, k, w, h, _ => by omega
  | n + 1, k, w, h, hc => by
    rw [leastN_s]
    by_cases q : k = n
    · subst q
      rw [hc]
      dsimp only
      cases hl : leastN row a v k with
      | none => exact ⟨_, rfl, Int.le_refl _⟩
      | some g =>
        dsimp only
        split
        · exact ⟨_, rfl, Int.le_refl _⟩
        · exact ⟨g, rfl, by omega⟩
    · obtain ⟨f, h1, h2⟩ := leastN_le (n := n) (k := k) (by omega) hc
      rw [h1]
      cases hc2 : cut row a v n with
      | none => exact ⟨f, rfl, h2⟩
      | some u =>
        dsimp only
        split
        · exact ⟨_, rfl, by omega⟩
        · exact ⟨f, rfl, h2⟩
/-- the greatest count up to n that leaves so few -/
def fitN (row : Row) (a : Nat) (v few : Int) : Nat → Nat
  | 0 => 0
  | n + 1 => if cut row a v (n + 1) = some (few - (n + 1 : Nat)) then n + 1 else fitN row a v few n
theorem fitN_le {row : Row} {a : Nat} {v few : Int} : ∀ n, fitN row a v few n ≤ n
  | 0 => Nat.le_refl _
  | n + 1 => by
    unfold fitN
    split
    · exact Nat.le_refl _
    · exact Nat.le_succ_of_le (fitN_le n)
theorem fitN_hit {row : Row} {a : Nat} {v few : Int} : ∀ {n k : Nat}, k ≤ n → cut row a v k = some (few - k) → cut row a v (fitN row a v few n) = some (few - (fitN row a v few n : Nat))
  | 0, k, h, hc => by
    have : k = 0 := by omega
    subst this
    exact hc
  | n + 1, k, h, hc => by
    unfold fitN
    split
    · assumption
    · rename_i q
      by_cases z : k = n + 1
      · subst z
        exact absurd hc q
      · exact fitN_hit (by omega) hc
theorem fitN_max {row : Row} {a : Nat} {v few : Int} : ∀ {n k : Nat}, k ≤ n → cut row a v k = some (few - k) → k ≤ fitN row a v few n
  | 0, k, h, hc => h
  | n + 1, k, h, hc => by
    unfold fitN
    split
    · exact h
    · rename_i q
      by_cases z : k = n + 1
      · subst z
        exact absurd hc q
      · exact fitN_max (by omega) hc
def limN (a : Nat) (v c : Int) : Nat := (limOf a v c).toNat - 1
theorem limN_i {a : Nat} {v c : Int} (h1 : 1 ≤ v) (h2 : 0 ≤ c) : (if (a : Int) / v < c then (a : Int) / v else c) = limN a v c := by
  have := (@lim_in a v c h1 h2).1
  unfold limN
  unfold limOf at this ⊢
  omega
theorem limN_in {a : Nat} {v c : Int} (h1 : 1 ≤ v) (h2 : 0 ≤ c) : (limOf a v c).toNat = limN a v c + 1 ∧ ∀ k : Nat, k ≤ limN a v c → (k : Int) * v ≤ a ∧ (k : Int) ≤ c := by
  have := @lim_in a v c h1 h2
  unfold limN
  refine ⟨by omega, fun k hk => ⟨this.2.2 k (by omega), ?_⟩⟩
  have h3 : limOf a v c ≤ c + 1 := by unfold limOf; split <;> omega
  omega
theorem lim_all {a : Nat} {v c : Int} (h1 : 1 ≤ v) {k : Nat} (h2 : (k : Int) * v ≤ a) (h3 : (k : Int) ≤ c) : k ≤ limN a v c := by
  have : (k : Int) ≤ (a : Int) / v := (Int.le_ediv_iff_mul_le (by omega)).mpr h2
  unfold limN limOf
  split <;> omega
/-- the place one row on -/
def stepN (row : Row) (a : Nat) (p : Int × Int) (few : Int) : Nat := fitN row a p.1 few (limN a p.1 p.2)
theorem least_hit {row : Row} {a : Nat} {v c few : Int} (h1 : 1 ≤ v) (h2 : 0 ≤ c) (h : leastOf row a v c = some few) : ∃ k, k ≤ limN a v c ∧ cut row a v k = some (few - k) := by
  obtain ⟨k, hk, hc⟩ := leastN_hit h
  rw [(@limN_in a v c h1 h2).1] at hk
  exact ⟨k, by omega, hc⟩
/-! ### k05: one piece more -/
def reachB (r : Nat → Bool) (v : Nat) (c : Int) (a : Nat) : Bool := (List.range (a + 1)).any fun k => decide ((k : Int) ≤ c) && (decide (k * v ≤ a) && r (a - k * v))
theorem reach_iff {r : Nat → Bool} {v a : Nat} {c : Int} (hv : 1 ≤ v) : reachB r v c a = true ↔ ∃ k : Nat, (k : Int) ≤ c ∧ k * v ≤ a ∧ r (a - k * v) = true := by
  unfold reachB
  rw [List.any_eq_true]
  constructor
  · rintro ⟨k, _, h⟩
    simp only [Bool.and_eq_true, decide_eq_true_eq] at h
    exact ⟨k, h.1, h.2.1, h.2.2⟩
  · rintro ⟨k, h1, h2, h3⟩
    refine ⟨k, List.mem_range.mpr ?_, by simp only [Bool.and_eq_true, decide_eq_true_eq]; exact ⟨h1, h2, h3⟩⟩
    have : k * 1 ≤ k * v := Nat.mul_le_mul_left k hv
    omega
/-- a place that is done: made or not, how many were put -/
def Dn (r : Nat → Bool) (v : Nat) (c : Int) (a : Nat) (b : Bool) (u : Int) : Prop :=
  (b = true → ∃ k : Nat, u = k ∧ (k : Int) ≤ c ∧ k * v ≤ a ∧ r (a - k * v) = true ∧ ∀ j, j < k → j * v ≤ a → r (a - j * v) = false) ∧ (b = false → ∀ k : Nat, (k : Int) ≤ c → k * v ≤ a → r (a - k * v) = false)
theorem dn_reach {r : Nat → Bool} {v a : Nat} {c u : Int} {b : Bool} (hv : 1 ≤ v) (h : Dn r v c a b u) : b = reachB r v c a := by
  cases b with
  | true =>
    obtain ⟨k, _, h1, h2, h3, _⟩ := h.1 rfl
    exact ((reach_iff hv).mpr ⟨k, h1, h2, h3⟩).symm
  | false =>
    cases q : reachB r v c a with
    | false => rfl
    | true =>
      obtain ⟨k, h1, h2, h3⟩ := (reach_iff hv).mp q
      rw [h.2 rfl k h1 h2] at h3
      cases h3
theorem dn_old {r : Nat → Bool} {v a : Nat} {c : Int} (hc : 0 ≤ c) (h : r a = true) : Dn r v c a true 0 := ⟨fun _ => ⟨0, rfl, hc, by omega, by simpa using h, fun j hj => absurd hj (by omega)⟩, fun z => nomatch z⟩
theorem dn_low {r : Nat → Bool} {v a : Nat} {c : Int} (hc : 0 ≤ c) (h : a < v) : Dn r v c a (r a) 0 := by
  cases q : r a with
  | true => exact dn_old hc q
  | false =>
    refine ⟨fun z => (nomatch z), fun _ k _ hk => ?_⟩
    cases k with
    | zero => simpa using q
    | succ k =>
      rw [Nat.succ_mul] at hk
      omega
theorem dn_put {r : Nat → Bool} {v n : Nat} {c u : Int} (h : Dn r v c n true u) (hr : r (v + n) = false) (hu : u < c) : Dn r v c (v + n) true (u + 1) := by
  obtain ⟨k, rfl, h1, h2, h3, h4⟩ := h.1 rfl
  have e : ∀ j, (j + 1) * v = j * v + v := fun j => Nat.succ_mul j v
  refine ⟨fun _ => ⟨k + 1, rfl, by omega, by rw [e]; omega, ?_, fun j hj hjv => ?_⟩, fun z => nomatch z⟩
  · rw [e, show v + n - (k * v + v) = n - k * v by omega]
    exact h3
  · cases j with
    | zero => simpa using hr
    | succ j =>
      rw [e] at hjv ⊢
      rw [show v + n - (j * v + v) = n - j * v by omega]
      exact h4 j (by omega) (by omega)
theorem dn_full {r : Nat → Bool} {v n : Nat} {c u : Int} (h : Dn r v c n true u) (hr : r (v + n) = false) (hu : ¬u < c) : Dn r v c (v + n) false 0 := by
  obtain ⟨k, rfl, h1, h2, h3, h4⟩ := h.1 rfl
  have e : ∀ j, (j + 1) * v = j * v + v := fun j => Nat.succ_mul j v
  refine ⟨fun z => (nomatch z), fun _ j hj hjv => ?_⟩
  cases j with
  | zero => simpa using hr
  | succ j =>
    rw [e] at hjv ⊢
    rw [show v + n - (j * v + v) = n - j * v by omega]
    exact h4 j (by omega) (by omega)
theorem dn_none {r : Nat → Bool} {v n : Nat} {c u : Int} (h : Dn r v c n false u) (hr : r (v + n) = false) : Dn r v c (v + n) false 0 := by
  have e : ∀ j, (j + 1) * v = j * v + v := fun j => Nat.succ_mul j v
  refine ⟨fun z => (nomatch z), fun _ j hj hjv => ?_⟩
  cases j with
  | zero => simpa using hr
  | succ j =>
    rw [e] at hjv ⊢
    rw [show v + n - (j * v + v) = n - j * v by omega]
    exact h.2 rfl j (by omega) (by omega)
theorem range_set {α : Type} {f : Nat → α} {n i : Nat} {x : α} : ((List.range n).map f).set i x = (List.range n).map fun a => if a = i then x else f a := by
  refine List.ext_getElem (by simp) fun j h1 h2 => ?_
  rw [List.getElem_set]
  simp only [List.getElem_map, List.getElem_range]
  by_cases q : i = j
  · simp [q]
  · simp [q, Ne.symm q]
theorem range_ix {f : Nat → D} {n : Nat} {i : Int} (h : 0 ≤ i) (h2 : i < n) : ixD (.list ((List.range n).map f)) (.int i) = .ok (f i.toNat) := ix_l h (by rw [List.getElem?_map, List.getElem?_range (by omega)]; rfl)
theorem range_setB {b : Nat → Bool} {n i : Nat} {x : Bool} : ((List.range n).map fun a => PyData.bool (b a)).set i (.bool x) = (List.range n).map fun a => PyData.bool (if a = i then x else b a) := by
  rw [range_set]
  exact List.map_congr_left fun a _ => by split <;> rfl
theorem range_setI {b : Nat → Int} {n i : Nat} {x : Int} : ((List.range n).map fun a => PyData.int (b a)).set i (.int x) = (List.range n).map fun a => PyData.int (if a = i then x else b a) := by
  rw [range_set]
  exact List.map_congr_left fun a _ => by split <;> rfl
def moreB (bs : List Bool) (v : Nat) (c : Int) : List Bool := (List.range bs.length).map (reachB (fun a => bs.getD a false) v c)
def moreOk (bs : List Bool) (v c m : Int) : Prop := (1 ≤ v ∧ v ≤ 1000) ∧ 0 ≤ c ∧ (0 ≤ m ∧ m ≤ 1000) ∧ (bs.length : Int) = m + 1
instance (bs : List Bool) (v c m : Int) : Decidable (moreOk bs v c m) := inferInstanceAs (Decidable (_ ∧ _ ∧ _ ∧ _))
def ph_l_more : List D → Option Out
  | [.list ds, .int v, .int c, .int m] => (decB ds).bind fun bs => if moreOk bs v c m then some (.mu 0 (.l ((moreB bs v.toNat c).map .bool)) .none) else none
  | _ => none
theorem ar_l_more : ∀ ds o, ph_l_more ds = some o → ds.length = 4 := by
  intro ds o h
  unfold ph_l_more at h
  split at h
  · rfl
  · cases h
theorem v_more {bs : List Bool} {v c m : Int} (h : moreOk bs v c m) : ph_l_more [.list (bs.map .bool), .int v, .int c, .int m] = some (.mu 0 (.l ((moreB bs v.toNat c).map .bool)) .none) := by
  simp only [ph_l_more, decB_map, Option.bind_some, if_pos h]
theorem wp_l_more {ca : Nat → Addr} {xs : List Nat} : ∀ c ds q c' x, ph_l_more (c.enc :: ds) = some (.mu q c' x) → ∀ p, wpSs ⟨[], ca, xs, none⟩ g_l_more (gdM p c' x) (startM n_l_more p c ds) := by
  intro c ds q c' x h p
  cases c with
  | d kvs => simp [ph_l_more, Cn.enc] at h
  | l es =>
  change ph_l_more (.list es :: ds) = _ at h
  unfold ph_l_more at h
  split at h
  · rename_i es' v c m e0
    cases e0
    obtain ⟨bs, e, h2⟩ := bindO h
    clear h
    cases decB_sound e
    split at h2
    · rename_i hg
      cases h2
      obtain ⟨⟨hv, hv2⟩, hc, ⟨hm0, hm⟩, hl⟩ := hg
      obtain ⟨v, rfl⟩ := Int.eq_ofNat_of_zero_le (show 0 ≤ v by omega)
      obtain ⟨M, rfl⟩ := Int.eq_ofNat_of_zero_le (show 0 ≤ m by omega)
      rw [Int.toNat_natCast]
      have hbl : bs.length = M + 1 := by omega
      unfold g_l_more
      generalize hr : (fun a => bs.getD a false) = r
      have hbs : bs.map PyData.bool = (List.range (M + 1)).map fun a => PyData.bool (r a) := by
        refine List.ext_getElem (by simp [hbl]) fun j h1 h2 => ?_
        have e1 : bs[j]? = some (bs[j]'(by simpa using h1)) := List.getElem?_eq_getElem _
        simp only [List.getElem_map, List.getElem_range]
        rw [← hr]
        simp [List.getD_eq_getElem?_getD, e1]
      have hrep : repR (.int 0) (.int ((M : Int) + 1)) = .ok ((List.range (M + 1)).map fun _ => PyData.int 0) := by
        rw [repR_i (by omega) (by omega)]
        congr 1
        refine List.ext_getElem (by simp) fun j h1 h2 => ?_
        simp
      have hfin : moreB bs v c = (List.range (M + 1)).map (reachB r v c) := by
        unfold moreB
        rw [hr, hbl]
      rw [hfin, List.map_map]
      generalize hV : (some (Sl.fz (.int v))) = V
      generalize hC : (some (Sl.fz (.int c))) = C
      generalize hM : (some (Sl.fz (.int M))) = MM
      have hst : startM n_l_more p (.l (bs.map .bool)) [.int v, .int c, .int M] = [some (.mp p (.l ((List.range (M + 1)).map fun a => PyData.bool (r a)))), V, C, MM, none, none] := by
        rw [← hV, ← hC, ← hM, ← hbs]
        rfl
      rw [hst]
      have im0 : immA ((List.range (M + 1)).map fun _ => PyData.int 0) = true := by
        rw [immA_all]
        refine List.all_eq_true.mpr fun d hd => ?_
        obtain ⟨_, _, rfl⟩ := List.mem_map.mp hd
        rfl
      refine wp_cut (fun Γ => Γ = [some (.mp p (.l ((List.range (M + 1)).map fun a => PyData.bool (r a)))), V, C, MM, some (.own (.ol ((List.range (M + 1)).map fun _ => PyData.int 0))), none]) (by
        simp only [w_asgF, e_rep, e_cst, e_bin, e_var, view_cons, view_nil, ← hM, Option.bind_some, Option.bind_none, vw_fz, List.getElem?_cons_succ, List.getElem?_cons_zero, varD_ok, bind_ok, map_ok, bin_i, bop_add, hrep, on_ok]
        exact ⟨im0, rfl⟩) ?_
      rintro _ rfl
      refine wp_cut (fun Γ => ∃ x, Γ = [some (.mp p (.l ((List.range (M + 1)).map fun a => PyData.bool (reachB r v c a)))), V, C, MM, x, none]) ?_ ?_
      · refine wp_rng2 (lo := v) (hi := (M : Int) + 1) (fun n Γ => ∃ (b : Nat → Bool) (u : Nat → Int), Γ = [some (.mp p (.l ((List.range (M + 1)).map fun a => PyData.bool (b a)))), V, C, MM, some (.own (.ol ((List.range (M + 1)).map fun a => PyData.int (u a)))), none] ∧ (∀ a, a < v + n → Dn r v c a (b a) (u a)) ∧ ∀ a, v + n ≤ a → b a = r a ∧ u a = 0) (by simp [← hV]) (by simp [← hM]) (by omega) (by omega) ?_ ?_ ?_
        · exact ⟨r, fun _ => 0, rfl, fun a ha => dn_low hc (by omega), fun a _ => ⟨rfl, rfl⟩⟩
        · rintro n _ hn ⟨b, u, rfl, hb, hu⟩
          have i1 : ∀ f : Nat → D, ixD (.list ((List.range (M + 1)).map f)) (.int ((v : Int) + n)) = .ok (f (v + n)) := fun f => by
            rw [range_ix (by omega) (by omega)]
            congr 2
          have i2 : ∀ f : Nat → D, ixD (.list ((List.range (M + 1)).map f)) (.int ((v : Int) + n - v)) = .ok (f n) := fun f => by
            rw [range_ix (by omega) (by omega)]
            congr 2
            omega
          obtain ⟨hb1, hu1⟩ := hu (v + n) (Nat.le_refl _)
          have dn := hb n (by omega)
          have keep : Dn r v c (v + n) (r (v + n)) 0 → ∃ (b' : Nat → Bool) (u' : Nat → Int), [some (Sl.mp p (.l ((List.range (M + 1)).map fun a => PyData.bool (b a)))), V, C, MM, some (.own (.ol ((List.range (M + 1)).map fun a => PyData.int (u a)))), none] = [some (.mp p (.l ((List.range (M + 1)).map fun a => PyData.bool (b' a)))), V, C, MM, some (.own (.ol ((List.range (M + 1)).map fun a => PyData.int (u' a)))), none] ∧ (∀ a, a < v + (n + 1) → Dn r v c a (b' a) (u' a)) ∧ ∀ a, v + (n + 1) ≤ a → b' a = r a ∧ u' a = 0 := fun z => by
            refine ⟨b, u, rfl, fun a ha => ?_, fun a ha => hu a (by omega)⟩
            by_cases q : a = v + n
            · subst q
              rw [hb1, hu1]
              exact z
            · exact hb a (by omega)
          have l5 : ∀ s t : Option Sl, [s, V, C, MM, t, none].set 5 (some (.fz (.int ((v : Int) + n)))) = [s, V, C, MM, t, some (.fz (.int ((v : Int) + n)))] := fun _ _ => rfl
          rw [l5]
          rw [w_cons, w_ifs]
          have ec : ev ⟨[], ca, xs, none⟩ (view [some (.mp p (.l ((List.range (M + 1)).map fun a => PyData.bool (b a)))), V, C, MM, some (.own (.ol ((List.range (M + 1)).map fun a => PyData.int (u a)))), some (.fz (.int ((v : Int) + n)))]) (.and (.not (.ix (.var 0) (.var 5))) (.and (.ix (.var 0) (.bin .sub (.var 5) (.var 1))) (.cmp .lt (.ix (.var 4) (.bin .sub (.var 5) (.var 1))) (.var 2)))) = .ok (.bool (!r (v + n) && (b n && decide (u n < c)))) := by
            have j1 := i1 fun a => PyData.bool (b a)
            have j2 := i2 fun a => PyData.bool (b a)
            have j3 := i2 fun a => PyData.int (u a)
            rw [hb1] at j1
            cases hh : r (v + n) with
            | true => rw [hh] at j1; simp [← hV, ← hC, j1]
            | false =>
              rw [hh] at j1
              cases hbn : b n with
              | false => rw [hbn] at j2; simp [← hV, ← hC, j1, j2]
              | true => rw [hbn] at j2; simp [← hV, ← hC, j1, j2, j3]
          rw [ec, on_ok, isT_b]
          refine ⟨fun z => ?_, fun z => ?_⟩
          · simp only [Bool.and_eq_true, Bool.not_eq_true', decide_eq_true_eq] at z
            obtain ⟨z1, z2, z3⟩ := z
            rw [z2] at dn
            refine wp_cut (fun Γ => Γ = [some (.mp p (.l ((List.range (M + 1)).map fun a => PyData.bool (if a = v + n then true else b a)))), V, C, MM, some (.own (.ol ((List.range (M + 1)).map fun a => PyData.int (u a)))), some (.fz (.int ((v : Int) + n)))]) ?_ ?_
            · rw [w_setP]
              refine ⟨p, _, rfl, ?_⟩
              have e1 : ((v : Int) + n).toNat = v + n := by omega
              simp only [e_cst, e_var, on_ok, view_cons, view_nil, Option.bind_some, vw_fz, List.getElem?_cons_succ, List.getElem?_cons_zero, varD_ok]
              refine ⟨rfl, (v : Int) + n, rfl, by omega, by rw [List.length_map, List.length_range]; omega, ?_⟩
              rw [e1, range_setB]
              rfl
            rintro _ rfl
            refine wp_cut (fun Γ => Γ = [some (.mp p (.l ((List.range (M + 1)).map fun a => PyData.bool (if a = v + n then true else b a)))), V, C, MM, some (.own (.ol ((List.range (M + 1)).map fun a => PyData.int (if a = v + n then u n + 1 else u a)))), some (.fz (.int ((v : Int) + n)))]) ?_ ?_
            · rw [w_setI]
              refine ⟨_, rfl, ?_⟩
              have e1 : ((v : Int) + n).toNat = v + n := by omega
              have j3 := i2 fun a => PyData.int (u a)
              have ee : ev ⟨[], ca, xs, none⟩ (view [some (.mp p (.l ((List.range (M + 1)).map fun a => PyData.bool (if a = v + n then true else b a)))), V, C, MM, some (.own (.ol ((List.range (M + 1)).map fun a => PyData.int (u a)))), some (.fz (.int ((v : Int) + n)))]) (.bin .add (.ix (.var 4) (.bin .sub (.var 5) (.var 1))) (.cst (.int 1))) = .ok (.int (u n + 1)) := by
                simp [← hV, j3]
              rw [ee, on_ok]
              simp only [e_cst, e_var, on_ok, view_cons, view_nil, Option.bind_some, vw_fz, List.getElem?_cons_succ, List.getElem?_cons_zero, varD_ok]
              refine ⟨rfl, (v : Int) + n, rfl, by omega, by rw [List.length_map, List.length_range]; omega, ?_⟩
              rw [e1, range_setI]
              rfl
            rintro _ rfl
            rw [w_nil]
            show wpSs (⟨[], ca, xs, none⟩ : Tb) .nil _ _
            rw [w_nil]
            refine ⟨_, _, rfl, fun a ha => ?_, fun a ha => ?_⟩
            · by_cases q : a = v + n
              · subst q
                simp only [if_true]
                exact dn_put dn z1 z3
              · simp only [q, if_false]
                exact hb a (by omega)
            · have q : ¬a = v + n := by omega
              simp only [q, if_false]
              exact hu a (by omega)
          · rw [w_nil]
            refine keep ?_
            cases hh : r (v + n) with
            | true => exact dn_old hc hh
            | false =>
              rw [hh] at z
              cases hbn : b n with
              | false =>
                rw [hbn] at dn
                exact dn_none dn hh
              | true =>
                rw [hbn] at z dn
                exact dn_full dn hh (by simpa using z)
        · rintro _ ⟨b, u, rfl, hb, hu⟩
          have : ((List.range (M + 1)).map fun a => PyData.bool (b a)) = (List.range (M + 1)).map fun a => PyData.bool (reachB r v c a) := by
            refine List.map_congr_left fun a ha => ?_
            have ha := List.mem_range.mp ha
            rw [← dn_reach (by omega) (hb a (by omega))]
          rw [this]
          exact ⟨_, rfl⟩
      rintro _ ⟨x, rfl⟩
      rw [w_nil]
      exact ⟨rfl, rfl⟩
    · cases h2
  · cases h
/-- a list of the numbers that are wanted -/
theorem e_lcfr {T : Tb} {Γ : TD.Env} {t : Nat} {a c e : GE} {n : Int} {q : Nat → Bool} {h : Nat → D} (he : ev T Γ a = .ok (.int n)) (h0 : 0 ≤ n) (hl : n ≤ 16777216)
    (hg : ∀ i : Nat, (i : Int) < n → ev T ((wipeE Γ [t]).set t (some (.fz (.int i)))) c = .ok (.bool (q i)) ∧ (q i = true → ev T ((wipeE Γ [t]).set t (some (.fz (.int i)))) e = .ok (h i))) :
    evF T Γ (.lcf [t] (.i1 a) c e) = .ok (((List.range n.toNat).filter q).map h) := by
  have e2 : evI T Γ (.i1 a) = .ok ((List.range n.toNat).map fun i => [PyData.int (i : Nat)]) := by
    show (ev T Γ a).bind _ = _
    rw [he]
    show (if rngOk n = true then Rs.ok (rngL 0 n) else .bad) = _
    rw [if_pos (by unfold rngOk; exact decide_eq_true (by omega))]
    unfold rngL
    simp
  show (evI T Γ (.i1 a)).bind _ = _
  rw [e2]
  show (if TD.sizeOk ((List.range n.toNat).map fun i => [PyData.int (i : Nat)]).length = true then lcM _ ((List.range n.toNat).map fun i => [PyData.int (i : Nat)]) else Rs.bad) = _
  rw [if_pos (size_lit (by rw [List.length_map, List.length_range]; omega))]
  refine lcM_flt fun i hi => ?_
  have hi := List.mem_range.mp hi
  obtain ⟨h1, h2⟩ := hg i (by omega)
  show ((ev T ((wipeE Γ [t]).set t (some (.fz (.int i)))) c).bind fun b => _) = _
  rw [h1]
  cases z : q i with
  | true =>
    show (ev T ((wipeE Γ [t]).set t (some (.fz (.int i)))) e).map some = _
    rw [h2 z]
    rfl
  | false => rfl
def sumsOf (ps : List (Int × Int)) (m : Nat) : List Int := ((List.range (m + 1)).filter fun a => (cellR (tableOf ps m) ps.length a).isSome).map fun a : Nat => (a : Int)
def ph_sums : List D → Option Out
  | [.list ds, .int m] => (decP ds).bind fun ps => if badSum m then some (.exc 5) else if okTill ps = true then some (.ret (.ol ((sumsOf ps m.toNat).map .int))) else none
  | _ => none
theorem ar_sums : ∀ ds o, ph_sums ds = some o → ds.length = 2 := by
  intro ds o h
  unfold ph_sums at h
  split at h
  · rfl
  · cases h
theorem v_sums {ps : List (Int × Int)} {m : Nat} (h : m ≤ 1000) (hk : okTill ps = true) : ph_sums [.list (ps.map eP), .int m] = some (.ret (.ol ((sumsOf ps m).map .int))) := by
  have h' : ¬badSum (m : Int) := by unfold badSum; omega
  simp only [ph_sums, decP_map, Option.bind_some, if_neg h', if_pos hk, Int.toNat_natCast]
theorem v_sums_bad {ps : List (Int × Int)} {m : Int} (h : badSum m) : ph_sums [.list (ps.map eP), .int m] = some (.exc 5) := by
  simp only [ph_sums, decP_map, Option.bind_some, if_pos h]
theorem wp_sums {ca : Nat → Addr} {xs : List Nat} : ∀ ds o, ph_sums ds = some o → wpSs ⟨[ph_table], ca, xs, none⟩ g_sums (gdOf o) (startE n_sums ds) := by
  intro ds o h
  unfold ph_sums at h
  split at h
  · rename_i ds m
    obtain ⟨ps, e, h2⟩ := bindO h
    clear h
    cases decP_sound e
    split at h2
    · rename_i hb
      cases h2
      simp [g_sums, startE, n_sums, v_table_bad hb]
    · rename_i hb
      split at h2
      · rename_i hok
        cases h2
        have hb' : ¬(m < 0 ∨ m > 1000) := hb
        obtain ⟨M, rfl⟩ := Int.eq_ofNat_of_zero_le (show 0 ≤ m by omega)
        rw [Int.toNat_natCast]
        have hM : M ≤ 1000 := by omega
        have vt := @v_table ps M hM hok
        have hrows := tabGo_rows M ps (row0 M) (row0_len M)
        have hlen : (tableOf ps M).length = ps.length + 1 := tabGo_len M ps _
        change ∀ r ∈ tableOf ps M, r.length = M + 1 at hrows
        have hl : (rowAt (tableOf ps M) ps.length).length = M + 1 := by
          have hk : (tableOf ps M)[ps.length]? = some (tableOf ps M)[ps.length] := List.getElem?_eq_getElem (by omega)
          rw [rowAt_some hk]
          exact hrows _ (List.getElem_mem _)
        unfold sumsOf
        generalize tableOf ps M = rs at *
        unfold g_sums
        have ixn : ixD (.list (rs.map rowD)) (.int ps.length) = .ok (.list ((rowAt rs ps.length).map oD)) := ix_rowsN (by omega)
        generalize hP : (some (Sl.fz (.list (ps.map eP)))) = P
        generalize hMM : (some (Sl.fz (.int M))) = MM
        generalize hL : (some (Sl.fz (.list ((rowAt rs ps.length).map oD)))) = L
        refine wp_cut (fun Γ => Γ = [P, MM, L, none]) (by
          simp only [startE, n_sums]
          simp [← hP, ← hMM, ← hL, vt, tabR_toD, ixn]) ?_
        rintro _ rfl
        have hlc := e_lcfr (T := ⟨[ph_table], ca, xs, none⟩) (Γ := view [P, MM, L, none]) (t := 3) (a := .bin .add (.var 1) (.cst (.int 1))) (c := .isn true (.ix (.var 2) (.var 3))) (e := .var 3) (n := (M : Int) + 1) (q := fun a => (cellR rs ps.length a).isSome) (h := fun a => .int a) (by simp [← hMM]) (by omega) (by omega) (fun a ha => by
          have ixc := @ix_cell rs ps.length a (by omega)
          refine ⟨?_, fun _ => by simp⟩
          cases hc : cellR rs ps.length a with
          | none => rw [hc] at ixc; simp [← hL, ixc, oD]
          | some f => rw [hc] at ixc; simp [← hL, ixc, oD])
        rw [show ((M : Int) + 1).toNat = M + 1 by omega] at hlc
        have hm : (((List.range (M + 1)).filter fun a => (cellR rs ps.length a).isSome).map fun a : Nat => PyData.int a) = ((((List.range (M + 1)).filter fun a => (cellR rs ps.length a).isSome).map fun a : Nat => (a : Int)).map PyData.int) := by rw [List.map_map]; rfl
        rw [hm] at hlc
        rw [w_cons, w_ret, r_f, hlc, bind_ok, if_pos immA_int, on_ok]
        rfl
      · cases h2
  · cases h
def ph_l_refused : List D → Option Out
  | [.list ds, .int m] => (decP ds).bind fun _ => if badSum m then some (oB true) else none
  | _ => none
theorem ar_l_refused : ∀ ds o, ph_l_refused ds = some o → ds.length = 2 := by
  intro ds o h
  unfold ph_l_refused at h
  split at h
  · rfl
  · cases h
theorem wp_l_refused {ca : Nat → Addr} {xs : List Nat} (hx : 5 ∈ xs) : ∀ ds o, ph_l_refused ds = some o → wpSs ⟨[ph_sums], ca, xs, none⟩ g_l_refused (gdOf o) (startE n_l_refused ds) := by
  intro ds o h
  unfold ph_l_refused at h
  split at h
  · rename_i ds m
    obtain ⟨ps, e, h2⟩ := bindO h
    clear h
    cases decP_sound e
    split at h2
    · rename_i hb
      cases h2
      simp [g_l_refused, startE, n_l_refused, v_sums_bad hb, hx, subX]
    · cases h2
  · cases h
/-! what is made is what the table tells -/
theorem least_some {row : Row} {a : Nat} {v : Nat} {c : Int} (h1 : 1 ≤ v) (h2 : 0 ≤ c) : (leastOf row a v c).isSome = reachB (fun a => (row.getD a none).isSome) v c a := by
  have hcut : ∀ k : Nat, k * v ≤ a → cut row a v k = row.getD (a - k * v) none := fun k hk => by
    unfold cut
    congr 1
    have : ((k * v : Nat) : Int) = (k : Int) * v := Int.natCast_mul k v
    omega
  cases hl : leastOf row a v c with
  | some f =>
    obtain ⟨k, hk, hc⟩ := least_hit (by omega) h2 hl
    have hin := (@limN_in a (v : Int) c (by omega) h2).2 k hk
    have hkv : k * v ≤ a := by
      have : ((k * v : Nat) : Int) = (k : Int) * v := Int.natCast_mul k v
      omega
    refine ((reach_iff h1).mpr ⟨k, hin.2, hkv, ?_⟩).symm
    rw [← hcut k hkv, hc]
    rfl
  | none =>
    cases hr : reachB (fun a => (row.getD a none).isSome) v c a with
    | false => rfl
    | true =>
      obtain ⟨k, k1, k2, k3⟩ := (reach_iff h1).mp hr
      have hkv : (k : Int) * v ≤ a := by
        have : ((k * v : Nat) : Int) = (k : Int) * v := Int.natCast_mul k v
        omega
      have hk := lim_all (a := a) (v := (v : Int)) (c := c) (by omega) hkv k1
      have hk2 := (@limN_in a (v : Int) c (by omega) h2).1
      rw [← hcut k k2] at k3
      cases hc : cut row a v k with
      | none => rw [hc] at k3; cases k3
      | some w =>
        obtain ⟨f, hf, _⟩ := leastN_le (n := (limOf a v c).toNat) (by omega) hc
        unfold leastOf at hl
        rw [hf] at hl
        cases hl
theorem more_row {row : Row} {p : Int × Int} {m : Nat} (h : row.length = m + 1) (hp : okP p) : moreB (row.map Option.isSome) p.1.toNat p.2 = (nextRow row p m).map Option.isSome := by
  unfold moreB nextRow
  rw [List.length_map, h, List.map_map]
  refine List.map_congr_left fun a ha => ?_
  have ha := List.mem_range.mp ha
  have hv : ((p.1.toNat : Nat) : Int) = p.1 := by have := hp.1; omega
  show _ = (leastOf row a p.1 p.2).isSome
  rw [← hv, least_some (by have := hp.1; omega) hp.2.2]
  congr 1
  funext b
  rw [List.getD_eq_getElem?_getD, List.getD_eq_getElem?_getD, List.getElem?_map]
  cases row[b]? <;> rfl
theorem last_row {m : Nat} : ∀ {ps : List (Int × Int)} {row : Row}, rowAt (tabGo m row ps) ps.length = ps.foldl (fun r p => nextRow r p m) row
  | [], row => rfl
  | p :: r, row => by
    rw [List.foldl_cons, ← last_row (ps := r)]
    rfl
def ph_law : List D → Option Out
  | [.list ds] => (decI ds).map fun _ => oB true
  | _ => none
theorem ar_law : ∀ ds o, ph_law ds = some o → ds.length = 1 := by
  intro ds o h
  unfold ph_law at h
  split at h
  · rfl
  · cases h
theorem ix_4b {c m : Int} : ∃ v, badSum v ∧ ixD (.list [.int (-1), .int 1001, .int (-2 - c % 1000000000), .int (1002 + c % 1000000000)]) (.int (m % 4)) = .ok (.int v) := by
  have h3 : m % 4 = 0 ∨ m % 4 = 1 ∨ m % 4 = 2 ∨ m % 4 = 3 := by omega
  have hb : ∀ v : Int, badSum v ↔ (v < 0 ∨ v > 1000) := fun _ => Iff.rfl
  rcases h3 with h | h | h | h <;> rw [h] <;> refine ⟨_, ?_, rfl⟩ <;> rw [hb] <;> omega
theorem wp_law {ca : Nat → Addr} {xs : List Nat} : ∀ ds o, ph_law ds = some o → wpSs ⟨[ph_l_cell_at, ph_l_within, ph_sums, ph_l_pairs, ph_l_most, ph_l_more, ph_l_refused, ph_l_whole], ca, xs, none⟩ g_law (gdOf o) (startE n_law ds) := by
  intro ds o h
  unfold ph_law at h
  split at h
  · rename_i ds
    obtain ⟨ns, e, h2⟩ := mapO h
    clear h
    cases decI_sound e
    subst h2
    unfold g_law
    generalize hS : (some (Sl.fz (.list (ns.map .int)))) = S
    generalize hT : (⟨[ph_l_cell_at, ph_l_within, ph_sums, ph_l_pairs, ph_l_most, ph_l_more, ph_l_refused, ph_l_whole], ca, xs, none⟩ : Tb) = T
    refine wp_cut (fun Γ => ∃ ps, Drawn ps ∧ Γ = [S, some (.fz (.list (ps.map eP))), none, none, none, none, none, none, none, none]) ?_ ?_
    · simp [startE, n_law, v_pairs, ← hS, ← hT]
      exact ⟨_, sorted_drawn ns, rfl⟩
    rintro _ ⟨ps, dr, rfl⟩
    have hok := okTill_drawn dr
    have hfew := dr.few
    obtain ⟨hlen, hall⟩ := okTill_of hok
    generalize hP : (some (Sl.fz (.list (ps.map eP)))) = P
    refine wp_cut (fun Γ => Γ = [S, P, P, none, none, none, none, none, none, none]) (by simp [← hP]) ?_
    rintro _ rfl
    refine wp_cut (fun Γ => ∃ c : Int, Γ = [S, P, P, some (.fz (.int c)), none, none, none, none, none, none]) (by simp [← hS, ← hT, v_cell_at]) ?_
    rintro _ ⟨c, rfl⟩
    have heq := eq_same (n := false) (okD_pair ps) (by decide)
    have hne := eq_same (n := true) (okD_pair ps) (by decide)
    refine wp_cut (fun Γ => Γ = [S, P, P, some (.fz (.int c)), none, none, none, none, none, none]) ?_ ?_
    · obtain ⟨v, hv, hix⟩ := @ix_4b c (cell ns 4 / 8)
      have w1 : ph_l_refused [.list (ps.map eP), .int v] = some (oB true) := by simp [ph_l_refused, decP_map, hv]
      have ec : ev T (view [S, P, P, some (.fz (.int c)), none, none, none, none, none, none]) (.eq false (.bin .mod (.call 0 (.cons (.var 0) (.cons (.cst (.int 4)) (.nil)))) (.cst (.int 8))) (.cst (.int 1))) = .ok (.bool (decide (cell ns 4 % 8 = 1))) := by
        simp [← hS, ← hT, v_cell_at, bop_mod]
      rw [w_ifs, ec, on_ok, isT_b]
      refine ⟨fun _ => ?_, fun _ => rfl⟩
      rw [w_cons, w_asgV]
      have e2 : ev T (view [S, P, P, some (.fz (.int c)), none, none, none, none, none, none]) (.bin .mod (.bin .div (.call 0 (.cons (.var 0) (.cons (.cst (.int 4)) (.nil)))) (.cst (.int 8))) (.cst (.int 4))) = .ok (.int (cell ns 4 / 8 % 4)) := by
        simp [← hS, ← hT, v_cell_at, bop_mod, bop_div]
      have e3 : ev T (view [S, P, P, some (.fz (.int c)), none, none, none, none, none, none]) (.f (.lst (.cons (.cst (.int (-1))) (.cons (.cst (.int 1001)) (.cons (.bin .sub (.cst (.int (-2))) (.bin .mod (.var 3) (.cst (.int 1000000000)))) (.cons (.bin .add (.cst (.int 1002)) (.bin .mod (.var 3) (.cst (.int 1000000000)))) (.nil))))))) = .ok (.list [.int (-1), .int 1001, .int (-2 - c % 1000000000), .int (1002 + c % 1000000000)]) := by
        simp only [e_f, e_lst, e_cons, e_nil, e_cst, e_bin, e_var, view_cons, view_nil, Option.bind_some, Option.bind_none, vw_fz, List.getElem?_cons_succ, List.getElem?_cons_zero, varD_ok, bind_ok, map_ok, bin_i, bop_sub, bop_add, bop_mod (show (0 : Int) < 1000000000 by decide), List.length_cons, List.length_nil, size_lit (show 0 + 1 + 1 + 1 + 1 ≤ 16777216 by decide), if_true]
      rw [e_ix, e3, bind_ok, e2, bind_ok, hix, on_ok]
      refine ⟨rfl, ?_⟩
      simp [← hP, ← hT, w1, heq]
    rintro _ rfl
    refine wp_cut (fun Γ => ∃ M : Nat, M ≤ 1000 ∧ Γ = [S, P, P, some (.fz (.int c)), some (.fz (.int M)), none, none, none, none, none]) ?_ ?_
    · have hm := most_in c ps.length
      have hw := within_in 1001 ps (mostOf c ps.length) hm.1
      have vw : ph_l_within [.list (ps.map eP), .int (mostOf c ps.length)] = some (oI (within 1001 ps (mostOf c ps.length))) := by
        simp [ph_l_within, decP_map, hok, hm]
      simp [← hP, ← hT, ph_l_most, vw]
      refine ⟨(within 1001 ps (mostOf c ps.length)).toNat, by omega, by omega⟩
    rintro _ ⟨M, hM, rfl⟩
    generalize hC : (some (Sl.fz (.int c))) = C
    generalize hMM : (some (Sl.fz (.int M))) = MM
    have vs := v_sums hM hok
    have hfin := @last_row M ps (row0 M)
    have hfr : rowAt (tableOf ps M) ps.length = ps.foldl (fun r p => nextRow r p M) (row0 M) := hfin
    have hrep : repR (.bool false) (.int M) = .ok (List.replicate M (.bool false)) := by
      rw [repR_i (by omega) (by omega), Int.toNat_natCast]
    have hcat : catR (.list [.bool true]) (.list (List.replicate M (.bool false))) = .ok (((row0 M).map Option.isSome).map .bool) := by
      rw [catR_l (by simp; omega)]
      simp [row0]
    have immB : ∀ bs : List Bool, immA (bs.map PyData.bool) = true := fun bs => by
      rw [immA_all]
      refine List.all_eq_true.mpr fun d hd => ?_
      obtain ⟨_, _, rfl⟩ := List.mem_map.mp hd
      rfl
    refine wp_cut (fun Γ => Γ = [S, P, P, C, MM, some (.own (.ol (((row0 M).map Option.isSome).map .bool))), none, none, none, none]) (by
      simp only [w_asgF, e_cat, e_f, e_lst, e_rep, e_cons, e_nil, e_cst, e_var, view_cons, view_nil, ← hMM, Option.bind_some, Option.bind_none, vw_fz, List.getElem?_cons_succ, List.getElem?_cons_zero, varD_ok, bind_ok, map_ok, List.length_cons, List.length_nil, size_lit (show 0 + 1 ≤ 16777216 by decide), if_true, hrep, hcat, on_ok]
      exact ⟨immB _, rfl⟩) ?_
    rintro _ rfl
    refine wp_cut (fun Γ => Γ = [S, P, P, C, MM, some (.own (.ol (((rowAt (tableOf ps M) ps.length).map Option.isSome).map .bool))), none, none, none, none]) ?_ ?_
    · refine wp_prs (ps := ps) (fun r Γ => ∃ row : Row, Γ = [S, P, P, C, MM, some (.own (.ol ((row.map Option.isSome).map .bool))), none, none, none, none] ∧ row.length = M + 1 ∧ r.foldl (fun r p => nextRow r p M) row = rowAt (tableOf ps M) ps.length ∧ ∀ p ∈ r, okP p) (by simp [← hP]) ⟨row0 M, rfl, row0_len M, hfr.symm, hall⟩ ?_ ?_
      · rintro p r _ ⟨row, rfl, hrl, hf, hp⟩
        have hp0 := hp p List.mem_cons_self
        have hmo : moreOk (row.map Option.isSome) p.1 p.2 M := ⟨⟨hp0.1, hp0.2.1⟩, hp0.2.2, ⟨by omega, by omega⟩, by rw [List.length_map]; omega⟩
        have vm := v_more hmo
        rw [more_row hrl hp0] at vm
        refine wp_cut (fun Γ => Γ = [S, P, P, C, MM, some (.own (.ol (((nextRow row p M).map Option.isSome).map .bool))), some (.fz (eP p)), none, none, none]) ?_ ?_
        · rw [w_callM]
          refine ⟨_, [.int p.1, .int p.2, .int M], .l (((nextRow row p M).map Option.isSome).map .bool), .none, rfl, by simp [← hMM], ?_, trivial, rfl⟩
          exact callM_of (φ := ph_l_more) (by rw [← hT]; rfl) vm
        rintro _ rfl
        rw [w_nil]
        exact ⟨nextRow row p M, rfl, nextRow_len _ _ _, hf, fun q hq => hp q (List.mem_cons_of_mem _ hq)⟩
      · rintro _ ⟨row, rfl, _, hf, _⟩
        rw [List.foldl_nil] at hf
        rw [← hf]
    rintro _ rfl
    have hrows := tabGo_rows M ps (row0 M) (row0_len M)
    have htl : (tableOf ps M).length = ps.length + 1 := tabGo_len M ps _
    change ∀ r ∈ tableOf ps M, r.length = M + 1 at hrows
    have hl : (rowAt (tableOf ps M) ps.length).length = M + 1 := by
      have hk : (tableOf ps M)[ps.length]? = some (tableOf ps M)[ps.length] := List.getElem?_eq_getElem (by omega)
      rw [rowAt_some hk]
      exact hrows _ (List.getElem_mem _)
    have hsl : (sumsOf ps M).length ≤ 1001 := by
      unfold sumsOf
      rw [List.length_map]
      refine Nat.le_trans (List.length_filter_le _ _) ?_
      rw [List.length_range]
      omega
    generalize hMD : (some (Sl.own (.ol (((rowAt (tableOf ps M) ps.length).map Option.isSome).map PyData.bool)))) = MD
    refine wp_cut (fun Γ => Γ = [S, P, P, C, MM, MD, none, some (.own (.ol ((sumsOf ps M).map .int))), none, none]) ?_ ?_
    · have hlc := e_lcfr (T := T) (Γ := view [S, P, P, C, MM, MD, none, none, none, none]) (t := 8) (a := .bin .add (.var 4) (.cst (.int 1))) (c := .ix (.var 5) (.var 8)) (e := .var 8) (n := (M : Int) + 1) (q := fun a => (cellR (tableOf ps M) ps.length a).isSome) (h := fun a => .int a) (by simp [← hMM]) (by omega) (by omega) (fun a ha => by
        have ixb : ixD (.list (((rowAt (tableOf ps M) ps.length).map Option.isSome).map PyData.bool)) (.int a) = .ok (.bool (cellR (tableOf ps M) ps.length a).isSome) := by
          have h0 : a < (rowAt (tableOf ps M) ps.length).length := by omega
          refine ix_l (by omega) ?_
          rw [Int.toNat_natCast, List.getElem?_map, List.getElem?_map, List.getElem?_eq_getElem h0]
          unfold cellR
          rw [List.getD_eq_getElem?_getD, List.getElem?_eq_getElem h0]
          rfl
        rw [List.map_map] at ixb
        exact ⟨by simp [← hMD, ixb], fun _ => by simp⟩)
      rw [show ((M : Int) + 1).toNat = M + 1 by omega] at hlc
      have hm : (((List.range (M + 1)).filter fun a => (cellR (tableOf ps M) ps.length a).isSome).map fun a : Nat => PyData.int a) = (sumsOf ps M).map PyData.int := by unfold sumsOf; rw [List.map_map]; rfl
      rw [hm] at hlc
      rw [w_asgF, hlc, on_ok]
      exact ⟨immA_int, rfl⟩
    rintro _ rfl
    have hso := okD_int (sumsOf ps M)
    have hq := eq_same (n := true) hso (by decide)
    have his : isiD .list (.list ((sumsOf ps M).map PyData.int)) = true := rfl
    have hwh : ∀ i : Int, ph_l_whole [.int i] = some (oB true) := fun i => by rfl
    generalize sumsOf ps M = ss at *
    generalize hDu : (some (Sl.own (.ol (ss.map PyData.int)))) = DU
    refine wp_cut (fun Γ => Γ = [S, P, P, C, MM, MD, none, DU, none, none]) (by simp [← hP, ← hMM, ← hT, vs]; omega) ?_
    rintro _ rfl
    generalize hF : (some (Sl.fz (.list (ss.map PyData.int)))) = F
    refine wp_cut (fun Γ => Γ = [S, P, P, C, MM, MD, none, DU, none, F]) (by simp [← hP, ← hMM, ← hT, ← hF, vs]) ?_
    rintro _ rfl
    refine wp_cut (fun Γ => Γ = [S, P, P, C, MM, MD, none, DU, none, F]) (by simp [← hP, ← hF, ← hDu, hq, hne, his]) ?_
    rintro _ rfl
    refine wp_cut (fun Γ => Γ = [S, P, P, C, MM, MD, none, DU, none, F]) ?_ ?_
    · refine wp_map (f := PyData.int) (xs := ss) (fun _ Γ => Γ = [S, P, P, C, MM, MD, none, DU, none, F]) (by simp [← hF]) rfl ?_ (fun Γ h => h)
      rintro x r _ rfl
      simp [← hT, hwh]
    rintro _ rfl
    simp
  · cases h
end TL

namespace TL
open PySem PySem.Spec PyProof.Rows L2 TD
set_option maxHeartbeats 0 in
theorem all_mk {P : Program} {w : World} {K : PySem.W.Frag} {h : Heap} {mg : Str → Option Value} {fa : Addr} (X : K.In h) (G : h.Ns mainGlobals mg) (hfa : mg "law" = some (.ref fa))
    {C5 : Addr}
    {t_GREATEST_SUM : Nat}
    {f0 : Addr} {od0 an0 : Option Addr} {sl0 : Array (Option Value)} {oc0 kV0 dc0 pm0 cd0 ct0 : Value}
    {f1 : Addr} {od1 an1 : Option Addr} {sl1 : Array (Option Value)} {oc1 kV1 dc1 pm1 cd1 ct1 : Value}
    {f2 : Addr} {od2 an2 : Option Addr} {sl2 : Array (Option Value)} {oc2 kV2 dc2 pm2 cd2 ct2 : Value}
    {f3 : Addr} {od3 an3 : Option Addr} {sl3 : Array (Option Value)} {oc3 kV3 dc3 pm3 cd3 ct3 : Value}
    {f4 : Addr} {od4 an4 : Option Addr} {sl4 : Array (Option Value)} {oc4 kV4 dc4 pm4 cd4 ct4 : Value}
    {f5 : Addr} {od5 an5 : Option Addr} {sl5 : Array (Option Value)} {oc5 kV5 dc5 pm5 cd5 ct5 : Value}
    {f6 : Addr} {od6 an6 : Option Addr} {sl6 : Array (Option Value)} {oc6 kV6 dc6 pm6 cd6 ct6 : Value}
    {f7 : Addr} {od7 an7 : Option Addr} {sl7 : Array (Option Value)} {oc7 kV7 dc7 pm7 cd7 ct7 : Value}
    {f8 : Addr} {od8 an8 : Option Addr} {sl8 : Array (Option Value)} {oc8 kV8 dc8 pm8 cd8 ct8 : Value}
    {f9 : Addr} {od9 an9 : Option Addr} {sl9 : Array (Option Value)} {oc9 kV9 dc9 pm9 cd9 ct9 : Value}
    {f10 : Addr} {od10 an10 : Option Addr} {sl10 : Array (Option Value)} {oc10 kV10 dc10 pm10 cd10 ct10 : Value}
    {f11 : Addr} {od11 an11 : Option Addr} {sl11 : Array (Option Value)} {oc11 kV11 dc11 pm11 cd11 ct11 : Value}
    {f12 : Addr} {od12 an12 : Option Addr} {sl12 : Array (Option Value)} {oc12 kV12 dc12 pm12 cd12 ct12 : Value}
    {f13 : Addr} {od13 an13 : Option Addr} {sl13 : Array (Option Value)} {oc13 kV13 dc13 pm13 cd13 ct13 : Value}
    {f14 : Addr} {od14 an14 : Option Addr} {sl14 : Array (Option Value)} {oc14 kV14 dc14 pm14 cd14 ct14 : Value}
    (g5 : PySem.W.nsIn K mainGlobals "NoSum" = some (some (.ref C5)))
    (kp5 : PySem.W.keepIn K (.ref C5) = true)
    (ex5 : PySem.W.excIn K C5 [.type "ValueError", .type "Exception", .type "BaseException", .type "object"] "ValueError.__new__" = true)
    (sb5 : PySem.W.subIn K (.ref C5) (.type "BaseException") = some true)
    (ty5 : PySem.W.typeIn K (.ref C5) = some (.type "type"))
    (ic5 : PySem.W.isClsIn K C5 = true)
    (sv5 : PySem.W.subIn K (.ref C5) (.type "ValueError") = some true)
    (hg5 : PySem.W.findIn K (.ref C5) "__getattribute__" = some (some (.builtin "BaseException.__getattribute__")))
    (hk5 : PySem.W.findIn K (.ref C5) "__getattr__" = some none)
    (hd5 : PySem.W.hasDictIn K C5 = true)
    (ha5 : PySem.W.findIn K (.ref C5) "__class__" = some (some (.builtin "object.__class__")))
    (hm5 : PySem.W.mroIn K C5 (.type "object") = some true)
    (hn : PySem.W.specialIn K (.builtin "object.__class__") "__get__" = some (some (.builtin "getset_descriptor.__get__")))
    (ht : PySem.W.takesIn K (.builtin "object.__class__") = some true)
    (s5_5 : PySem.W.subIn K (.ref C5) (.ref C5) = some true)
    (z_len : PySem.W.nsIn K mainGlobals "len" = some none)
    (z_sum : PySem.W.nsIn K mainGlobals "sum" = some none)
    (z_abs : PySem.W.nsIn K mainGlobals "abs" = some none)
    (z_min : PySem.W.nsIn K mainGlobals "min" = some none)
    (z_max : PySem.W.nsIn K mainGlobals "max" = some none)
    (z_int : PySem.W.nsIn K mainGlobals "int" = some none)
    (z_bool : PySem.W.nsIn K mainGlobals "bool" = some none)
    (z_list : PySem.W.nsIn K mainGlobals "list" = some none)
    (z_tuple : PySem.W.nsIn K mainGlobals "tuple" = some none)
    (z_sorted : PySem.W.nsIn K mainGlobals "sorted" = some none)
    (z_isinstance : PySem.W.nsIn K mainGlobals "isinstance" = some none)
    (z_range : PySem.W.nsIn K mainGlobals "range" = some none)
    (z_zip : PySem.W.nsIn K mainGlobals "zip" = some none)
    (z_enumerate : PySem.W.nsIn K mainGlobals "enumerate" = some none)
    (z_ValueError : PySem.W.nsIn K mainGlobals "ValueError" = some none)
    (k_GREATEST_SUM : PySem.W.nsIn K mainGlobals "GREATEST_SUM" = some (some (.int 1000 t_GREATEST_SUM)))
    (a0 : PySem.W.nsIn K mainGlobals "need_sum" = some (some (.ref f0)))
    (l0 : K.lookup f0 = some ⟨oc0, od0, .func (PySem.W.fnOf "need_sum" "need_sum" (defArgs s_need_sum) (defBody s_need_sum) (defScope s_need_sum) .none kV0 dc0 pm0 an0 cd0 ct0), sl0⟩)
    (c0 : PySem.W.codeIn K cd0 "need_sum" = true)
    (k0 : PySem.W.keepIn K (.ref f0) = true)
    (a1 : PySem.W.nsIn K mainGlobals "least" = some (some (.ref f1)))
    (l1 : K.lookup f1 = some ⟨oc1, od1, .func (PySem.W.fnOf "least" "least" (defArgs s_least) (defBody s_least) (defScope s_least) .none kV1 dc1 pm1 an1 cd1 ct1), sl1⟩)
    (c1 : PySem.W.codeIn K cd1 "least" = true)
    (k1 : PySem.W.keepIn K (.ref f1) = true)
    (a2 : PySem.W.nsIn K mainGlobals "_law_cell_at" = some (some (.ref f2)))
    (l2 : K.lookup f2 = some ⟨oc2, od2, .func (PySem.W.fnOf "_law_cell_at" "_law_cell_at" (defArgs s_l_cell_at) (defBody s_l_cell_at) (defScope s_l_cell_at) .none kV2 dc2 pm2 an2 cd2 ct2), sl2⟩)
    (c2 : PySem.W.codeIn K cd2 "_law_cell_at" = true)
    (k2 : PySem.W.keepIn K (.ref f2) = true)
    (a3 : PySem.W.nsIn K mainGlobals "_law_whole" = some (some (.ref f3)))
    (l3 : K.lookup f3 = some ⟨oc3, od3, .func (PySem.W.fnOf "_law_whole" "_law_whole" (defArgs s_l_whole) (defBody s_l_whole) (defScope s_l_whole) .none kV3 dc3 pm3 an3 cd3 ct3), sl3⟩)
    (c3 : PySem.W.codeIn K cd3 "_law_whole" = true)
    (k3 : PySem.W.keepIn K (.ref f3) = true)
    (a4 : PySem.W.nsIn K mainGlobals "_law_mixed" = some (some (.ref f4)))
    (l4 : K.lookup f4 = some ⟨oc4, od4, .func (PySem.W.fnOf "_law_mixed" "_law_mixed" (defArgs s_l_mixed) (defBody s_l_mixed) (defScope s_l_mixed) .none kV4 dc4 pm4 an4 cd4 ct4), sl4⟩)
    (c4 : PySem.W.codeIn K cd4 "_law_mixed" = true)
    (k4 : PySem.W.keepIn K (.ref f4) = true)
    (a5 : PySem.W.nsIn K mainGlobals "_law_most" = some (some (.ref f5)))
    (l5 : K.lookup f5 = some ⟨oc5, od5, .func (PySem.W.fnOf "_law_most" "_law_most" (defArgs s_l_most) (defBody s_l_most) (defScope s_l_most) .none kV5 dc5 pm5 an5 cd5 ct5), sl5⟩)
    (c5 : PySem.W.codeIn K cd5 "_law_most" = true)
    (k5 : PySem.W.keepIn K (.ref f5) = true)
    (a6 : PySem.W.nsIn K mainGlobals "_law_more" = some (some (.ref f6)))
    (l6 : K.lookup f6 = some ⟨oc6, od6, .func (PySem.W.fnOf "_law_more" "_law_more" (defArgs s_l_more) (defBody s_l_more) (defScope s_l_more) .none kV6 dc6 pm6 an6 cd6 ct6), sl6⟩)
    (c6 : PySem.W.codeIn K cd6 "_law_more" = true)
    (k6 : PySem.W.keepIn K (.ref f6) = true)
    (a7 : PySem.W.nsIn K mainGlobals "_law_within" = some (some (.ref f7)))
    (l7 : K.lookup f7 = some ⟨oc7, od7, .func (PySem.W.fnOf "_law_within" "_law_within" (defArgs s_l_within) (defBody s_l_within) (defScope s_l_within) .none kV7 dc7 pm7 an7 cd7 ct7), sl7⟩)
    (c7 : PySem.W.codeIn K cd7 "_law_within" = true)
    (k7 : PySem.W.keepIn K (.ref f7) = true)
    (a8 : PySem.W.nsIn K mainGlobals "table" = some (some (.ref f8)))
    (l8 : K.lookup f8 = some ⟨oc8, od8, .func (PySem.W.fnOf "table" "table" (defArgs s_table) (defBody s_table) (defScope s_table) .none kV8 dc8 pm8 an8 cd8 ct8), sl8⟩)
    (c8 : PySem.W.codeIn K cd8 "table" = true)
    (k8 : PySem.W.keepIn K (.ref f8) = true)
    (a9 : PySem.W.nsIn K mainGlobals "_law_value" = some (some (.ref f9)))
    (l9 : K.lookup f9 = some ⟨oc9, od9, .func (PySem.W.fnOf "_law_value" "_law_value" (defArgs s_l_value) (defBody s_l_value) (defScope s_l_value) .none kV9 dc9 pm9 an9 cd9 ct9), sl9⟩)
    (c9 : PySem.W.codeIn K cd9 "_law_value" = true)
    (k9 : PySem.W.keepIn K (.ref f9) = true)
    (a10 : PySem.W.nsIn K mainGlobals "_law_count" = some (some (.ref f10)))
    (l10 : K.lookup f10 = some ⟨oc10, od10, .func (PySem.W.fnOf "_law_count" "_law_count" (defArgs s_l_count) (defBody s_l_count) (defScope s_l_count) .none kV10 dc10 pm10 an10 cd10 ct10), sl10⟩)
    (c10 : PySem.W.codeIn K cd10 "_law_count" = true)
    (k10 : PySem.W.keepIn K (.ref f10) = true)
    (a11 : PySem.W.nsIn K mainGlobals "sums" = some (some (.ref f11)))
    (l11 : K.lookup f11 = some ⟨oc11, od11, .func (PySem.W.fnOf "sums" "sums" (defArgs s_sums) (defBody s_sums) (defScope s_sums) .none kV11 dc11 pm11 an11 cd11 ct11), sl11⟩)
    (c11 : PySem.W.codeIn K cd11 "sums" = true)
    (k11 : PySem.W.keepIn K (.ref f11) = true)
    (a12 : PySem.W.nsIn K mainGlobals "_law_pairs" = some (some (.ref f12)))
    (l12 : K.lookup f12 = some ⟨oc12, od12, .func (PySem.W.fnOf "_law_pairs" "_law_pairs" (defArgs s_l_pairs) (defBody s_l_pairs) (defScope s_l_pairs) .none kV12 dc12 pm12 an12 cd12 ct12), sl12⟩)
    (c12 : PySem.W.codeIn K cd12 "_law_pairs" = true)
    (k12 : PySem.W.keepIn K (.ref f12) = true)
    (a13 : PySem.W.nsIn K mainGlobals "_law_refused" = some (some (.ref f13)))
    (l13 : K.lookup f13 = some ⟨oc13, od13, .func (PySem.W.fnOf "_law_refused" "_law_refused" (defArgs s_l_refused) (defBody s_l_refused) (defScope s_l_refused) .none kV13 dc13 pm13 an13 cd13 ct13), sl13⟩)
    (c13 : PySem.W.codeIn K cd13 "_law_refused" = true)
    (k13 : PySem.W.keepIn K (.ref f13) = true)
    (a14 : PySem.W.nsIn K mainGlobals "law" = some (some (.ref f14)))
    (l14 : K.lookup f14 = some ⟨oc14, od14, .func (PySem.W.fnOf "law" "law" (defArgs s_law) (defBody s_law) (defScope s_law) .none kV14 dc14 pm14 an14 cd14 ct14), sl14⟩)
    (c14 : PySem.W.codeIn K cd14 "law" = true)
    (k14 : PySem.W.keepIn K (.ref f14) = true) :
    ∃ fd : FuncData, (∀ (s : Shared) (v : Value), BindsTo s fd ⟨[v], []⟩ [("_law_script", v)]) ∧ ∀ base : Heap, K.In base → base.Ns mainGlobals mg → FnOk P w K mg base (L2.CX P w) 5 fa fd ["_law_script"] (spV ph_law) := by
  have e := hfa.symm.trans (PySem.W.mg_of X G a14)
  cases e
  have bi : Bi mg := ⟨PySem.W.mg_none_of X G z_len, PySem.W.mg_none_of X G z_sum, PySem.W.mg_none_of X G z_abs, PySem.W.mg_none_of X G z_min, PySem.W.mg_none_of X G z_max, PySem.W.mg_none_of X G z_int, PySem.W.mg_none_of X G z_bool, PySem.W.mg_none_of X G z_list, PySem.W.mg_none_of X G z_tuple, PySem.W.mg_none_of X G z_sorted, PySem.W.mg_none_of X G z_isinstance, PySem.W.mg_none_of X G z_range, PySem.W.mg_none_of X G z_zip, PySem.W.mg_none_of X G z_enumerate, PySem.W.mg_none_of X G z_ValueError⟩
  have cl : Cls' K mg (caL [(5, C5)]) xsL ysL := ⟨memc ⟨PySem.W.mg_of X G g5, kp5, ex5, sb5, ty5, ic5, sv5, ⟨hg5, hk5, sb5, hd5, ha5, hn, ht, hm5⟩⟩ (memn), memc ⟨by decide, memc s5_5 (memn)⟩ (memn)⟩
  have q_GREATEST_SUM : ∃ t, mg "GREATEST_SUM" = some (.int 1000 t) := ⟨_, PySem.W.mg_of X G k_GREATEST_SUM⟩
  have F0 := fun_mk (st := s_need_sum) l0 c0 k0
  have b0 := F0.binds (ps := ["due"]) fun _ _ _ _ _ _ us hl => match us, hl with | [_], _ => rfl
  have F1 := fun_mk (st := s_least) l1 c1 k1
  have b1 := F1.binds (ps := ["ahead", "at", "pair"]) fun _ _ _ _ _ _ us hl => match us, hl with | [_, _, _], _ => rfl
  have F2 := fun_mk (st := s_l_cell_at) l2 c2 k2
  have b2 := F2.binds (ps := ["_law_script", "_law_k"]) fun _ _ _ _ _ _ us hl => match us, hl with | [_, _], _ => rfl
  have F3 := fun_mk (st := s_l_whole) l3 c3 k3
  have b3 := F3.binds (ps := ["_law_found"]) fun _ _ _ _ _ _ us hl => match us, hl with | [_], _ => rfl
  have F4 := fun_mk (st := s_l_mixed) l4 c4 k4
  have b4 := F4.binds (ps := ["_law_cell", "_law_k"]) fun _ _ _ _ _ _ us hl => match us, hl with | [_, _], _ => rfl
  have F5 := fun_mk (st := s_l_most) l5 c5 k5
  have b5 := F5.binds (ps := ["_law_cell", "_law_many"]) fun _ _ _ _ _ _ us hl => match us, hl with | [_, _], _ => rfl
  have F6 := fun_mk (st := s_l_more) l6 c6 k6
  have b6 := F6.binds (ps := ["_law_made", "_law_value_here", "_law_count_here", "_law_most_here"]) fun _ _ _ _ _ _ us hl => match us, hl with | [_, _, _, _], _ => rfl
  have F7 := fun_mk (st := s_l_within) l7 c7 k7
  have b7 := F7.binds (ps := ["_law_till", "_law_most_here"]) fun _ _ _ _ _ _ us hl => match us, hl with | [_, _], _ => rfl
  have F8 := fun_mk (st := s_table) l8 c8 k8
  have b8 := F8.binds (ps := ["till", "most"]) fun _ _ _ _ _ _ us hl => match us, hl with | [_, _], _ => rfl
  have F9 := fun_mk (st := s_l_value) l9 c9 k9
  have b9 := F9.binds (ps := ["_law_cell", "_law_k"]) fun _ _ _ _ _ _ us hl => match us, hl with | [_, _], _ => rfl
  have F10 := fun_mk (st := s_l_count) l10 c10 k10
  have b10 := F10.binds (ps := ["_law_cell", "_law_k"]) fun _ _ _ _ _ _ us hl => match us, hl with | [_, _], _ => rfl
  have F11 := fun_mk (st := s_sums) l11 c11 k11
  have b11 := F11.binds (ps := ["till", "most"]) fun _ _ _ _ _ _ us hl => match us, hl with | [_, _], _ => rfl
  have F12 := fun_mk (st := s_l_pairs) l12 c12 k12
  have b12 := F12.binds (ps := ["_law_script"]) fun _ _ _ _ _ _ us hl => match us, hl with | [_], _ => rfl
  have F13 := fun_mk (st := s_l_refused) l13 c13 k13
  have b13 := F13.binds (ps := ["_law_till", "_law_most_here"]) fun _ _ _ _ _ _ us hl => match us, hl with | [_, _], _ => rfl
  have F14 := fun_mk (st := s_law) l14 c14 k14
  refine ⟨PySem.W.fnOf "law" "law" (defArgs s_law) (defBody s_law) (defScope s_law) .none kV14 dc14 pm14 an14 cd14 ct14, fun s v => .of_eq rfl, fun base _ _ => ?_⟩
  have c_need_sum : Cal P w K mg base (caL [(5, C5)]) "need_sum" ph_need_sum 1 := dv_need_sum F0 (PySem.W.mg_of X G a0) b0 bi cl q_GREATEST_SUM ar_need_sum (by first | exact wp_need_sum | (apply wp_need_sum <;> decide))
  have c_least : Cal P w K mg base (caL [(5, C5)]) "least" ph_least 1 := dv_least F1 (PySem.W.mg_of X G a1) b1 bi cl ar_least (by first | exact wp_least | (apply wp_least <;> decide))
  have c_l_cell_at : Cal P w K mg base (caL [(5, C5)]) "_law_cell_at" ph_l_cell_at 1 := dv_l_cell_at F2 (PySem.W.mg_of X G a2) b2 bi cl ar_l_cell_at (by first | exact wp_l_cell_at | (apply wp_l_cell_at <;> decide))
  have c_l_whole : Cal P w K mg base (caL [(5, C5)]) "_law_whole" ph_l_whole 1 := dv_l_whole F3 (PySem.W.mg_of X G a3) b3 bi cl ar_l_whole (by first | exact wp_l_whole | (apply wp_l_whole <;> decide))
  have c_l_mixed : Cal P w K mg base (caL [(5, C5)]) "_law_mixed" ph_l_mixed 1 := dv_l_mixed F4 (PySem.W.mg_of X G a4) b4 bi cl ar_l_mixed (by first | exact wp_l_mixed | (apply wp_l_mixed <;> decide))
  have c_l_most : Cal P w K mg base (caL [(5, C5)]) "_law_most" ph_l_most 1 := dv_l_most F5 (PySem.W.mg_of X G a5) b5 bi cl ar_l_most (by first | exact wp_l_most | (apply wp_l_most <;> decide))
  have c_l_more : CalM P w K mg base (caL [(5, C5)]) "_law_more" ph_l_more 1 := dv_l_more F6 (PySem.W.mg_of X G a6) b6 bi cl ar_l_more (by first | exact wp_l_more | (apply wp_l_more <;> decide))
  have c_l_within : Cal P w K mg base (caL [(5, C5)]) "_law_within" ph_l_within 1 := dv_l_within F7 (PySem.W.mg_of X G a7) b7 bi cl ar_l_within (by first | exact wp_l_within | (apply wp_l_within <;> decide))
  have c_table : Cal P w K mg base (caL [(5, C5)]) "table" ph_table 2 := dv_table F8 (PySem.W.mg_of X G a8) b8 bi cl c_need_sum c_least ar_table (by first | exact wp_table | (apply wp_table <;> decide))
  have c_l_value : Cal P w K mg base (caL [(5, C5)]) "_law_value" ph_l_value 2 := dv_l_value F9 (PySem.W.mg_of X G a9) b9 bi cl c_l_mixed ar_l_value (by first | exact wp_l_value | (apply wp_l_value <;> decide))
  have c_l_count : Cal P w K mg base (caL [(5, C5)]) "_law_count" ph_l_count 2 := dv_l_count F10 (PySem.W.mg_of X G a10) b10 bi cl c_l_mixed ar_l_count (by first | exact wp_l_count | (apply wp_l_count <;> decide))
  have c_sums : Cal P w K mg base (caL [(5, C5)]) "sums" ph_sums 3 := dv_sums F11 (PySem.W.mg_of X G a11) b11 bi cl c_table ar_sums (by first | exact wp_sums | (apply wp_sums <;> decide))
  have c_l_pairs : Cal P w K mg base (caL [(5, C5)]) "_law_pairs" ph_l_pairs 3 := dv_l_pairs F12 (PySem.W.mg_of X G a12) b12 bi cl c_l_cell_at c_l_value c_l_count ar_l_pairs (by first | exact wp_l_pairs | (apply wp_l_pairs <;> decide))
  have c_l_refused : Cal P w K mg base (caL [(5, C5)]) "_law_refused" ph_l_refused 4 := dv_l_refused F13 (PySem.W.mg_of X G a13) b13 bi cl c_sums ar_l_refused (by first | exact wp_l_refused | (apply wp_l_refused <;> decide))
  exact (dv_law (ca := caL [(5, C5)]) F14 bi cl c_l_cell_at c_l_within c_sums c_l_pairs c_l_most c_l_more c_l_refused c_l_whole ar_law (by first | exact wp_law | (apply wp_law <;> decide))).imp spV_of
end TL
open PySem PySem.W PyProof.Rows
set_option maxHeartbeats 0 in
theorem PySem.Challenge.cw_tilldrawer_k05_sums_holds : PySem.Challenge.rw_tilldrawer_k05_sums.Holds := by
  w_on; o_law; k_head; (case hw => w_witness2)
  k_fill
  refine L2.walk_of (l := PySem.Challenge.rw_tilldrawer_k05_sums) (n := 63) (k := 5) (x := "_law_script") (CX := fun w => L2.CX PySem.Challenge.pw_tilldrawer_k05_sums w) (sp := fun w => TD.spV TL.ph_law) rfl (by decide) rfl ⟨rfl, by decide, by decide⟩ (fun w h Y => PySem.W.kIn_of Y) ?F ?S ?C
  case C =>
    intro w H s e s' h
    obtain ⟨_, _, _, _, _, _, _, _, _, _, _, _, h⟩ := h
    exact h
  case F =>
    intro w mg fa h KX G hmg
    refine' TL.all_mk KX G hmg ?u_g5 ?u_kp5 ?u_ex5 ?u_sb5 ?u_ty5 ?u_ic5 ?u_sv5 ?u_hg5 ?u_hk5 ?u_hd5 ?u_ha5 ?u_hm5 ?u_hn ?u_ht ?u_s5_5 ?u_z_len ?u_z_sum ?u_z_abs ?u_z_min ?u_z_max ?u_z_int ?u_z_bool ?u_z_list ?u_z_tuple ?u_z_sorted ?u_z_isinstance ?u_z_range ?u_z_zip ?u_z_enumerate ?u_z_ValueError ?u_k_GREATEST_SUM ?u_a0 ?u_l0 ?u_c0 ?u_k0 ?u_a1 ?u_l1 ?u_c1 ?u_k1 ?u_a2 ?u_l2 ?u_c2 ?u_k2 ?u_a3 ?u_l3 ?u_c3 ?u_k3 ?u_a4 ?u_l4 ?u_c4 ?u_k4 ?u_a5 ?u_l5 ?u_c5 ?u_k5 ?u_a6 ?u_l6 ?u_c6 ?u_k6 ?u_a7 ?u_l7 ?u_c7 ?u_k7 ?u_a8 ?u_l8 ?u_c8 ?u_k8 ?u_a9 ?u_l9 ?u_c9 ?u_k9 ?u_a10 ?u_l10 ?u_c10 ?u_k10 ?u_a11 ?u_l11 ?u_c11 ?u_k11 ?u_a12 ?u_l12 ?u_c12 ?u_k12 ?u_a13 ?u_l13 ?u_c13 ?u_k13 ?u_a14 ?u_l14 ?u_c14 ?u_k14
    (case u_g5 => k_is)
    (case u_kp5 => k_is)
    (case u_ex5 => k_exc)
    (case u_sb5 => k_is)
    (case u_ty5 => k_is)
    (case u_ic5 => k_is)
    (case u_sv5 => k_is)
    (case u_hg5 => k_is)
    (case u_hk5 => k_is)
    (case u_hd5 => k_is)
    (case u_ha5 => k_is)
    (case u_hm5 => k_is)
    (case u_hn => k_is)
    (case u_ht => k_is)
    (case u_s5_5 => k_is)
    (case u_z_len => k_is)
    (case u_z_sum => k_is)
    (case u_z_abs => k_is)
    (case u_z_min => k_is)
    (case u_z_max => k_is)
    (case u_z_int => k_is)
    (case u_z_bool => k_is)
    (case u_z_list => k_is)
    (case u_z_tuple => k_is)
    (case u_z_sorted => k_is)
    (case u_z_isinstance => k_is)
    (case u_z_range => k_is)
    (case u_z_zip => k_is)
    (case u_z_enumerate => k_is)
    (case u_z_ValueError => k_is)
    (case u_k_GREATEST_SUM => k_is)
    (case u_a0 => k_is)
    (case u_l0 => k_is)
    (case u_c0 => k_is)
    (case u_k0 => k_is)
    (case u_a1 => k_is)
    (case u_l1 => k_is)
    (case u_c1 => k_is)
    (case u_k1 => k_is)
    (case u_a2 => k_is)
    (case u_l2 => k_is)
    (case u_c2 => k_is)
    (case u_k2 => k_is)
    (case u_a3 => k_is)
    (case u_l3 => k_is)
    (case u_c3 => k_is)
    (case u_k3 => k_is)
    (case u_a4 => k_is)
    (case u_l4 => k_is)
    (case u_c4 => k_is)
    (case u_k4 => k_is)
    (case u_a5 => k_is)
    (case u_l5 => k_is)
    (case u_c5 => k_is)
    (case u_k5 => k_is)
    (case u_a6 => k_is)
    (case u_l6 => k_is)
    (case u_c6 => k_is)
    (case u_k6 => k_is)
    (case u_a7 => k_is)
    (case u_l7 => k_is)
    (case u_c7 => k_is)
    (case u_k7 => k_is)
    (case u_a8 => k_is)
    (case u_l8 => k_is)
    (case u_c8 => k_is)
    (case u_k8 => k_is)
    (case u_a9 => k_is)
    (case u_l9 => k_is)
    (case u_c9 => k_is)
    (case u_k9 => k_is)
    (case u_a10 => k_is)
    (case u_l10 => k_is)
    (case u_c10 => k_is)
    (case u_k10 => k_is)
    (case u_a11 => k_is)
    (case u_l11 => k_is)
    (case u_c11 => k_is)
    (case u_k11 => k_is)
    (case u_a12 => k_is)
    (case u_l12 => k_is)
    (case u_c12 => k_is)
    (case u_k12 => k_is)
    (case u_a13 => k_is)
    (case u_l13 => k_is)
    (case u_c13 => k_is)
    (case u_k13 => k_is)
    (case u_a14 => k_is)
    (case u_l14 => k_is)
    (case u_c14 => k_is)
    (case u_k14 => k_is)
  case S =>
    intro w H a ns hl hO hS
    exact TD.sp_script rfl hS (by simp [TL.ph_law, TD.decI_map])
