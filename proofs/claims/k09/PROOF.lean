import PyProof.Rows.All
import Wide.All
import OpenK.AllK
import Wide.FinOn
import HandS.ForExc
import HandS.Comp
import HandS.Iter
import HandS.Dict
import HandS.TryMany
import HandS.IsInst
import HandS.ExcIs
import HandS.SortRule
import HandS.SetFor
import HandS.Evl
import HandS.TupAny
import PySem.Challenge.RW_tilldrawer_k09_whole_day
set_option Elab.async false
set_option linter.all false
set_option maxRecDepth 100000
/-! TD1: data over the abstract heap: what a value stands for (Rp), what is one's own (Or), the slots (Sk). -/
namespace TD
open PySem PySem.Spec PyProof.Rows L2

abbrev D := PyData
abbrev Ex := Evl.Ex
theorem ex_refl (H : Hp) : Ex H H := fun _ _ h => h
theorem ex_trans {H H1 H2 : Hp} (a : Ex H H1) (b : Ex H1 H2) : Ex H H2 := fun x o h => b x o (a x o h)
theorem ex_back {H H' : Hp} {p : Addr} (e : Ex H H') (h : H' p = none) : H p = none := Evl.fresh_back e h
theorem ex_new {H : Hp} {p : Addr} {o : HO} (h : H p = none) : Ex H (upd H p o) := Evl.Ex.new h

/-! ### what a value stands for -/
mutual
inductive Rp (H : Hp) : V → D → Prop
  | non : Rp H .non .none
  | bl (b : Bool) : Rp H (.bl b) (.bool b)
  | int (i : Int) : Rp H (.int i) (.int i)
  | str (x : Str) : Rp H (.str x) (.str x)
  | lst {a : Addr} {xs : List V} {ds : List D} : Rd H a (.lst xs) → RpA H xs ds → Rp H (.ref a) (.list ds)
  | tup {a : Addr} {xs : List V} {ds : List D} : H a = some (.tup xs) → RpA H xs ds → Rp H (.ref a) (.tuple ds)
inductive RpA (H : Hp) : List V → List D → Prop
  | nil : RpA H [] []
  | cons {v : V} {vs : List V} {d : D} {ds : List D} : Rp H v d → RpA H vs ds → RpA H (v :: vs) (d :: ds)
end
theorem rd_mono {H H' : Hp} {a : Addr} {u : HO} (e : Ex H H') (h : Rd H a u) : Rd H' a u := Evl.ex_rd e h
mutual
theorem Rp.mono {H H' : Hp} (e : Ex H H') : ∀ {v : V} {d : D}, Rp H v d → Rp H' v d
  | _, _, .non => .non
  | _, _, .bl b => .bl b
  | _, _, .int i => .int i
  | _, _, .str x => .str x
  | _, _, .lst h a => .lst (rd_mono e h) (RpA.mono e a)
  | _, _, .tup h a => .tup (e _ _ h) (RpA.mono e a)
theorem RpA.mono {H H' : Hp} (e : Ex H H') : ∀ {vs : List V} {ds : List D}, RpA H vs ds → RpA H' vs ds
  | _, _, .nil => .nil
  | _, _, .cons a b => .cons (Rp.mono e a) (RpA.mono e b)
end
mutual
theorem Rp.dp {K : PySem.W.Frag} {H : Hp} : ∀ {v : V} {d : D}, Rp H v d → Dp K H v d
  | _, _, .non => .non
  | _, _, .bl b => .bl b
  | _, _, .int i => .int i
  | _, _, .str x => .str x
  | _, _, .lst h a => .lst (.inl h) (RpA.dp a)
  | _, _, .tup h a => .tup (.inl (.inl h)) (RpA.dp a)
theorem RpA.dp {K : PySem.W.Frag} {H : Hp} : ∀ {vs : List V} {ds : List D}, RpA H vs ds → DpAll K H vs ds
  | _, _, .nil => .nil
  | _, _, .cons a b => .cons (Rp.dp a) (RpA.dp b)
end
section
variable {H : Hp}
theorem RpA.len : ∀ {vs : List V} {ds : List D}, RpA H vs ds → vs.length = ds.length
  | _, _, .nil => rfl
  | _, _, .cons _ b => by rw [List.length_cons, List.length_cons, RpA.len b]
theorem RpA.get : ∀ {vs : List V} {ds : List D} {i : Nat} {d : D}, RpA H vs ds → ds[i]? = some d → ∃ v, vs[i]? = some v ∧ Rp H v d
  | _, _, i, _, .nil, e => by simp at e
  | _, _, 0, _, .cons a _, e => by simp at e; subst e; exact ⟨_, rfl, a⟩
  | _, _, i + 1, d, .cons _ b, e => by
    obtain ⟨v, h1, h2⟩ := RpA.get (i := i) (d := d) b (by simpa using e)
    exact ⟨v, by simpa using h1, h2⟩
theorem RpA.getV : ∀ {vs : List V} {ds : List D} {i : Nat} {v : V}, RpA H vs ds → vs[i]? = some v → ∃ d, ds[i]? = some d ∧ Rp H v d
  | _, _, i, _, .nil, e => by simp at e
  | _, _, 0, _, .cons a _, e => by simp at e; subst e; exact ⟨_, rfl, a⟩
  | _, _, i + 1, v, .cons _ b, e => by
    obtain ⟨d, h1, h2⟩ := RpA.getV (i := i) (v := v) b (by simpa using e)
    exact ⟨d, by simpa using h1, h2⟩
theorem RpA.app : ∀ {vs ws : List V} {ds es : List D}, RpA H vs ds → RpA H ws es → RpA H (vs ++ ws) (ds ++ es)
  | _, _, _, _, .nil, h => h
  | _, _, _, _, .cons a b, h => .cons a (RpA.app b h)
theorem RpA.one {v : V} {d : D} (h : Rp H v d) : RpA H [v] [d] := .cons h .nil
theorem RpA.take : ∀ {vs : List V} {ds : List D} (n : Nat), RpA H vs ds → RpA H (vs.take n) (ds.take n)
  | _, _, 0, _ => by rw [List.take_zero, List.take_zero]; exact .nil
  | _, _, _ + 1, .nil => .nil
  | _, _, n + 1, .cons a b => .cons a (RpA.take n b)
theorem RpA.drop : ∀ {vs : List V} {ds : List D} (n : Nat), RpA H vs ds → RpA H (vs.drop n) (ds.drop n)
  | _, _, 0, h => h
  | _, _, _ + 1, .nil => .nil
  | _, _, n + 1, .cons _ b => RpA.drop n b
theorem RpA.set : ∀ {vs : List V} {ds : List D} (i : Nat) {v : V} {d : D}, RpA H vs ds → Rp H v d → RpA H (vs.set i v) (ds.set i d)
  | _, _, _, _, _, .nil, _ => .nil
  | _, _, 0, _, _, .cons _ b, h => .cons h b
  | _, _, i + 1, _, _, .cons a b, h => .cons a (RpA.set i b h)
theorem RpA.reverse : ∀ {vs : List V} {ds : List D}, RpA H vs ds → RpA H vs.reverse ds.reverse
  | _, _, .nil => .nil
  | _, _, .cons a b => by
    rw [List.reverse_cons, List.reverse_cons]
    exact (RpA.reverse b).app (.one a)
theorem RpA.erase : ∀ {vs : List V} {ds : List D} (i : Nat), RpA H vs ds → RpA H (vs.eraseIdx i) (ds.eraseIdx i)
  | _, _, _, .nil => .nil
  | _, _, 0, .cons _ b => b
  | _, _, i + 1, .cons a b => .cons a (RpA.erase i b)
theorem RpA.rep {vs : List V} {ds : List D} (h : RpA H vs ds) : ∀ k : Nat, RpA H (List.replicate k vs).flatten (List.replicate k ds).flatten
  | 0 => .nil
  | k + 1 => by
    rw [List.replicate_succ, List.replicate_succ, List.flatten_cons, List.flatten_cons]
    exact h.app (RpA.rep h k)
theorem RpA.ints : ∀ {vs : List V} {ns : List Int}, RpA H vs (ns.map PyData.int) → vs = ns.map V.int
  | _, [], .nil => rfl
  | _, _ :: _, .cons a b => by cases a; rw [RpA.ints b]; rfl
theorem RpA.of_ints : ∀ (ns : List Int), RpA H (ns.map V.int) (ns.map PyData.int)
  | [] => .nil
  | n :: r => .cons (.int n) (RpA.of_ints r)
theorem RpA.perm {ys : List V} : ∀ {xs : List V} {ds : List D}, ys.Perm xs → RpA H xs ds → ∃ es : List D, es.Perm ds ∧ RpA H ys es := by
  intro xs ds hp
  induction hp generalizing ds with
  | nil => intro h; exact ⟨ds, List.Perm.refl _, h⟩
  | cons x _ ih =>
    intro h
    cases h with
    | cons a b =>
      obtain ⟨es, p, q⟩ := ih b
      exact ⟨_ :: es, p.cons _, .cons a q⟩
  | swap x y l =>
    intro h
    cases h with
    | cons a b =>
      cases b with
      | cons c d => exact ⟨_, List.Perm.swap _ _ _, .cons c (.cons a d)⟩
  | trans _ _ ih1 ih2 =>
    intro h
    obtain ⟨es, p, q⟩ := ih2 h
    obtain ⟨es', p', q'⟩ := ih1 q
    exact ⟨es', p'.trans p, q'⟩
end

/-! ### flat and unchanging data -/
def flat : D → Bool
  | .none => true
  | .bool _ => true
  | .int _ => true
  | .str _ => true
  | _ => false
mutual
def imm : D → Bool
  | .none => true
  | .bool _ => true
  | .int _ => true
  | .str _ => true
  | .tuple ds => immA ds
  | .list _ => false
  | .dict _ => false
def immA : List D → Bool
  | [] => true
  | d :: ds => imm d && immA ds
end
theorem immA_all : ∀ ds : List D, immA ds = ds.all imm
  | [] => rfl
  | d :: ds => by rw [immA, immA_all ds]; rfl
/-- the tuples of a heap, over a base -/
def tups (B H : Hp) : Hp := fun a => match B a with
  | some o => some o
  | none => match H a with
    | some (.tup xs) => some (.tup xs)
    | _ => none
theorem tups_ex (B H : Hp) : Ex B (tups B H) := fun a o e => by
  show (match B a with | some o => some o | none => _) = some o
  rw [e]
theorem tups_le {B H : Hp} (e : Ex B H) : Ex (tups B H) H := fun a o h => by
  unfold tups at h
  cases q : B a with
  | some u =>
    rw [q] at h
    cases h
    exact e a _ q
  | none =>
    rw [q] at h
    cases z : H a with
    | none => rw [z] at h; cases h
    | some u =>
      rw [z] at h
      cases u <;> first | (cases h; rfl) | cases h
theorem tups_tup {B H : Hp} (e : Ex B H) {a : Addr} {xs : List V} (h : H a = some (.tup xs)) : tups B H a = some (.tup xs) := by
  unfold tups
  cases q : B a with
  | some u =>
    have := e a u q
    rw [h] at this
    cases this
    rfl
  | none => simp only [h]
theorem tups_none {B H : Hp} {a : Addr} (hb : B a = none) (h : ∀ xs, H a ≠ some (.tup xs)) : tups B H a = none := by
  unfold tups
  rw [hb]
  cases z : H a with
  | none => rfl
  | some u =>
    cases u <;> first | rfl | exact absurd z (h _)
mutual
theorem Rp.imm {B H b : Hp} (hb : Ex B H) (e : Ex b H) : ∀ (d : D) {v : V}, Rp b v d → TD.imm d = true → Rp (tups B H) v d
  | .none, _, h, _ => by cases h; exact .non
  | .bool _, _, h, _ => by cases h; exact .bl _
  | .int _, _, h, _ => by cases h; exact .int _
  | .str _, _, h, _ => by cases h; exact .str _
  | .tuple ds, _, h, q => by
    cases h with
    | tup h a => exact .tup (tups_tup hb (e _ _ h)) (RpA.imm hb e ds a q)
  | .list _, _, _, q => by cases q
  | .dict _, _, _, q => by cases q
theorem RpA.imm {B H b : Hp} (hb : Ex B H) (e : Ex b H) : ∀ (ds : List D) {vs : List V}, RpA b vs ds → immA ds = true → RpA (tups B H) vs ds
  | [], _, h, _ => by cases h; exact .nil
  | d :: ds, _, h, q => by
    rw [immA, Bool.and_eq_true] at q
    cases h with
    | cons a c => exact .cons (Rp.imm hb e d a q.1) (RpA.imm hb e ds c q.2)
end
theorem Rp.flat {H H' : Hp} {v : V} {d : D} (h : Rp H v d) (f : flat d = true) : Rp H' v d := by
  cases h with
  | non => exact .non
  | bl b => exact .bl b
  | int i => exact .int i
  | str x => exact .str x
  | lst _ _ => cases f
  | tup _ _ => cases f

/-! ### a step of base and heap -/
def NoTup (o : HO) : Prop := ∀ xs, o ≠ .tup xs
structure Sp' (B H B1 H1 : Hp) : Prop where
  b : Ex B B1
  h : Ex H H1
  bh : Ex B1 H1
  own : ∀ p o, H p = some o → NoTup o → B p = none → B1 p = none
theorem Sp'.refl {B H : Hp} (e : Ex B H) : Sp' B H B H := ⟨ex_refl _, ex_refl _, e, fun _ _ _ _ h => h⟩
theorem Sp'.trans {B H B1 H1 B2 H2 : Hp} (a : Sp' B H B1 H1) (c : Sp' B1 H1 B2 H2) : Sp' B H B2 H2 :=
  ⟨ex_trans a.b c.b, ex_trans a.h c.h, c.bh, fun p o h1 h2 h3 => c.own p o (a.h p o h1) h2 (a.own p o h1 h2 h3)⟩
/-- the heap grows, the base stays -/
theorem Sp'.grow {B H H1 : Hp} (e : Ex B H) (h : Ex H H1) : Sp' B H B H1 := ⟨ex_refl _, h, ex_trans e h, fun _ _ _ _ q => q⟩
/-- .. the base takes the tuples in -/
theorem Sp'.tups {B H H1 : Hp} (e : Ex B H) (h : Ex H H1) : Sp' B H (tups B H1) H1 :=
  ⟨tups_ex _ _, h, tups_le (ex_trans e h), fun p o h1 h2 h3 => tups_none h3 fun xs z => h2 xs (by
    have q := h p o h1
    rw [q] at z
    exact Option.some.inj z)⟩
/-- a new object stands in the heap and in the base -/
theorem Sp'.both {B H : Hp} {p : Addr} {o : HO} (e : Ex B H) (hp : H p = none) : Sp' B H (upd B p o) (upd H p o) := by
  have hb : B p = none := ex_back e hp
  refine ⟨ex_new hb, ex_new hp, fun a u h => ?_, fun a u h1 _ h3 => ?_⟩
  · by_cases q : a = p
    · subst q
      rw [upd_same] at h ⊢
      exact h
    · rw [upd_ne q] at h ⊢
      exact e a u h
  · have q : a ≠ p := fun z => by rw [z, hp] at h1; cases h1
    rw [upd_ne q]
    exact h3
/-- a new object stands in the heap alone -/
theorem Sp'.new {B H : Hp} {p : Addr} {o : HO} (e : Ex B H) (hp : H p = none) : Sp' B H B (upd H p o) := .grow e (ex_new hp)
end TD

/-! TD2: what is one's own (Or), the slots (Sk). -/
namespace TD
open PySem PySem.Spec PyProof.Rows L2

inductive R where
  | im (d : D) | ol (ds : List D) | on (rs : List R) | ot (rs : List R)
mutual
def R.toD : R → D
  | .im d => d
  | .ol ds => .list ds
  | .on rs => .list (R.toDs rs)
  | .ot rs => .tuple (R.toDs rs)
def R.toDs : List R → List D
  | [] => []
  | r :: rs => r.toD :: R.toDs rs
end
mutual
def R.imm : R → Bool
  | .im d => TD.imm d
  | .ol ds => immA ds
  | .on rs => R.imms rs
  | .ot rs => R.imms rs
def R.imms : List R → Bool
  | [] => true
  | r :: rs => r.imm && R.imms rs
end
mutual
inductive Or (B H : Hp) : V → R → List Addr → Prop
  | im {v : V} {d : D} : Rp B v d → Or B H v (.im d) []
  | ol {p : Addr} {xs : List V} {ds : List D} : B p = none → H p = some (.lst xs) → RpA B xs ds → Or B H (.ref p) (.ol ds) [p]
  | on {p : Addr} {xs : List V} {rs : List R} {f : List Addr} : B p = none → H p = some (.lst xs) → OrA B H xs rs f → Or B H (.ref p) (.on rs) (p :: f)
  | ot {p : Addr} {xs : List V} {rs : List R} {f : List Addr} : B p = some (.tup xs) → OrA B H xs rs f → Or B H (.ref p) (.ot rs) f
inductive OrA (B H : Hp) : List V → List R → List Addr → Prop
  | nil : OrA B H [] [] []
  | cons {v : V} {vs : List V} {r : R} {rs : List R} {f g : List Addr} : Or B H v r f → OrA B H vs rs g → OrA B H (v :: vs) (r :: rs) (f ++ g)
end
theorem lst_noTup (xs : List V) : NoTup (.lst xs) := fun _ z => nomatch z
theorem dK_noTup (xs : List (Key × V)) : NoTup (.dK xs) := fun _ z => nomatch z
mutual
theorem Or.frame {B H B1 H1 : Hp} (hB : Ex B B1) : ∀ {v : V} {r : R} {f : List Addr}, (∀ p ∈ f, H1 p = H p ∧ B1 p = none) → Or B H v r f → Or B1 H1 v r f
  | _, _, _, _, .im h => .im (h.mono hB)
  | _, _, _, k, .ol h1 h2 h3 => .ol (k _ List.mem_cons_self).2 ((k _ List.mem_cons_self).1.trans h2) (h3.mono hB)
  | _, _, _, k, .on h1 h2 h3 => .on (k _ List.mem_cons_self).2 ((k _ List.mem_cons_self).1.trans h2) (OrA.frame hB (fun p hp => k p (List.mem_cons_of_mem _ hp)) h3)
  | _, _, _, k, .ot h1 h3 => .ot (hB _ _ h1) (OrA.frame hB k h3)
theorem OrA.frame {B H B1 H1 : Hp} (hB : Ex B B1) : ∀ {vs : List V} {rs : List R} {f : List Addr}, (∀ p ∈ f, H1 p = H p ∧ B1 p = none) → OrA B H vs rs f → OrA B1 H1 vs rs f
  | _, _, _, _, .nil => .nil
  | _, _, _, k, .cons a b => .cons (Or.frame hB (fun p hp => k p (List.mem_append_left _ hp)) a) (OrA.frame hB (fun p hp => k p (List.mem_append_right _ hp)) b)
end
mutual
theorem Or.at {B H : Hp} : ∀ {v : V} {r : R} {f : List Addr}, Or B H v r f → ∀ p ∈ f, B p = none ∧ ∃ o, H p = some o ∧ NoTup o
  | _, _, _, .im h, p, hp => by cases hp
  | _, _, _, .ol h1 h2 h3, p, hp => by
    cases List.mem_singleton.mp hp
    exact ⟨h1, _, h2, lst_noTup _⟩
  | _, _, _, .on h1 h2 h3, p, hp => by
    rcases List.mem_cons.mp hp with rfl | hp
    · exact ⟨h1, _, h2, lst_noTup _⟩
    · exact OrA.at h3 p hp
  | _, _, _, .ot h1 h3, p, hp => OrA.at h3 p hp
theorem OrA.at {B H : Hp} : ∀ {vs : List V} {rs : List R} {f : List Addr}, OrA B H vs rs f → ∀ p ∈ f, B p = none ∧ ∃ o, H p = some o ∧ NoTup o
  | _, _, _, .nil, p, hp => by cases hp
  | _, _, _, .cons a b, p, hp => by
    rcases List.mem_append.mp hp with hp | hp
    · exact Or.at a p hp
    · exact OrA.at b p hp
end
mutual
theorem Or.rp {B H : Hp} (e : Ex B H) : ∀ {v : V} {r : R} {f : List Addr}, Or B H v r f → Rp H v r.toD
  | _, _, _, .im h => h.mono e
  | _, _, _, .ol h1 h2 h3 => .lst (.inl h2) (h3.mono e)
  | _, _, _, .on h1 h2 h3 => .lst (.inl h2) (OrA.rp e h3)
  | _, _, _, .ot h1 h3 => .tup (e _ _ h1) (OrA.rp e h3)
theorem OrA.rp {B H : Hp} (e : Ex B H) : ∀ {vs : List V} {rs : List R} {f : List Addr}, OrA B H vs rs f → RpA H vs (R.toDs rs)
  | _, _, _, .nil => .nil
  | _, _, _, .cons a b => .cons (Or.rp e a) (OrA.rp e b)
end
/-! unchanging leaves: over another base -/
mutual
theorem Or.rebase {B H b : Hp} (hb : Ex B H) (e : Ex b H) : ∀ {v : V} {r : R} {f : List Addr}, Or b H v r f → r.imm = true → (∀ p ∈ f, B p = none) → Or (tups B H) H v r f
  | _, _, _, .im h, q, _ => .im (Rp.imm hb e _ h q)
  | _, _, _, .ol h1 h2 h3, q, k => .ol (tups_none (k _ List.mem_cons_self) fun xs z => by rw [h2] at z; cases z) h2 (RpA.imm hb e _ h3 q)
  | _, _, _, .on h1 h2 h3, q, k => .on (tups_none (k _ List.mem_cons_self) fun xs z => by rw [h2] at z; cases z) h2 (OrA.rebase hb e h3 q fun p hp => k p (List.mem_cons_of_mem _ hp))
  | _, _, _, .ot h1 h3, q, k => .ot (tups_tup hb (e _ _ h1)) (OrA.rebase hb e h3 q k)
theorem OrA.rebase {B H b : Hp} (hb : Ex B H) (e : Ex b H) : ∀ {vs : List V} {rs : List R} {f : List Addr}, OrA b H vs rs f → R.imms rs = true → (∀ p ∈ f, B p = none) → OrA (tups B H) H vs rs f
  | _, _, _, .nil, _, _ => .nil
  | _, _, _, .cons a c, q, k => by
    rw [R.imms, Bool.and_eq_true] at q
    exact .cons (Or.rebase hb e a q.1 fun p hp => k p (List.mem_append_left _ hp)) (OrA.rebase hb e c q.2 fun p hp => k p (List.mem_append_right _ hp))
end
/-- the base takes some objects of the heap in -/
def addF (B H : Hp) (f : List Addr) : Hp := fun a => match B a with
  | some o => some o
  | none => if a ∈ f then H a else none
theorem addF_ex (B H : Hp) (f : List Addr) : Ex B (addF B H f) := fun a o e => by
  show (match B a with | some o => some o | none => _) = some o
  rw [e]
theorem addF_le {B H : Hp} {f : List Addr} (e : Ex B H) : Ex (addF B H f) H := fun a o h => by
  unfold addF at h
  cases q : B a with
  | some u =>
    rw [q] at h
    cases h
    exact e a _ q
  | none =>
    rw [q] at h
    by_cases z : a ∈ f
    · simp only [z, if_true] at h
      exact h
    · simp only [z, if_false] at h
      cases h
theorem addF_in {B H : Hp} {f : List Addr} (e : Ex B H) {a : Addr} {o : HO} (hf : a ∈ f) (h : H a = some o) : addF B H f a = some o := by
  unfold addF
  cases q : B a with
  | some u =>
    have := e a u q
    rw [h] at this
    cases this
    rfl
  | none => simp only [hf, if_true, h]
theorem addF_out {B H : Hp} {f : List Addr} {a : Addr} (hf : a ∉ f) (h : B a = none) : addF B H f a = none := by
  unfold addF
  rw [h]
  simp only [hf, if_false]
mutual
theorem Or.freeze {B H : Hp} {g : List Addr} (e : Ex B H) : ∀ {v : V} {r : R} {f : List Addr}, Or B H v r f → (∀ p ∈ f, p ∈ g) → Rp (addF B H g) v r.toD
  | _, _, _, .im h, _ => h.mono (addF_ex _ _ _)
  | _, _, _, .ol h1 h2 h3, k => .lst (.inl (addF_in e (k _ List.mem_cons_self) h2)) (h3.mono (addF_ex _ _ _))
  | _, _, _, .on h1 h2 h3, k => .lst (.inl (addF_in e (k _ List.mem_cons_self) h2)) (OrA.freeze e h3 fun p hp => k p (List.mem_cons_of_mem _ hp))
  | _, _, _, .ot h1 h3, k => .tup (addF_ex _ _ _ _ _ h1) (OrA.freeze e h3 k)
theorem OrA.freeze {B H : Hp} {g : List Addr} (e : Ex B H) : ∀ {vs : List V} {rs : List R} {f : List Addr}, OrA B H vs rs f → (∀ p ∈ f, p ∈ g) → RpA (addF B H g) vs (R.toDs rs)
  | _, _, _, .nil, _ => .nil
  | _, _, _, .cons a c, k => .cons (Or.freeze e a fun p hp => k p (List.mem_append_left _ hp)) (OrA.freeze e c fun p hp => k p (List.mem_append_right _ hp))
end
/-- what was new is taken into the base -/
theorem Sp'.addF {B H B1 H1 : Hp} {f : List Addr} (s : Sp' B H B1 H1) (k : ∀ p ∈ f, H p = none) : Sp' B H (addF B1 H1 f) H1 :=
  ⟨ex_trans s.b (addF_ex _ _ _), s.h, addF_le s.bh, fun p o h1 h2 h3 => addF_out (fun z => by rw [k p z] at h1; cases h1) (s.own p o h1 h2 h3)⟩

/-! ### dicts -/
def KvRp (B : Hp) (ks : List (Key × V)) (kvs : List (Int × D)) : Prop := Paired (fun (p : Key × V) (q : Int × D) => p.1 = Sum.inl q.1 ∧ Rp B p.2 q.2) ks kvs
theorem KvRp.mono {B B1 : Hp} (e : Ex B B1) {ks : List (Key × V)} {kvs : List (Int × D)} (h : KvRp B ks kvs) : KvRp B1 ks kvs := Paired.mapP h fun _ _ z => ⟨z.1, z.2.mono e⟩

/-- what a list or a dict holds -/
inductive Cn where
  | l (ds : List D) | d (kvs : List (Int × D))
def CnAt (B H : Hp) (p : Addr) : Cn → Prop
  | .l ds => ∃ xs, H p = some (.lst xs) ∧ RpA B xs ds
  | .d kvs => ∃ ks, H p = some (.dK ks) ∧ KvRp B ks kvs
theorem CnAt.at {B H : Hp} {p : Addr} {c : Cn} (h : CnAt B H p c) : ∃ o, H p = some o ∧ NoTup o := by
  cases c with
  | l ds => obtain ⟨xs, h, _⟩ := h; exact ⟨_, h, lst_noTup _⟩
  | d kvs => obtain ⟨xs, h, _⟩ := h; exact ⟨_, h, dK_noTup _⟩
theorem CnAt.step {B H B1 H1 : Hp} {p : Addr} {c : Cn} (h : CnAt B H p c) (e : Ex B B1) (k : H1 p = H p) : CnAt B1 H1 p c := by
  cases c with
  | l ds => obtain ⟨xs, h, r⟩ := h; exact ⟨xs, k.trans h, r.mono e⟩
  | d kvs => obtain ⟨xs, h, r⟩ := h; exact ⟨xs, k.trans h, r.mono e⟩
/-! ### the slots -/
inductive Sl where
  | fz (d : D) | own (r : R) | dc (o : Bool) (kvs : List (Int × D)) | xc (a : Addr) (x : Nat) | pin (p : Addr) (ds : List D) | mp (p : Addr) (c : Cn) | dl (kvs : List (Int × D)) | hv (b : Hp) (v : V) (d : D)
abbrev Env := List (Option Sl)
def SlotOk (B H : Hp) : Sl → Option (Option V) → List Addr → Prop
  | .fz d, x, _ => ∃ v, x = some (some v) ∧ Rp B v d
  | .own r, x, f => ∃ v, x = some (some v) ∧ Or B H v r f ∧ f.Nodup
  | .dc o kvs, x, f => ∃ p ks, x = some (some (.ref p)) ∧ H p = some (.dK ks) ∧ KvRp B ks kvs ∧ (o = true → f = [p])
  | .xc a _, x, _ => x = some (some (.ref a))
  | .pin p ds, x, f => x = some (some (.ref p)) ∧ f = [p] ∧ B p = none ∧ ∃ xs, H p = some (.lst xs) ∧ RpA B xs ds
  | .mp p c, x, f => x = some (some (.ref p)) ∧ f = [p] ∧ B p = none ∧ CnAt B H p c
  | .dl kvs, x, _ => ∃ p ks od, x = some (some (.ref p)) ∧ B p = some (.frz od (.dK ks)) ∧ KvRp B ks kvs
  | .hv b v d, x, _ => x = some (some v) ∧ Rp b v d ∧ Ex b B
structure SkF (H0 B : Hp) (Γ : Env) (σ : L2.St) (H : Hp) (F : Nat → List Addr) : Prop where
  dis : ∀ i j, i ≠ j → ∀ p ∈ F i, p ∉ F j
  at' : ∀ i, ∀ p ∈ F i, H0 p = none ∧ B p = none ∧ ∃ o, H p = some o ∧ NoTup o
  ok : ∀ i s, Γ[i]? = some (some s) → SlotOk B H s (σ[i]?) (F i)
structure Sk (H0 B : Hp) (Γ : Env) (σ : L2.St) (H : Hp) : Prop where
  len : Γ.length = σ.length
  e0 : Ex H0 H
  ex : Ex B H
  sl : ∃ F, SkF H0 B Γ σ H F
theorem SlotOk.step {B H B1 H1 : Hp} {s : Sl} {x : Option (Option V)} {f : List Addr} (h : SlotOk B H s x f) (st : Sp' B H B1 H1) (k : ∀ p ∈ f, B1 p = none ∧ H1 p = H p) : SlotOk B1 H1 s x f := by
  cases s with
  | fz d =>
    obtain ⟨v, e, r⟩ := h
    exact ⟨v, e, r.mono st.b⟩
  | own r =>
    obtain ⟨v, e, r, n⟩ := h
    exact ⟨v, e, r.frame st.b fun p hp => ⟨(k p hp).2, (k p hp).1⟩, n⟩
  | dc o kvs =>
    obtain ⟨p, ks, e, h1, h2, h3⟩ := h
    exact ⟨p, ks, e, st.h p _ h1, h2.mono st.b, h3⟩
  | xc a x => exact h
  | pin p ds =>
    obtain ⟨e, rfl, h1, xs, h2, h3⟩ := h
    exact ⟨e, rfl, (k p List.mem_cons_self).1, xs, st.h p _ h2, h3.mono st.b⟩
  | mp p c =>
    obtain ⟨e, rfl, h1, h2⟩ := h
    exact ⟨e, rfl, (k p List.mem_cons_self).1, h2.step st.b (k p List.mem_cons_self).2⟩
  | dl kvs =>
    obtain ⟨p, ks, od, e, h1, h2⟩ := h
    exact ⟨p, ks, od, e, st.b _ _ h1, h2.mono st.b⟩
  | hv b v d =>
    obtain ⟨e, h1, h2⟩ := h
    exact ⟨e, h1, ex_trans h2 st.b⟩
section
variable {H0 B H B1 H1 : Hp} {Γ : Env} {σ : L2.St}
theorem SkF.step {F : Nat → List Addr} (h : SkF H0 B Γ σ H F) (st : Sp' B H B1 H1) : SkF H0 B1 Γ σ H1 F := by
  have k : ∀ i, ∀ p ∈ F i, B1 p = none ∧ H1 p = H p := fun i p hp => by
    obtain ⟨h1, h2, o, h3, h4⟩ := h.at' i p hp
    exact ⟨st.own p o h3 h4 h2, by rw [h3]; exact st.h p o h3⟩
  refine ⟨h.dis, fun i p hp => ?_, fun i s e => (h.ok i s e).step st (k i)⟩
  obtain ⟨h1, h2, o, h3, h4⟩ := h.at' i p hp
  exact ⟨h1, (k i p hp).1, o, st.h p o h3, h4⟩
theorem Sk.step (h : Sk H0 B Γ σ H) (st : Sp' B H B1 H1) : Sk H0 B1 Γ σ H1 := by
  obtain ⟨F, f⟩ := h.sl
  exact ⟨h.len, ex_trans h.e0 st.h, st.bh, F, f.step st⟩
theorem get_set_ne {α : Type} {l : List α} {i j : Nat} {x : α} (h : i ≠ j) : (l.set i x)[j]? = l[j]? := List.getElem?_set_ne h
/-- a slot is told anew, by something that has no objects of its own -/
theorem Sk.put0 (h : Sk H0 B Γ σ H) (i : Nat) (s : Option Sl) (x : Option V) (k : ∀ s', s = some s' → SlotOk B H s' (some x) []) : Sk H0 B (Γ.set i s) (σ.set i x) H := by
  obtain ⟨F, f⟩ := h.sl
  refine ⟨by rw [List.length_set, List.length_set]; exact h.len, h.e0, h.ex, fun j => if j = i then [] else F j, ⟨fun a b hab p hp => ?_, fun a p hp => ?_, fun j s' e => ?_⟩⟩
  · by_cases ha : a = i
    · simp only [ha, if_true] at hp
      cases hp
    · simp only [ha, if_false] at hp
      by_cases hb : b = i
      · simp only [hb, if_true]
        exact fun z => nomatch z
      · simp only [hb, if_false]
        exact f.dis a b hab p hp
  · by_cases ha : a = i
    · simp only [ha, if_true] at hp
      cases hp
    · simp only [ha, if_false] at hp
      exact f.at' a p hp
  · by_cases hj : j = i
    · subst hj
      have hl : j < Γ.length := by
        have := (List.getElem?_eq_some_iff.mp e).1
        rw [List.length_set] at this
        exact this
      rw [List.getElem?_set_self hl] at e
      rw [List.getElem?_set_self (by rw [← h.len]; exact hl)]
      simp only [if_true]
      exact k s' (Option.some.inj e)
    · rw [get_set_ne (Ne.symm hj)] at e ⊢
      simp only [hj, if_false]
      exact f.ok j s' e
theorem Sk.put_fz (h : Sk H0 B Γ σ H) (i : Nat) {v : V} {d : D} (r : Rp B v d) : Sk H0 B (Γ.set i (some (.fz d))) (σ.set i (some v)) H :=
  h.put0 i _ _ fun s' e => by cases e; exact ⟨v, rfl, r⟩
theorem Sk.put_xc (h : Sk H0 B Γ σ H) (i : Nat) (a : Addr) (x : Nat) : Sk H0 B (Γ.set i (some (.xc a x))) (σ.set i (some (.ref a))) H :=
  h.put0 i _ _ fun s' e => by cases e; rfl
theorem Sk.put_no (h : Sk H0 B Γ σ H) (i : Nat) (x : Option V) : Sk H0 B (Γ.set i none) (σ.set i x) H :=
  h.put0 i _ _ fun s' e => nomatch e
/-- forgetting a slot -/
theorem Sk.forget (h : Sk H0 B Γ σ H) (i : Nat) : Sk H0 B (Γ.set i none) σ H := by
  obtain ⟨F, f⟩ := h.sl
  refine ⟨by rw [List.length_set]; exact h.len, h.e0, h.ex, F, f.dis, f.at', fun j s e => ?_⟩
  by_cases hj : i = j
  · subst hj
    have hl : i < Γ.length := by
      have := (List.getElem?_eq_some_iff.mp e).1
      rw [List.length_set] at this
      exact this
    rw [List.getElem?_set_self hl] at e
    cases e
  · rw [get_set_ne hj] at e
    exact f.ok j s e
def wipeE (Γ : Env) : List Nat → Env
  | [] => Γ
  | i :: r => (wipeE Γ r).set i none
theorem Sk.wipe (h : Sk H0 B Γ σ H) : ∀ ws : List Nat, Sk H0 B (wipeE Γ ws) σ H
  | [] => h
  | i :: r => (Sk.wipe h r).forget i
/-- a slot is told anew, by something new of one's own -/
theorem Sk.putF (h : Sk H0 B Γ σ H) (st : Sp' B H B1 H1) (i : Nat) {s : Sl} {v : V} {f : List Addr} (k : SlotOk B1 H1 s (some (some v)) f) (kn : ∀ p ∈ f, H p = none) (ka : ∀ p ∈ f, B1 p = none ∧ ∃ o, H1 p = some o ∧ NoTup o) :
    Sk H0 B1 (Γ.set i (some s)) (σ.set i (some v)) H1 := by
  obtain ⟨F, g⟩ := h.sl
  have g1 := g.step st
  have apart : ∀ j, ∀ p ∈ F j, p ∉ f := fun j p hp hf => by
    obtain ⟨_, _, o, h3, _⟩ := g.at' j p hp
    rw [kn p hf] at h3
    cases h3
  refine ⟨by rw [List.length_set, List.length_set]; exact h.len, ex_trans h.e0 st.h, st.bh, fun j => if j = i then f else F j, ⟨fun a b hab p hp => ?_, fun a p hp => ?_, fun j s' e => ?_⟩⟩
  · by_cases ha : a = i
    · simp only [ha, if_true] at hp
      by_cases hb : b = i
      · exact absurd (ha.trans hb.symm) hab
      · simp only [hb, if_false]
        exact fun z => apart b p z hp
    · simp only [ha, if_false] at hp
      by_cases hb : b = i
      · simp only [hb, if_true]
        exact apart a p hp
      · simp only [hb, if_false]
        exact g.dis a b hab p hp
  · by_cases ha : a = i
    · simp only [ha, if_true] at hp
      exact ⟨ex_back h.e0 (kn p hp), (ka p hp).1, (ka p hp).2⟩
    · simp only [ha, if_false] at hp
      exact g1.at' a p hp
  · by_cases hj : j = i
    · subst hj
      have hl : j < Γ.length := by
        have := (List.getElem?_eq_some_iff.mp e).1
        rw [List.length_set] at this
        exact this
      rw [List.getElem?_set_self hl] at e
      rw [List.getElem?_set_self (by rw [← h.len]; exact hl)]
      simp only [if_true]
      cases e
      exact k
    · rw [get_set_ne (Ne.symm hj)] at e ⊢
      simp only [hj, if_false]
      exact g1.ok j s' e
theorem Sk.put_own (h : Sk H0 B Γ σ H) (st : Sp' B H B1 H1) (i : Nat) {v : V} {r : R} {f : List Addr} (o : Or B1 H1 v r f) (n : f.Nodup) (kn : ∀ p ∈ f, H p = none) : Sk H0 B1 (Γ.set i (some (.own r))) (σ.set i (some v)) H1 :=
  h.putF st i (s := .own r) ⟨v, rfl, o, n⟩ kn o.at
theorem Sk.put_dc (h : Sk H0 B Γ σ H) (i : Nat) {p : Addr} (hp : H p = none) : Sk H0 B (Γ.set i (some (.dc true []))) (σ.set i (some (.ref p))) (upd H p (.dK [])) :=
  h.putF (.new h.ex hp) i (s := .dc true []) (f := [p]) ⟨p, [], rfl, upd_same, .nil, fun _ => rfl⟩ (fun q hq => by cases List.mem_singleton.mp hq; exact hp) fun q hq => by
    cases List.mem_singleton.mp hq
    exact ⟨ex_back h.ex hp, _, upd_same, dK_noTup _⟩
/-- no slot is a view upon a dict -/
def NV (Γ : Env) : Prop := ∀ (j : Nat) (kvs : List (Int × D)), Γ[j]? ≠ some (some (.dc false kvs))
theorem NV.set {s : Option Sl} (h : NV Γ) (i : Nat) (k : ∀ kvs, s ≠ some (.dc false kvs)) : NV (Γ.set i s) := fun j kvs e => by
  by_cases hj : i = j
  · subst hj
    have hl : i < Γ.length := by
      have := (List.getElem?_eq_some_iff.mp e).1
      rw [List.length_set] at this
      exact this
    rw [List.getElem?_set_self hl] at e
    exact k kvs (Option.some.inj e)
  · rw [get_set_ne hj] at e
    exact h j kvs e
theorem NV.wipe (h : NV Γ) : ∀ ws : List Nat, NV (wipeE Γ ws)
  | [] => h
  | i :: r => (NV.wipe h r).set i fun _ z => nomatch z
/-- a slot's own thing is changed at p -/
theorem Sk.change (h : Sk H0 B Γ σ H) (nv : NV Γ) {i : Nat} {s : Sl} (e : Γ[i]? = some (some s)) : ∃ f, SlotOk B H s (σ[i]?) f ∧ (∀ p ∈ f, H0 p = none ∧ B p = none ∧ ∃ o, H p = some o ∧ NoTup o) ∧
    ∀ p o s' f', p ∈ f → NoTup o → SlotOk B (upd H p o) s' (σ[i]?) f' → (∀ q ∈ f', q ∈ f) → Sk H0 B (Γ.set i (some s')) σ (upd H p o) := by
  obtain ⟨F, g⟩ := h.sl
  refine ⟨F i, g.ok i s e, g.at' i, fun p o s' f' hp no k sub => ?_⟩
  obtain ⟨p1, p2, _⟩ := g.at' i p hp
  have exu : ∀ {G : Hp}, G p = none → Ex G H → Ex G (upd H p o) := fun {G} hn he a u ha => by
    rw [upd_ne (ne_of_none ha hn)]
    exact he a u ha
  have hl : i < Γ.length := (List.getElem?_eq_some_iff.mp e).1
  refine ⟨by rw [List.length_set]; exact h.len, exu p1 h.e0, exu p2 h.ex, fun j => if j = i then f' else F j, ⟨fun a b hab q hq => ?_, fun a q hq => ?_, fun j t ej => ?_⟩⟩
  · by_cases ha : a = i
    · simp only [ha, if_true] at hq
      by_cases hb : b = i
      · exact absurd (ha.trans hb.symm) hab
      · simp only [hb, if_false]
        exact g.dis i b (Ne.symm hb) q (sub q hq)
    · simp only [ha, if_false] at hq
      by_cases hb : b = i
      · simp only [hb, if_true]
        exact fun z => g.dis a i ha q hq (sub q z)
      · simp only [hb, if_false]
        exact g.dis a b hab q hq
  · have there : ∀ c, ∀ q ∈ F c, H0 q = none ∧ B q = none ∧ ∃ u, upd H p o q = some u ∧ NoTup u := fun c q hq => by
      obtain ⟨q1, q2, u, q3, q4⟩ := g.at' c q hq
      refine ⟨q1, q2, ?_⟩
      by_cases z : q = p
      · subst z
        exact ⟨o, upd_same, no⟩
      · exact ⟨u, by rw [upd_ne z]; exact q3, q4⟩
    by_cases ha : a = i
    · simp only [ha, if_true] at hq
      exact there i q (sub q hq)
    · simp only [ha, if_false] at hq
      exact there a q hq
  · by_cases hj : j = i
    · subst hj
      rw [List.getElem?_set_self hl] at ej
      cases ej
      simp only [if_true]
      exact k
    · rw [get_set_ne (Ne.symm hj)] at ej
      simp only [hj, if_false]
      have q := g.ok j t ej
      have np : p ∉ F j := g.dis i j (Ne.symm hj) p hp
      cases t with
      | fz d => exact q
      | own r =>
        obtain ⟨v, e1, r1, n1⟩ := q
        exact ⟨v, e1, r1.frame (ex_refl _) fun a ha => ⟨upd_ne fun z => np (z ▸ ha), (r1.at a ha).1⟩, n1⟩
      | dc ow kvs =>
        obtain ⟨d, ks, e1, h1, h2, h3⟩ := q
        cases ow with
        | false => exact absurd ej (nv j kvs)
        | true =>
          have np' : d ≠ p := fun z => np (by rw [h3 rfl, z]; exact List.mem_cons_self)
          exact ⟨d, ks, e1, by rw [upd_ne np']; exact h1, h2, h3⟩
      | xc a x => exact q
      | pin d ds =>
        obtain ⟨e1, ef, h1, xs, h2, h3⟩ := q
        exact ⟨e1, ef, h1, xs, by rw [upd_ne fun z => np (by rw [ef, z]; exact List.mem_cons_self)]; exact h2, h3⟩
      | mp d c =>
        obtain ⟨e1, ef, h1, h2⟩ := q
        exact ⟨e1, ef, h1, h2.step (ex_refl _) (upd_ne fun z => np (by rw [ef, z]; exact List.mem_cons_self))⟩
      | dl kvs => exact q
      | hv b v d => exact q

/-! ### the two ways of looking at the slots -/
def vw1 : Sl → Option Sl
  | .fz d => some (.fz d)
  | .own r => some (.fz r.toD)
  | .dc _ kvs => some (.dc false kvs)
  | .xc a x => some (.xc a x)
  | .pin _ ds => some (.fz (.list ds))
  | .mp _ (.l ds) => some (.fz (.list ds))
  | .mp _ (.d kvs) => some (.dc false kvs)
  | .dl kvs => some (.dl kvs)
  | .hv _ _ d => some (.fz d)
def st1 : Sl → Option Sl
  | .fz d => some (.fz d)
  | .own _ => none
  | .dc _ kvs => some (.dc false kvs)
  | .xc a x => some (.xc a x)
  | .pin _ _ => none
  | .mp _ (.l _) => none
  | .mp _ (.d kvs) => some (.dc false kvs)
  | .dl kvs => some (.dl kvs)
  | .hv _ _ d => some (.fz d)
def view (Γ : Env) : Env := Γ.map fun s => s.bind vw1
def stab (Γ : Env) : Env := Γ.map fun s => s.bind st1
/-- the slots as an expression sees them: nothing of one's own -/
structure Se (B : Hp) (Γ : Env) (σ : L2.St) (H : Hp) : Prop where
  len : Γ.length = σ.length
  ex : Ex B H
  ok : ∀ (i : Nat) (s : Sl), Γ[i]? = some (some s) → SlotOk B H s (σ[i]?) []
theorem Se.step (h : Se B Γ σ H) (st : Sp' B H B1 H1) : Se B1 Γ σ H1 := ⟨h.len, st.bh, fun i s e => (h.ok i s e).step st fun p hp => (by cases hp)⟩
theorem Se.put (h : Se B Γ σ H) (i : Nat) (s : Option Sl) (x : Option V) (k : ∀ s', s = some s' → SlotOk B H s' (some x) []) : Se B (Γ.set i s) (σ.set i x) H := by
  refine ⟨by rw [List.length_set, List.length_set]; exact h.len, h.ex, fun j s' e => ?_⟩
  by_cases hj : j = i
  · subst hj
    have hl : j < Γ.length := by
      have := (List.getElem?_eq_some_iff.mp e).1
      rw [List.length_set] at this
      exact this
    rw [List.getElem?_set_self hl] at e
    rw [List.getElem?_set_self (by rw [← h.len]; exact hl)]
    exact k s' (Option.some.inj e)
  · rw [get_set_ne (Ne.symm hj)] at e ⊢
    exact h.ok j s' e
theorem Se.wipe (h : Se B Γ σ H) : ∀ ws : List Nat, Se B (wipeE Γ ws) (L2.wipe σ ws) H
  | [] => h
  | i :: r => (Se.wipe h r).put i none none fun _ z => nomatch z
/-- another list is changed -/
theorem Se.other (h : Se B Γ σ H) {p : Addr} {xs : List V} {o : HO} (hp : H p = some (.lst xs)) (hb : B p = none) : Se B Γ σ (upd H p o) := by
  refine ⟨h.len, fun a u e => ?_, fun i s e => ?_⟩
  · rw [upd_ne (ne_of_none e hb)]
    exact h.ex a u e
  · have q := h.ok i s e
    cases s with
    | fz d => exact q
    | own r =>
      obtain ⟨v, e1, r1, n1⟩ := q
      exact ⟨v, e1, r1.frame (ex_refl _) fun a ha => (by cases ha), n1⟩
    | dc o kvs =>
      obtain ⟨d, ks, e1, h1, h2, h3⟩ := q
      refine ⟨d, ks, e1, ?_, h2, h3⟩
      rw [upd_ne fun z => by rw [z, hp] at h1; cases h1]
      exact h1
    | xc a x => exact q
    | pin d ds =>
      obtain ⟨e1, ef, _⟩ := q
      cases ef
    | mp d c =>
      obtain ⟨e1, ef, _⟩ := q
      cases ef
    | dl kvs => exact q
    | hv b v d => exact q
theorem Sk.view (h : Sk H0 B Γ σ H) : Se H (TD.view Γ) σ H := by
  obtain ⟨F, g⟩ := h.sl
  refine ⟨by unfold TD.view; rw [List.length_map]; exact h.len, ex_refl _, fun i s e => ?_⟩
  unfold TD.view at e
  rw [List.getElem?_map] at e
  cases q : Γ[i]? with
  | none => rw [q] at e; cases e
  | some o =>
    rw [q] at e
    cases o with
    | none => cases e
    | some t =>
      have k := g.ok i t q
      cases t with
      | fz d =>
        cases e
        obtain ⟨v, e1, r⟩ := k
        exact ⟨v, e1, r.mono h.ex⟩
      | own r =>
        cases e
        obtain ⟨v, e1, o, _⟩ := k
        exact ⟨v, e1, o.rp h.ex⟩
      | dc o kvs =>
        cases e
        obtain ⟨p, ks, e1, h1, h2, _⟩ := k
        exact ⟨p, ks, e1, h1, h2.mono h.ex, fun z => nomatch z⟩
      | xc a x =>
        cases e
        exact k
      | pin p ds =>
        cases e
        obtain ⟨e1, _, _, xs, h2, h3⟩ := k
        exact ⟨_, e1, .lst (.inl h2) (h3.mono h.ex)⟩
      | mp p c =>
        cases c with
        | l ds =>
          cases e
          obtain ⟨e1, _, _, xs, h2, h3⟩ := k
          exact ⟨_, e1, .lst (.inl h2) (h3.mono h.ex)⟩
        | d kvs =>
          cases e
          obtain ⟨e1, _, _, ks, h2, h3⟩ := k
          exact ⟨p, ks, e1, h2, h3.mono h.ex, fun z => nomatch z⟩
      | dl kvs =>
        cases e
        obtain ⟨p, ks, od, e1, h1, h2⟩ := k
        exact ⟨p, ks, od, e1, h.ex _ _ h1, h2.mono h.ex⟩
      | hv b v d =>
        cases e
        obtain ⟨e1, h1, h2⟩ := k
        exact ⟨v, e1, h1.mono (ex_trans h2 h.ex)⟩
theorem Sk.stab (h : Sk H0 B Γ σ H) : Se B (TD.stab Γ) σ H := by
  obtain ⟨F, g⟩ := h.sl
  refine ⟨by unfold TD.stab; rw [List.length_map]; exact h.len, h.ex, fun i s e => ?_⟩
  unfold TD.stab at e
  rw [List.getElem?_map] at e
  cases q : Γ[i]? with
  | none => rw [q] at e; cases e
  | some o =>
    rw [q] at e
    cases o with
    | none => cases e
    | some t =>
      have k := g.ok i t q
      cases t with
      | fz d =>
        cases e
        exact k
      | own r => cases e
      | dc o kvs =>
        cases e
        obtain ⟨p, ks, e1, h1, h2, _⟩ := k
        exact ⟨p, ks, e1, h1, h2, fun z => nomatch z⟩
      | xc a x =>
        cases e
        exact k
      | pin p ds => cases e
      | mp p c =>
        cases c with
        | l ds => cases e
        | d kvs =>
          cases e
          obtain ⟨e1, _, _, ks, h2, h3⟩ := k
          exact ⟨p, ks, e1, h2, h3, fun z => nomatch z⟩
      | dl kvs =>
        cases e
        exact k
      | hv b v d =>
        cases e
        obtain ⟨e1, h1, h2⟩ := k
        exact ⟨v, e1, h1.mono h2⟩
end
end TD

/-! TD3: expressions as data, and what they are worth. -/
namespace TD
open PySem PySem.Spec PyProof.Rows L2

inductive BO where | add | sub | mul | div | mod
inductive CO where | lt | le | gt | ge
inductive IT where | int | bool | list | tuple
mutual
inductive GE where
  | var (i : Nat) | cst (d : D)
  | bin (o : BO) (a b : GE) | neg (a : GE) | cmp (o : CO) (a b : GE) | eq (n : Bool) (a b : GE) | isn (n : Bool) (a : GE)
  | inl (n : Bool) (a b : GE) | ind (n : Bool) (a : GE) (i : Nat) | dix (i : Nat) (a : GE)
  | and (a b : GE) | or (a b : GE) | not (a : GE) | ite (c a b : GE) | ix (a b : GE) | tup (es : GEs) | call (j : Nat) (es : GEs)
  | len (a : GE) | sum (a : GE) | abs (a : GE) | mn (a b : GE) | mx (a b : GE) | int (a : GE) | cnt (a b : GE) | cntB (a b : GE) | isi (t : IT) (a : GE) | ise (i y : Nat) | ises (i : Nat) (ys : List Nat) | dlen (i : Nat) | tslTo (a hi : GE) | tcat (a b : GE)
  | f (g : GF)
inductive GF where
  | lst (es : GEs) | slTo (a hi : GE) | slFrom (a lo : GE) | slBoth (a lo hi : GE) | cat (a b : GE) | rep (a n : GE) | lof (a : GE) | srt (a : GE)
  | lc (ts : List Nat) (gi : GI) (e : GE) | lcf (ts : List Nat) (gi : GI) (c e : GE) | lock (i : Nat) (g : GF)
inductive GI where
  | il (e : GE) | i1 (a : GE) | i2 (a b : GE) | idn (a : GE) | iz (a b : GE) | ie (a : GE) | dk (i : Nat)
inductive GEs where
  | nil | cons (e : GE) (es : GEs)
end

/-! ### answers -/
inductive Rs (α : Type) where | ok (a : α) | err (x : Nat) | bad
def Rs.bind {α β : Type} : Rs α → (α → Rs β) → Rs β
  | .ok a, f => f a
  | .err x, _ => .err x
  | .bad, _ => .bad
def Rs.map {α β : Type} (f : α → β) : Rs α → Rs β
  | .ok a => .ok (f a)
  | .err x => .err x
  | .bad => .bad
def Rs.of {α : Type} : Option α → Rs α
  | some a => .ok a
  | none => .bad
inductive Out where | ret (r : R) | old (d : D) | exc (x : Nat) | mu (p : Addr) (c : Cn) (x : D) | mx (r : R)
structure Tb where
  fs : List (List D → Option Out)
  ca : Nat → Addr
  xs : List Nat := []
  xe : Option (Addr × Nat) := none

/-! ### operations on data -/
@[irreducible] def mulOk (i j : Int) : Bool := decide (j.natAbs < 18446744073709551616) || decide (i.natAbs < 18446744073709551616)
def bop : BO → Int → Int → Rs D
  | .add, i, j => .ok (.int (i + j))
  | .sub, i, j => .ok (.int (i - j))
  | .mul, i, j => if mulOk i j then .ok (.int (i * j)) else .bad
  | .div, i, j => if decide (0 < j) && decide (j.toNat < 1073741824) then .ok (.int (i / j)) else .bad
  | .mod, i, j => if decide (0 < j) then .ok (.int (i % j)) else .bad
def cop : CO → Int → Int → Bool
  | .lt, i, j => decide (i < j)
  | .le, i, j => decide (i ≤ j)
  | .gt, i, j => decide (j < i)
  | .ge, i, j => decide (j ≤ i)
def binD (o : BO) : D → D → Rs D
  | .int i, .int j => bop o i j
  | _, _ => .bad
def cmpD (o : CO) : D → D → Rs D
  | .int i, .int j => .ok (.bool (cop o i j))
  | _, _ => .bad
def eqF : D → D → Option Bool
  | .int i, .int j => some (decide (i = j))
  | .bool i, .bool j => some (decide (i = j))
  | .str i, .str j => some (decide (i = j))
  | .none, .none => some true
  | .none, .int _ => some false
  | .int _, .none => some false
  | .int _, .str _ => some false
  | .str _, .int _ => some false
  | _, _ => none
def eqD (n : Bool) (x y : D) : Rs D :=
  match eqF x y with
  | some b => .ok (.bool (n ^^ b))
  | none => if SeqAt.shaped x && SeqAt.shaped y then .ok (.bool (n ^^ PyData.eqv x y)) else .bad
def isnD (n : Bool) : D → Rs D
  | .none => .ok (.bool (n ^^ true))
  | _ => .ok (.bool (n ^^ false))
def notD : D → Rs D
  | .bool b => .ok (.bool (!b))
  | _ => .bad
def negD : D → Rs D
  | .int i => .ok (.int (-i))
  | _ => .bad
def absD : D → Rs D
  | .int i => .ok (.int (if i < 0 then -i else i))
  | _ => .bad
def mnD : D → D → Rs D
  | .int i, .int j => .ok (.int (if j < i then j else i))
  | _, _ => .bad
def mxD : D → D → Rs D
  | .int i, .int j => .ok (.int (if j > i then j else i))
  | _, _ => .bad
def intD : D → Rs D
  | .int i => .ok (.int i)
  | .bool b => .ok (.int (if b then 1 else 0))
  | _ => .bad
def seqD : D → Option (List D)
  | .list ds => some ds
  | .tuple ds => some ds
  | _ => none
def lenD (d : D) : Rs D := match seqD d with
  | some ds => .ok (.int ds.length)
  | none => .bad
def ixD : D → D → Rs D
  | .list ds, .int i => if decide (0 ≤ i) then Rs.of ds[i.toNat]? else .bad
  | .tuple ds, .int i => if decide (0 ≤ i) then Rs.of ds[i.toNat]? else .bad
  | _, _ => .bad
def decI : List D → Option (List Int)
  | [] => some []
  | .int i :: r => (decI r).map (i :: ·)
  | _ :: _ => none
def eP (p : Int × Int) : D := .tuple [.int p.1, .int p.2]
def decP : List D → Option (List (Int × Int))
  | [] => some []
  | .tuple [.int i, .int j] :: r => (decP r).map ((i, j) :: ·)
  | _ :: _ => none
def sumD : D → Rs D
  | .list ds => match decI ds with
    | some ns => .ok (.int ns.sum)
    | none => .bad
  | _ => .bad
def inlD (n : Bool) : D → D → Rs D
  | .int x, .list ds => match decI ds with
    | some ns => .ok (.bool (n ^^ decide (x ∈ ns)))
    | none => .bad
  | _, _ => .bad
def cntD : D → D → Rs D
  | .list ds, .int x => match decI ds with
    | some ns => .ok (.int (ns.count x))
    | none => .bad
  | _, _ => .bad
def decB : List D → Option (List Bool)
  | [] => some []
  | .bool i :: r => (decB r).map (i :: ·)
  | _ :: _ => none
def cntBD : D → D → Rs D
  | .list ds, .bool x => match decB ds with
    | some ns => .ok (.int (ns.count x))
    | none => .bad
  | _, _ => .bad
def isiD (t : IT) : D → Bool
  | .int _ => (match t with | .int => true | _ => false)
  | .bool _ => (match t with | .int => true | .bool => true | _ => false)
  | .list _ => (match t with | .list => true | _ => false)
  | .tuple _ => (match t with | .tuple => true | _ => false)
  | _ => false
/-- class x below class y: 0 TillError, 11 ValueError -/
def subX (x y : Nat) : Bool := x == y || y == 0 || y == 11
def pLe (a b : Int × Int) : Bool := decide (a.1 < b.1) || (decide (a.1 = b.1) && decide (a.2 ≤ b.2))
def pIns (a : Int × Int) : List (Int × Int) → List (Int × Int)
  | [] => [a]
  | b :: r => if pLe a b then a :: b :: r else b :: pIns a r
def pSort : List (Int × Int) → List (Int × Int)
  | [] => []
  | a :: r => pIns a (pSort r)
def dget (kvs : List (Int × D)) (k : Int) : Option D := (kvs.find? fun kv => decide (kv.1 = k)).map (·.2)
def dput (kvs : List (Int × D)) (k : Int) (v : D) : List (Int × D) :=
  if kvs.any (fun kv => decide (kv.1 = k)) then kvs.map fun kv => if kv.1 = k then (kv.1, v) else kv else kvs ++ [(k, v)]
def ddrop (kvs : List (Int × D)) (k : Int) : List (Int × D) := kvs.filter fun kv => decide (kv.1 ≠ k)
def cutD (ds : List D) (lo hi : Int) : List D := (ds.take hi.toNat).drop lo.toNat
def lcM {α : Type} (f : α → Rs (Option D)) : List α → Rs (List D)
  | [] => .ok []
  | a :: r => match f a with
    | .ok (some d) => (lcM f r).map fun l => d :: l
    | .ok none => lcM f r
    | _ => .bad
def setTs (Γ : Env) : List Nat → List D → Env
  | t :: ts, d :: ds => setTs (Γ.set t (some (.fz d))) ts ds
  | _, _ => Γ
def rngL (lo hi : Int) : List (List D) := (List.range (hi - lo).toNat).map fun i => [PyData.int (lo + (i : Nat))]
def dnL (hi : Int) : List (List D) := (List.range hi.toNat).map fun i => [PyData.int (hi - (i : Nat))]
def zipL (xs ys : List D) : List (List D) := (xs.zip ys).map fun p => [p.1, p.2]
def enumL (k : Nat) : List D → List (List D)
  | [] => []
  | d :: r => [.int k, d] :: enumL (k + 1) r
@[irreducible] def rngOk (i : Int) : Bool := decide (i.natAbs < 4611686018427387904)
def callD (T : Tb) (j : Nat) (ds : List D) : Rs D :=
  match T.fs[j]? with
  | some φ => (match φ ds with
    | some (.ret r) => .ok r.toD
    | some (.old d) => .ok d
    | some (.exc x) => .err x
    | some (.mu _ _ _) => .bad
    | some (.mx _) => .bad
    | none => .bad)
  | none => .bad
@[irreducible] def sizeOk (n : Nat) : Bool := decide (n ≤ 16777216)
def dslot (Γ : Env) (i : Nat) : Rs (List (Int × D)) := match Γ[i]? with
  | some (some (.dc _ kvs)) => .ok kvs
  | some (some (.dl kvs)) => .ok kvs
  | _ => .bad
def cslot (Γ : Env) (i : Nat) : Rs (List (Int × D)) := match Γ[i]? with
  | some (some (.dc _ kvs)) => .ok kvs
  | _ => .bad
def lslot (Γ : Env) (i : Nat) : Rs (List (Int × D)) := match Γ[i]? with
  | some (some (.dl kvs)) => .ok kvs
  | _ => .bad
/-- a dict is locked, no other is seen -/
def unD : Option Sl → Option Sl
  | some (.fz d) => some (.fz d)
  | some (.xc a x) => some (.xc a x)
  | _ => none
def lockE (Γ : Env) (i : Nat) : Env := match Γ[i]? with
  | some (some (.dc _ kvs)) => (Γ.map unD).set i (some (.dl kvs))
  | _ => []
def xslot (T : Tb) (Γ : Env) (i : Nat) : Rs Nat := match Γ[i]?, T.xe with
  | some (some (.xc a x)), some (a', x') => if a = a' ∧ x = x' then .ok x else .bad
  | _, _ => .bad

@[irreducible] def repOk (k : Int) : Bool := decide (0 ≤ k) && sizeOk k.toNat
mutual
def ev (T : Tb) (Γ : Env) : GE → Rs D
  | .var i => match Γ[i]? with
    | some (some (.fz d)) => .ok d
    | _ => .bad
  | .cst d => .ok d
  | .bin o a b => (ev T Γ a).bind fun x => (ev T Γ b).bind fun y => binD o x y
  | .neg a => (ev T Γ a).bind negD
  | .cmp o a b => (ev T Γ a).bind fun x => (ev T Γ b).bind fun y => cmpD o x y
  | .eq n a b => (ev T Γ a).bind fun x => (ev T Γ b).bind fun y => eqD n x y
  | .isn n a => (ev T Γ a).bind (isnD n)
  | .inl n a b => (ev T Γ a).bind fun x => (ev T Γ b).bind fun y => inlD n x y
  | .ind n a i => (ev T Γ a).bind fun x => (dslot Γ i).bind fun kvs => match x with
    | .int k => .ok (.bool (n ^^ (dget kvs k).isSome))
    | _ => .bad
  | .dix i a => (dslot Γ i).bind fun kvs => (ev T Γ a).bind fun x => match x with
    | .int k => Rs.of (dget kvs k)
    | _ => .bad
  | .and a b => (ev T Γ a).bind fun x => match x with
    | .bool true => (ev T Γ b).bind fun y => match y with
      | .bool c => .ok (.bool c)
      | _ => .bad
    | .bool false => .ok (.bool false)
    | _ => .bad
  | .or a b => (ev T Γ a).bind fun x => match x with
    | .bool false => (ev T Γ b).bind fun y => match y with
      | .bool c => .ok (.bool c)
      | _ => .bad
    | .bool true => .ok (.bool true)
    | _ => .bad
  | .not a => (ev T Γ a).bind notD
  | .ite c a b => (ev T Γ c).bind fun x => match x with
    | .bool true => ev T Γ a
    | .bool false => ev T Γ b
    | _ => .bad
  | .ix a b => (ev T Γ a).bind fun x => (ev T Γ b).bind fun y => ixD x y
  | .tup es => (evs T Γ es).bind fun ds => if sizeOk ds.length then .ok (.tuple ds) else .bad
  | .call j es => (evs T Γ es).bind (callD T j)
  | .len a => (ev T Γ a).bind lenD
  | .sum a => (ev T Γ a).bind sumD
  | .abs a => (ev T Γ a).bind absD
  | .mn a b => (ev T Γ a).bind fun x => (ev T Γ b).bind fun y => mnD x y
  | .mx a b => (ev T Γ a).bind fun x => (ev T Γ b).bind fun y => mxD x y
  | .int a => (ev T Γ a).bind intD
  | .cnt a b => (ev T Γ a).bind fun x => match x with
    | .list ds => (ev T Γ b).bind fun y => cntD (.list ds) y
    | _ => .bad
  | .cntB a b => (ev T Γ a).bind fun x => match x with
    | .list ds => (ev T Γ b).bind fun y => cntBD (.list ds) y
    | _ => .bad
  | .isi t a => (ev T Γ a).bind fun x => .ok (.bool (isiD t x))
  | .ise i y => (xslot T Γ i).bind fun x => .ok (.bool (subX x y))
  | .ises i ys => (xslot T Γ i).bind fun x => .ok (.bool (ys.any (subX x)))
  | .f g => (evF T Γ g).map PyData.list
  | .dlen i => (dslot Γ i).bind fun kvs => .ok (.int kvs.length)
  | .tslTo a hi => (ev T Γ a).bind fun x => (ev T Γ hi).bind fun y => match x, y with
    | .tuple ds, .int j => if decide (0 ≤ j) then .ok (.tuple (ds.take j.toNat)) else .bad
    | _, _ => .bad
  | .tcat a b => (ev T Γ a).bind fun x => (ev T Γ b).bind fun y => match x, y with
    | .tuple ds, .tuple es => if sizeOk (ds.length + es.length) then .ok (.tuple (ds ++ es)) else .bad
    | _, _ => .bad
def evF (T : Tb) (Γ : Env) : GF → Rs (List D)
  | .lst es => (evs T Γ es).bind fun ds => if sizeOk ds.length then .ok ds else .bad
  | .slTo a hi => (ev T Γ a).bind fun x => (ev T Γ hi).bind fun y => match x, y with
    | .list ds, .int j => if decide (0 ≤ j) then .ok (ds.take j.toNat) else .bad
    | _, _ => .bad
  | .slFrom a lo => (ev T Γ a).bind fun x => (ev T Γ lo).bind fun y => match x, y with
    | .list ds, .int j => if decide (0 ≤ j) then .ok (ds.drop j.toNat) else .bad
    | _, _ => .bad
  | .slBoth a lo hi => (ev T Γ a).bind fun x => (ev T Γ lo).bind fun y => match y with
    | .int i => (ev T Γ hi).bind fun z => match x, z with
      | .list ds, .int j => if decide (0 ≤ i) && decide (i ≤ j) then .ok ((ds.drop i.toNat).take (j - i).toNat) else .bad
      | _, _ => .bad
    | _ => .bad
  | .cat a b => (ev T Γ a).bind fun x => (ev T Γ b).bind fun y => match x, y with
    | .list ds, .list es => if sizeOk (ds.length + es.length) then .ok (ds ++ es) else .bad
    | _, _ => .bad
  | .rep a n => (ev T Γ a).bind fun x => (ev T Γ n).bind fun y => match y with
    | .int k => if repOk k then .ok (List.replicate k.toNat x) else .bad
    | _ => .bad
  | .lof a => (ev T Γ a).bind fun x => match seqD x with
    | some ds => .ok ds
    | none => .bad
  | .srt a => (ev T Γ a).bind fun x => match x with
    | .list ds => (match decP ds with
      | some ps => .ok ((pSort ps).map eP)
      | none => .bad)
    | _ => .bad
  | .lc ts gi e => (evI T Γ gi).bind fun items => if sizeOk items.length then lcM (fun it => (ev T (setTs (wipeE Γ ts) ts it) e).map some) items else .bad
  | .lcf ts gi c e => (evI T Γ gi).bind fun items => if sizeOk items.length then lcM (fun it => (ev T (setTs (wipeE Γ ts) ts it) c).bind fun b => match b with
    | .bool true => (ev T (setTs (wipeE Γ ts) ts it) e).map some
    | .bool false => .ok none
    | _ => .bad) items else .bad
  | .lock i g => match evF T (lockE Γ i) g with
    | .ok ds => (cslot Γ i).bind fun _ => .ok ds
    | _ => .bad
def evI (T : Tb) (Γ : Env) : GI → Rs (List (List D))
  | .il e => (ev T Γ e).bind fun x => match x with
    | .list ds => .ok (ds.map fun d => [d])
    | _ => .bad
  | .i1 a => (ev T Γ a).bind fun x => match x with
    | .int n => if rngOk n then .ok (rngL 0 n) else .bad
    | _ => .bad
  | .i2 a b => (ev T Γ a).bind fun x => (ev T Γ b).bind fun y => match x, y with
    | .int lo, .int hi => if rngOk lo && rngOk hi then .ok (rngL lo hi) else .bad
    | _, _ => .bad
  | .idn a => (ev T Γ a).bind fun x => match x with
    | .int n => if rngOk n then .ok (dnL n) else .bad
    | _ => .bad
  | .iz a b => (ev T Γ a).bind fun x => (ev T Γ b).bind fun y => match x, y with
    | .list ds, .list es => .ok (zipL ds es)
    | _, _ => .bad
  | .ie a => (ev T Γ a).bind fun x => match x with
    | .list ds => .ok (enumL 0 ds)
    | _ => .bad
  | .dk i => (lslot Γ i).bind fun kvs => .ok (kvs.map fun kv => [.int kv.1])
def evs (T : Tb) (Γ : Env) : GEs → Rs (List D)
  | .nil => .ok []
  | .cons e es => (ev T Γ e).bind fun d => (evs T Γ es).map fun ds => d :: ds
end

/-! ### what is wanted of an answer -/
section
variable (T : Tb) (W : WX) (σ : L2.St) (B H : Hp)
def PErr (x : Nat) : Prop := ∀ B1 H1, Sp' B H B1 H1 → W (.ref (T.ca x)) none σ H1
def Post : Rs D → VK → Prop
  | .ok d, Q => ∀ v B1 H1, Sp' B H B1 H1 → Rp B1 v d → Q v H1
  | .err x, _ => PErr T W σ B H x
  | .bad, _ => False
def PostF : Rs (List D) → VK → Prop
  | .ok ds, Q => ∀ p xs B1 H1, Sp' B H B1 H1 → H p = none → B1 p = none → H1 p = some (.lst xs) → RpA B1 xs ds → Q (.ref p) H1
  | .err x, _ => PErr T W σ B H x
  | .bad, _ => False
def PostA : Rs (List D) → (List V → Hp → Prop) → Prop
  | .ok ds, Q => ∀ vs B1 H1, Sp' B H B1 H1 → RpA B1 vs ds → Q vs H1
  | .err x, _ => PErr T W σ B H x
  | .bad, _ => False
def PostT : Rs D → (Bool → Hp → Prop) → Prop
  | .ok (.bool b), Q => ∀ B1 H1, Sp' B H B1 H1 → Q b H1
  | .ok _, _ => False
  | .err x, _ => PErr T W σ B H x
  | .bad, _ => False
end
section
variable (T : Tb) (W : WX)
def tG (g : GE) : TE := fun σ H Q => ∃ B Γ, Se B Γ σ H ∧ Post T W σ B H (ev T Γ g) Q
def tF (g : GF) : TE := fun σ H Q => ∃ B Γ, Se B Γ σ H ∧ PostF T W σ B H (evF T Γ g) Q
def tA (g : GEs) : TA := fun σ H Q => ∃ B Γ, Se B Γ σ H ∧ PostA T W σ B H (evs T Γ g) Q
def tT (g : GE) : TT := fun σ H Q => ∃ B Γ, Se B Γ σ H ∧ PostT T W σ B H (ev T Γ g) Q
end
section
variable {T : Tb} {W : WX} {σ : L2.St} {B H B1 H1 : Hp} {Γ : Env}
theorem PErr.step {x : Nat} (h : PErr T W σ B H x) (s : Sp' B H B1 H1) : PErr T W σ B1 H1 x := fun _ _ t => h _ _ (s.trans t)
theorem Post.step {r : Rs D} {Q : VK} (h : Post T W σ B H r Q) (s : Sp' B H B1 H1) : Post T W σ B1 H1 r Q := by
  cases r with
  | ok d => exact fun v B2 H2 t rp => h v B2 H2 (s.trans t) rp
  | err x => exact PErr.step h s
  | bad => exact h
theorem PostF.step {r : Rs (List D)} {Q : VK} (h : PostF T W σ B H r Q) (s : Sp' B H B1 H1) : PostF T W σ B1 H1 r Q := by
  cases r with
  | ok d => exact fun p xs B2 H2 t h1 h2 h3 h4 => h p xs B2 H2 (s.trans t) (ex_back s.h h1) h2 h3 h4
  | err x => exact PErr.step h s
  | bad => exact h
theorem PostA.step {r : Rs (List D)} {Q : List V → Hp → Prop} (h : PostA T W σ B H r Q) (s : Sp' B H B1 H1) : PostA T W σ B1 H1 r Q := by
  cases r with
  | ok d => exact fun v B2 H2 t rp => h v B2 H2 (s.trans t) rp
  | err x => exact PErr.step h s
  | bad => exact h
theorem PostT.step {r : Rs D} {Q : Bool → Hp → Prop} (h : PostT T W σ B H r Q) (s : Sp' B H B1 H1) : PostT T W σ B1 H1 r Q := by
  cases r with
  | ok d => cases d <;> first | exact fun B2 H2 t => h B2 H2 (s.trans t) | exact h
  | err x => exact PErr.step h s
  | bad => exact h
theorem tG_mono {g : GE} {Q Q' : VK} (h : tG T W g σ H Q) (k : ∀ v H1, Q v H1 → Q' v H1) : tG T W g σ H Q' := by
  obtain ⟨B, Γ, hs, p⟩ := h
  refine ⟨B, Γ, hs, ?_⟩
  cases e : ev T Γ g with
  | ok d => rw [e] at p; exact fun v B1 H1 s r => k _ _ (p v B1 H1 s r)
  | err x => rw [e] at p; exact p
  | bad => rw [e] at p; exact p
theorem g_bind {g : GE} {f : D → Rs D} {Q : VK} (hs : Se B Γ σ H) (p : Post T W σ B H ((ev T Γ g).bind f) Q) :
    tG T W g σ H fun v H1 => ∃ d B1, Sp' B H B1 H1 ∧ Se B1 Γ σ H1 ∧ Rp B1 v d ∧ Post T W σ B1 H1 (f d) Q := by
  refine ⟨B, Γ, hs, ?_⟩
  cases e : ev T Γ g with
  | ok d => rw [e] at p; exact fun v B1 H1 s r => ⟨d, B1, s, hs.step s, r, Post.step p s⟩
  | err x => rw [e] at p; exact p
  | bad => rw [e] at p; exact p
theorem g_bindF {g : GE} {f : D → Rs (List D)} {Q : VK} (hs : Se B Γ σ H) (p : PostF T W σ B H ((ev T Γ g).bind f) Q) :
    tG T W g σ H fun v H1 => ∃ d B1, Sp' B H B1 H1 ∧ Se B1 Γ σ H1 ∧ Rp B1 v d ∧ PostF T W σ B1 H1 (f d) Q := by
  refine ⟨B, Γ, hs, ?_⟩
  cases e : ev T Γ g with
  | ok d => rw [e] at p; exact fun v B1 H1 s r => ⟨d, B1, s, hs.step s, r, PostF.step p s⟩
  | err x => rw [e] at p; exact p
  | bad => rw [e] at p; exact p
theorem a_bind {g : GEs} {f : List D → Rs D} {Q : VK} (hs : Se B Γ σ H) (p : Post T W σ B H ((evs T Γ g).bind f) Q) :
    tA T W g σ H fun v H1 => ∃ d B1, Sp' B H B1 H1 ∧ Se B1 Γ σ H1 ∧ RpA B1 v d ∧ Post T W σ B1 H1 (f d) Q := by
  refine ⟨B, Γ, hs, ?_⟩
  cases e : evs T Γ g with
  | ok d => rw [e] at p; exact fun v B1 H1 s r => ⟨d, B1, s, hs.step s, r, Post.step p s⟩
  | err x => rw [e] at p; exact p
  | bad => rw [e] at p; exact p
theorem a_bindF {g : GEs} {f : List D → Rs (List D)} {Q : VK} (hs : Se B Γ σ H) (p : PostF T W σ B H ((evs T Γ g).bind f) Q) :
    tA T W g σ H fun v H1 => ∃ d B1, Sp' B H B1 H1 ∧ Se B1 Γ σ H1 ∧ RpA B1 v d ∧ PostF T W σ B1 H1 (f d) Q := by
  refine ⟨B, Γ, hs, ?_⟩
  cases e : evs T Γ g with
  | ok d => rw [e] at p; exact fun v B1 H1 s r => ⟨d, B1, s, hs.step s, r, PostF.step p s⟩
  | err x => rw [e] at p; exact p
  | bad => rw [e] at p; exact p
theorem tA_mono {g : GEs} {Q Q' : List V → Hp → Prop} (h : tA T W g σ H Q) (k : ∀ v H1, Q v H1 → Q' v H1) : tA T W g σ H Q' := by
  obtain ⟨B, Γ, hs, p⟩ := h
  refine ⟨B, Γ, hs, ?_⟩
  cases e : evs T Γ g with
  | ok d => rw [e] at p; exact fun v B1 H1 s r => k _ _ (p v B1 H1 s r)
  | err x => rw [e] at p; exact p
  | bad => rw [e] at p; exact p
theorem tT_mono {g : GE} {Q Q' : Bool → Hp → Prop} (h : tT T W g σ H Q) (k : ∀ v H1, Q v H1 → Q' v H1) : tT T W g σ H Q' := by
  obtain ⟨B, Γ, hs, p⟩ := h
  refine ⟨B, Γ, hs, ?_⟩
  cases e : ev T Γ g with
  | ok d => rw [e] at p; cases d <;> first | exact fun B1 H1 s => k _ _ (p B1 H1 s) | exact p
  | err x => rw [e] at p; exact p
  | bad => rw [e] at p; exact p
/-- a value's answer is at hand -/
theorem Post.here {d : D} {Q : VK} {v : V} (e : Ex B H) (p : Post T W σ B H (.ok d) Q) (r : Rp B v d) : Q v H := p v B H (.refl e) r
/-- .. a new object of the heap is the answer, and it is taken into the base -/
theorem Post.newT {ds : List D} {Q : VK} {p : Addr} {xs : List V} (e : Ex B H) (h : Post T W σ B H (.ok (.tuple ds)) Q) (hp : H p = none) (r : RpA B xs ds) : Q (.ref p) (upd H p (.tup xs)) :=
  h (.ref p) _ _ (.both e hp) (.tup upd_same (r.mono (ex_new (ex_back e hp))))
theorem PostF.new {ds : List D} {Q : VK} {p : Addr} {xs : List V} (e : Ex B H) (h : PostF T W σ B H (.ok ds) Q) (hp : H p = none) (r : RpA B xs ds) : Q (.ref p) (upd H p (.lst xs)) :=
  h p xs B _ (.new e hp) hp (ex_back e hp) upd_same r
/-- a test's answer, as a value -/
theorem tT_tG {g : GE} {Q : Bool → Hp → Prop} (h : tT T W g σ H Q) : tG T W g σ H fun x H' => ∃ k, x = .bl k ∧ Q k H' := by
  obtain ⟨B, Γ, hs, p⟩ := h
  refine ⟨B, Γ, hs, ?_⟩
  cases e : ev T Γ g with
  | ok d =>
    rw [e] at p
    cases d with
    | bool b =>
      refine fun v B1 H1 s r => ?_
      cases r
      exact ⟨b, rfl, p B1 H1 s⟩
    | _ => exact p.elim
  | err x => rw [e] at p; exact p
  | bad => rw [e] at p; exact p
end
theorem _root_.L2.PE.imp {X : Cx} {e : Expr} {t t' : TE} (h : PE X e t) (k : ∀ σ H Q, t' σ H Q → t σ H Q) : PE X e t' := ⟨fun pins s σ H Q I q => h.run pins s σ H Q I (k σ H Q q)⟩
theorem _root_.L2.PT.imp {X : Cx} {e : Expr} {t t' : TT} (h : PT X e t) (k : ∀ σ H Q, t' σ H Q → t σ H Q) : PT X e t' := ⟨fun pins s σ H Q I q => h.run pins s σ H Q I (k σ H Q q)⟩
theorem _root_.L2.PW.imp {X : Cx} {e : Expr} {t t' : TT} (h : PW X e t) (k : ∀ σ H Q, t' σ H Q → t σ H Q) : PW X e t' := ⟨fun w pins s σ H Q I q => h.run w pins s σ H Q I (k σ H Q q)⟩
theorem _root_.L2.PA.imp {X : Cx} {e : List Expr} {t t' : TA} (h : PA X e t) (k : ∀ σ H Q, t' σ H Q → t σ H Q) : PA X e t' := ⟨fun pos pins s σ H Q I q => h.run pos pins s σ H Q I (k σ H Q q)⟩
end TD

/-! TD4: the rules for expressions. -/
namespace TD
open PySem PySem.Spec PyProof.Rows L2

section
variable {X : Cx} {T : Tb} {W : WX} {a b c e : Expr} {ga gb gc : GE} {pos : Pos} {σ : L2.St} {B H : Hp} {Γ : TD.Env} {Q : VK}

/-! ### names and constants -/
theorem px_var (i : Nat) {x : Str} {pos : Pos} (hN : X.N[i]? = some x := by rfl) (hv : Vis X.env.scope x := by first | exact Or.inl rfl | exact Or.inr (Or.inl rfl) | exact Or.inr (Or.inr rfl)) (hd : (x == ("__debug__" : Str)) = false := by decide)
    (hcd : (x == ("__classdict__" : Str)) = false := by decide) : PE X (.Name x pos) (tG T W (.var i)) := (pv i hN hv hd hcd).imp fun σ H Q h => by
  obtain ⟨B, Γ, hs, p⟩ := h
  have p' : Post T W σ B H (match Γ[i]? with
    | some (some (.fz d)) => .ok d
    | _ => .bad) Q := p
  cases e : Γ[i]? with
  | none => rw [e] at p'; exact p'.elim
  | some o =>
    cases o with
    | none => rw [e] at p'; exact p'.elim
    | some s =>
      cases s with
      | fz d =>
        rw [e] at p'
        obtain ⟨v, e1, r⟩ := hs.ok i _ e
        exact ⟨v, e1, p'.here hs.ex r⟩
      | own r => rw [e] at p'; exact p'.elim
      | dc o kvs => rw [e] at p'; exact p'.elim
      | xc a x => rw [e] at p'; exact p'.elim
      | pin a x => rw [e] at p'; exact p'.elim
      | mp a x => rw [e] at p'; exact p'.elim
      | dl k => rw [e] at p'; exact p'.elim
      | hv b v d => rw [e] at p'; exact p'.elim
theorem px_const {v : V} {d : D} (h : PE X e (tC v)) (r : ∀ B, Rp B v d) : PE X e (tG T W (.cst d)) := h.imp fun σ H Q ⟨B, Γ, hs, p⟩ => Post.here (d := d) hs.ex p (r B)
theorem px_int {i j pos} : PE X (.Constant (.int i) j pos) (tG T W (.cst (.int i))) := px_const pe_int fun _ => .int _
theorem px_bl {i j pos} : PE X (.Constant (.bool i) j pos) (tG T W (.cst (.bool i))) := px_const pe_bl fun _ => .bl _
theorem px_non {j pos} : PE X (.Constant .none j pos) (tG T W (.cst .none)) := px_const pe_non fun _ => .non
theorem px_str {i j pos} : PE X (.Constant (.str i) j pos) (tG T W (.cst (.str i))) := px_const pe_str fun _ => .str _
/-- a constant of the module -/
theorem px_glob {x : Str} {i : Int} {t : Tok} (hg : Gl X x) (hm : X.mg x = some (.int i t)) (hd : (x == ("__debug__" : Str)) = false := by decide) : PE X (.Name x pos) (tG T W (.cst (.int i))) := px_const (pe_glob (v := .int i) hg hm ⟨t, rfl⟩ hd) fun _ => .int _
/-- a written power -/
theorem px_pow {i j v : Int} {k1 k2 : Nat} {p1 p2 : Pos} (hp : CPow i j) (hv : i ^ j.toNat = v) : PE X (.BinOp (.Constant (.int i) k1 p1) .Pow (.Constant (.int j) k2 p2) pos) (tG T W (.cst (.int v))) :=
  (pe_op op_pow pe_int pe_int).imp fun σ H Q ⟨B, Γ, hs, p⟩ => ⟨i, j, rfl, rfl, hp, by subst hv; exact Post.here (d := .int (i ^ j.toNat)) hs.ex p (.int _)⟩
theorem px_negc {i v : Int} {k1 : Nat} {p1 : Pos} (hv : -i = v) : PE X (.UnaryOp .USub (.Constant (.int i) k1 p1) pos) (tG T W (.cst (.int v))) :=
  (pe_un un_neg pe_int).imp fun σ H Q ⟨B, Γ, hs, p⟩ => ⟨i, rfl, by subst hv; exact Post.here (d := .int (-i)) hs.ex p (.int _)⟩

/-! ### two operands -/
theorem two_go {f : D → D → Rs D} {r : R2} (hr : ∀ {d e : D} {x y : V} {B H : Hp} {Q : VK}, Ex B H → Rp B x d → Rp B y e → Post T W σ B H (f d e) Q → r x y H Q)
    (hs : Se B Γ σ H) (p : Post T W σ B H ((ev T Γ ga).bind fun x => (ev T Γ gb).bind fun y => f x y) Q) : tOp r (tG T W ga) (tG T W gb) σ H Q :=
  tG_mono (g_bind hs p) fun x H1 ⟨d, B1, st, hs1, rx, p1⟩ => tG_mono (g_bind hs1 p1) fun y H2 ⟨e, B2, st2, hs2, ry, p2⟩ => hr hs2.ex (rx.mono st2.b) ry p2
theorem one_go {f : D → Rs D} {r : V → Hp → VK → Prop} (hr : ∀ {d : D} {x : V} {B H : Hp} {Q : VK}, Ex B H → Rp B x d → Post T W σ B H (f d) Q → r x H Q)
    (hs : Se B Γ σ H) (p : Post T W σ B H ((ev T Γ ga).bind f) Q) : tUn r (tG T W ga) σ H Q :=
  tG_mono (g_bind hs p) fun x H1 ⟨d, B1, st, hs1, rx, p1⟩ => hr hs1.ex rx p1
theorem binD_inv {o : BO} {d e : D} (p : Post T W σ B H (binD o d e) Q) : ∃ i j, d = .int i ∧ e = .int j ∧ Post T W σ B H (bop o i j) Q := by
  cases d <;> cases e <;> first | exact ⟨_, _, rfl, rfl, p⟩ | exact p.elim
theorem cmpD_inv {o : CO} {d e : D} (p : Post T W σ B H (cmpD o d e) Q) : ∃ i j, d = .int i ∧ e = .int j ∧ Post T W σ B H (.ok (.bool (cop o i j))) Q := by
  cases d <;> cases e <;> first | exact ⟨_, _, rfl, rfl, p⟩ | exact p.elim
theorem rp_int {v : V} {i : Int} (h : Rp B v (.int i)) : v = .int i := by cases h; rfl
theorem rp_bl {v : V} {i : Bool} (h : Rp B v (.bool i)) : v = .bl i := by cases h; rfl
theorem px_add (ha : PE X a (tG T W ga)) (hb : PE X b (tG T W gb)) : PE X (.BinOp a .Add b pos) (tG T W (.bin .add ga gb)) := (pe_op op_add ha hb).imp fun σ H Q ⟨B, Γ, hs, p⟩ => two_go (f := binD .add) (fun ex rx ry p => by
  obtain ⟨i, j, rfl, rfl, p⟩ := binD_inv p
  exact ⟨i, j, rp_int rx, rp_int ry, Post.here (d := .int (i + j)) ex p (.int _)⟩) hs p
theorem px_sub (ha : PE X a (tG T W ga)) (hb : PE X b (tG T W gb)) : PE X (.BinOp a .Sub b pos) (tG T W (.bin .sub ga gb)) := (pe_op op_sub ha hb).imp fun σ H Q ⟨B, Γ, hs, p⟩ => two_go (f := binD .sub) (fun ex rx ry p => by
  obtain ⟨i, j, rfl, rfl, p⟩ := binD_inv p
  exact ⟨i, j, rp_int rx, rp_int ry, Post.here (d := .int (i - j)) ex p (.int _)⟩) hs p
theorem px_mul (ha : PE X a (tG T W ga)) (hb : PE X b (tG T W gb)) : PE X (.BinOp a .Mult b pos) (tG T W (.bin .mul ga gb)) := (pe_op op_mul ha hb).imp fun σ H Q ⟨B, Γ, hs, p⟩ => two_go (f := binD .mul) (fun {d e x y B H Q} ex rx ry p => by
  obtain ⟨i, j, rfl, rfl, p⟩ := binD_inv p
  have p' : Post T W σ B H (if mulOk i j then .ok (.int (i * j)) else .bad) Q := p
  by_cases h : mulOk i j = true
  · rw [if_pos h] at p'
    have h' := h
    have h'' : (-(2 ^ 64) < j ∧ j < 2 ^ 64) ∨ (-(2 ^ 64) < i ∧ i < 2 ^ 64) := by
      simp only [mulOk, Bool.or_eq_true, decide_eq_true_eq] at h'
      omega
    exact ⟨i, j, rp_int rx, rp_int ry, h''.elim .inr .inl, Post.here (d := .int (i * j)) ex p' (.int _)⟩
  · rw [if_neg h] at p'
    exact p'.elim) hs p
theorem px_div (ha : PE X a (tG T W ga)) (hb : PE X b (tG T W gb)) : PE X (.BinOp a .FloorDiv b pos) (tG T W (.bin .div ga gb)) := (pe_op op_fdiv ha hb).imp fun σ H Q ⟨B, Γ, hs, p⟩ => two_go (f := binD .div) (fun {d e x y B H Q} ex rx ry p => by
  obtain ⟨i, j, rfl, rfl, p⟩ := binD_inv p
  have p' : Post T W σ B H (if decide (0 < j) && decide (j.toNat < 1073741824) then .ok (.int (i / j)) else .bad) Q := p
  by_cases h : (decide (0 < j) && decide (j.toNat < 1073741824)) = true
  · rw [if_pos h] at p'
    simp only [Bool.and_eq_true, decide_eq_true_eq] at h
    exact ⟨i, j, rp_int rx, rp_int ry, ⟨h.1, by omega⟩, Post.here (d := .int (i / j)) ex p' (.int _)⟩
  · rw [if_neg h] at p'
    exact p'.elim) hs p
theorem px_mod (ha : PE X a (tG T W ga)) (hb : PE X b (tG T W gb)) : PE X (.BinOp a .Mod b pos) (tG T W (.bin .mod ga gb)) := (pe_op op_mod ha hb).imp fun σ H Q ⟨B, Γ, hs, p⟩ => two_go (f := binD .mod) (fun {d e x y B H Q} ex rx ry p => by
  obtain ⟨i, j, rfl, rfl, p⟩ := binD_inv p
  have p' : Post T W σ B H (if decide (0 < j) then .ok (.int (i % j)) else .bad) Q := p
  by_cases h : decide (0 < j) = true
  · rw [if_pos h] at p'
    exact ⟨i, j, rp_int rx, rp_int ry, of_decide_eq_true h, Post.here (d := .int (i % j)) ex p' (.int _)⟩
  · rw [if_neg h] at p'
    exact p'.elim) hs p
theorem px_neg (ha : PE X a (tG T W ga)) : PE X (.UnaryOp .USub a pos) (tG T W (.neg ga)) := (pe_un un_neg ha).imp fun σ H Q ⟨B, Γ, hs, p⟩ => one_go (f := negD) (fun {d x B H Q} ex rx p => by
  cases d with
  | int i => exact ⟨i, rp_int rx, Post.here (d := .int (-i)) ex p (.int _)⟩
  | _ => exact p.elim) hs p

/-! ### comparisons, as values and as tests -/
theorem test_of {r : R2} (h : ∀ σ H Q, tG T W gc σ H Q → tOp r (tG T W ga) (tG T W gb) σ H Q) : ∀ σ H Q, tT T W gc σ H Q → tTest (tOp r (tG T W ga) (tG T W gb)) σ H Q := fun σ H Q q => h σ H _ (tT_tG q)
theorem cmp_imp {o : CO} {r : R2} (hr : r = rI0 fun i j => .bl (cop o i j)) : ∀ σ H Q, tG T W (.cmp o ga gb) σ H Q → tOp r (tG T W ga) (tG T W gb) σ H Q := fun σ H Q ⟨B, Γ, hs, p⟩ => two_go (f := cmpD o) (fun {d e x y B H Q} ex rx ry p => by
  obtain ⟨i, j, rfl, rfl, p⟩ := cmpD_inv p
  rw [hr]
  exact ⟨i, j, rp_int rx, rp_int ry, Post.here (d := .bool (cop o i j)) ex p (.bl _)⟩) hs p
section
variable (ha : PE X a (tG T W ga)) (hb : PE X b (tG T W gb))
include ha hb
theorem px_lt : PE X (.Compare a [.Lt] [b] pos) (tG T W (.cmp .lt ga gb)) := (pe_cmpR op_lt ha hb (nomark _)).imp (cmp_imp rfl)
theorem px_le : PE X (.Compare a [.LtE] [b] pos) (tG T W (.cmp .le ga gb)) := (pe_cmpR op_le ha hb (nomark _)).imp (cmp_imp rfl)
theorem px_gt : PE X (.Compare a [.Gt] [b] pos) (tG T W (.cmp .gt ga gb)) := (pe_cmpR op_gt ha hb (nomark _)).imp (cmp_imp rfl)
theorem px_ge : PE X (.Compare a [.GtE] [b] pos) (tG T W (.cmp .ge ga gb)) := (pe_cmpR op_ge ha hb (nomark _)).imp (cmp_imp rfl)
theorem pt_lt : PT X (.Compare a [.Lt] [b] pos) (tT T W (.cmp .lt ga gb)) := (pt_cmpR op_lt ha hb (nomark _)).imp (test_of (cmp_imp rfl))
theorem pt_le : PT X (.Compare a [.LtE] [b] pos) (tT T W (.cmp .le ga gb)) := (pt_cmpR op_le ha hb (nomark _)).imp (test_of (cmp_imp rfl))
theorem pt_gt : PT X (.Compare a [.Gt] [b] pos) (tT T W (.cmp .gt ga gb)) := (pt_cmpR op_gt ha hb (nomark _)).imp (test_of (cmp_imp rfl))
theorem pt_ge : PT X (.Compare a [.GtE] [b] pos) (tT T W (.cmp .ge ga gb)) := (pt_cmpR op_ge ha hb (nomark _)).imp (test_of (cmp_imp rfl))
end
theorem eqF_sound {d e : D} {k : Bool} {x y : V} (h : eqF d e = some k) (rx : Rp B x d) (ry : Rp B y e) : scal x y = true ∧ decide (x = y) = k := by
  cases rx <;> cases ry <;> first | (cases h; done) | (cases h; refine ⟨rfl, ?_⟩; simp) | skip
theorem eq_imp {K : PySem.W.Frag} : ∀ σ H Q, tG T W (.eq false ga gb) σ H Q → tOp (fun x y H Q => rEq x y H Q ∨ rEqD K x y H Q) (tG T W ga) (tG T W gb) σ H Q := fun σ H Q ⟨B, Γ, hs, p⟩ => two_go (f := eqD false) (fun {d e x y B H Q} ex rx ry p => by
  unfold eqD at p
  cases h : eqF d e with
  | some k =>
    rw [h] at p
    obtain ⟨h1, h2⟩ := eqF_sound h rx ry
    exact .inl ⟨h1, by rw [h2]; have := Post.here (d := .bool (false ^^ k)) ex p (.bl _); rwa [Bool.false_xor] at this⟩
  | none =>
    rw [h] at p
    by_cases z : (SeqAt.shaped d && SeqAt.shaped e) = true
    · simp only [z, if_true] at p
      rw [Bool.and_eq_true] at z
      exact .inr ⟨d, e, (rx.mono ex).dp, (ry.mono ex).dp, z.1, z.2, by have := Post.here (d := .bool (false ^^ PyData.eqv d e)) ex p (.bl _); rwa [Bool.false_xor] at this⟩
    · simp only [z] at p
      exact p.elim) hs p
theorem ne_imp {K : PySem.W.Frag} : ∀ σ H Q, tG T W (.eq true ga gb) σ H Q → tOp (fun x y H Q => rNe x y H Q ∨ rNeD K x y H Q) (tG T W ga) (tG T W gb) σ H Q := fun σ H Q ⟨B, Γ, hs, p⟩ => two_go (f := eqD true) (fun {d e x y B H Q} ex rx ry p => by
  unfold eqD at p
  cases h : eqF d e with
  | some k =>
    rw [h] at p
    obtain ⟨h1, h2⟩ := eqF_sound h rx ry
    exact .inl ⟨h1, by rw [h2]; have := Post.here (d := .bool (true ^^ k)) ex p (.bl _); rwa [Bool.true_xor] at this⟩
  | none =>
    rw [h] at p
    by_cases z : (SeqAt.shaped d && SeqAt.shaped e) = true
    · simp only [z, if_true] at p
      rw [Bool.and_eq_true] at z
      exact .inr ⟨d, e, (rx.mono ex).dp, (ry.mono ex).dp, z.1, z.2, by have := Post.here (d := .bool (true ^^ PyData.eqv d e)) ex p (.bl _); rwa [Bool.true_xor] at this⟩
    · simp only [z] at p
      exact p.elim) hs p
section
variable (hu : X.A.units + 64 < cLine) (ha : PE X a (tG T W ga)) (hb : PE X b (tG T W gb))
include hu ha hb
theorem px_eq : PE X (.Compare a [.Eq] [b] pos) (tG T W (.eq false ga gb)) := (pe_cmpR (op_eq.or (op_eqD hu)) ha hb (nomark _)).imp eq_imp
theorem px_ne : PE X (.Compare a [.NotEq] [b] pos) (tG T W (.eq true ga gb)) := (pe_cmpR (op_ne.or (op_neD hu)) ha hb (nomark _)).imp ne_imp
theorem pt_eq : PT X (.Compare a [.Eq] [b] pos) (tT T W (.eq false ga gb)) := (pt_cmpR (op_eq.or (op_eqD hu)) ha hb (nomark _)).imp (test_of eq_imp)
theorem pt_ne : PT X (.Compare a [.NotEq] [b] pos) (tT T W (.eq true ga gb)) := (pt_cmpR (op_ne.or (op_neD hu)) ha hb (nomark _)).imp (test_of ne_imp)
end
theorem isn_rp {n : Bool} {d : D} {x : V} (r : Rp B x d) : isnD n d = .ok (.bool (n ^^ decide (x = .non))) := by
  cases r <;> simp [isnD]
theorem isn_imp {n : Bool} {r : R2} (hr : r = fun x y H Q => y = .non ∧ Q (.bl (n ^^ decide (x = .non))) H) : ∀ σ H Q, tG T W (.isn n ga) σ H Q → tOp r (tG T W ga) (tC .non) σ H Q := fun σ H Q ⟨B, Γ, hs, p⟩ =>
  tG_mono (g_bind hs p) fun x H1 ⟨d, B1, st, hs1, rx, p1⟩ => by
    rw [isn_rp rx] at p1
    rw [hr]
    exact ⟨rfl, Post.here (d := .bool _) hs1.ex p1 (.bl _)⟩
theorem isn_test {n : Bool} {r : R2} (hr : r = fun x y H Q => y = .non ∧ Q (.bl (n ^^ decide (x = .non))) H) : ∀ σ H Q, tT T W (.isn n ga) σ H Q → tTest (tOp r (tG T W ga) (tC .non)) σ H Q := fun σ H Q q => isn_imp hr σ H _ (tT_tG q)
theorem px_isN {j : Nat} {p : Pos} (ha : PE X a (tG T W ga)) : PE X (.Compare a [.Is] [.Constant .none j p] pos) (tG T W (.isn false ga)) := (pe_cmpR op_isN ha pe_non (nomark _)).imp (isn_imp (by funext x y H Q; rw [Bool.false_xor]))
theorem px_notN {j : Nat} {p : Pos} (ha : PE X a (tG T W ga)) : PE X (.Compare a [.IsNot] [.Constant .none j p] pos) (tG T W (.isn true ga)) := (pe_cmpR op_notN ha pe_non (nomark _)).imp (isn_imp (by funext x y H Q; rw [Bool.true_xor]))
theorem pt_isN {j : Nat} {p : Pos} (ha : PE X a (tG T W ga)) : PT X (.Compare a [.Is] [.Constant .none j p] pos) (tT T W (.isn false ga)) := (pt_cmpR op_isN ha pe_non (nomark _)).imp (isn_test (by funext x y H Q; rw [Bool.false_xor]))
theorem pt_notN {j : Nat} {p : Pos} (ha : PE X a (tG T W ga)) : PT X (.Compare a [.IsNot] [.Constant .none j p] pos) (tT T W (.isn true ga)) := (pt_cmpR op_notN ha pe_non (nomark _)).imp (isn_test (by funext x y H Q; rw [Bool.true_xor]))

/-! ### tests -/
/-- an expression that is neither a comparison nor and, or, not -/
theorem pt_v (h : PE X e (tG T W ga)) (he : ∀ whole, isTrue e X.env whole = (do let v ← whole; standAt e.pos; holding [v] (truthy v)) := by intro _; rfl) : PT X e (tT T W ga) := (pt_val h he).imp fun σ H Q q => tT_tG q
theorem t_bind {g : GE} {f : D → Rs D} {Q : Bool → Hp → Prop} (hs : Se B Γ σ H) (hf : ∀ d, (∀ k, d ≠ .bool k) → f d = .bad) (p : PostT T W σ B H ((ev T Γ g).bind f) Q) :
    tT T W g σ H fun k H1 => ∃ B1, Sp' B H B1 H1 ∧ Se B1 Γ σ H1 ∧ PostT T W σ B1 H1 (f (.bool k)) Q := by
  refine ⟨B, Γ, hs, ?_⟩
  cases e : ev T Γ g with
  | ok d =>
    rw [e] at p
    cases d with
    | bool k => exact fun B1 H1 s => ⟨B1, s, hs.step s, PostT.step p s⟩
    | _ =>
      have p' : PostT T W σ B H (f _) Q := p
      rw [hf _ (by intro k z; cases z)] at p'
      exact p'.elim
  | err x => rw [e] at p; exact p
  | bad => rw [e] at p; exact p
theorem PostT.here {k : Bool} {Q : Bool → Hp → Prop} (e : Ex B H) (p : PostT T W σ B H (.ok (.bool k)) Q) : Q k H := p B H (.refl e)
theorem tT_not {Q : Bool → Hp → Prop} (h : tT T W (.not ga) σ H Q) : tNot (tT T W ga) σ H Q := by
  obtain ⟨B, Γ, hs, p⟩ := h
  refine tT_mono (t_bind hs (fun d z => ?_) p) fun k H1 ⟨B1, st, hs1, p1⟩ => p1.here hs1.ex
  cases d <;> first | rfl | exact absurd rfl (z _)
theorem bool_eta {g : GE} {Q : Bool → Hp → Prop} (p : PostT T W σ B H ((ev T Γ g).bind fun y => match y with | .bool c => .ok (.bool c) | _ => .bad) Q) : PostT T W σ B H (ev T Γ g) Q := by
  cases e : ev T Γ g with
  | ok d => rw [e] at p; cases d <;> exact p
  | err x => rw [e] at p; exact p
  | bad => rw [e] at p; exact p
theorem tT_and {Q : Bool → Hp → Prop} (h : tT T W (.and ga gb) σ H Q) : tAnd (tT T W ga) (tT T W gb) σ H Q := by
  obtain ⟨B, Γ, hs, p⟩ := h
  refine tT_mono (t_bind hs (fun d z => ?_) p) fun k H1 ⟨B1, st, hs1, p1⟩ => ?_
  · cases d <;> first | rfl | exact absurd rfl (z _)
  · cases k with
    | true => exact iteT ⟨B1, Γ, hs1, bool_eta p1⟩
    | false => exact iteF (p1.here hs1.ex)
theorem tT_or {Q : Bool → Hp → Prop} (h : tT T W (.or ga gb) σ H Q) : tOr (tT T W ga) (tT T W gb) σ H Q := by
  obtain ⟨B, Γ, hs, p⟩ := h
  refine tT_mono (t_bind hs (fun d z => ?_) p) fun k H1 ⟨B1, st, hs1, p1⟩ => ?_
  · cases d <;> first | rfl | exact absurd rfl (z _)
  · cases k with
    | true => exact iteT (p1.here hs1.ex)
    | false => exact iteF ⟨B1, Γ, hs1, bool_eta p1⟩
theorem pt_n (h : PT X a (tT T W ga)) : PT X (.UnaryOp .Not a pos) (tT T W (.not ga)) := (pt_not h).imp fun _ _ _ q => tT_not q
theorem pw_a1 (h : PT X a (tT T W ga)) : PW X (.BoolOp .And [a] pos) (tT T W ga) := pw_and1 h
theorem pw_o1 (h : PT X a (tT T W ga)) : PW X (.BoolOp .Or [a] pos) (tT T W ga) := pw_or1 h
theorem pw_a {r : List Expr} (ha : PT X a (tT T W ga)) (hb : PW X (.BoolOp .And (b :: r) pos) (tT T W gb)) : PW X (.BoolOp .And (a :: b :: r) pos) (tT T W (.and ga gb)) := (pw_and ha hb).imp fun _ _ _ q => tT_and q
theorem pw_o {r : List Expr} (ha : PT X a (tT T W ga)) (hb : PW X (.BoolOp .Or (b :: r) pos) (tT T W gb)) : PW X (.BoolOp .Or (a :: b :: r) pos) (tT T W (.or ga gb)) := (pw_or ha hb).imp fun _ _ _ q => tT_or q
/-! as values -/
theorem px_not (h : PE X a (tG T W ga)) : PE X (.UnaryOp .Not a pos) (tG T W (.not ga)) := (pe_not h).imp fun σ H Q ⟨B, Γ, hs, p⟩ =>
  tG_mono (g_bind hs p) fun x H1 ⟨d, B1, st, hs1, rx, p1⟩ => by
    cases d with
    | bool k => exact ⟨k, rp_bl rx, Post.here (d := .bool _) hs1.ex p1 (.bl _)⟩
    | _ => exact p1.elim
theorem bool_etaV {g : GE} (p : Post T W σ B H ((ev T Γ g).bind fun y => match y with | .bool c => .ok (.bool c) | _ => .bad) Q) : Post T W σ B H (ev T Γ g) Q := by
  cases e : ev T Γ g with
  | ok d => rw [e] at p; cases d <;> first | exact p | exact False.elim p
  | err x => rw [e] at p; exact p
  | bad => rw [e] at p; exact p
theorem px_and {r : List Expr} (ha : PE X a (tG T W ga)) (hb : PE X (.BoolOp .And (b :: r) pos) (tG T W gb)) : PE X (.BoolOp .And (a :: b :: r) pos) (tG T W (.and ga gb)) := (pe_and ha hb).imp fun σ H Q ⟨B, Γ, hs, p⟩ =>
  tG_mono (g_bind hs p) fun x H1 ⟨d, B1, st, hs1, rx, p1⟩ => by
    cases d with
    | bool k =>
      refine ⟨k, rp_bl rx, ?_⟩
      cases k with
      | true => exact iteT ⟨B1, Γ, hs1, bool_etaV p1⟩
      | false => exact iteF (Post.here (d := .bool _) hs1.ex p1 (.bl _))
    | _ => exact False.elim p1
theorem px_or {r : List Expr} (ha : PE X a (tG T W ga)) (hb : PE X (.BoolOp .Or (b :: r) pos) (tG T W gb)) : PE X (.BoolOp .Or (a :: b :: r) pos) (tG T W (.or ga gb)) := (pe_or ha hb).imp fun σ H Q ⟨B, Γ, hs, p⟩ =>
  tG_mono (g_bind hs p) fun x H1 ⟨d, B1, st, hs1, rx, p1⟩ => by
    cases d with
    | bool k =>
      refine ⟨k, rp_bl rx, ?_⟩
      cases k with
      | true => exact iteT (Post.here (d := .bool _) hs1.ex p1 (.bl _))
      | false => exact iteF ⟨B1, Γ, hs1, bool_etaV p1⟩
    | _ => exact False.elim p1
theorem px_one {op} (h : PE X a (tG T W ga)) : PE X (.BoolOp op [a] pos) (tG T W ga) := pe_one h
theorem px_ite (hc : PT X c (tT T W gc)) (ha : PE X a (tG T W ga)) (hb : PE X b (tG T W gb)) : PE X (.IfExp c a b pos) (tG T W (.ite gc ga gb)) := (pe_ifExp hc ha hb).imp fun σ H Q ⟨B, Γ, hs, p⟩ => by
  have k : tT T W gc σ H fun k H1 => ∃ B1, Sp' B H B1 H1 ∧ Se B1 Γ σ H1 ∧ Post T W σ B1 H1 (if k then ev T Γ ga else ev T Γ gb) Q := by
    have p' : Post T W σ B H ((ev T Γ gc).bind fun x => match x with
      | .bool true => ev T Γ ga
      | .bool false => ev T Γ gb
      | _ => .bad) Q := p
    refine ⟨B, Γ, hs, ?_⟩
    cases e : ev T Γ gc with
    | ok d =>
      rw [e] at p'
      cases d with
      | bool k => cases k <;> exact fun B1 H1 s => ⟨B1, s, hs.step s, Post.step p' s⟩
      | _ => exact False.elim p'
    | err x => rw [e] at p'; exact p'
    | bad => rw [e] at p'; exact p'
  refine tT_mono k fun k H1 ⟨B1, st, hs1, p1⟩ => ?_
  cases k with
  | true => exact iteT ⟨B1, Γ, hs1, p1⟩
  | false => exact iteF ⟨B1, Γ, hs1, p1⟩
end
end TD

/-! TD5: more rules for expressions: items, displays, calls, built-ins, new lists. -/
namespace TD
open PySem PySem.Spec PyProof.Rows L2

/-- the built-ins that stand as they are -/
structure Bi (mg : Str → Option Value) : Prop where
  len : mg "len" = none
  sum : mg "sum" = none
  abs : mg "abs" = none
  min : mg "min" = none
  max : mg "max" = none
  int : mg "int" = none
  bool : mg "bool" = none
  list : mg "list" = none
  tuple : mg "tuple" = none
  sorted : mg "sorted" = none
  isinstance : mg "isinstance" = none
  range : mg "range" = none
  zip : mg "zip" = none
  enumerate : mg "enumerate" = none
  valueError : mg "ValueError" = none

/-! ### sorted pairs -/
theorem pIns_perm (a : Int × Int) : ∀ l, (pIns a l).Perm (a :: l)
  | [] => .refl _
  | b :: r => by
    unfold pIns
    split
    · exact .refl _
    · exact ((pIns_perm a r).cons b).trans (.swap a b r)
theorem pSort_perm : ∀ l, (pSort l).Perm l
  | [] => .refl _
  | a :: r => (pIns_perm a _).trans ((pSort_perm r).cons a)
def pR (a b : Int × Int) : Prop := pLe a b = true
theorem pLe_iff {a b : Int × Int} : pLe a b = true ↔ a.1 < b.1 ∨ (a.1 = b.1 ∧ a.2 ≤ b.2) := by simp [pLe]
theorem pIns_sorted {a : Int × Int} : ∀ {l}, l.Pairwise pR → (pIns a l).Pairwise pR
  | [], _ => List.pairwise_singleton _ _
  | b :: r, h => by
    obtain ⟨h1, h2⟩ := List.pairwise_cons.mp h
    unfold pIns
    split
    · rename_i q
      refine List.pairwise_cons.mpr ⟨fun c hc => ?_, h⟩
      rcases List.mem_cons.mp hc with rfl | hc
      · exact q
      · have w := h1 c hc
        rw [pR, pLe_iff] at w
        rw [pLe_iff] at q
        rw [pR, pLe_iff]
        omega
    · rename_i q
      refine List.pairwise_cons.mpr ⟨fun c hc => ?_, pIns_sorted h2⟩
      rcases List.mem_cons.mp ((pIns_perm a r).mem_iff.mp hc) with rfl | hc
      · rw [Bool.not_eq_true] at q
        have q' : ¬ pLe c b = true := by rw [q]; exact Bool.false_ne_true
        rw [pLe_iff] at q'
        rw [pR, pLe_iff]
        omega
      · exact h1 c hc
theorem pSort_sorted : ∀ l, (pSort l).Pairwise pR
  | [] => .nil
  | a :: r => pIns_sorted (pSort_sorted r)
theorem pSort_uniq {l m : List (Int × Int)} (h : l.Pairwise pR) (p : l.Perm m) : l = pSort m := by
  refine List.Perm.eq_of_pairwise (le := pR) (fun a b _ _ h1 h2 => ?_) h (pSort_sorted m) (p.trans (pSort_perm m).symm)
  rw [pR, pLe_iff] at h1 h2
  exact Prod.ext (by omega) (by omega)

theorem decI_sound : ∀ {ds : List D} {ns : List Int}, decI ds = some ns → ds = ns.map PyData.int
  | [], ns, h => by cases h; rfl
  | d :: r, ns, h => by
    cases d with
    | int i =>
      unfold decI at h
      cases q : decI r with
      | none => rw [q] at h; cases h
      | some ms =>
        rw [q] at h
        cases h
        rw [decI_sound q]
        rfl
    | _ => cases h
theorem decI_map (ns : List Int) : decI (ns.map PyData.int) = some ns := by
  induction ns with
  | nil => rfl
  | cons n r ih =>
    show (decI (r.map PyData.int)).map (n :: ·) = _
    rw [ih]
    rfl
theorem decP_map (ps : List (Int × Int)) : decP (ps.map eP) = some ps := by
  induction ps with
  | nil => rfl
  | cons n r ih =>
    show (decP (r.map eP)).map (n :: ·) = _
    rw [ih]
    rfl
theorem decP_sound : ∀ {ds : List D} {ps : List (Int × Int)}, decP ds = some ps → ds = ps.map eP
  | [], ps, h => by cases h; rfl
  | d :: r, ps, h => by
    unfold decP at h
    split at h
    · rename_i e
      cases e
    · rename_i i j r' e
      cases e
      cases q : decP r with
      | none => rw [q] at h; cases h
      | some ms =>
        rw [q] at h
        cases h
        rw [decP_sound q]
        rfl
    · cases h

/-! ### the promise of a def, by a function of data -/
def spOf (ca : Nat → Addr) (φ : List D → Option Out) : Sp := fun vs H Q E => ∃ b ds, Ex b H ∧ RpA b vs ds ∧ match φ ds with
  | some (.ret r) => ∀ v f B1 H1, Sp' b H B1 H1 → (∀ p ∈ f, H p = none) → f.Nodup → Or B1 H1 v r f → r.imm = true → Q v H1
  | some (.old d) => ∀ v B1 H1, Sp' b H B1 H1 → Rp B1 v d → Q v H1
  | some (.exc x) => ∀ B1 H1, Sp' b H B1 H1 → E (.ref (ca x)) none H1
  | some (.mu _ _ _) => False
  | some (.mx r) => ∀ v f B1 H1, Sp' b H B1 H1 → (∀ p ∈ f, H p = none) → f.Nodup → Or B1 H1 v r f → Q v H1
  | none => False
structure Callee (X : Cx) (T : Tb) (j : Nat) (x : Str) : Prop where
  ex : ∃ φ f fd ps k, T.fs[j]? = some φ ∧ FnOk X.prog X.w X.K X.mg X.base (L2.CX X.prog X.w) k f fd ps (spOf T.ca φ) ∧ Room k X.A ∧ X.mg x = some (.ref f) ∧ PySem.W.keepIn X.K (.ref f) = true ∧ Binds X.K fd ps []

section
variable {X : Cx} {T : Tb} {W : WX} {a b c e : Expr} {es : List Expr} {ga gb gc : GE} {ges : GEs} {pos : Pos} {σ : L2.St} {B H : Hp} {Γ : TD.Env} {Q : VK}

/-! ### items -/
theorem of_inv {o : Option D} (p : Post T W σ B H (Rs.of o) Q) : ∃ d, o = some d ∧ Post T W σ B H (.ok d) Q := by
  cases o with
  | none => exact p.elim
  | some d => exact ⟨d, rfl, p⟩
theorem ixD_inv {d e : D} (p : Post T W σ B H (ixD d e) Q) : ∃ ds i x, (d = .list ds ∨ d = .tuple ds) ∧ e = .int i ∧ 0 ≤ i ∧ ds[i.toNat]? = some x ∧ Post T W σ B H (.ok x) Q := by
  cases d with
  | list ds =>
    cases e with
    | int i =>
      by_cases h : decide (0 ≤ i) = true
      · have p' : Post T W σ B H (if decide (0 ≤ i) then Rs.of ds[i.toNat]? else .bad) Q := p
        rw [if_pos h] at p'
        obtain ⟨x, e1, q⟩ := of_inv p'
        exact ⟨ds, i, x, .inl rfl, rfl, of_decide_eq_true h, e1, q⟩
      · have p' : Post T W σ B H (if decide (0 ≤ i) then Rs.of ds[i.toNat]? else .bad) Q := p
        rw [if_neg h] at p'
        exact p'.elim
    | _ => exact False.elim p
  | tuple ds =>
    cases e with
    | int i =>
      by_cases h : decide (0 ≤ i) = true
      · have p' : Post T W σ B H (if decide (0 ≤ i) then Rs.of ds[i.toNat]? else .bad) Q := p
        rw [if_pos h] at p'
        obtain ⟨x, e1, q⟩ := of_inv p'
        exact ⟨ds, i, x, .inr rfl, rfl, of_decide_eq_true h, e1, q⟩
      · have p' : Post T W σ B H (if decide (0 ≤ i) then Rs.of ds[i.toNat]? else .bad) Q := p
        rw [if_neg h] at p'
        exact p'.elim
    | _ => exact False.elim p
  | _ => cases e <;> exact False.elim p
theorem atI_of {xs : List V} {i : Int} {v : V} (h0 : 0 ≤ i) (h : xs[i.toNat]? = some v) : atI xs i = some v := by
  have e : i = (i.toNat : Int) := by omega
  rw [e]
  exact atI_nat h
theorem px_ix (ha : PE X a (tG T W ga)) (hb : PE X b (tG T W gb)) (hs : PlainIx b := by intro _ _; rfl) : PE X (.Subscript a b pos) (tG T W (.ix ga gb)) := (pe_ix (ix_list.or ix_tup) ha hb hs).imp fun σ H Q ⟨B, Γ, hs, p⟩ => two_go (f := ixD) (fun {d e x y B H Q} ex rx ry p => by
  obtain ⟨ds, i, z, hd, rfl, h0, hz, q⟩ := ixD_inv p
  rcases hd with rfl | rfl
  · cases rx with
    | lst h1 h2 =>
      obtain ⟨v, hv, rv⟩ := h2.get hz
      exact .inl ⟨_, _, i, v, rfl, rp_int ry, .inl (rd_mono ex h1), atI_of h0 hv, q.here ex rv⟩
  · cases rx with
    | tup h1 h2 =>
      obtain ⟨v, hv, rv⟩ := h2.get hz
      exact .inr ⟨_, _, i, v, rfl, rp_int ry, .inl (.inl (ex _ _ h1)), atI_of h0 hv, q.here ex rv⟩) hs p

/-! ### argument lists, displays, calls -/
theorem pax_nil : PA X [] (tA T W .nil) := pa_nil.imp fun σ H Q ⟨B, Γ, hs, p⟩ => p [] B H (.refl hs.ex) .nil
theorem pax_cons (ha : PE X a (tG T W ga)) (hr : PA X es (tA T W ges)) (hs : starEach (a :: es) X.env = (false, eval a X.env) :: starEach es X.env := by rfl) : PA X (a :: es) (tA T W (.cons ga ges)) := (pa_cons ha hr hs).imp fun σ H Q ⟨B, Γ, hs, p⟩ => by
  have k : tG T W ga σ H fun v H1 => ∃ d B1, Sp' B H B1 H1 ∧ Se B1 Γ σ H1 ∧ Rp B1 v d ∧ PostA T W σ B1 H1 ((evs T Γ ges).map fun ds => d :: ds) Q := by
    have p' : PostA T W σ B H ((ev T Γ ga).bind fun d => (evs T Γ ges).map fun ds => d :: ds) Q := p
    refine ⟨B, Γ, hs, ?_⟩
    cases e : ev T Γ ga with
    | ok d => rw [e] at p'; exact fun v B1 H1 s r => ⟨d, B1, s, hs.step s, r, PostA.step p' s⟩
    | err x => rw [e] at p'; exact p'
    | bad => rw [e] at p'; exact p'
  refine tG_mono k fun v H1 ⟨d, B1, st, hs1, rx, p1⟩ => ⟨B1, Γ, hs1, ?_⟩
  cases e : evs T Γ ges with
  | ok ds => rw [e] at p1; exact fun vs B2 H2 s r => p1 (v :: vs) B2 H2 s (.cons (rx.mono s.b) r)
  | err x => rw [e] at p1; exact p1
  | bad => rw [e] at p1; exact p1
theorem sizeOk_le {n : Nat} (h : sizeOk n = true) : n ≤ sizeLine := by
  rw [sizeLine_eq]
  unfold sizeOk at h
  exact of_decide_eq_true h
theorem size_if {n : Nat} {r : Rs D} (p : Post T W σ B H (if sizeOk n then r else .bad) Q) : n ≤ sizeLine ∧ Post T W σ B H r Q := by
  by_cases h : sizeOk n = true
  · rw [if_pos h] at p
    exact ⟨sizeOk_le h, p⟩
  · rw [if_neg h] at p
    exact p.elim
theorem size_ifF {n : Nat} {r : Rs (List D)} (p : PostF T W σ B H (if sizeOk n then r else .bad) Q) : n ≤ sizeLine ∧ PostF T W σ B H r Q := by
  by_cases h : sizeOk n = true
  · rw [if_pos h] at p
    exact ⟨sizeOk_le h, p⟩
  · rw [if_neg h] at p
    exact p.elim
theorem px_tup {k : Nat} (h : PA X es (tA T W ges)) : PE X (.Tuple es k pos) (tG T W (.tup ges)) := (pe_tup h).imp fun σ H Q ⟨B, Γ, hs, p⟩ =>
  tA_mono (a_bind hs p) fun vs H1 ⟨ds, B1, st, hs1, rx, p1⟩ => by
    obtain ⟨hz, p2⟩ := size_if p1
    exact ⟨by rw [rx.len]; exact hz, fun p hp => p2.newT hs1.ex hp rx⟩
/-- a new list is a list -/
theorem px_f {g : GF} (h : PE X e (tF T W g)) : PE X e (tG T W (.f g)) := h.imp fun σ H Q ⟨B, Γ, hs, p⟩ => by
  have p' : Post T W σ B H ((evF T Γ g).map PyData.list) Q := p
  refine ⟨B, Γ, hs, ?_⟩
  cases e : evF T Γ g with
  | ok ds =>
    rw [e] at p'
    refine fun p xs B1 H1 s h1 h2 h3 h4 => p' (.ref p) (addF B1 H1 [p]) H1 (s.addF fun q hq => by cases List.mem_singleton.mp hq; exact h1) (.lst (.inl (addF_in s.bh List.mem_cons_self h3)) (h4.mono (addF_ex _ _ _)))
  | err x => rw [e] at p'; exact p'
  | bad => rw [e] at p'; exact p'
theorem pf_lst (h : PA X es (tA T W ges)) : PE X (.List es pos) (tF T W (.lst ges)) := (pe_lst h).imp fun σ H Q ⟨B, Γ, hs, p⟩ =>
  tA_mono (a_bindF hs p) fun vs H1 ⟨ds, B1, st, hs1, rx, p1⟩ => by
    obtain ⟨hz, p2⟩ := size_ifF p1
    exact ⟨by rw [rx.len]; exact hz, fun p hp => p2.new hs1.ex hp rx⟩
theorem callD_inv {j : Nat} {x : Str} (c : Callee X T j x) {ds : List D} (p : Post T W σ B H (callD T j ds) Q) : ∃ φ, T.fs[j]? = some φ ∧ match φ ds with
    | some (.ret r) => Post T W σ B H (.ok r.toD) Q
    | some (.old d) => Post T W σ B H (.ok d) Q
    | some (.exc x) => PErr T W σ B H x
    | some (.mu _ _ _) => False
    | some (.mx _) => False
    | none => False := by
  unfold callD at p
  cases e : T.fs[j]? with
  | none => rw [e] at p; exact p.elim
  | some φ =>
    rw [e] at p
    refine ⟨φ, rfl, ?_⟩
    cases q : φ ds with
    | none => simp only [q] at p; exact p.elim
    | some o => cases o <;> (simp only [q] at p; exact p)
theorem px_call {x : Str} {p : Pos} {j : Nat} (c : Callee X T j x) (tk : Takes X W) (ha : PA X (e :: es) (tA T W ges)) (hg : Gl X x := by rfl)
    (hdb : (x == ("__debug__" : Str)) = false := by decide) (he : starEach (e :: es) X.env = (false, eval e X.env) :: starEach es X.env := by rfl) (hpl : (backTo pos (starEach es X.env)).any (·.1) = false := by rfl) :
    PE X (.Call (.Name x p) (e :: es) [] pos) (tG T W (.call j ges)) := by
  obtain ⟨φ, f, fd, ps, k, hφ, F, hr, hm, hk, hb⟩ := c.ex
  refine (pe_callS F hr hg hm hk hb (fun σ => passAt tk σ) ha hdb he hpl).imp fun σ H Q ⟨B, Γ, hs, p⟩ => ?_
  refine tA_mono (a_bind hs p) fun vs H1 ⟨ds, B1, st, hs1, rx, p1⟩ => ?_
  obtain ⟨φ', hφ', q⟩ := callD_inv c p1
  rw [hφ] at hφ'
  cases hφ'
  refine ⟨B1, ds, hs1.ex, rx, ?_⟩
  cases z : φ ds with
  | none => rw [z] at q; exact q
  | some o =>
    rw [z] at q
    cases o with
    | ret r => exact fun v f B2 H2 s2 fr nd o im => q v (addF B2 H2 f) H2 (s2.addF fr) (o.freeze s2.bh fun _ h => h)
    | old d => exact fun v B2 H2 s2 r => q v B2 H2 s2 r
    | exc x => exact fun B2 H2 s2 => q B2 H2 s2
    | mu p c x => exact q
    | mx r => exact q.elim
end
end TD

/-! TD6: built-ins, dicts, classes, new lists. -/
namespace TD
open PySem PySem.Spec PyProof.Rows L2

section
variable {X : Cx} {T : Tb} {W : WX} {a b c e : Expr} {es : List Expr} {ga gb gc : GE} {ges : GEs} {pos p : Pos} {σ : L2.St} {B H : Hp} {Γ : TD.Env} {Q : VK}

/-! ### built-ins -/
theorem cb1_go {f : D → Rs D} {r : List V → Hp → VK → Prop} (hr : ∀ {d : D} {x : V} {B H : Hp} {Q : VK}, Ex B H → Rp B x d → Post T W σ B H (f d) Q → r [x] H Q)
    (hs : Se B Γ σ H) (p : Post T W σ B H ((ev T Γ ga).bind f) Q) : tCB r (tCons (tG T W ga) tNil) σ H Q :=
  tG_mono (g_bind hs p) fun x H1 ⟨d, B1, st, hs1, rx, p1⟩ => hr hs1.ex rx p1
theorem cb2_go {f : D → D → Rs D} {r : List V → Hp → VK → Prop} (hr : ∀ {d e : D} {x y : V} {B H : Hp} {Q : VK}, Ex B H → Rp B x d → Rp B y e → Post T W σ B H (f d e) Q → r [x, y] H Q)
    (hs : Se B Γ σ H) (p : Post T W σ B H ((ev T Γ ga).bind fun x => (ev T Γ gb).bind fun y => f x y) Q) : tCB r (tCons (tG T W ga) (tCons (tG T W gb) tNil)) σ H Q :=
  tG_mono (g_bind hs p) fun x H1 ⟨d, B1, st, hs1, rx, p1⟩ => tG_mono (g_bind hs1 p1) fun y H2 ⟨e, B2, st2, hs2, ry, p2⟩ => hr hs2.ex (rx.mono st2.b) ry p2
theorem seqD_rp {d : D} {ds : List D} {x : V} (h : seqD d = some ds) (r : Rp B x d) : ∃ q xs, x = .ref q ∧ (Rd B q (.lst xs) ∨ B q = some (.tup xs)) ∧ RpA B xs ds := by
  cases r with
  | lst h1 h2 => cases h; exact ⟨_, _, rfl, .inl h1, h2⟩
  | tup h1 h2 => cases h; exact ⟨_, _, rfl, .inr h1, h2⟩
  | _ => cases h
theorem sq_of {K : PySem.W.Frag} {q : Addr} {xs : List V} (ex : Ex B H) (h : Rd B q (.lst xs) ∨ B q = some (.tup xs)) : SqL K H q xs ∨ SqT K H q xs := by
  rcases h with h | h
  · exact .inl (.inl (rd_mono ex h))
  · exact .inr (.inl (.inl (ex _ _ h)))
theorem px_len (bi : Bi X.mg) (ha : PE X a (tG T W ga)) (hg : Gl X "len" := by rfl) (he : starEach [a] X.env = (false, eval a X.env) :: starEach [] X.env := by rfl) : PE X (.Call (.Name "len" p) [a] [] pos) (tG T W (.len ga)) :=
  (pe_callB call_len_seq hg bi.len PySem.boot_len (pa_cons ha pa_nil he) (by decide) (by decide) he rfl).imp fun σ H Q ⟨B, Γ, hs, p⟩ => cb1_go (f := lenD) (fun {d x B H Q} ex rx p => by
    unfold lenD at p
    cases e : seqD d with
    | none => rw [e] at p; exact p.elim
    | some ds =>
      rw [e] at p
      obtain ⟨q, xs, rfl, h1, h2⟩ := seqD_rp e rx
      refine ⟨q, xs, rfl, sq_of ex h1, ?_⟩
      rw [h2.len]
      exact Post.here (d := .int ds.length) ex p (.int _)) hs p
theorem sum_inv {d : D} (p : Post T W σ B H (sumD d) Q) : ∃ (ns : List Int), d = .list (ns.map .int) ∧ Post T W σ B H (.ok (.int ns.sum)) Q := by
  cases d with
  | list ds =>
    have p' : Post T W σ B H (match decI ds with
      | some ns => .ok (.int ns.sum)
      | none => .bad) Q := p
    cases e : decI ds with
    | none => rw [e] at p'; exact p'.elim
    | some ns => rw [e] at p'; exact ⟨ns, by rw [decI_sound e], p'⟩
  | _ => exact False.elim p
theorem list_ints {q : V} {ns : List Int} (r : Rp B q (.list (ns.map .int))) : ∃ a, q = .ref a ∧ Rd B a (.lst (ns.map V.int)) := by
  cases r with
  | lst h1 h2 => exact ⟨_, rfl, by rw [← h2.ints]; exact h1⟩
theorem px_sum (bi : Bi X.mg) (hc : X.calm = true) (ha : PE X a (tG T W ga)) (hg : Gl X "sum" := by rfl) (he : starEach [a] X.env = (false, eval a X.env) :: starEach [] X.env := by rfl) : PE X (.Call (.Name "sum" p) [a] [] pos) (tG T W (.sum ga)) :=
  (pe_callB (cr_sum hc) hg bi.sum (by decide +kernel) (pa_cons ha pa_nil he) (by decide) (by decide) he rfl).imp fun σ H Q ⟨B, Γ, hs, p⟩ => cb1_go (f := sumD) (fun {d x B H Q} ex rx p => by
    obtain ⟨ns, rfl, q⟩ := sum_inv p
    obtain ⟨a, rfl, h1⟩ := list_ints rx
    exact ⟨a, ns, rfl, .inl (rd_mono ex h1), Post.here (d := .int ns.sum) ex q (.int _)⟩) hs p
theorem px_abs (bi : Bi X.mg) (ha : PE X a (tG T W ga)) (hg : Gl X "abs" := by rfl) (he : starEach [a] X.env = (false, eval a X.env) :: starEach [] X.env := by rfl) : PE X (.Call (.Name "abs" p) [a] [] pos) (tG T W (.abs ga)) :=
  (pe_callB call_abs hg bi.abs (by decide +kernel) (pa_cons ha pa_nil he) (by decide) (by decide) he rfl).imp fun σ H Q ⟨B, Γ, hs, p⟩ => cb1_go (f := absD) (fun {d x B H Q} ex rx p => by
    cases d with
    | int i => cases rp_int rx; exact ⟨i, rfl, Post.here (d := .int _) ex p (.int _)⟩
    | _ => exact False.elim p) hs p
theorem px_mn (bi : Bi X.mg) (hc : X.calm = true) (ha : PE X a (tG T W ga)) (hb : PE X b (tG T W gb)) (hg : Gl X "min" := by rfl) (he : starEach [a, b] X.env = (false, eval a X.env) :: starEach [b] X.env := by rfl) (he2 : starEach [b] X.env = (false, eval b X.env) :: starEach [] X.env := by rfl)
    (hpl : (backTo pos (starEach [b] X.env)).any (·.1) = false := by rfl) : PE X (.Call (.Name "min" p) [a, b] [] pos) (tG T W (.mn ga gb)) :=
  (pe_callB (call_min2 hc) hg bi.min (by decide +kernel) (pa_cons ha (pa_cons hb pa_nil he2) he) (by decide) (by decide) he hpl).imp fun σ H Q ⟨B, Γ, hs, p⟩ => cb2_go (f := mnD) (fun {d e x y B H Q} ex rx ry p => by
    cases d with
    | int i =>
      cases e with
      | int j => cases rp_int rx; cases rp_int ry; exact ⟨i, j, rfl, Post.here (d := .int _) ex p (.int _)⟩
      | _ => exact False.elim p
    | _ => cases e <;> exact False.elim p) hs p
theorem px_mx (bi : Bi X.mg) (hc : X.calm = true) (ha : PE X a (tG T W ga)) (hb : PE X b (tG T W gb)) (hg : Gl X "max" := by rfl) (he : starEach [a, b] X.env = (false, eval a X.env) :: starEach [b] X.env := by rfl) (he2 : starEach [b] X.env = (false, eval b X.env) :: starEach [] X.env := by rfl)
    (hpl : (backTo pos (starEach [b] X.env)).any (·.1) = false := by rfl) : PE X (.Call (.Name "max" p) [a, b] [] pos) (tG T W (.mx ga gb)) :=
  (pe_callB (call_max2 hc) hg bi.max (by decide +kernel) (pa_cons ha (pa_cons hb pa_nil he2) he) (by decide) (by decide) he hpl).imp fun σ H Q ⟨B, Γ, hs, p⟩ => cb2_go (f := mxD) (fun {d e x y B H Q} ex rx ry p => by
    cases d with
    | int i =>
      cases e with
      | int j => cases rp_int rx; cases rp_int ry; exact ⟨i, j, rfl, Post.here (d := .int _) ex p (.int _)⟩
      | _ => exact False.elim p
    | _ => cases e <;> exact False.elim p) hs p
theorem px_toint (bi : Bi X.mg) (ha : PE X a (tG T W ga)) (hg : Gl X "int" := by rfl) (he : starEach [a] X.env = (false, eval a X.env) :: starEach [] X.env := by rfl) : PE X (.Call (.Name "int" p) [a] [] pos) (tG T W (.int ga)) :=
  (pe_callTy call_int1 hg bi.int (by decide +kernel) (pa_cons ha pa_nil he) (by decide) (by decide) he rfl).imp fun σ H Q ⟨B, Γ, hs, p⟩ => cb1_go (f := intD) (fun {d x B H Q} ex rx p => by
    cases d with
    | int i => cases rp_int rx; exact .inl ⟨i, rfl, Post.here (d := .int _) ex p (.int _)⟩
    | bool k => cases rp_bl rx; exact .inr ⟨k, rfl, Post.here (d := .int _) ex p (.int _)⟩
    | _ => exact False.elim p) hs p
/-- isinstance(x, T) -/
def tyN : IT → String
  | .int => "int"
  | .bool => "bool"
  | .list => "list"
  | .tuple => "tuple"
def tyB (n : String) : IT → Bool
  | .int => n == "int" || n == "bool"
  | .bool => n == "bool"
  | .list => n == "list"
  | .tuple => n == "tuple"
theorem kit_non (t : IT) : kitB "NoneType" (tyN t) = some (tyB "NoneType" t) := by cases t <;> decide +kernel
theorem kit_bl (t : IT) : kitB "bool" (tyN t) = some (tyB "bool" t) := by cases t <;> decide +kernel
theorem kit_int (t : IT) : kitB "int" (tyN t) = some (tyB "int" t) := by cases t <;> decide +kernel
theorem kit_str (t : IT) : kitB "str" (tyN t) = some (tyB "str" t) := by cases t <;> decide +kernel
theorem kit_lst (t : IT) : kitB "list" (tyN t) = some (tyB "list" t) := by cases t <;> decide +kernel
theorem kit_tup (t : IT) : kitB "tuple" (tyN t) = some (tyB "tuple" t) := by cases t <;> decide +kernel
theorem isi_ok {K : PySem.W.Frag} (t : IT) {d : D} {x : V} (ex : Ex B H) (r : Rp B x d) : ∃ u, TyX K H x u ∧ PySem.W.kitOne K u (.type (tyN t)) = some (isiD t d) := by
  cases r with
  | non => exact ⟨_, .base .non, (kit_ty (kit_non t)).trans (by cases t <;> rfl)⟩
  | bl b => exact ⟨_, .base (.bl b), (kit_ty (kit_bl t)).trans (by cases t <;> rfl)⟩
  | int i => exact ⟨_, .base (.int i), (kit_ty (kit_int t)).trans (by cases t <;> rfl)⟩
  | str z => exact ⟨_, .base (.str z), (kit_ty (kit_str t)).trans (by cases t <;> rfl)⟩
  | lst h1 h2 =>
    rcases rd_mono ex h1 with h | ⟨o, h⟩
    · exact ⟨_, .base (.lst h), (kit_ty (kit_lst t)).trans (by cases t <;> rfl)⟩
    · exact ⟨_, .base (.frz h), (kit_ty (kit_lst t)).trans (by cases t <;> rfl)⟩
  | tup h1 h2 => exact ⟨_, .base (.tup (ex _ _ h1)), (kit_ty (kit_tup t)).trans (by cases t <;> rfl)⟩
theorem isi_go (t : IT) (hs : Se B Γ σ H) (p : Post T W σ B H (ev T Γ (.isi t ga)) Q) : tCB (rIsi X.K) (tCons (tG T W ga) (tCons (tC (.ty (tyN t))) tNil)) σ H Q :=
  tG_mono (g_bind (f := fun x => .ok (.bool (isiD t x))) hs p) fun x H1 ⟨d, B1, st, hs1, rx, p1⟩ => by
    obtain ⟨u, h1, h2⟩ := isi_ok (K := X.K) t hs1.ex rx
    exact ⟨x, .ty (tyN t), u, .type (tyN t), isiD t d, rfl, .ty _, h1, h2, Post.here (d := .bool _) hs1.ex p1 (.bl _)⟩
section
variable {p2 : Pos} (bi : Bi X.mg) (ha : PE X a (tG T W ga))
include bi ha
theorem px_isInt (hg : Gl X "isinstance" := by rfl) (hg2 : Gl X "int" := by rfl) (he : starEach [a, .Name "int" p2] X.env = (false, eval a X.env) :: starEach [.Name "int" p2] X.env := by rfl) : PE X (.Call (.Name "isinstance" p) [a, .Name "int" p2] [] pos) (tG T W (.isi .int ga)) :=
  (pe_callB call_isi hg bi.isinstance (by decide +kernel) (pa_cons ha (pa_cons (pe_bltn (v := .ty "int") hg2 bi.int (by decide +kernel) rfl) pa_nil) he) (by decide) (by decide) he rfl).imp fun σ H Q ⟨B, Γ, hs, p⟩ => isi_go .int hs p
theorem px_isBool (hg : Gl X "isinstance" := by rfl) (hg2 : Gl X "bool" := by rfl) (he : starEach [a, .Name "bool" p2] X.env = (false, eval a X.env) :: starEach [.Name "bool" p2] X.env := by rfl) : PE X (.Call (.Name "isinstance" p) [a, .Name "bool" p2] [] pos) (tG T W (.isi .bool ga)) :=
  (pe_callB call_isi hg bi.isinstance (by decide +kernel) (pa_cons ha (pa_cons (pe_bltn (v := .ty "bool") hg2 bi.bool (by decide +kernel) rfl) pa_nil) he) (by decide) (by decide) he rfl).imp fun σ H Q ⟨B, Γ, hs, p⟩ => isi_go .bool hs p
theorem px_isList (hg : Gl X "isinstance" := by rfl) (hg2 : Gl X "list" := by rfl) (he : starEach [a, .Name "list" p2] X.env = (false, eval a X.env) :: starEach [.Name "list" p2] X.env := by rfl) : PE X (.Call (.Name "isinstance" p) [a, .Name "list" p2] [] pos) (tG T W (.isi .list ga)) :=
  (pe_callB call_isi hg bi.isinstance (by decide +kernel) (pa_cons ha (pa_cons (pe_bltn (v := .ty "list") hg2 bi.list (by decide +kernel) rfl) pa_nil) he) (by decide) (by decide) he rfl).imp fun σ H Q ⟨B, Γ, hs, p⟩ => isi_go .list hs p
theorem px_isTuple (hg : Gl X "isinstance" := by rfl) (hg2 : Gl X "tuple" := by rfl) (he : starEach [a, .Name "tuple" p2] X.env = (false, eval a X.env) :: starEach [.Name "tuple" p2] X.env := by rfl) : PE X (.Call (.Name "isinstance" p) [a, .Name "tuple" p2] [] pos) (tG T W (.isi .tuple ga)) :=
  (pe_callB call_isi hg bi.isinstance (by decide +kernel) (pa_cons ha (pa_cons (pe_bltn (v := .ty "tuple") hg2 bi.tuple (by decide +kernel) rfl) pa_nil) he) (by decide) (by decide) he rfl).imp fun σ H Q ⟨B, Γ, hs, p⟩ => isi_go .tuple hs p
end

/-! ### in a list of ints; how many -/
theorem inV_ints (x : Int) (ns : List Int) : inV (.int x) (ns.map V.int) = decide (x ∈ ns) := by
  unfold inV
  rw [Bool.eq_iff_iff, List.any_eq_true]
  simp only [List.mem_map, decide_eq_true_eq]
  constructor
  · rintro ⟨v, ⟨i, hi, rfl⟩, h⟩
    have : i = x := by simpa [eqV] using h
    rw [← this]
    exact hi
  · intro h
    exact ⟨.int x, ⟨x, h, rfl⟩, by simp [eqV]⟩
theorem flat_ints (ns : List Int) : (ns.map V.int).all flatV = true := by
  rw [List.all_eq_true]
  intro v hv
  obtain ⟨i, _, rfl⟩ := List.mem_map.mp hv
  rfl
theorem inl_inv {n : Bool} {d e : D} (p : Post T W σ B H (inlD n d e) Q) : ∃ (x : Int) (ns : List Int), d = .int x ∧ e = .list (ns.map .int) ∧ Post T W σ B H (.ok (.bool (n ^^ decide (x ∈ ns)))) Q := by
  cases d with
  | int x =>
    cases e with
    | list ds =>
      have p' : Post T W σ B H (match decI ds with
        | some ns => .ok (.bool (n ^^ decide (x ∈ ns)))
        | none => .bad) Q := p
      cases e : decI ds with
      | none => rw [e] at p'; exact p'.elim
      | some ns => rw [e] at p'; exact ⟨x, ns, rfl, by rw [decI_sound e], p'⟩
    | _ => exact False.elim p
  | _ => cases e <;> exact False.elim p
theorem inl_imp {n : Bool} : ∀ σ H Q, tG T W (.inl n ga gb) σ H Q → tOp (rIn X.K n) (tG T W ga) (tG T W gb) σ H Q := fun σ H Q ⟨B, Γ, hs, p⟩ => two_go (f := inlD n) (fun {d e x y B H Q} ex rx ry p => by
  obtain ⟨i, ns, rfl, rfl, q⟩ := inl_inv p
  obtain ⟨a, rfl, h1⟩ := list_ints ry
  cases rp_int rx
  refine ⟨a, _, rfl, .inl (.inl (rd_mono ex h1)), rfl, flat_ints ns, ?_⟩
  rw [inV_ints]
  have h := Post.here (d := .bool _) ex q (.bl _)
  cases n with
  | true => rw [Bool.true_xor] at h; exact h
  | false => rw [Bool.false_xor] at h; exact h) hs p
section
variable (ha : PE X a (tG T W ga)) (hb : PE X b (tG T W gb))
include ha hb
theorem px_in (hm : behindInMarks .In b = false := by rfl) : PE X (.Compare a [.In] [b] pos) (tG T W (.inl false ga gb)) := (pe_cmpR op_in_seq ha hb hm).imp inl_imp
theorem px_nin (hm : behindInMarks .NotIn b = false := by rfl) : PE X (.Compare a [.NotIn] [b] pos) (tG T W (.inl true ga gb)) := (pe_cmpR op_notIn_seq ha hb hm).imp inl_imp
theorem pt_in (hm : behindInMarks .In b = false := by rfl) : PT X (.Compare a [.In] [b] pos) (tT T W (.inl false ga gb)) := (pt_cmpR op_in_seq ha hb hm).imp (test_of inl_imp)
theorem pt_nin (hm : behindInMarks .NotIn b = false := by rfl) : PT X (.Compare a [.NotIn] [b] pos) (tT T W (.inl true ga gb)) := (pt_cmpR op_notIn_seq ha hb hm).imp (test_of inl_imp)
end
theorem cnt_inv {d e : D} (p : Post T W σ B H (cntD d e) Q) : ∃ (ns : List Int) (x : Int), d = .list (ns.map .int) ∧ e = .int x ∧ Post T W σ B H (.ok (.int (ns.count x))) Q := by
  cases d with
  | list ds =>
    cases e with
    | int x =>
      have p' : Post T W σ B H (match decI ds with
        | some ns => .ok (.int (ns.count x))
        | none => .bad) Q := p
      cases e : decI ds with
      | none => rw [e] at p'; exact p'.elim
      | some ns => rw [e] at p'; exact ⟨ns, x, by rw [decI_sound e], rfl, p'⟩
    | _ => exact False.elim p
  | _ => cases e <;> exact False.elim p

/-! ### dicts -/
theorem KvRp.val {ks : List (Key × V)} {kvs : List (Int × D)} (h : KvRp B ks kvs) (k : Int) : match dget kvs k with
    | some d => ∃ v, valV ks (Sum.inl k : Key) = some v ∧ Rp B v d
    | none => valV ks (Sum.inl k : Key) = none := by
  unfold KvRp at h
  induction h with
  | nil => rfl
  | @cons a b as bs r t ih =>
    obtain ⟨e1, e2⟩ := r
    by_cases z : b.1 = k
    · have g1 : dget (b :: bs) k = some b.2 := by simp [dget, List.find?_cons, z]
      rw [g1]
      exact ⟨a.2, valV_pos (by rw [e1, z]), e2⟩
    · have g1 : dget (b :: bs) k = dget bs k := by simp [dget, List.find?_cons, z]
      rw [g1]
      have g2 : valV (a :: as) (Sum.inl k : Key) = valV as (Sum.inl k : Key) := valV_neg fun q => z (by rw [e1] at q; exact Sum.inl.inj q)
      rw [g2]
      exact ih
theorem dslot_inv {i : Nat} {kvs : List (Int × D)} (hs : Se B Γ σ H) (h : dslot Γ i = .ok kvs) : ∃ q ks, σ[i]? = some (some (.ref q)) ∧ Rd H q (.dK ks) ∧ KvRp B ks kvs := by
  unfold dslot at h
  split at h
  · rename_i o k e
    cases h
    obtain ⟨q, ks, e1, h1, h2, _⟩ := hs.ok i _ e
    exact ⟨q, ks, e1, .inl h1, h2⟩
  · rename_i k e
    cases h
    obtain ⟨q, ks, od, e1, h1, h2⟩ := hs.ok i _ e
    exact ⟨q, ks, e1, .inr ⟨od, hs.ex _ _ h1⟩, h2⟩
  · cases h
theorem dslot_or (i : Nat) : (∃ kvs, dslot Γ i = .ok kvs) ∨ dslot Γ i = .bad := by
  unfold dslot
  split
  · exact .inl ⟨_, rfl⟩
  · exact .inl ⟨_, rfl⟩
  · exact .inr rfl
theorem ind_go {n : Bool} {i : Nat} {t : TE} (ht : t = fun σ H Q => tG T W ga σ H fun y H1 => tVar i σ H1 fun x H2 => ∃ a o, x = .ref a ∧ DGet H2 a y o ∧ Q (.bl (n ^^ o.isSome)) H2) :
    ∀ σ H Q, tG T W (.ind n ga i) σ H Q → t σ H Q := fun σ H Q ⟨B, Γ, hs, p⟩ => by
  rw [ht]
  refine tG_mono (g_bind (f := fun x => (dslot Γ i).bind fun kvs => match x with
    | .int k => .ok (.bool (n ^^ (dget kvs k).isSome))
    | _ => .bad) hs p) fun y H1 ⟨d, B1, st, hs1, ry, p1⟩ => ?_
  rcases dslot_or (Γ := Γ) i with ⟨kvs, hk⟩ | hk
  · rw [hk] at p1
    obtain ⟨q, ks, e1, h1, h2⟩ := dslot_inv hs1 hk
    cases d with
    | int k =>
      cases rp_int ry
      have v := h2.val k
      refine ⟨_, e1, q, valV ks (Sum.inl k : Key), rfl, .inl ⟨ks, Sum.inl k, h1, rfl, rfl⟩, ?_⟩
      have e2 : (valV ks (Sum.inl k : Key)).isSome = (dget kvs k).isSome := by
        cases z : dget kvs k with
        | none => rw [z] at v; rw [v]; rfl
        | some d =>
          rw [z] at v
          obtain ⟨w, hw, _⟩ := v
          rw [hw]
          rfl
      rw [e2]
      exact Post.here (d := .bool _) hs1.ex p1 (.bl _)
    | _ => exact False.elim p1
  · rw [hk] at p1
    exact p1.elim
section
variable {i : Nat} {x : Str} {p2 : Pos} (hu : X.A.units + 64 < cLine) (ha : PE X a (tG T W ga)) (hv : PE X (.Name x p2) (tVar i))
include hu ha hv
theorem px_ind (hm : behindInMarks .In (.Name x p2) = false := by rfl) : PE X (.Compare a [.In] [.Name x p2] pos) (tG T W (.ind false ga i)) := (pe_cmp (pc_din (by omega) ha hv) hm).imp (ind_go (by funext σ H Q; simp only [Bool.false_xor]; rfl))
theorem px_nind (hm : behindInMarks .NotIn (.Name x p2) = false := by rfl) : PE X (.Compare a [.NotIn] [.Name x p2] pos) (tG T W (.ind true ga i)) := (pe_cmp (pc_dnotin (by omega) ha hv) hm).imp (ind_go (by funext σ H Q; simp only [Bool.true_xor]; rfl))
theorem pt_ind (hm : behindInMarks .In (.Name x p2) = false := by rfl) : PT X (.Compare a [.In] [.Name x p2] pos) (tT T W (.ind false ga i)) := (pt_cmp (pc_din (by omega) ha hv) hm).imp fun σ H Q q => ind_go (by funext σ H Q; simp only [Bool.false_xor]; rfl) σ H _ (tT_tG q)
theorem pt_nind (hm : behindInMarks .NotIn (.Name x p2) = false := by rfl) : PT X (.Compare a [.NotIn] [.Name x p2] pos) (tT T W (.ind true ga i)) := (pt_cmp (pc_dnotin (by omega) ha hv) hm).imp fun σ H Q q => ind_go (by funext σ H Q; simp only [Bool.true_xor]; rfl) σ H _ (tT_tG q)
theorem px_dix (hs : NoSl a := by intro _ _; rfl) : PE X (.Subscript (.Name x p2) a pos) (tG T W (.dix i ga)) := (pe_dget (by omega) hv ha hs).imp fun σ H Q ⟨B, Γ, hs, p⟩ => by
  have p' : Post T W σ B H ((dslot Γ i).bind fun kvs => (ev T Γ ga).bind fun x => match x with
    | .int k => Rs.of (dget kvs k)
    | _ => .bad) Q := p
  rcases dslot_or (Γ := Γ) i with ⟨kvs, hk⟩ | hk
  · rw [hk] at p'
    obtain ⟨q, ks, e1, h1, h2⟩ := dslot_inv hs hk
    refine ⟨_, e1, ?_⟩
    refine tG_mono (g_bind (f := fun x => match x with
      | .int k => Rs.of (dget kvs k)
      | _ => .bad) hs p') fun y H1 ⟨d, B1, st, hs1, ry, p1⟩ => ?_
    cases d with
    | int k =>
      cases rp_int ry
      obtain ⟨d, hd, p2⟩ := of_inv p1
      have v := h2.val k
      rw [hd] at v
      obtain ⟨w, hw, rw'⟩ := v
      have g : DGet H1 q (kV (Sum.inl k)) (valV ks (Sum.inl k : Key)) := .inl ⟨ks, Sum.inl k, rd_mono st.h h1, rfl, rfl⟩
      rw [hw] at g
      exact ⟨q, w, rfl, g, p2.here hs1.ex (rw'.mono st.b)⟩
    | _ => exact False.elim p1
  · rw [hk] at p'
    exact p'.elim
end
end
end TD

/-! TD7: new lists, what is walked, comprehensions. -/
namespace TD
open PySem PySem.Spec PyProof.Rows L2

section
variable {X : Cx} {T : Tb} {W : WX} {a b c e : Expr} {es : List Expr} {ga gb gc : GE} {ges : GEs} {pos p : Pos} {σ : L2.St} {B H : Hp} {Γ : TD.Env} {Q : VK}
theorem g_bindI {α : Type} {g : GE} {f : D → Rs α} {P : Hp → Hp → Rs α → Prop} (hP : ∀ {B H B1 H1 r}, P B H r → Sp' B H B1 H1 → P B1 H1 r) (he : ∀ {B H x}, P B H (.err x) → PErr T W σ B H x) (hb : ∀ {B H}, ¬ P B H .bad) (hs : Se B Γ σ H) (p : P B H ((ev T Γ g).bind f)) :
    tG T W g σ H fun v H1 => ∃ d B1, Sp' B H B1 H1 ∧ Se B1 Γ σ H1 ∧ Rp B1 v d ∧ P B1 H1 (f d) := by
  refine ⟨B, Γ, hs, ?_⟩
  cases e : ev T Γ g with
  | ok d => rw [e] at p; exact fun v B1 H1 s r => ⟨d, B1, s, hs.step s, r, hP p s⟩
  | err x => rw [e] at p; exact he p
  | bad => rw [e] at p; exact hb p

/-! ### slices -/
theorem cut_to {xs : List V} {j : Int} (h : 0 ≤ j) : cutV xs none (some j) = xs.take j.toNat := by
  obtain ⟨k, rfl⟩ : ∃ k : Nat, j = (k : Int) := ⟨j.toNat, by omega⟩
  unfold cutV
  rw [HT.sIx_none, HT.sIx_nat, List.drop_zero, Nat.sub_zero, Int.toNat_natCast, ← List.take_eq_take_min]
theorem cut_from {xs : List V} {j : Int} (h : 0 ≤ j) : cutV xs (some j) none = xs.drop j.toNat := by
  obtain ⟨k, rfl⟩ : ∃ k : Nat, j = (k : Int) := ⟨j.toNat, by omega⟩
  unfold cutV
  rw [HT.sIx_none, HT.sIx_nat, Int.toNat_natCast]
  by_cases q : k ≤ xs.length
  · rw [Nat.min_eq_left q]
    exact List.take_of_length_le (by rw [List.length_drop]; omega)
  · rw [Nat.min_eq_right (by omega), Nat.sub_self, List.take_zero, List.drop_eq_nil_of_le (by omega)]
theorem cut_both {xs : List V} {i j : Int} (h : 0 ≤ i) (h2 : i ≤ j) : cutV xs (some i) (some j) = (xs.drop i.toNat).take (j - i).toNat := by
  obtain ⟨k, rfl⟩ : ∃ k : Nat, i = (k : Int) := ⟨i.toNat, by omega⟩
  obtain ⟨l, rfl⟩ : ∃ k : Nat, j = (k : Int) := ⟨j.toNat, by omega⟩
  unfold cutV
  rw [HT.sIx_nat, HT.sIx_nat, Int.toNat_natCast]
  by_cases q : k ≤ xs.length
  · rw [Nat.min_eq_left q]
    by_cases q2 : l ≤ xs.length
    · rw [Nat.min_eq_left q2]
      congr 1
      omega
    · rw [Nat.min_eq_right (by omega), List.take_of_length_le (by rw [List.length_drop]; omega), List.take_of_length_le (by rw [List.length_drop]; omega)]
  · rw [Nat.min_eq_right (by omega), List.drop_eq_nil_of_le (by omega), List.drop_eq_nil_of_le (by omega), List.take_nil, List.take_nil]
section
variable {p2 : Pos} (ha : PE X a (tG T W ga)) (hb : PE X b (tG T W gb))
include ha hb
theorem pf_slTo : PE X (.Subscript a (.Slice none (some b) none p2) pos) (tF T W (.slTo ga gb)) := (pe_slice sl_list ha po_none (po_some hb)).imp fun σ H Q ⟨B, Γ, hs, p⟩ =>
  tG_mono (g_bindF hs p) fun x H1 ⟨d, B1, st, hs1, rx, p1⟩ => tG_mono (g_bindF hs1 p1) fun y H2 ⟨e, B2, st2, hs2, ry, p2⟩ => by
    cases d with
    | list ds =>
      cases e with
      | int j =>
        by_cases h : decide (0 ≤ j) = true
        · simp only [h, if_true] at p2
          cases rx with
          | lst h1 h2 => exact ⟨j, rp_int ry, _, _, rfl, .inl (rd_mono hs2.ex (rd_mono st2.b h1)), fun q hq => by
              rw [cut_to (of_decide_eq_true h)]
              exact p2.new hs2.ex hq ((h2.mono st2.b).take _)⟩
        · simp only [h] at p2
          exact False.elim p2
      | _ => exact False.elim p2
    | _ => exact False.elim p2
theorem pf_slFrom : PE X (.Subscript a (.Slice (some b) none none p2) pos) (tF T W (.slFrom ga gb)) := (pe_slice sl_list ha (po_some hb) po_none).imp fun σ H Q ⟨B, Γ, hs, p⟩ =>
  tG_mono (g_bindF hs p) fun x H1 ⟨d, B1, st, hs1, rx, p1⟩ => tG_mono (g_bindF hs1 p1) fun y H2 ⟨e, B2, st2, hs2, ry, p2⟩ => by
    cases d with
    | list ds =>
      cases e with
      | int j =>
        by_cases h : decide (0 ≤ j) = true
        · simp only [h, if_true] at p2
          cases rx with
          | lst h1 h2 => exact ⟨j, rp_int ry, _, _, rfl, .inl (rd_mono hs2.ex (rd_mono st2.b h1)), fun q hq => by
              rw [cut_from (of_decide_eq_true h)]
              exact p2.new hs2.ex hq ((h2.mono st2.b).drop _)⟩
        · simp only [h] at p2
          exact False.elim p2
      | _ => exact False.elim p2
    | _ => exact False.elim p2
theorem pf_slBoth (hc : PE X c (tG T W gc)) : PE X (.Subscript a (.Slice (some b) (some c) none p2) pos) (tF T W (.slBoth ga gb gc)) := (pe_slice sl_list ha (po_some hb) (po_some hc)).imp fun σ H Q ⟨B, Γ, hs, p⟩ =>
  tG_mono (g_bindF hs p) fun x H1 ⟨d, B1, st, hs1, rx, p1⟩ => tG_mono (g_bindF hs1 p1) fun y H2 ⟨e, B2, st2, hs2, ry, p2⟩ => by
    cases e with
    | int i =>
      refine ⟨i, rp_int ry, tG_mono (g_bindF hs2 p2) fun z H3 ⟨e3, B3, st3, hs3, rz, p3⟩ => ?_⟩
      cases d with
      | list ds =>
        cases e3 with
        | int j =>
          by_cases h : (decide (0 ≤ i) && decide (i ≤ j)) = true
          · simp only [h, if_true] at p3
            rw [Bool.and_eq_true] at h
            cases rx with
            | lst h1 h2 => exact ⟨j, rp_int rz, _, _, rfl, .inl (rd_mono hs3.ex (rd_mono st3.b (rd_mono st2.b h1))), fun q hq => by
                rw [cut_both (of_decide_eq_true h.1) (of_decide_eq_true h.2)]
                exact p3.new hs3.ex hq ((((h2.mono st2.b).mono st3.b).drop _).take _)⟩
          · simp only [h] at p3
            exact False.elim p3
        | _ => exact False.elim p3
      | _ => exact False.elim p3
    | _ => exact False.elim p2
end

/-! ### list + list, [v] * n, list(..), sorted(..) -/
theorem rd_obj {pins : List (Addr × Obj)} {s : Shared} {q : Addr} {xs : List V} (I : Inv X pins σ H s) (h : Rd H q (.lst xs)) : xs.length ≤ sizeLine ∧ ∃ (us : List Value) (k : Nat), Vals xs us ∧ s.heap.get? q = some { cls := .type "list", data := .seq us.toArray k } := by
  obtain ⟨z, us, k, rv, g⟩ := h.ok I.hok
  exact ⟨z, us, k, rv, g⟩
def rCatR : R2 := fun x y H Q => ∃ l b xs zs, x = .ref l ∧ y = .ref b ∧ Rd H l (.lst xs) ∧ Rd H b (.lst zs) ∧ xs.length + zs.length ≤ sizeLine ∧ ∀ p, H p = none → Q (.ref p) (upd H p (.lst (xs ++ zs)))
theorem op_catR : OpR X (binaryOp .Add) rCatR := by
  intro pins s σ H x y v u Q I rx ry h
  obtain ⟨l, b, xs, zs, ex, ey, h1, h2, hz, q⟩ := h
  subst ex ey
  cases rx; cases ry
  obtain ⟨_, us, k, r1, g1⟩ := rd_obj I h1
  obtain ⟨_, ws, m, r2, g2⟩ := rd_obj I h2
  have l1 := r1.length
  have l2 := r2.length
  have cap : us.toArray.size + ws.toArray.size ≤ sizeLine := by
    simp only [List.size_toArray]
    omega
  have both : us.toArray ++ ws.toArray = (us ++ ws).toArray := List.append_toArray us ws
  refine PySem.P.add_list g1 g2 ?_ cap
  rw [both]
  refine ⟨.ref _, _, ?_, rfl, q _ (I.hok.fresh (Nat.le_refl _))⟩
  exact I.lnew (t' := s.toks) (r1.append r2) (by
    rw [List.length_append]
    exact hz)
theorem pf_cat (ha : PE X a (tG T W ga)) (hb : PE X b (tG T W gb)) : PE X (.BinOp a .Add b pos) (tF T W (.cat ga gb)) := (pe_op op_catR ha hb).imp fun σ H Q ⟨B, Γ, hs, p⟩ =>
  tG_mono (g_bindF hs p) fun x H1 ⟨d, B1, st, hs1, rx, p1⟩ => tG_mono (g_bindF hs1 p1) fun y H2 ⟨e, B2, st2, hs2, ry, p2⟩ => by
    cases d with
    | list ds =>
      cases e with
      | list es =>
        obtain ⟨hz, p3⟩ := size_ifF p2
        cases rx with
        | lst h1 h2 =>
          cases ry with
          | lst h3 h4 => exact ⟨_, _, _, _, rfl, rfl, rd_mono hs2.ex (rd_mono st2.b h1), rd_mono hs2.ex h3, by rw [h2.len, h4.len]; exact hz, fun q hq => p3.new hs2.ex hq ((h2.mono st2.b).app h4)⟩
      | _ => exact False.elim p2
    | _ => exact False.elim p2
theorem rep_one {α : Type} (k : Nat) (x : α) : (List.replicate k [x]).flatten = List.replicate k x := by
  induction k with
  | zero => rfl
  | succ k ih => rw [List.replicate_succ, List.flatten_cons, ih]; rfl
theorem RpA.replicate {v : V} {d : D} (h : Rp B v d) : ∀ k : Nat, RpA B (List.replicate k v) (List.replicate k d)
  | 0 => .nil
  | k + 1 => .cons h (RpA.replicate h k)
theorem pf_rep {p1 : Pos} (ha : PE X a (tG T W ga)) (hb : PE X b (tG T W gb)) (he : starEach [a] X.env = (false, eval a X.env) :: starEach [] X.env := by rfl) : PE X (.BinOp (.List [a] p1) .Mult b pos) (tF T W (.rep ga gb)) := (pe_op op_rep (pe_lst (pa_cons ha pa_nil he)) hb).imp fun σ H Q ⟨B, Γ, hs, p⟩ =>
  tG_mono (g_bindF hs p) fun x H1 ⟨d, B1, st, hs1, rx, p1⟩ => ⟨by show 1 ≤ sizeLine; rw [sizeLine_eq]; omega, fun l hl => by
    have hsl : Se B1 Γ σ (upd H1 l (.lst [x])) := hs1.step (.new hs1.ex hl)
    refine tG_mono (g_bindF hsl (p1.step (.new hs1.ex hl))) fun y H2 ⟨e, B2, st2, hs2, ry, p2⟩ => ?_
    cases e with
    | int k =>
      unfold repOk at p2
      by_cases h : (decide (0 ≤ k) && sizeOk k.toNat) = true
      · simp only [h, if_true] at p2
        simp only [Bool.and_eq_true, decide_eq_true_eq] at h
        obtain ⟨k0, k2⟩ := h
        have k1 : k < 2 ^ 63 := by
          have := sizeOk_le k2
          rw [sizeLine_eq] at this
          omega
        refine ⟨l, k, [x], rfl, rp_int ry, st2.h _ _ upd_same, by omega, k1, by rw [List.length_singleton, Nat.one_mul]; exact sizeOk_le k2, fun q hq => ?_⟩
        rw [rep_one]
        exact p2.new hs2.ex hq (RpA.replicate (rx.mono st2.b) _)
      · simp only [h] at p2
        exact False.elim p2
    | _ => exact False.elim p2⟩
theorem pf_lof (bi : Bi X.mg) (ha : PE X a (tG T W ga)) (hg : Gl X "list" := by rfl) (he : starEach [a] X.env = (false, eval a X.env) :: starEach [] X.env := by rfl) : PE X (.Call (.Name "list" p) [a] [] pos) (tF T W (.lof ga)) :=
  (pe_callTy call_list_of hg bi.list (by decide +kernel) (pa_cons ha pa_nil he) (by decide) (by decide) he rfl).imp fun σ H Q ⟨B, Γ, hs, p⟩ =>
    tG_mono (g_bindF hs p) fun x H1 ⟨d, B1, st, hs1, rx, p1⟩ => by
      cases e : seqD d with
      | none => simp only [e] at p1; exact False.elim p1
      | some ds =>
        simp only [e] at p1
        obtain ⟨q, xs, rfl, h1, h2⟩ := seqD_rp e rx
        exact ⟨q, xs, rfl, sq_of hs1.ex h1, fun l hl => p1.new hs1.ex hl h2⟩
/-- what a value of pairs stands for, in the heap -/
def keyV (H : Hp) : V → Int × Int
  | .ref t => match H t with
    | some (.tup [.int i, .int j]) => (i, j)
    | _ => (0, 0)
  | _ => (0, 0)
theorem rp_pair {v : V} {q : Int × Int} (ex : Ex B H) (h : Rp B v (eP q)) : (∃ t, v = .ref t ∧ H t = some (.tup [.int q.1, .int q.2])) ∧ keyV H v = q := by
  cases h with
  | tup h1 h2 =>
    cases h2 with
    | cons a r =>
      cases r with
      | cons c r =>
        cases r
        cases a
        cases c
        refine ⟨⟨_, rfl, ex _ _ h1⟩, ?_⟩
        unfold keyV
        simp only [ex _ _ h1]
theorem keys_of {xs : List V} : ∀ {ps : List (Int × Int)}, Ex B H → RpA B xs (ps.map eP) → xs.map (keyV H) = ps := by
  intro ps
  induction ps generalizing xs with
  | nil => intro ex h; cases h; rfl
  | cons q r ih =>
    intro ex h
    cases h with
    | cons a c => rw [List.map_cons, (rp_pair ex a).2, ih ex c]
theorem rpA_mem {xs : List V} {ds : List D} (h : RpA B xs ds) {x : V} (m : x ∈ xs) : ∃ d, d ∈ ds ∧ Rp B x d := by
  obtain ⟨i, hi⟩ := List.mem_iff_getElem?.mp m
  obtain ⟨d, h1, h2⟩ := h.getV hi
  exact ⟨d, List.mem_of_getElem? h1, h2⟩
theorem rpA_of_keys {xs : List V} (h : ∀ x ∈ xs, Rp B x (eP (keyV H x))) : RpA B xs ((xs.map (keyV H)).map eP) := by
  induction xs with
  | nil => exact .nil
  | cons x r ih => exact .cons (h x List.mem_cons_self) (ih fun y hy => h y (List.mem_cons_of_mem _ hy))
theorem pf_srt (bi : Bi X.mg) (ha : PE X a (tG T W ga)) (hg : Gl X "sorted" := by rfl) (he : starEach [a] X.env = (false, eval a X.env) :: starEach [] X.env := by rfl) : PE X (.Call (.Name "sorted" p) [a] [] pos) (tF T W (.srt ga)) :=
  (pe_callB cr_sortedPO hg bi.sorted (by decide +kernel) (pa_cons ha pa_nil he) (by decide) (by decide) he rfl).imp fun σ H Q ⟨B, Γ, hs, p⟩ =>
    tG_mono (g_bindF hs p) fun x H1 ⟨d, B1, st, hs1, rx, p1⟩ => by
      cases d with
      | list ds =>
        cases e : decP ds with
        | none => simp only [e] at p1; exact False.elim p1
        | some ps =>
          simp only [e] at p1
          have hd := decP_sound e
          subst hd
          cases rx with
          | @lst q xs _ h1 h2 =>
            have hx : ∀ x ∈ xs, Rp B1 x (eP (keyV H1 x)) ∧ ∃ t, x = V.ref t ∧ H1 t = some (.tup [.int (keyV H1 x).1, .int (keyV H1 x).2]) := fun x hm => by
              obtain ⟨d, hd, r⟩ := rpA_mem h2 hm
              obtain ⟨z, _, rfl⟩ := List.mem_map.mp hd
              obtain ⟨k1, k2⟩ := rp_pair hs1.ex r
              rw [k2]
              exact ⟨r, k1⟩
            refine ⟨q, xs, keyV H1, rfl, .inl (rd_mono hs1.ex h1), fun x hm => (hx x hm).2, fun ys l hsrt hstb hl => ?_⟩
            have e1 : ys.map (keyV H1) = pSort ps := by
              refine pSort_uniq ?_ ?_
              · rw [List.pairwise_map]
                refine hsrt.imp fun {u v} h => ?_
                have h' := SrtO.lexB_no.mp h
                rw [pR, pLe_iff]
                omega
              · rw [← keys_of hs1.ex h2]
                exact hstb.perm.map _
            rw [← e1] at p1
            exact p1.new hs1.ex hl (rpA_of_keys fun y hy => (hx y (hstb.perm.mem_iff.mp hy)).1)
      | _ => exact False.elim p1
theorem px_cnt (ha : PE X a (tG T W ga)) (hb : PE X b (tG T W gb)) {ap : Pos} (hm : PE X (.Call (.Attribute a "count" ap) [b] [] pos) (tBM X.K "list" (rCntI X.K) (tG T W ga) (tCons (tG T W gb) tNil))) : PE X (.Call (.Attribute a "count" ap) [b] [] pos) (tG T W (.cnt ga gb)) := hm.imp fun σ H Q ⟨B, Γ, hs, p⟩ =>
  tG_mono (g_bind hs p) fun x H1 ⟨d, B1, st, hs1, rx, p1⟩ => by
    cases d with
    | list ds =>
      cases rx with
      | lst h1 h2 =>
        refine ⟨.inl ⟨rfl, _, .inl (rd_mono hs1.ex h1)⟩, tG_mono (g_bind hs1 p1) fun y H2 ⟨e, B2, st2, hs2, ry, p2⟩ => ?_⟩
        obtain ⟨ns, k, e1, rfl, q⟩ := cnt_inv p2
        cases e1
        have e2 := h2.ints
        subst e2
        exact ⟨_, ns, k, rfl, by rw [rp_int ry], .inl (rd_mono hs2.ex (rd_mono st2.b h1)), q.here (d := .int _) hs2.ex (.int _)⟩
    | _ => exact False.elim p1
end
end TD

/-! TD8: what is walked, comprehensions. -/
namespace TD
open PySem PySem.Spec PyProof.Rows L2

def setV (σ : L2.St) : List Nat → List V → L2.St
  | t :: ts, v :: vs => setV (σ.set t (some v)) ts vs
  | _, _ => σ
theorem Se.setTs {B H : Hp} : ∀ {ts : List Nat} {Γ : TD.Env} {σ : L2.St} {vs : List V} {ds : List D}, Se B Γ σ H → RpA B vs ds → Se B (setTs Γ ts ds) (setV σ ts vs) H
  | [], _, _, _, _, h, r => by cases r <;> exact h
  | t :: ts, Γ, σ, _, _, h, .nil => h
  | t :: ts, Γ, σ, v :: vs, d :: ds, h, .cons a r => Se.setTs (ts := ts) (h.put t (some (.fz d)) (some v) fun s e => by cases e; exact ⟨v, rfl, a⟩) r
theorem wipe_set {σ : L2.St} {t : Nat} {x : Option V} : ∀ {ts : List Nat}, t ∈ ts → L2.wipe (σ.set t x) ts = L2.wipe σ ts
  | u :: ts, h => by
    show (L2.wipe (σ.set t x) ts).set u none = (L2.wipe σ ts).set u none
    by_cases q : t ∈ ts
    · rw [wipe_set q]
    · have e : t = u := (List.mem_cons.mp h).resolve_right q
      subst e
      have push : ∀ us : List Nat, t ∉ us → L2.wipe (σ.set t x) us = (L2.wipe σ us).set t x := by
        intro us
        induction us with
        | nil => intro _; rfl
        | cons v us ih =>
          intro hv
          show (L2.wipe (σ.set t x) us).set v none = ((L2.wipe σ us).set v none).set t x
          rw [ih fun z => hv (List.mem_cons_of_mem _ z), List.set_comm _ _ fun z => hv (by subst z; exact List.mem_cons_self)]
      rw [push ts q, List.set_set]
theorem wipe_setV : ∀ {us : List Nat} {σ : L2.St} {vs : List V} {ts : List Nat}, (∀ u ∈ us, u ∈ ts) → L2.wipe (setV σ us vs) ts = L2.wipe σ ts
  | [], _, _, _, _ => rfl
  | _ :: _, _, [], _, _ => rfl
  | u :: us, σ, v :: vs, ts, h => by
    show L2.wipe (setV (σ.set u (some v)) us vs) ts = _
    rw [wipe_setV fun w hw => h w (List.mem_cons_of_mem _ hw), wipe_set (h u List.mem_cons_self)]
theorem wipe_wipe {σ : L2.St} {ts : List Nat} : ∀ {us : List Nat}, (∀ u ∈ us, u ∈ ts) → L2.wipe (L2.wipe σ us) ts = L2.wipe σ ts
  | [], _ => rfl
  | u :: us, h => by
    show L2.wipe ((L2.wipe σ us).set u none) ts = _
    rw [wipe_set (h u List.mem_cons_self), wipe_wipe fun w hw => h w (List.mem_cons_of_mem _ hw)]

/-- a walk that gives these items to these places -/
structure Itm (J : It) (items : List (List D)) (g : TG) (ts : List Nat) (B1 : Hp) : Prop where
  go : ∀ (i : Nat) (B H : Hp), Ex B1 B → Ex B H → i < items.length → J.go i H
  stop : ∀ (i : Nat) (B H : Hp), Ex B1 B → Ex B H → items.length ≤ i → J.stop i H
  yld : ∀ (i : Nat) (it : List D) (B H : Hp) (x : V) (H' : Hp), Ex B1 B → Ex B H → items[i]? = some it → J.yld i H x H' → ∃ B', Sp' B H B' H' ∧ ∀ (σ : L2.St) (Qt : L2.St → Hp → Prop), (∀ vs, RpA B' vs it → Qt (setV σ ts vs) H') → g x σ H' Qt
section
variable (T : Tb) (W : WX) (σ : L2.St) (B H : Hp)
def PostI (g : TG) (ts : List Nat) : Rs (List (List D)) → (It → Hp → Prop) → Prop
  | .ok items, R => ∀ J B1 H1, Sp' B H B1 H1 → Itm J items g ts B1 → R J H1
  | .err x, _ => PErr T W σ B H x
  | .bad, _ => False
end
def tI (T : Tb) (W : WX) (gi : GI) (g : TG) (ts : List Nat) : TI := fun σ H R => ∃ B Γ, Se B Γ σ H ∧ PostI T W σ B H g ts (evI T Γ gi) R
section
variable {X : Cx} {T : Tb} {W : WX} {a b c e tg : Expr} {es : List Expr} {ga gb gc : GE} {ges : GEs} {pos p : Pos} {σ : L2.St} {B H B1 H1 : Hp} {Γ : TD.Env} {Q : VK} {g : TG} {ts : List Nat}
theorem PostI.step {r : Rs (List (List D))} {R : It → Hp → Prop} (h : PostI T W σ B H g ts r R) (s : Sp' B H B1 H1) : PostI T W σ B1 H1 g ts r R := by
  cases r with
  | ok d => exact fun J B2 H2 t m => h J B2 H2 (s.trans t) m
  | err x => exact PErr.step h s
  | bad => exact h
theorem g_bindT {g' : GE} {f : D → Rs (List (List D))} {R : It → Hp → Prop} (hs : Se B Γ σ H) (p : PostI T W σ B H g ts ((ev T Γ g').bind f) R) :
    tG T W g' σ H fun v H1 => ∃ d B1, Sp' B H B1 H1 ∧ Se B1 Γ σ H1 ∧ Rp B1 v d ∧ PostI T W σ B1 H1 g ts (f d) R := by
  refine ⟨B, Γ, hs, ?_⟩
  cases e : ev T Γ g' with
  | ok d => rw [e] at p; exact fun v B1 H1 s r => ⟨d, B1, s, hs.step s, r, p.step s⟩
  | err x => rw [e] at p; exact p
  | bad => rw [e] at p; exact p
/-! ### the walks -/
theorem itm_list {K : PySem.W.Frag} {q : Addr} {xs : List V} {ds : List D} {t : Nat} (h : Rd B q (.lst xs)) (r : RpA B xs ds) : Itm (Itl K q) (ds.map fun d => [d]) (gName t) [t] B where
  go := fun i B2 H2 e1 e2 hi => by
    rw [List.length_map, ← r.len] at hi
    exact ⟨xs, xs[i], .inl (rd_mono e2 (rd_mono e1 h)), by simp [hi]⟩
  stop := fun i B2 H2 e1 e2 hi => ⟨xs, .inl (rd_mono e2 (rd_mono e1 h)), by rw [List.length_map, ← r.len] at hi; exact hi⟩
  yld := fun i it B2 H2 x H' e1 e2 hi y => by
    obtain ⟨rfl, y⟩ := y
    rw [List.getElem?_map] at hi
    cases z : ds[i]? with
    | none => rw [z] at hi; cases hi
    | some d =>
      rw [z] at hi
      cases hi
      obtain ⟨v, hv, rv⟩ := r.get z
      have hx : xs[i]? = some x := y xs (.inl (rd_mono e2 (rd_mono e1 h)))
      rw [hv] at hx
      cases hx
      exact ⟨B2, .refl e2, fun σ Qt k => k [_] (.one (rv.mono e1))⟩
theorem pix_list {t : Nat} (ha : PE X a (tG T W ga)) : PI X tg a (tI T W (.il ga) (gName t) [t]) := by
  refine ⟨fun pins s σ H R I h => (pi_list (X := X) (tg := tg) ha).run pins s σ H R I ?_⟩
  obtain ⟨B, Γ, hs, p⟩ := h
  refine tG_mono (g_bindT hs p) fun x H1 ⟨d, B1, st, hs1, rx, p1⟩ => ?_
  cases d with
  | list ds =>
    cases rx with
    | lst h1 h2 => exact ⟨_, rfl, ⟨_, .inl (rd_mono hs1.ex h1)⟩, p1 _ B1 H1 (.refl hs1.ex) (itm_list h1 h2)⟩
  | _ => exact False.elim p1
theorem itm_range {lo : Int} {n t : Nat} : Itm (Itr lo n) ((List.range n).map fun i => [PyData.int (lo + (i : Nat))]) (gName t) [t] B where
  go := fun i B2 H2 e1 e2 hi => by rw [List.length_map, List.length_range] at hi; exact hi
  stop := fun i B2 H2 e1 e2 hi => by rw [List.length_map, List.length_range] at hi; exact hi
  yld := fun i it B2 H2 x H' e1 e2 hi y => by
    obtain ⟨rfl, rfl⟩ := y
    rw [List.getElem?_map] at hi
    by_cases q : i < n
    · rw [List.getElem?_range q] at hi
      cases hi
      exact ⟨B2, .refl e2, fun σ Qt k => k [_] (.one (.int _))⟩
    · rw [List.getElem?_eq_none (by rw [List.length_range]; omega)] at hi
      cases hi
theorem rngOk_iff {i : Int} (h : rngOk i = true) : -(2 ^ 62) ≤ i ∧ i < 2 ^ 62 := by
  unfold rngOk at h
  have h := of_decide_eq_true h
  omega
theorem pix_range1 {t : Nat} (bi : Bi X.mg) (ha : PE X a (tG T W ga)) (hg : Gl X "range" := by rfl) (he : starEach [a] X.env = (false, eval a X.env) :: starEach [] X.env := by rfl) : PI X tg (.Call (.Name "range" p) [a] [] pos) (tI T W (.i1 ga) (gName t) [t]) := by
  refine ⟨fun pins s σ H R I h => (pi_range1 (X := X) (tg := tg) hg bi.range (pa_cons ha pa_nil he) he).run pins s σ H R I ?_⟩
  obtain ⟨B, Γ, hs, p⟩ := h
  refine tG_mono (g_bindT hs p) fun x H1 ⟨d, B1, st, hs1, rx, p1⟩ => ?_
  cases d with
  | int n =>
    by_cases q : rngOk n = true
    · simp only [q, if_true] at p1
      obtain ⟨q1, q2⟩ := rngOk_iff q
      refine ⟨n, by rw [rp_int rx], q1, q2, p1 _ B1 H1 (.refl hs1.ex) ?_⟩
      have e1 : (n - 0).toNat = n.toNat := by rw [Int.sub_zero]
      unfold rngL
      rw [e1]
      exact itm_range
    · simp only [q] at p1
      exact False.elim p1
  | _ => exact False.elim p1
theorem pix_range2 {t : Nat} (bi : Bi X.mg) (ha : PE X a (tG T W ga)) (hb : PE X b (tG T W gb)) (hg : Gl X "range" := by rfl) (he : starEach [a, b] X.env = [(false, eval a X.env), (false, eval b X.env)] := by rfl) (he1 : starEach [a, b] X.env = (false, eval a X.env) :: starEach [b] X.env := by rfl) (he2 : starEach [b] X.env = [(false, eval b X.env)] := by rfl)
    (he3 : starEach [b] X.env = (false, eval b X.env) :: starEach [] X.env := by rfl) : PI X tg (.Call (.Name "range" p) [a, b] [] pos) (tI T W (.i2 ga gb) (gName t) [t]) := by
  refine ⟨fun pins s σ H R I h => (pi_range2 (X := X) (tg := tg) hg bi.range (pa_cons ha (pa_cons hb pa_nil he3) he1) he he2).run pins s σ H R I ?_⟩
  obtain ⟨B, Γ, hs, p⟩ := h
  refine tG_mono (g_bindT hs p) fun x H1 ⟨d, B1, st, hs1, rx, p1⟩ => tG_mono (g_bindT hs1 p1) fun y H2 ⟨e, B2, st2, hs2, ry, p2⟩ => ?_
  cases d with
  | int lo =>
    cases e with
    | int hi =>
      by_cases q : (rngOk lo && rngOk hi) = true
      · simp only [q, if_true] at p2
        rw [Bool.and_eq_true] at q
        obtain ⟨q1, q2⟩ := rngOk_iff q.1
        obtain ⟨q3, q4⟩ := rngOk_iff q.2
        exact ⟨lo, hi, by rw [rp_int rx, rp_int ry], ⟨q1, q2, q3, q4⟩, p2 _ B2 H2 (.refl hs2.ex) itm_range⟩
      · simp only [q] at p2
        exact False.elim p2
    | _ => exact False.elim p2
  | _ => cases e <;> exact False.elim p2
theorem itm_down {hi : Int} {n t : Nat} : Itm (Itc hi (-1) n) ((List.range n).map fun i => [PyData.int (hi - (i : Nat))]) (gName t) [t] B where
  go := fun i B2 H2 e1 e2 hi => by rw [List.length_map, List.length_range] at hi; exact hi
  stop := fun i B2 H2 e1 e2 hi => by rw [List.length_map, List.length_range] at hi; exact hi
  yld := fun i it B2 H2 x H' e1 e2 hi y => by
    obtain ⟨rfl, rfl⟩ := y
    rw [List.getElem?_map] at hi
    by_cases q : i < n
    · rw [List.getElem?_range q] at hi
      cases hi
      refine ⟨B2, .refl e2, fun σ Qt k => ?_⟩
      have e3 : ∀ j : Int, j + ((i : Nat) : Int) * -1 = j - ((i : Nat) : Int) := fun j => by omega
      rw [e3]
      exact k [_] (.one (.int _))
    · rw [List.getElem?_eq_none (by rw [List.length_range]; omega)] at hi
      cases hi
/-- range(a, 0, -1) -/
theorem pix_down {t : Nat} {k1 k2 : Nat} {p1 p2 p3 : Pos} (bi : Bi X.mg) (ha : PE X a (tG T W ga)) (hg : Gl X "range" := by rfl)
    (he : starEach [a, .Constant (.int 0) k1 p1, .UnaryOp .USub (.Constant (.int 1) k2 p2) p3] X.env = (false, eval a X.env) :: starEach [.Constant (.int 0) k1 p1, .UnaryOp .USub (.Constant (.int 1) k2 p2) p3] X.env := by rfl) :
    PI X tg (.Call (.Name "range" p) [a, .Constant (.int 0) k1 p1, .UnaryOp .USub (.Constant (.int 1) k2 p2) p3] [] pos) (tI T W (.idn ga) (gName t) [t]) := by
  refine ⟨fun pins s σ H R I h => (pi_range3 (X := X) (tg := tg) hg bi.range (pa_cons ha (pa_cons pe_int (pa_cons (pe_un un_neg pe_int) pa_nil)) he) he).run pins s σ H R I ?_⟩
  obtain ⟨B, Γ, hs, p⟩ := h
  refine tG_mono (g_bindT hs p) fun x H1 ⟨d, B1, st, hs1, rx, p1⟩ => ?_
  cases d with
  | int n =>
    by_cases q : rngOk n = true
    · simp only [q, if_true] at p1
      obtain ⟨q1, q2⟩ := rngOk_iff q
      refine ⟨1, rfl, n, 0, -1, n.toNat, by rw [rp_int rx], ?_, p1 _ B1 H1 (.refl hs1.ex) itm_down⟩
      have := RgC.neg (i := n) (j := 0) q1 q2 (by decide) (by decide)
      rw [Int.sub_zero] at this
      exact this
    · simp only [q] at p1
      exact False.elim p1
  | _ => exact False.elim p1
theorem zip_get {xs ys : List V} {ds es : List D} {i : Nat} {it : List D} (r : RpA B xs ds) (r2 : RpA B ys es) (h : (zipL ds es)[i]? = some it) : ∃ d e, it = [d, e] ∧ (∃ v, xs[i]? = some v ∧ Rp B v d) ∧ ∃ w, ys[i]? = some w ∧ Rp B w e := by
  unfold zipL at h
  rw [List.getElem?_map] at h
  cases z : (ds.zip es)[i]? with
  | none => rw [z] at h; cases h
  | some q =>
    rw [z] at h
    cases h
    obtain ⟨h1, h2⟩ := List.getElem?_zip_eq_some.mp z
    exact ⟨q.1, q.2, rfl, r.get h1, r2.get h2⟩
abbrev gTwo (K : PySem.W.Frag) (t1 t2 : Nat) : TG := gTup K 2 (gCons (gName t1) (gCons (gName t2) gNil))
theorem gTwo_go {K : PySem.W.Frag} {t1 t2 : Nat} {q : Addr} {x y : V} {d e : D} (hq : H q = some (.tup [x, y])) (rx : Rp B x d) (ry : Rp B y e) (σ : L2.St) (Qt : L2.St → Hp → Prop) (k : ∀ vs, RpA B vs [d, e] → Qt (setV σ [t1, t2] vs) H) : gTwo K t1 t2 (.ref q) σ H Qt :=
  ⟨q, [x, y], rfl, .inl (.inl hq), rfl, x, [y], rfl, y, [], rfl, rfl, k [x, y] (.cons rx (.one ry))⟩
theorem itm_zip {K : PySem.W.Frag} {q q2 : Addr} {xs ys : List V} {ds es : List D} {t1 t2 : Nat} (h : Rd B q (.lst xs)) (r : RpA B xs ds) (h2 : Rd B q2 (.lst ys)) (r2 : RpA B ys es) : Itm (Itz K q q2) (zipL ds es) (gTwo K t1 t2) [t1, t2] B where
  go := fun i B2 H2 e1 e2 hi => by
    unfold zipL at hi
    rw [List.length_map, List.length_zip, ← r.len, ← r2.len] at hi
    exact ⟨xs, ys, xs[i], ys[i], .inl (rd_mono e2 (rd_mono e1 h)), .inl (rd_mono e2 (rd_mono e1 h2)), by simp, by simp⟩
  stop := fun i B2 H2 e1 e2 hi => by
    unfold zipL at hi
    rw [List.length_map, List.length_zip, ← r.len, ← r2.len] at hi
    exact ⟨xs, ys, .inl (rd_mono e2 (rd_mono e1 h)), .inl (rd_mono e2 (rd_mono e1 h2)), by omega⟩
  yld := fun i it B2 H2 x H' e1 e2 hi y => by
    obtain ⟨t, x1, x2, rfl, nt, rfl, f1, f2⟩ := y
    obtain ⟨d, e, rfl, ⟨v, hv, rv⟩, w, hw, rw'⟩ := zip_get r r2 hi
    have a1 : xs[i]? = some x1 := f1 xs (.inl (rd_mono e2 (rd_mono e1 h)))
    have a2 : ys[i]? = some x2 := f2 ys (.inl (rd_mono e2 (rd_mono e1 h2)))
    rw [hv] at a1
    rw [hw] at a2
    cases a1
    cases a2
    exact ⟨B2, .new e2 nt, fun σ Qt k => gTwo_go upd_same (rv.mono e1) (rw'.mono e1) σ Qt k⟩
theorem pix_zip {t1 t2 : Nat} {els : List Expr} {k : Nat} {tp : Pos} (bi : Bi X.mg) (ha : PE X a (tG T W ga)) (hb : PE X b (tG T W gb)) (hg : Gl X "zip" := by rfl) (he : starEach [a, b] X.env = (false, eval a X.env) :: starEach [b] X.env := by rfl) (hpl : (backTo pos (starEach [b] X.env)).any (·.1) = false := by rfl)
    (he3 : starEach [b] X.env = (false, eval b X.env) :: starEach [] X.env := by rfl) : PI X (.Tuple els k tp) (.Call (.Name "zip" p) [a, b] [] pos) (tI T W (.iz ga gb) (gTwo X.K t1 t2) [t1, t2]) := by
  refine ⟨fun pins s σ H R I h => (pi_zip (X := X) hg bi.zip (pa_cons ha (pa_cons hb pa_nil he3) he) he hpl).run pins s σ H R I ?_⟩
  obtain ⟨B, Γ, hs, p⟩ := h
  refine tG_mono (g_bindT hs p) fun x H1 ⟨d, B1, st, hs1, rx, p1⟩ => tG_mono (g_bindT hs1 p1) fun y H2 ⟨e, B2, st2, hs2, ry, p2⟩ => ?_
  cases d with
  | list ds =>
    cases e with
    | list es =>
      cases rx with
      | lst h1 h2 =>
        cases ry with
        | lst h3 h4 =>
          have h1' := rd_mono st2.b h1
          exact ⟨_, _, _, _, rfl, .inl (rd_mono hs2.ex h1'), .inl (rd_mono hs2.ex h3), p2 _ B2 H2 (.refl hs2.ex) (itm_zip h1' (h2.mono st2.b) h3 h4)⟩
    | _ => exact False.elim p2
  | _ => exact False.elim p2
theorem enum_get : ∀ {ds : List D} {k i : Nat}, (enumL k ds)[i]? = (ds[i]?).map fun d => [PyData.int ((k + i : Nat) : Int), d]
  | [], _, _ => by simp [enumL]
  | d :: r, k, 0 => by simp [enumL]
  | d :: r, k, i + 1 => by
    show (enumL (k + 1) r)[i]? = (r[i]?).map _
    rw [enum_get]
    have : k + 1 + i = k + (i + 1) := by omega
    rw [this]
theorem enum_len : ∀ (ds : List D) (k : Nat), (enumL k ds).length = ds.length
  | [], _ => rfl
  | d :: r, k => by
    show (enumL (k + 1) r).length + 1 = r.length + 1
    rw [enum_len]
theorem itm_enum {K : PySem.W.Frag} {q : Addr} {xs : List V} {ds : List D} {t1 t2 : Nat} (h : Rd B q (.lst xs)) (r : RpA B xs ds) : Itm (Ite K q) (enumL 0 ds) (gTwo K t1 t2) [t1, t2] B where
  go := fun i B2 H2 e1 e2 hi => by
    rw [enum_len, ← r.len] at hi
    exact ⟨xs, xs[i], .inl (rd_mono e2 (rd_mono e1 h)), by simp [hi]⟩
  stop := fun i B2 H2 e1 e2 hi => ⟨xs, .inl (rd_mono e2 (rd_mono e1 h)), by rw [enum_len, ← r.len] at hi; exact hi⟩
  yld := fun i it B2 H2 x H' e1 e2 hi y => by
    obtain ⟨t, x1, rfl, nt, rfl, f1⟩ := y
    rw [enum_get] at hi
    cases z : ds[i]? with
    | none => rw [z] at hi; cases hi
    | some d =>
      rw [z] at hi
      cases hi
      obtain ⟨v, hv, rv⟩ := r.get z
      have a1 : xs[i]? = some x1 := f1 xs (.inl (rd_mono e2 (rd_mono e1 h)))
      rw [hv] at a1
      cases a1
      rw [Nat.zero_add]
      exact ⟨B2, .new e2 nt, fun σ Qt k => gTwo_go upd_same (.int _) (rv.mono e1) σ Qt k⟩
theorem pix_enum {t1 t2 : Nat} {els : List Expr} {k : Nat} {tp : Pos} (bi : Bi X.mg) (ha : PE X a (tG T W ga)) (hg : Gl X "enumerate" := by rfl) (he : starEach [a] X.env = (false, eval a X.env) :: starEach [] X.env := by rfl) : PI X (.Tuple els k tp) (.Call (.Name "enumerate" p) [a] [] pos) (tI T W (.ie ga) (gTwo X.K t1 t2) [t1, t2]) := by
  refine ⟨fun pins s σ H R I h => (pi_enum (X := X) hg bi.enumerate (pa_cons ha pa_nil he) he).run pins s σ H R I ?_⟩
  obtain ⟨B, Γ, hs, p⟩ := h
  refine tG_mono (g_bindT hs p) fun x H1 ⟨d, B1, st, hs1, rx, p1⟩ => ?_
  cases d with
  | list ds =>
    cases rx with
    | lst h1 h2 => exact ⟨_, _, rfl, .inl (rd_mono hs1.ex h1), p1 _ B1 H1 (.refl hs1.ex) (itm_enum h1 h2)⟩
  | _ => exact False.elim p1

/-! ### comprehensions -/
abbrev W0 : WX := fun _ _ _ _ => False
theorem lc_go {gi : GI} {f : List D → Rs (Option D)} {tt : TT} {te : TE} {Γ0 : TD.Env} (hs : Se B Γ σ H)
    (hstep : ∀ (b : Hp) (σ2 : L2.St) (H2 : Hp) (it : List D) (o : Option D) (N1 : V → Hp → Prop) (N2 : Hp → Prop), Se b (setTs (wipeE Γ ts) ts it) σ2 H2 → f it = .ok o →
      (∀ d, o = some d → ∀ v b2 H3, Sp' b H2 b2 H3 → Rp b2 v d → N1 v H3) → (o = none → ∀ b2 H3, Sp' b H2 b2 H3 → N2 H3) → tt σ2 H2 fun k H3 => if k = true then te σ2 H3 N1 else N2 H3)
    (p : PostF T W σ B H ((evI T Γ gi).bind fun items => if sizeOk items.length then lcM f items else .bad) Q) : tLc (tI T W gi g ts) g tt te ts σ H Q := by
  refine ⟨B, Γ, hs, ?_⟩
  cases e : evI T Γ gi with
  | err x => rw [e] at p; exact p
  | bad => rw [e] at p; exact p
  | ok items =>
    rw [e] at p
    refine fun J B1 H1 st m D hD => ?_
    obtain ⟨hz, p⟩ := size_ifF p
    cases el : lcM f items with
    | err x =>
      exfalso
      have : ∀ l : List (List PyData), lcM f l ≠ .err x := by
        intro l
        induction l with
        | nil => intro z; cases z
        | cons a r ih =>
          intro z
          unfold lcM at z
          cases q : f a with
          | ok o =>
            rw [q] at z
            cases o with
            | none => exact ih z
            | some d =>
              cases q2 : lcM f r with
              | ok l => simp only [q2] at z; cases z
              | err y => simp only [q2] at z; cases z; exact ih q2
              | bad => simp only [q2] at z; cases z
          | err y => rw [q] at z; cases z
          | bad => rw [q] at z; cases z
      exact this items el
    | bad => rw [el] at p; exact p.elim
    | ok ds =>
      rw [el] at p
      have hsw := hs.step st
      have start : ∃ (b : Hp) (acc : List V) (pre rest : List PyData), Sp' B1 H1 b (upd H1 D (.lst [])) ∧ b D = none ∧ upd H1 D (.lst []) D = some (.lst acc) ∧ RpA b acc pre ∧ lcM f (items.drop 0) = .ok rest ∧ ds = pre ++ rest ∧ pre.length ≤ 0 :=
        ⟨B1, [], [], ds, .new st.bh hD, ex_back st.bh hD, upd_same, .nil, el, rfl, Nat.le_refl _⟩
      refine ⟨fun i m' H' => m' = items.length - i ∧ i ≤ items.length ∧ ∃ (b : Hp) (acc : List V) (pre rest : List PyData), Sp' B1 H1 b H' ∧ b D = none ∧ H' D = some (.lst acc) ∧ RpA b acc pre ∧ lcM f (items.drop i) = .ok rest ∧ ds = pre ++ rest ∧ pre.length ≤ i, ⟨_, rfl, Nat.zero_le _, start⟩, ?_⟩
      rintro i m' H' ⟨rfl, hi, b, acc, pre, rest, s1, bD, hH, hacc, hrest, hds, hpl⟩
      by_cases hlt : i < items.length
      · have hit : items[i]? = some items[i] := List.getElem?_eq_getElem hlt
        rw [List.drop_eq_getElem_cons hlt] at hrest
        refine .inr ⟨m.go i b H' s1.b s1.bh hlt, fun H2 => ∃ (b : Hp) (acc : List V) (pre rest : List PyData), Sp' B1 H1 b H2 ∧ b D = none ∧ H2 D = some (.lst acc) ∧ RpA b acc pre ∧ lcM f (items.drop (i + 1)) = .ok rest ∧ ds = pre ++ rest ∧ pre.length ≤ i + 1,
          fun H2 w => ⟨_, by omega, rfl, hlt, w⟩, fun x H2 y => ?_⟩
        obtain ⟨b', s2, gk⟩ := m.yld i _ b H' x H2 s1.b s1.bh hit y
        refine gk _ _ fun vs rv => ⟨?_, ?_⟩
        · rw [wipe_setV fun u hu => hu, wipe_wipe fun u hu => hu]
        · have se : Se b' (setTs (wipeE Γ ts) ts items[i]) (setV (L2.wipe σ ts) ts vs) H2 := (((hsw.step s1).step s2).wipe ts).setTs rv
          have b'D : b' D = none := s2.own D _ hH (lst_noTup _) bD
          have hH2 := s2.h _ _ hH
          have s12 := s1.trans s2
          have upd_ok : ∀ {b2 H3 : Hp} {acc' : List V}, Sp' b' H2 b2 H3 → b2 D = none ∧ Sp' B1 H1 b2 (upd H3 D (.lst acc')) := fun {b2 H3 acc'} s3 => by
            have b2D : b2 D = none := s3.own D _ hH2 (lst_noTup _) b'D
            have s := s12.trans s3
            refine ⟨b2D, s.b, fun a o ha => ?_, fun a o ha => ?_, s.own⟩
            · rw [upd_ne (ne_of_none ha hD)]
              exact s.h a o ha
            · rw [upd_ne (ne_of_none ha b2D)]
              exact s.bh a o ha
          unfold lcM at hrest
          cases q : f items[i] with
          | err y => rw [q] at hrest; cases hrest
          | bad => rw [q] at hrest; cases hrest
          | ok o =>
            rw [q] at hrest
            refine hstep b' _ H2 _ o _ _ se q (fun d hd v b2 H3 s3 rp => ?_) fun hn b2 H3 s3 => ?_
            · subst hd
              cases q2 : lcM f (items.drop (i + 1)) with
              | err y => simp only [q2] at hrest; cases hrest
              | bad => simp only [q2] at hrest; cases hrest
              | ok l =>
                simp only [q2] at hrest
                cases hrest
                obtain ⟨b2D, sk⟩ := upd_ok (acc' := acc ++ [v]) s3
                refine ⟨acc, s3.h _ _ hH2, ?_, b2, acc ++ [v], pre ++ [d], l, sk, b2D, upd_same, ((hacc.mono s2.b).mono s3.b).app (.one rp), rfl, by rw [hds]; simp, by simp; omega⟩
                rw [hacc.len]
                omega
            · subst hn
              have b2D : b2 D = none := s3.own D _ hH2 (lst_noTup _) b'D
              exact ⟨b2, acc, pre, rest, s12.trans s3, b2D, s3.h _ _ hH2, (hacc.mono s2.b).mono s3.b, hrest, hds, by omega⟩
      · have ei : i = items.length := by omega
        subst ei
        rw [List.drop_length] at hrest
        cases hrest
        rw [List.append_nil] at hds
        subst hds
        exact .inl ⟨m.stop _ b H' s1.b s1.bh (Nat.le_refl _), p D acc b H' (st.trans s1) (ex_back st.h hD) bD hH hacc⟩
section
variable {gi : GI} {iter elt : Expr} {scope : Scope} {own : List (Str × Nat)}
theorem lc_imp {ge : GE} : ∀ σ H Q, tF T W (.lc ts gi ge) σ H Q → tLc (tI T W gi g ts) g tYes (tG T W0 ge) ts σ H Q := fun σ H Q ⟨B, Γ, hs, p⟩ => lc_go (Γ0 := Γ) hs (fun b σ2 H2 it o N1 N2 se hf h1 h2 => by
  refine iteT (B := N2 H2) ⟨b, _, se, ?_⟩
  cases q : ev T (setTs (wipeE Γ ts) ts it) ge with
  | ok d => rw [q] at hf; cases hf; exact fun v b2 H3 s r => h1 d rfl v b2 H3 s r
  | err x => rw [q] at hf; cases hf
  | bad => rw [q] at hf; cases hf) p
theorem lcf_imp {gc ge : GE} : ∀ σ H Q, tF T W (.lcf ts gi gc ge) σ H Q → tLc (tI T W gi g ts) g (tT T W0 gc) (tG T W0 ge) ts σ H Q := fun σ H Q ⟨B, Γ, hs, p⟩ => lc_go (Γ0 := Γ) hs (fun b σ2 H2 it o N1 N2 se hf h1 h2 => by
  refine ⟨b, _, se, ?_⟩
  cases q : ev T (setTs (wipeE Γ ts) ts it) gc with
  | err x => rw [q] at hf; cases hf
  | bad => rw [q] at hf; cases hf
  | ok d =>
    rw [q] at hf
    cases d with
    | bool k =>
      cases k with
      | false => cases hf; exact fun b2 H3 s => iteF (h2 rfl b2 H3 s)
      | true =>
        refine fun b2 H3 s => iteT ⟨b2, _, se.step s, ?_⟩
        have hf' : (ev T (setTs (wipeE Γ ts) ts it) ge).map some = .ok o := hf
        cases q2 : ev T (setTs (wipeE Γ ts) ts it) ge with
        | ok d => rw [q2] at hf'; cases hf'; exact fun v b3 H4 s' r => h1 d rfl v b3 H4 (s.trans s') r
        | err x => rw [q2] at hf'; cases hf'
        | bad => rw [q2] at hf'; cases hf'
    | _ => cases hf) p
theorem pf_lc {ge : GE} (hc : X.calm = true) (hN : X.N.Nodup) (hi : PI X tg iter (tI T W gi g ts)) (ok : BlkOk X.N X.env.scope scope own) (ho : own.map (·.2) = ts)
    (hg : ∀ (s : Shared) (H : Hp) (C : Addr) (cl : List (Str × Addr)) (fp : List Addr), PG (X.blk s H scope (compEnvC scope cl C X.env) fp) tg g)
    (he : ∀ (s : Shared) (H : Hp) (C : Addr) (cl : List (Str × Addr)) (fp : List Addr), PE (X.blk s H scope (compEnvC scope cl C X.env) fp) elt (tG T W0 ge)) (hs : ∀ x, foldedSetIterable iter X.env x = pure x := by intro _; rfl) :
    PE X (.ListComp elt [⟨tg, iter, [], 0⟩] scope pos) (tF T W (.lc ts gi ge)) := by
  subst ho
  exact (pe_lc hc hN hi ok hg (fun _ _ _ _ _ => pts_nil) he hs).imp lc_imp
theorem pf_lcf {c : Expr} {gc ge : GE} (hc : X.calm = true) (hN : X.N.Nodup) (hi : PI X tg iter (tI T W gi g ts)) (ok : BlkOk X.N X.env.scope scope own) (ho : own.map (·.2) = ts)
    (hg : ∀ (s : Shared) (H : Hp) (C : Addr) (cl : List (Str × Addr)) (fp : List Addr), PG (X.blk s H scope (compEnvC scope cl C X.env) fp) tg g)
    (ht : ∀ (s : Shared) (H : Hp) (C : Addr) (cl : List (Str × Addr)) (fp : List Addr), PT (X.blk s H scope (compEnvC scope cl C X.env) fp) c (tT T W0 gc))
    (he : ∀ (s : Shared) (H : Hp) (C : Addr) (cl : List (Str × Addr)) (fp : List Addr), PE (X.blk s H scope (compEnvC scope cl C X.env) fp) elt (tG T W0 ge)) (hs : ∀ x, foldedSetIterable iter X.env x = pure x := by intro _; rfl) :
    PE X (.ListComp elt [⟨tg, iter, [c], 0⟩] scope pos) (tF T W (.lcf ts gi gc ge)) := by
  subst ho
  exact (pe_lc hc hN hi ok hg (fun s H C cl fp => pts_one (ht s H C cl fp)) he hs).imp lcf_imp
end
end
end TD

/-! TD9: what is one's own, made by an expression; statements as data. -/
namespace TD
open PySem PySem.Spec PyProof.Rows L2

mutual
inductive GR where
  | im (e : GE) | f (g : GF) | call (j : Nat) (es : GEs) | lst (rs : GRs) | tup (rs : GRs) | lcL (ts : List Nat) (gi : GI) (g : GF) | lcR (ts : List Nat) (gi : GI) (r : GR)
inductive GRs where
  | nil | cons (r : GR) (rs : GRs)
end
/-- lists by each of a list, each of them plain -/
def lcLs (f : List D → Rs (List D)) : List (List D) → Rs (List (List D))
  | [] => .ok []
  | a :: r => match f a with
    | .ok l => if immA l then (lcLs f r).map fun ls => l :: ls else .bad
    | _ => .bad
def lcRs (f : List D → Rs R) : List (List D) → Rs (List R)
  | [] => .ok []
  | a :: r => match f a with
    | .ok x => (match lcRs f r with
      | .ok l => .ok (x :: l)
      | _ => .bad)
    | _ => .bad
def callR (T : Tb) (j : Nat) (ds : List D) : Rs R :=
  match T.fs[j]? with
  | some φ => (match φ ds with
    | some (.ret r) => .ok r
    | some (.old _) => .bad
    | some (.exc x) => .err x
    | some (.mu _ _ _) => .bad
    | some (.mx _) => .bad
    | none => .bad)
  | none => .bad
mutual
def evR (T : Tb) (Γ : Env) : GR → Rs R
  | .im e => (ev T (view Γ) e).bind fun d => if imm d then .ok (.im d) else .bad
  | .f g => (evF T (view Γ) g).bind fun ds => if immA ds then .ok (.ol ds) else .bad
  | .call j es => (evs T (view Γ) es).bind (callR T j)
  | .lst rs => (evRs T Γ rs).bind fun l => if sizeOk l.length then .ok (.on l) else .bad
  | .lcL ts gi g => (evI T (view Γ) gi).bind fun items => if sizeOk items.length then (lcLs (fun it => evF T (setTs (wipeE (view Γ) ts) ts it) g) items).map fun ls => .on (ls.map .ol) else .bad
  | .tup rs => (evRs T Γ rs).bind fun l => if sizeOk l.length then .ok (.ot l) else .bad
  | .lcR ts gi r => (evI T (view Γ) gi).bind fun items => if sizeOk items.length then (lcRs (fun it => evR T (setTs (wipeE (view Γ) ts) ts it) r) items).map .on else .bad
def evRs (T : Tb) (Γ : Env) : GRs → Rs (List R)
  | .nil => .ok []
  | .cons r rs => (evR T Γ r).bind fun x => (evRs T Γ rs).map fun l => x :: l
end
section
variable (T : Tb) (W : WX) (σ : L2.St) (B H : Hp)
def PostR : Rs R → VK → Prop
  | .ok r, Q => ∀ v f B1 H1, Sp' B H B1 H1 → Or B1 H1 v r f → f.Nodup → (∀ p ∈ f, H p = none) → r.imm = true → Q v H1
  | .err x, _ => PErr T W σ B H x
  | .bad, _ => False
def PostRs : Rs (List R) → (List V → Hp → Prop) → Prop
  | .ok rs, Q => ∀ vs f B1 H1, Sp' B H B1 H1 → OrA B1 H1 vs rs f → f.Nodup → (∀ p ∈ f, H p = none) → R.imms rs = true → Q vs H1
  | .err x, _ => PErr T W σ B H x
  | .bad, _ => False
end
def tR (T : Tb) (W : WX) (g : GR) : TE := fun σ H Q => ∃ H0 B Γ, Sk H0 B Γ σ H ∧ PostR T W σ B H (evR T Γ g) Q
def tRs (T : Tb) (W : WX) (g : GRs) : TA := fun σ H Q => ∃ H0 B Γ, Sk H0 B Γ σ H ∧ PostRs T W σ B H (evRs T Γ g) Q
section
variable {X : Cx} {T : Tb} {W : WX} {a b c e : Expr} {es : List Expr} {ga gb gc : GE} {ges : GEs} {gr : GR} {grs : GRs} {pos p : Pos} {σ : L2.St} {H0 B H B1 H1 : Hp} {Γ : TD.Env} {Q : VK}
theorem PostR.step {r : Rs R} {Q : VK} (h : PostR T W σ B H r Q) (s : Sp' B H B1 H1) : PostR T W σ B1 H1 r Q := by
  cases r with
  | ok d => exact fun v f B2 H2 t o n k i => h v f B2 H2 (s.trans t) o n (fun p hp => ex_back s.h (k p hp)) i
  | err x => exact PErr.step h s
  | bad => exact h
theorem PostRs.step {r : Rs (List R)} {Q : List V → Hp → Prop} (h : PostRs T W σ B H r Q) (s : Sp' B H B1 H1) : PostRs T W σ B1 H1 r Q := by
  cases r with
  | ok d => exact fun v f B2 H2 t o n k i => h v f B2 H2 (s.trans t) o n (fun p hp => ex_back s.h (k p hp)) i
  | err x => exact PErr.step h s
  | bad => exact h
/-- an error seen from the heap as its own base -/
theorem PErr.view {x : Nat} (ex : Ex B H) (h : PErr T W σ B H x) : PErr T W σ H H x := fun B1 H1 s => h B H1 (.grow ex s.h)
theorem px_r (h : PE X e (tG T W ga)) : PE X e (tR T W (.im ga)) := h.imp fun σ H Q ⟨H0, B, Γ, hs, p⟩ => by
  have p' : PostR T W σ B H ((ev T (view Γ) ga).bind fun d => if imm d then .ok (.im d) else .bad) Q := p
  refine ⟨H, _, hs.view, ?_⟩
  cases q : ev T (view Γ) ga with
  | err x => rw [q] at p'; exact PErr.view hs.ex p'
  | bad => rw [q] at p'; exact p'
  | ok d =>
    rw [q] at p'
    have p2 : PostR T W σ B H (if imm d then .ok (.im d) else .bad) Q := p'
    by_cases z : imm d = true
    · rw [if_pos z] at p2
      exact fun v B1 H1 s r => p2 v [] _ H1 (.tups hs.ex s.h) (.im (Rp.imm (ex_trans hs.ex s.h) s.bh d r z)) .nil (fun _ hp => by cases hp) z
    · rw [if_neg z] at p2
      exact p2.elim
theorem px_rf {g : GF} (h : PE X e (tF T W g)) : PE X e (tR T W (.f g)) := h.imp fun σ H Q ⟨H0, B, Γ, hs, p⟩ => by
  have p' : PostR T W σ B H ((evF T (view Γ) g).bind fun ds => if immA ds then .ok (.ol ds) else .bad) Q := p
  refine ⟨H, _, hs.view, ?_⟩
  cases q : evF T (view Γ) g with
  | err x => rw [q] at p'; exact PErr.view hs.ex p'
  | bad => rw [q] at p'; exact p'
  | ok d =>
    rw [q] at p'
    have p2 : PostR T W σ B H (if immA d then .ok (.ol d) else .bad) Q := p'
    by_cases z : immA d = true
    · rw [if_pos z] at p2
      refine fun a xs B1 H1 s h1 h2 h3 h4 => p2 (.ref a) [a] _ H1 (.tups hs.ex s.h) (.ol (tups_none (ex_back hs.ex h1) fun ys z => by rw [h3] at z; cases z) h3 (RpA.imm (ex_trans hs.ex s.h) s.bh d h4 z)) (List.nodup_cons.mpr ⟨(fun z => by cases z), List.nodup_nil⟩) (fun q hq => ?_) z
      cases List.mem_singleton.mp hq
      exact h1
    · rw [if_neg z] at p2
      exact p2.elim
theorem callR_inv {j : Nat} {ds : List D} (p : PostR T W σ B H (callR T j ds) Q) : ∃ φ, T.fs[j]? = some φ ∧ match φ ds with
    | some (.ret r) => PostR T W σ B H (.ok r) Q
    | some (.old d) => False
    | some (.exc x) => PErr T W σ B H x
    | some (.mu _ _ _) => False
    | some (.mx _) => False
    | none => False := by
  unfold callR at p
  cases e : T.fs[j]? with
  | none => rw [e] at p; exact p.elim
  | some φ =>
    rw [e] at p
    refine ⟨φ, rfl, ?_⟩
    cases q : φ ds with
    | none => simp only [q] at p; exact p.elim
    | some o => cases o <;> (simp only [q] at p; exact p)
theorem px_rcall {x : Str} {p : Pos} {j : Nat} (c : Callee X T j x) (tk : Takes X W) (ha : PA X (e :: es) (tA T W ges)) (hg : Gl X x := by rfl)
    (hdb : (x == ("__debug__" : Str)) = false := by decide) (he : starEach (e :: es) X.env = (false, eval e X.env) :: starEach es X.env := by rfl) (hpl : (backTo pos (starEach es X.env)).any (·.1) = false := by rfl) :
    PE X (.Call (.Name x p) (e :: es) [] pos) (tR T W (.call j ges)) := by
  obtain ⟨φ, f, fd, ps, k, hφ, F, hr, hm, hk, hb⟩ := c.ex
  refine (pe_callS F hr hg hm hk hb (fun σ => passAt tk σ) ha hdb he hpl).imp fun σ H Q ⟨H0, B, Γ, hs, p⟩ => ?_
  have p' : PostR T W σ B H ((evs T (view Γ) ges).bind (callR T j)) Q := p
  refine ⟨H, _, hs.view, ?_⟩
  cases q : evs T (view Γ) ges with
  | err x => rw [q] at p'; exact PErr.view hs.ex p'
  | bad => rw [q] at p'; exact p'
  | ok ds =>
    rw [q] at p'
    obtain ⟨φ', hφ', q⟩ := callR_inv p'
    rw [hφ] at hφ'
    cases hφ'
    refine fun vs B1 H1 s rx => ⟨B1, ds, s.bh, rx, ?_⟩
    have exH := ex_trans hs.ex s.h
    cases z : φ ds with
    | none => rw [z] at q; exact q
    | some o =>
      rw [z] at q
      cases o with
      | old d => exact q.elim
      | mu p c x => exact q.elim
      | mx r => exact q.elim
      | exc x => exact fun B2 H2 s2 => q B H2 (.grow hs.ex (ex_trans s.h s2.h))
      | ret r =>
        refine fun v f B2 H2 s2 fr nd o im => q v f _ H2 (.tups hs.ex (ex_trans s.h s2.h)) (o.rebase (ex_trans exH s2.h) s2.bh im fun a ha => ?_) nd (fun a ha => ex_back s.h (fr a ha)) im
        exact ex_back exH (fr a ha)
theorem prs_nil : PA X [] (tRs T W .nil) := pa_nil.imp fun σ H Q ⟨H0, B, Γ, hs, p⟩ => p [] [] B H (.refl hs.ex) .nil .nil (fun _ hp => by cases hp) rfl
theorem prs_cons (ha : PE X a (tR T W gr)) (hr : PA X es (tRs T W grs)) (hs : starEach (a :: es) X.env = (false, eval a X.env) :: starEach es X.env := by rfl) : PA X (a :: es) (tRs T W (.cons gr grs)) := (pa_cons ha hr hs).imp fun σ H Q ⟨H0, B, Γ, hs, p⟩ => by
  have p' : PostRs T W σ B H ((evR T Γ gr).bind fun x => (evRs T Γ grs).map fun l => x :: l) Q := p
  refine ⟨H0, B, Γ, hs, ?_⟩
  cases q : evR T Γ gr with
  | err x => rw [q] at p'; exact p'
  | bad => rw [q] at p'; exact p'
  | ok r =>
    rw [q] at p'
    refine fun v f B1 H1 s o n k im => ⟨H0, B1, Γ, hs.step s, ?_⟩
    have p2 : PostRs T W σ B1 H1 ((evRs T Γ grs).map fun l => r :: l) Q := PostRs.step p' s
    have p0 : PostRs T W σ B H ((evRs T Γ grs).map fun l => r :: l) Q := p'
    cases q2 : evRs T Γ grs with
    | err x => rw [q2] at p2; exact p2
    | bad => rw [q2] at p2; exact p2
    | ok rs =>
      rw [q2] at p0
      refine fun vs g B2 H2 s2 o2 n2 k2 im2 => ?_
      have keepf : ∀ a ∈ f, H2 a = H1 a ∧ B2 a = none := fun a ha => by
        obtain ⟨h1, u, h2, h3⟩ := o.at a ha
        exact ⟨by rw [h2]; exact s2.h a u h2, s2.own a u h2 h3 h1⟩
      refine p0 (v :: vs) (f ++ g) B2 H2 (s.trans s2) (.cons (o.frame s2.b keepf) o2) (List.nodup_append.mpr ⟨n, n2, fun a ha b hb => ?_⟩) (fun a ha => ?_) ?_
      · rintro rfl
        obtain ⟨_, u, h2, _⟩ := o.at a ha
        rw [k2 a hb] at h2
        cases h2
      · rcases List.mem_append.mp ha with h | h
        · exact k a h
        · exact ex_back s.h (k2 a h)
      · rw [R.imms, im, im2]
        rfl
theorem OrA.len {vs : List V} {rs : List R} {f : List Addr} (h : OrA B H vs rs f) : vs.length = rs.length := by
  have : ∀ {rs : List R} {vs : List V} {f : List Addr}, OrA B H vs rs f → vs.length = rs.length := by
    intro rs
    induction rs with
    | nil => intro vs f h; cases h; rfl
    | cons r rs ih =>
      intro vs f h
      cases h with
      | cons a b => rw [List.length_cons, List.length_cons, ih b]
  exact this h
theorem px_rlst (h : PA X es (tRs T W grs)) : PE X (.List es pos) (tR T W (.lst grs)) := (pe_lst h).imp fun σ H Q ⟨H0, B, Γ, hs, p⟩ => by
  have p' : PostR T W σ B H ((evRs T Γ grs).bind fun l => if sizeOk l.length then .ok (.on l) else .bad) Q := p
  refine ⟨H0, B, Γ, hs, ?_⟩
  cases q : evRs T Γ grs with
  | err x => rw [q] at p'; exact p'
  | bad => rw [q] at p'; exact p'
  | ok rs =>
    rw [q] at p'
    have p2 : PostR T W σ B H (if sizeOk rs.length then .ok (.on rs) else .bad) Q := p'
    by_cases z : sizeOk rs.length = true
    · rw [if_pos z] at p2
      refine fun vs f B1 H1 s o n k im => ⟨by rw [o.len]; exact sizeOk_le z, fun a ha => p2 (.ref a) (a :: f) B1 (upd H1 a (.lst vs)) (s.trans (.new s.bh ha)) (.on (ex_back s.bh ha) upd_same (o.frame (ex_refl _) fun c hc => ?_)) (List.nodup_cons.mpr ⟨fun hm => ?_, n⟩) (fun c hc => ?_) im⟩
      · obtain ⟨h1, u, h2, _⟩ := o.at c hc
        exact ⟨upd_ne fun z => (by rw [z, ha] at h2; cases h2), h1⟩
      · obtain ⟨_, u, h2, _⟩ := o.at a hm
        rw [ha] at h2
        cases h2
      · rcases List.mem_cons.mp hc with rfl | hc
        · exact ex_back s.h ha
        · exact k c hc
    · rw [if_neg z] at p2
      exact p2.elim
theorem px_rtup {k : Nat} (h : PA X es (tRs T W grs)) : PE X (.Tuple es k pos) (tR T W (.tup grs)) := (pe_tup h).imp fun σ H Q ⟨H0, B, Γ, hs, p⟩ => by
  have p' : PostR T W σ B H ((evRs T Γ grs).bind fun l => if sizeOk l.length then .ok (.ot l) else .bad) Q := p
  refine ⟨H0, B, Γ, hs, ?_⟩
  cases q : evRs T Γ grs with
  | err x => rw [q] at p'; exact p'
  | bad => rw [q] at p'; exact p'
  | ok rs =>
    rw [q] at p'
    have p2 : PostR T W σ B H (if sizeOk rs.length then .ok (.ot rs) else .bad) Q := p'
    by_cases z : sizeOk rs.length = true
    · rw [if_pos z] at p2
      refine fun vs f B1 H1 s o n k im => ⟨by rw [o.len]; exact sizeOk_le z, fun a ha => ?_⟩
      have s2 : Sp' B1 H1 (upd B1 a (.tup vs)) (upd H1 a (.tup vs)) := .both s.bh ha
      refine p2 (.ref a) f _ (upd H1 a (.tup vs)) (s.trans s2) (.ot upd_same (o.frame s2.b fun c hc => ?_)) n k im
      obtain ⟨h1, u, h2, h3⟩ := o.at c hc
      have ne : c ≠ a := fun z => by rw [z, ha] at h2; cases h2
      exact ⟨upd_ne ne, by rw [upd_ne ne]; exact h1⟩
    · rw [if_neg z] at p2
      exact p2.elim
end
end TD

/-! TD10: statements as data, what they are to reach, their rules. -/
namespace TD
open PySem PySem.Spec PyProof.Rows L2

/-- a place within what is one's own -/
inductive GP where | var (i : Nat) | sub (p : GP) (k : GE)
mutual
inductive GS where
  | frz (i : Nat) (s : GS) | mutA (p : GP) (e : GE) | mutC (p : GP) | mutS (p : GP) (k e : GE) | tmpApp (r : GR) (e : GE) | forR (ws : List Nat) (t : Nat) (a : GE) (body : GSs)
  | asgV (i : Nat) (e : GE) | asgS (i : Nat) (e : GE) | asgF (i : Nat) (g : GF) | asgFS (i : Nat) (g : GF) | asgR (i : Nat) (r : GR) | asgD (i : Nat)
  | appV (i : Nat) (e : GE) | appS (i : Nat) (e : GE) | rev (i : Nat) | dset (i : Nat) (k e : GE) | dpop (i : Nat) (k : GE) | setI (i : Nat) (k e : GE) | popApp (i j : Nat) (k : GE)
  | expr (e : GE) | ifs (c : GE) (a b : GSs) | for_ (ws ts : List Nat) (gi : GI) (body : GSs) | forO (ws : List Nat) (t i : Nat) (body : GSs) | whl (ws : List Nat) (c : GE) (body : GSs)
  | ret (r : GR) | retMv (i : Nat) | retTwo (tup : Bool) (i j : Nat) | retOld (e : GE) | retC (j : Nat) (es : GEs) (i : Nat) | setP (i : Nat) (k e : GE) | dsetP (i : Nat) (k e : GE) | dpopP (i : Nat) (k : GE) | callM (t : Option Nat) (i j : Nat) (es : GEs) | ifM (neg : Bool) (i j : Nat) (es : GEs) (a b : GSs) | retM (j : Nat) (es : GEs) | retP (e : GE) | retK (j : Nat) (es : GEs) (i : Nat) (fs : GEs) (e : GE) | retA (w : Str) (e : GE) (i : Nat) | retB (g : GF) (i : Nat) | appR (i : Nat) (r : GR) | retX (w : Str) (j : Nat) | retY (w : Str) (i : Nat) | held (i : Nat) (ks : List Nat) (s : GS) | raise_ (x : Nat) | try_ (body : GSs) (hs : GHs) | tryAs (i y : Nat) (body suite : GSs)
inductive GSs where
  | nil | cons (s : GS) (r : GSs) | dy (t u : Nat) (j : Nat) (es : GEs) (a : Nat) (r : GSs) | brw (t i : Nat) (k : GE) (g : GF) (r : GSs)
inductive GHs where
  | nil | cons (y : Nat) (s : GSs) (r : GHs)
end
structure GD where
  nx : Env → Prop
  rt : Out → Prop
  ex : Nat → Env → Prop
def onR {α : Type} (r : Rs α) (e : Nat → Prop) (k : α → Prop) : Prop :=
  match r with
  | .ok a => k a
  | .err x => e x
  | .bad => False
def ownL (Γ : Env) (i : Nat) : Option (List D) := match Γ[i]? with
  | some (some (.own (.ol ds))) => some ds
  | _ => none
def ownR (Γ : Env) (i : Nat) : Option R := match Γ[i]? with
  | some (some (.own r)) => some r
  | _ => none
def ownD (Γ : Env) (i : Nat) : Option (List (Int × D)) := match Γ[i]? with
  | some (some (.dc true kvs)) => some kvs
  | _ => none
def ownM (Γ : Env) (i : Nat) : Option (Addr × Cn) := match Γ[i]? with
  | some (some (.mp p c)) => some (p, c)
  | _ => none
/-- what a slot holds that a def may change -/
def cnOf (Γ : Env) (i : Nat) : Option Cn := match Γ[i]? with
  | some (some (.own (.ol ds))) => some (.l ds)
  | some (some (.dc true kvs)) => some (.d kvs)
  | some (some (.mp _ c)) => some c
  | _ => none
def putC (Γ : Env) (i : Nat) (c : Cn) : Env := match Γ[i]? with
  | some (some (.mp p _)) => Γ.set i (some (.mp p c))
  | _ => match c with
    | .l ds => Γ.set i (some (.own (.ol ds)))
    | .d kvs => Γ.set i (some (.dc true kvs))
def Cn.enc : Cn → D
  | .l ds => .list ds
  | .d kvs => .tuple (kvs.map fun p => .tuple [.int p.1, p.2])
def Cn.alike : Cn → Cn → Prop
  | .l _, .l _ => True
  | .d _, .d _ => True
  | _, _ => False
def callM (T : Tb) (j : Nat) (ds : List D) : Option (Cn × D) := (T.fs[j]?.bind fun φ => φ ds).bind fun o => match o with
  | .mu _ c x => some (c, x)
  | _ => none
def setO (Γ : Env) (t : Option Nat) (x : D) : Env := match t with
  | some t => Γ.set t (some (.fz x))
  | none => Γ
/-- what is held: the slots ks over the base b -/
def hvE (b : Hp) (vs : Nat → V) (Γ : Env) (ks : List Nat) : Env := ks.foldl (fun (Γ : Env) (k : Nat) => match Γ[k]? with
  | some (some (.fz d)) => Γ.set k (some (.hv b (vs k) d))
  | _ => Γ) Γ
/-- what stays when what was held is one's own again -/
def Thaw (b : Hp) (Γ Γ2 : Env) : Prop := Γ2.length = Γ.length ∧ ∀ (j : Nat) (s : Sl), Γ2[j]? = some (some s) → (∃ d : D, s = .fz d ∧ imm d = true ∧ Γ[j]? = some (some (.fz d))) ∨ (∃ r : R, s = .own r ∧ r.imm = true ∧ Γ[j]? = some (some (.own r))) ∨ (∃ kvs : List (Int × Int), s = .dc true (kvs.map fun p => (p.1, .int p.2)) ∧ Γ[j]? = some (some (.dc true (kvs.map fun p => (p.1, .int p.2))))) ∨ (∃ (v : V) (d : D), s = .fz d ∧ Γ[j]? = some (some (.hv b v d)))
def R.at : R → List Nat → Option R
  | r, [] => some r
  | .on rs, k :: ks => rs[k]?.bind fun q => q.at ks
  | .ot rs, k :: ks => rs[k]?.bind fun q => q.at ks
  | _, _ :: _ => none
def R.put : R → List Nat → R → R
  | _, [], q => q
  | .on rs, k :: ks, q => .on (match rs[k]? with | some r => rs.set k (r.put ks q) | none => rs)
  | .ot rs, k :: ks, q => .ot (match rs[k]? with | some r => rs.set k (r.put ks q) | none => rs)
  | r, _ :: _, _ => r
/-- an empty list of one's own is a plain one -/
def R.nrm : R → R
  | .on [] => .ol []
  | r => r
/-! what is one's own, told by its data alone -/
mutual
def shp : D → R
  | .list ds => if immA ds then .ol ds else .on (shps ds)
  | .tuple ds => if immA ds then .im (.tuple ds) else .ot (shps ds)
  | .none => .im .none
  | .bool b => .im (.bool b)
  | .int i => .im (.int i)
  | .str x => .im (.str x)
  | .dict kvs => .im (.dict kvs)
def shps : List D → List R
  | [] => []
  | d :: r => shp d :: shps r
end
def evP (T : Tb) (Γ : Env) : GP → Rs (Nat × List Nat)
  | .var i => .ok (i, [])
  | .sub p k => (evP T Γ p).bind fun x => (ev T Γ k).bind fun d => match d with
    | .int j => if decide (0 ≤ j) then .ok (x.1, x.2 ++ [j.toNat]) else .bad
    | _ => .bad
/-- a list of one's own at a place -/
def ownP (T : Tb) (Γ : Env) (p : GP) (i : Nat) (l : List Nat) (r : R) (ds : List D) : Prop := evP T (view Γ) p = .ok (i, l) ∧ ownR Γ i = some r ∧ R.at r l = some (.ol ds)
def wpForL (wb : GD → Env → Prop) (d : GD) (ws ts : List Nat) : List (List D) → Env → Prop
  | [], Γ => d.nx Γ
  | it :: r, Γ => wb { d with nx := fun Γ' => wpForL wb d ws ts r (wipeE Γ' ws) } (setTs Γ ts it)
def wpForO (wb : GD → Env → Prop) (d : GD) (ws : List Nat) (t i : Nat) (p : Addr) (ds : List D) : List D → Env → Prop
  | [], Γ => d.nx (Γ.set i (some (.own (.ol ds))))
  | x :: r, Γ => wb { d with nx := fun Γ' => Γ'[i]? = some (some (.pin p ds)) ∧ (wipeE Γ' ws)[i]? = some (some (.pin p ds)) ∧ wpForO wb d ws t i p ds r (wipeE Γ' ws) } (Γ.set t (some (.fz x)))
def wpWhl (T : Tb) (wb : GD → Env → Prop) (d : GD) (ws : List Nat) (c : GE) : Nat → Env → Prop
  | 0, _ => False
  | n + 1, Γ => onR (ev T (view Γ) c) (fun x => d.ex x Γ) fun b => match b with
    | .bool true => wb { d with nx := fun Γ' => wpWhl T wb d ws c n (wipeE Γ' ws) } Γ
    | .bool false => d.nx Γ
    | _ => False
mutual
def wpS (T : Tb) : GS → GD → Env → Prop
  | .asgV i e, d, Γ => onR (ev T (view Γ) e) (fun x => d.ex x Γ) fun v => imm v = true ∧ d.nx (Γ.set i (some (.fz v)))
  | .asgS i e, d, Γ => onR (ev T (stab Γ) e) (fun x => d.ex x Γ) fun v => d.nx (Γ.set i (some (.fz v)))
  | .asgF i g, d, Γ => onR (evF T (view Γ) g) (fun x => d.ex x Γ) fun vs => immA vs = true ∧ d.nx (Γ.set i (some (.own (.ol vs))))
  | .asgFS i g, d, Γ => onR (evF T (stab Γ) g) (fun x => d.ex x Γ) fun vs => d.nx (Γ.set i (some (.own (.ol vs))))
  | .asgR i r, d, Γ => onR (evR T Γ r) (fun x => d.ex x Γ) fun r => d.nx (Γ.set i (some (.own r)))
  | .asgD i, d, Γ => d.nx (Γ.set i (some (.dc true [])))
  | .appV i e, d, Γ => ∃ ds, ownL Γ i = some ds ∧ onR (ev T (view Γ) e) (fun x => d.ex x Γ) fun v => imm v = true ∧ ds.length < 16777216 ∧ d.nx (Γ.set i (some (.own (.ol (ds ++ [v])))))
  | .appS i e, d, Γ => ∃ ds, ownL Γ i = some ds ∧ onR (ev T (stab Γ) e) (fun x => d.ex x Γ) fun v => ds.length < 16777216 ∧ d.nx (Γ.set i (some (.own (.ol (ds ++ [v])))))
  | .rev i, d, Γ => ∃ ds, ownL Γ i = some ds ∧ d.nx (Γ.set i (some (.own (.ol ds.reverse))))
  | .dset i k e, d, Γ => ∃ kvs, ownD Γ i = some kvs ∧ onR (ev T (view Γ) e) (fun x => d.ex x Γ) fun v => imm v = true ∧ onR (ev T (view Γ) k) (fun x => d.ex x Γ) fun n => ∃ j, n = .int j ∧ kvs.length < 16777216 ∧ d.nx (Γ.set i (some (.dc true (dput kvs j v))))
  | .dpop i k, d, Γ => ∃ kvs, ownD Γ i = some kvs ∧ onR (ev T (view Γ) k) (fun x => d.ex x Γ) fun n => ∃ j, n = .int j ∧ (dget kvs j).isSome = true ∧ d.nx (Γ.set i (some (.dc true (ddrop kvs j))))
  | .setI i k e, d, Γ => ∃ ds, ownL Γ i = some ds ∧ onR (ev T (view Γ) e) (fun x => d.ex x Γ) fun v => imm v = true ∧ onR (ev T (view Γ) k) (fun x => d.ex x Γ) fun n => ∃ j, n = .int j ∧ 0 ≤ j ∧ j < ds.length ∧ d.nx (Γ.set i (some (.own (.ol (ds.set j.toNat v)))))
  | .popApp i j k, d, Γ => ∃ ds es, i ≠ j ∧ ownL Γ i = some ds ∧ ownL Γ j = some es ∧ onR (ev T (view Γ) k) (fun x => d.ex x Γ) fun n => ∃ m v, n = .int m ∧ 0 ≤ m ∧ m < 2 ^ 63 ∧ es[m.toNat]? = some v ∧ ds.length < 16777216 ∧ d.nx ((Γ.set j (some (.own (.ol (es.eraseIdx m.toNat))))).set i (some (.own (.ol (ds ++ [v])))))
  | .frz i s, d, Γ => ∃ r, ownR Γ i = some r ∧ wpS T s d (Γ.set i (some (.fz r.toD)))
  | .mutA p e, d, Γ => ∃ i l r ds, ownP T Γ p i l r ds ∧ onR (ev T (view Γ) e) (fun x => d.ex x Γ) fun v => imm v = true ∧ ds.length < 16777216 ∧ d.nx (Γ.set i (some (.own (R.put r l (.ol (ds ++ [v]))))))
  | .mutC p, d, Γ => ∃ i l r ds, ownP T Γ p i l r ds ∧ d.nx (Γ.set i (some (.own (R.put r l (.ol [])))))
  | .mutS p k e, d, Γ => ∃ i l r ds, ownP T Γ p i l r ds ∧ onR (ev T (view Γ) e) (fun x => d.ex x Γ) fun v => imm v = true ∧ onR (ev T (view Γ) k) (fun x => d.ex x Γ) fun n => ∃ j, n = .int j ∧ 0 ≤ j ∧ j < ds.length ∧ d.nx (Γ.set i (some (.own (R.put r l (.ol (ds.set j.toNat v))))))
  | .tmpApp r e, d, Γ => onR (evR T Γ r) (fun x => d.ex x Γ) fun q => ∃ ds, q = .ol ds ∧ onR (ev T (view Γ) e) (fun x => d.ex x Γ) fun v => imm v = true ∧ ds.length < 16777216 ∧ d.nx Γ
  | .expr e, d, Γ => onR (ev T (view Γ) e) (fun x => d.ex x Γ) fun _ => d.nx Γ
  | .ifs c a b, d, Γ => onR (ev T (view Γ) c) (fun x => d.ex x Γ) fun v => match v with
    | .bool true => wpSs T a d Γ
    | .bool false => wpSs T b d Γ
    | _ => False
  | .for_ ws ts gi body, d, Γ => onR (evI T (stab Γ) gi) (fun x => d.ex x Γ) fun items => wpForL (fun d' Γ' => wpSs T body d' Γ') d ws ts items (wipeE Γ ws)
  | .forR ws t a body, d, Γ => ∃ n, ev T (view Γ) a = .ok (.int n) ∧ rngOk n = true ∧ wpForL (fun d' Γ' => wpSs T body d' Γ') d ws [t] (rngL 0 n) (wipeE Γ ws)
  | .forO ws t i body, d, Γ => ∃ ds, ownL Γ i = some ds ∧ ∀ p : Addr, (wipeE (Γ.set i (some (.pin p ds))) ws)[i]? = some (some (.pin p ds)) ∧ wpForO (fun d' Γ' => wpSs T body d' Γ') d ws t i p ds ds (wipeE (Γ.set i (some (.pin p ds))) ws)
  | .whl ws c body, d, Γ => ∃ n, wpWhl T (fun d' Γ' => wpSs T body d' Γ') d ws c n (wipeE Γ ws)
  | .ret r, d, Γ => onR (evR T Γ r) (fun x => d.ex x Γ) fun r => d.rt (.ret r)
  | .retMv i, d, Γ => ∃ r, ownR Γ i = some r ∧ r.imm = true ∧ d.rt (.ret r)
  | .retTwo tup i j, d, Γ => ∃ r q, i ≠ j ∧ ownR Γ i = some r ∧ ownR Γ j = some q ∧ r.imm = true ∧ q.imm = true ∧ d.rt (.ret (if tup then .ot [r, q] else .on [r, q]))
  | .retOld e, d, Γ => onR (ev T (stab Γ) e) (fun x => d.ex x Γ) fun v => d.rt (.old v)
  | .retC j es i, d, Γ => ∃ r, ownR Γ i = some r ∧ shp r.toD = r ∧ r.imm = true ∧ ∃ ds r', evs T (stab Γ) es = .ok ds ∧ callR T j (ds ++ [r.toD]) = .ok r' ∧ d.rt (.ret r')
  | .setP i k e, d, Γ => ∃ p ds, ownM Γ i = some (p, .l ds) ∧ onR (ev T (view Γ) e) (fun x => d.ex x Γ) fun v => imm v = true ∧ onR (ev T (view Γ) k) (fun x => d.ex x Γ) fun n => ∃ j, n = .int j ∧ 0 ≤ j ∧ j < ds.length ∧ d.nx (Γ.set i (some (.mp p (.l (ds.set j.toNat v)))))
  | .dsetP i k e, d, Γ => ∃ p kvs, ownM Γ i = some (p, .d kvs) ∧ onR (ev T (view Γ) e) (fun x => d.ex x Γ) fun v => imm v = true ∧ onR (ev T (view Γ) k) (fun x => d.ex x Γ) fun n => ∃ j, n = .int j ∧ kvs.length < 16777216 ∧ d.nx (Γ.set i (some (.mp p (.d (dput kvs j v)))))
  | .dpopP i k, d, Γ => ∃ p kvs, ownM Γ i = some (p, .d kvs) ∧ onR (ev T (view Γ) k) (fun x => d.ex x Γ) fun n => ∃ j, n = .int j ∧ (dget kvs j).isSome = true ∧ d.nx (Γ.set i (some (.mp p (.d (ddrop kvs j)))))
  | .callM t i j es, d, Γ => ∃ c ds c' x, cnOf Γ i = some c ∧ evs T (stab Γ) es = .ok ds ∧ callM T j (c.enc :: ds) = some (c', x) ∧ c.alike c' ∧ d.nx (setO (putC Γ i c') t x)
  | .ifM n i j es a b, d, Γ => ∃ c ds c' x, cnOf Γ i = some c ∧ evs T (stab Γ) es = .ok ds ∧ callM T j (c.enc :: ds) = some (c', .bool x) ∧ c.alike c' ∧ (((n ^^ x) = true → wpSs T a d (putC Γ i c')) ∧ ((n ^^ x) = false → wpSs T b d (putC Γ i c')))
  | .retM j es, d, Γ => ∃ p c ds c' x, ownM Γ 0 = some (p, c) ∧ evs T (stab Γ) es = .ok ds ∧ callM T j (c.enc :: ds) = some (c', x) ∧ c.alike c' ∧ d.rt (.mu p c' x)
  | .retP e, d, Γ => onR (ev T (view Γ) e) (fun x => d.ex x Γ) fun x => imm x = true ∧ ∃ p c, ownM Γ 0 = some (p, c) ∧ d.rt (.mu p c x)
  | .retK j es i fs e, d, Γ => ∃ r, ownR Γ i = some r ∧ shp r.toD = r ∧ r.imm = true ∧ ∃ ds1 ds2 b, evs T (stab Γ) es = .ok ds1 ∧ evs T (stab Γ) fs = .ok ds2 ∧ callR T j (ds1 ++ r.toD :: ds2) = .ok (.im (.bool b)) ∧ (b = false → d.rt (.ret (.im (.bool false)))) ∧ (b = true → ∃ c, ev T (stab (Γ.set i none)) e = .ok (.bool c) ∧ d.rt (.ret (.im (.bool c))))
  | .retA w e i, d, Γ => ∃ r, ownR Γ i = some r ∧ r.imm = true ∧ onR (ev T (view Γ) e) (fun x => d.ex x Γ) fun x => imm x = true ∧ d.rt (.ret (.ot [.im (.str w), .im x, r]))
  | .retB g i, d, Γ => ∃ r, ownR Γ i = some r ∧ r.imm = true ∧ onR (evF T (view Γ) g) (fun x => d.ex x Γ) fun ds => immA ds = true ∧ d.rt (.ret (.ot [.ol ds, r.nrm]))
  | .appR i g, d, Γ => ∃ rs, ownR Γ i = some (.on rs) ∧ rs.length < 16777216 ∧ onR (evR T Γ g) (fun x => d.ex x Γ) fun q => d.nx (Γ.set i (some (.own (.on (rs ++ [q])))))
  | .retX w j, d, Γ => ∃ x, (stab Γ)[j]? = some (some (.fz x)) ∧ d.rt (.mx (.ot [.im (.str w), .ot [.im x, .ol []]]))
  | .retY w i, d, Γ => ∃ r, ownR Γ i = some r ∧ d.rt (.mx (.ot [.im (.str w), r]))
  | .held i ks s, d, Γ => ∃ r, ownR Γ i = some r ∧ r.imm = true ∧ ∀ (b b' : Hp) (v : V) (vs : Nat → V), wpS T s { d with ex := fun _ _ => False, nx := fun Γ1 => Γ1[i]? = some (some (.hv b' v r.toD)) ∧ ∃ Γ2, Thaw b Γ1 Γ2 ∧ d.nx (Γ2.set i (some (.own r))) } ((hvE b vs Γ ks).set i (some (.hv b' v r.toD)))
  | .raise_ x, d, Γ => d.ex x Γ
  | .try_ body hs, d, Γ => wpSs T body { d with ex := fun x Γ' => wpH T hs d x Γ' } Γ
  | .tryAs i y body suite, d, Γ => wpSs T body { d with ex := fun x Γ' => x ∈ T.xs ∧ (subX x y = true → ∀ a : Addr, wpSs { T with xe := some (a, x) } suite { d with ex := fun _ _ => False, nx := fun Γ2 => d.nx (Γ2.set i none) } (Γ'.set i (some (.xc a x)))) ∧ (subX x y = false → d.ex x Γ') } Γ
def wpSs (T : Tb) : GSs → GD → Env → Prop
  | .nil, d, Γ => d.nx Γ
  | .cons s r, d, Γ => wpS T s { d with nx := fun Γ' => wpSs T r d Γ' } Γ
  | .dy t u j es a r, d, Γ => (t ≠ u ∧ t ≠ a ∧ u ≠ a ∧ t < Γ.length) ∧ ∃ rs ds w q ch, ownR Γ a = some (.on rs) ∧ evs T (stab Γ) es = .ok ds ∧ (T.fs[j]?.bind fun φ => φ ds) = some (.mx (.ot [.im (.str w), .ot [q, .ol ch]])) ∧ rs.length < 16777216 ∧ wpSs T r d (((Γ.set t none).set u (some (.fz q.toD))).set a (some (.own (.on (rs ++ [.ot [.im (.str w), .ol ch]])))))
  | .brw t i k g r, d, Γ => t ≠ i ∧ ∃ rs j ds new, ownR Γ i = some (.on rs) ∧ ev T (view Γ) k = .ok (.int j) ∧ 0 ≤ j ∧ rs[j.toNat]? = some (.ol ds) ∧ evF T ((view Γ).set t (some (.fz (.list ds)))) g = .ok new ∧ immA new = true ∧ rs.length < 16777216 ∧ wpSs T r d ((Γ.set t none).set i (some (.own (.on (rs ++ [.ol new])))))
def wpH (T : Tb) : GHs → GD → Nat → Env → Prop
  | .nil, d, x, Γ => d.ex x Γ
  | .cons y s r, d, x, Γ => x ∈ T.xs ∧ (subX x y = true → wpSs T s { d with ex := fun _ _ => False } Γ) ∧ (subX x y = false → wpH T r d x Γ)
end

/-- the state at a statement -/
structure So (b0 H0 B : Hp) (Γ : Env) (σ : L2.St) (H : Hp) : Prop where
  sk : Sk H0 B Γ σ H
  nv : NV Γ
  sp : Sp' b0 H0 B H
structure Real (T : Tb) (W : WX) (b0 H0 : Hp) (d : GD) (De : Ends) : Prop where
  nx : ∀ B Γ σ H, So b0 H0 B Γ σ H → d.nx Γ → De.nx σ H
  rr : ∀ r v f B H, Sp' b0 H0 B H → Or B H v r f → f.Nodup → (∀ p ∈ f, H0 p = none) → r.imm = true → d.rt (.ret r) → De.rt v H
  ro : ∀ x v B H, Sp' b0 H0 B H → Rp B v x → d.rt (.old x) → De.rt v H
  ex : ∀ x B Γ σ H, So b0 H0 B Γ σ H → d.ex x Γ → W (.ref (T.ca x)) none σ H
  rx : ∀ r v f B H, Sp' b0 H0 B H → Or B H v r f → f.Nodup → (∀ p ∈ f, H0 p = none) → d.rt (.mx r) → De.rt v H
  rm : ∀ p c x v B Γ σ H, So b0 H0 B Γ σ H → ownM Γ 0 = some (p, c) → Rp B v x → imm x = true → d.rt (.mu p c x) → De.rt v H
def tS (T : Tb) (W : WX) (g : GS) : TS := fun De σ H => ∃ b0 H0 B Γ d, So b0 H0 B Γ σ H ∧ wpS T g d Γ ∧ Real T W b0 H0 d De
def tSs (T : Tb) (W : WX) (g : GSs) : TS := fun De σ H => ∃ b0 H0 B Γ d, So b0 H0 B Γ σ H ∧ wpSs T g d Γ ∧ Real T W b0 H0 d De
theorem _root_.L2.PS.imp {X : Cx} {e : Stmt} {t t' : TS} (h : PS X e t) (k : ∀ D σ H, t' D σ H → t D σ H) : PS X e t' := ⟨fun pins s σ H D I q => h.run pins s σ H D I (k D σ H q)⟩
theorem _root_.L2.PSs.imp {X : Cx} {e : List Stmt} {t t' : TS} (h : PSs X e t) (k : ∀ D σ H, t' D σ H → t D σ H) : PSs X e t' := ⟨fun pins s σ H D I q => h.run pins s σ H D I (k D σ H q)⟩
section
variable {T : Tb} {W : WX} {b0 H0 B H B1 H1 : Hp} {Γ : Env} {σ : L2.St} {d : GD} {De : Ends}
theorem So.step (h : So b0 H0 B Γ σ H) (s : Sp' B H B1 H1) : So b0 H0 B1 Γ σ H1 := ⟨h.sk.step s, h.nv, h.sp.trans s⟩
theorem So.err (h : So b0 H0 B Γ σ H) (r : Real T W b0 H0 d De) {x : Nat} (e : d.ex x Γ) : PErr T W σ B H x := fun B1 H1 s => r.ex x B1 Γ σ H1 (h.step s) e
/-- an expression seen as it stands -/
theorem So.view {g : GE} {k : D → Prop} {Q : VK} (h : So b0 H0 B Γ σ H) (r : Real T W b0 H0 d De) (p : onR (ev T (TD.view Γ) g) (fun x => d.ex x Γ) k) (q : ∀ v x b1 H1, Sp' H H b1 H1 → Rp b1 v x → k x → Q v H1) : tG T W g σ H Q := by
  refine ⟨H, _, h.sk.view, ?_⟩
  cases e : ev T (TD.view Γ) g with
  | ok x => rw [e] at p; exact fun v b1 H1 s rp => q v x b1 H1 s rp p
  | err x => rw [e] at p; exact PErr.view h.sk.ex (h.err r p)
  | bad => rw [e] at p; exact p
theorem So.stab {g : GE} {k : D → Prop} {Q : VK} (h : So b0 H0 B Γ σ H) (r : Real T W b0 H0 d De) (p : onR (ev T (TD.stab Γ) g) (fun x => d.ex x Γ) k) (q : ∀ v x B1 H1, Sp' B H B1 H1 → Rp B1 v x → k x → Q v H1) : tG T W g σ H Q := by
  refine ⟨B, _, h.sk.stab, ?_⟩
  cases e : ev T (TD.stab Γ) g with
  | ok x => rw [e] at p; exact fun v b1 H1 s rp => q v x b1 H1 s rp p
  | err x => rw [e] at p; exact h.err r p
  | bad => rw [e] at p; exact p
theorem So.viewF {g : GF} {k : List D → Prop} {Q : VK} (h : So b0 H0 B Γ σ H) (r : Real T W b0 H0 d De) (p : onR (evF T (TD.view Γ) g) (fun x => d.ex x Γ) k) (q : ∀ a xs ds b1 H1, Sp' H H b1 H1 → H a = none → H1 a = some (.lst xs) → RpA b1 xs ds → k ds → Q (.ref a) H1) : tF T W g σ H Q := by
  refine ⟨H, _, h.sk.view, ?_⟩
  cases e : evF T (TD.view Γ) g with
  | ok x => rw [e] at p; exact fun a xs b1 H1 s h1 h2 h3 rp => q a xs x b1 H1 s h1 h3 rp p
  | err x => rw [e] at p; exact PErr.view h.sk.ex (h.err r p)
  | bad => rw [e] at p; exact p
theorem So.stabF {g : GF} {k : List D → Prop} {Q : VK} (h : So b0 H0 B Γ σ H) (r : Real T W b0 H0 d De) (p : onR (evF T (TD.stab Γ) g) (fun x => d.ex x Γ) k) (q : ∀ a xs ds B1 H1, Sp' B H B1 H1 → H a = none → B1 a = none → H1 a = some (.lst xs) → RpA B1 xs ds → k ds → Q (.ref a) H1) : tF T W g σ H Q := by
  refine ⟨B, _, h.sk.stab, ?_⟩
  cases e : evF T (TD.stab Γ) g with
  | ok x => rw [e] at p; exact fun a xs b1 H1 s h1 h2 h3 rp => q a xs x b1 H1 s h1 h2 h3 rp p
  | err x => rw [e] at p; exact h.err r p
  | bad => rw [e] at p; exact p
theorem So.viewT {g : GE} {k : D → Prop} {Q : Bool → Hp → Prop} (h : So b0 H0 B Γ σ H) (r : Real T W b0 H0 d De) (p : onR (ev T (TD.view Γ) g) (fun x => d.ex x Γ) k) (q : ∀ x H1, So b0 H0 B Γ σ H1 → k x → ∃ b, x = .bool b ∧ Q b H1) : tT T W g σ H Q := by
  refine ⟨H, _, h.sk.view, ?_⟩
  cases e : ev T (TD.view Γ) g with
  | ok x =>
    rw [e] at p
    obtain ⟨b, rfl, _⟩ := q x H h p
    refine fun b1 H1 s => ?_
    obtain ⟨b', e', q'⟩ := q _ H1 (h.step (.grow h.sk.ex s.h)) p
    cases e'
    exact q'
  | err x => rw [e] at p; exact PErr.view h.sk.ex (h.err r p)
  | bad => rw [e] at p; exact p
theorem So.put_fz (h : So b0 H0 B Γ σ H) (i : Nat) {v : V} {x : D} (r : Rp B v x) : So b0 H0 B (Γ.set i (some (.fz x))) (σ.set i (some v)) H := ⟨h.sk.put_fz i r, h.nv.set i (fun _ z => nomatch z), h.sp⟩
theorem So.put_own (h : So b0 H0 B Γ σ H) (s : Sp' B H B1 H1) (i : Nat) {v : V} {r : R} {f : List Addr} (o : Or B1 H1 v r f) (n : f.Nodup) (kn : ∀ p ∈ f, H p = none) : So b0 H0 B1 (Γ.set i (some (.own r))) (σ.set i (some v)) H1 :=
  ⟨h.sk.put_own s i o n kn, h.nv.set i (fun _ z => nomatch z), h.sp.trans s⟩
theorem So.put_ol (h : So b0 H0 B Γ σ H) (s : Sp' B H B1 H1) (i : Nat) {a : Addr} {xs : List V} {ds : List D} (h1 : H a = none) (h2 : B1 a = none) (h3 : H1 a = some (.lst xs)) (r : RpA B1 xs ds) : So b0 H0 B1 (Γ.set i (some (.own (.ol ds)))) (σ.set i (some (.ref a))) H1 :=
  h.put_own s i (.ol h2 h3 r) (List.nodup_cons.mpr ⟨(fun z => by cases z), List.nodup_nil⟩) fun q hq => by
    cases List.mem_singleton.mp hq
    exact h1
theorem So.wipe (h : So b0 H0 B Γ σ H) (ws : List Nat) : So b0 H0 B (wipeE Γ ws) σ H := ⟨h.sk.wipe ws, h.nv.wipe ws, h.sp⟩
theorem So.setTs : ∀ {ts : List Nat} {Γ : Env} {σ : L2.St} {vs : List V} {ds : List D}, So b0 H0 B Γ σ H → RpA B vs ds → So b0 H0 B (setTs Γ ts ds) (setV σ ts vs) H
  | [], _, _, _, _, h, r => by cases r <;> exact h
  | t :: ts, Γ, σ, _, _, h, .nil => h
  | t :: ts, Γ, σ, v :: vs, d :: ds, h, .cons a r => So.setTs (ts := ts) (h.put_fz t a) r
/-- a slot's own thing is changed -/
theorem So.change (h : So b0 H0 B Γ σ H) {i : Nat} {s : Sl} (e : Γ[i]? = some (some s)) : ∃ f, SlotOk B H s (σ[i]?) f ∧ (∀ p ∈ f, H0 p = none ∧ B p = none ∧ ∃ o, H p = some o ∧ NoTup o) ∧
    ∀ p o s' f', p ∈ f → NoTup o → (∀ kvs, s' ≠ .dc false kvs) → SlotOk B (upd H p o) s' (σ[i]?) f' → (∀ q ∈ f', q ∈ f) → So b0 H0 B (Γ.set i (some s')) σ (upd H p o) := by
  obtain ⟨f, h1, h2, h3⟩ := h.sk.change h.nv e
  refine ⟨f, h1, h2, fun p o s' f' hp no ns k sub => ⟨h3 p o s' f' hp no k sub, h.nv.set i fun kvs z => ns kvs (Option.some.inj z), ?_⟩⟩
  obtain ⟨p1, p2, u, p3, p4⟩ := h2 p hp
  have exu : ∀ {G K : Hp}, G p = none → Ex G K → Ex G (upd K p o) := fun {G K} hn he a w ha => by
    rw [upd_ne (ne_of_none ha hn)]
    exact he a w ha
  exact ⟨h.sp.b, exu p1 h.sp.h, exu p2 h.sp.bh, h.sp.own⟩
theorem ownL_at {i : Nat} {ds : List D} (h : ownL Γ i = some ds) : Γ[i]? = some (some (.own (.ol ds))) := by
  unfold ownL at h
  split at h
  · cases h
    assumption
  · cases h
theorem ownR_at {i : Nat} {r : R} (h : ownR Γ i = some r) : Γ[i]? = some (some (.own r)) := by
  unfold ownR at h
  split at h
  · cases h
    assumption
  · cases h
theorem ownD_at {i : Nat} {kvs : List (Int × D)} (h : ownD Γ i = some kvs) : Γ[i]? = some (some (.dc true kvs)) := by
  unfold ownD at h
  split at h
  · cases h
    assumption
  · cases h
/-- one's own list, ready to be changed -/
theorem So.list (h : So b0 H0 B Γ σ H) {i : Nat} {ds : List D} (e : ownL Γ i = some ds) : ∃ p xs, σ[i]? = some (some (.ref p)) ∧ H p = some (.lst xs) ∧ RpA B xs ds ∧ B p = none ∧ H0 p = none ∧
    ∀ ys es, RpA B ys es → So b0 H0 B (Γ.set i (some (.own (.ol es)))) σ (upd H p (.lst ys)) := by
  obtain ⟨f, ⟨v, h1, h2, h3⟩, h4, h5⟩ := h.change (ownL_at e)
  cases h2 with
  | ol h6 h7 h8 =>
    rename_i p xs
    refine ⟨p, xs, h1, h7, h8, h6, (h4 p List.mem_cons_self).1, fun ys es r => h5 p _ _ [p] List.mem_cons_self (lst_noTup _) (fun _ z => nomatch z) ⟨_, h1, .ol h6 upd_same r, List.nodup_cons.mpr ⟨(fun z => by cases z), List.nodup_nil⟩⟩ fun q hq => hq⟩
theorem So.dict (h : So b0 H0 B Γ σ H) {i : Nat} {kvs : List (Int × D)} (e : ownD Γ i = some kvs) : ∃ p ks, σ[i]? = some (some (.ref p)) ∧ H p = some (.dK ks) ∧ KvRp B ks kvs ∧
    ∀ ls es, KvRp B ls es → So b0 H0 B (Γ.set i (some (.dc true es))) σ (upd H p (.dK ls)) := by
  obtain ⟨f, ⟨p, ks, h1, h2, h3, h4⟩, h5, h6⟩ := h.change (ownD_at e)
  have hf := h4 rfl
  subst hf
  exact ⟨p, ks, h1, h2, h3, fun ls es r => h6 p _ _ [p] List.mem_cons_self (dK_noTup _) (fun _ z => nomatch z) ⟨p, ls, h1, upd_same, r, fun _ => rfl⟩ fun q hq => hq⟩
end
end TD

/-! TD11: the rules for statements. -/
namespace TD
open PySem PySem.Spec PyProof.Rows L2
section
variable {X : Cx} {T : Tb} {W : WX} {a b c e tg iter : Expr} {st : Stmt} {sts bs cs : List Stmt} {ga gb gc gk : GE} {gf : GF} {gr : GR} {gi : GI} {g : GS} {gs hs : GSs} {i j t : Nat} {ws ts : List Nat} {pos p : Pos}

/-! ### blocks -/
theorem psx_nil : PSs X [] (tSs T W .nil) := pss_nil.imp fun De σ H ⟨b0, H0, B, Γ, d, so, w, r⟩ => r.nx B Γ σ H so w
theorem psx_cons (h1 : PS X st (tS T W g)) (h2 : PSs X sts (tSs T W gs)) : PSs X (st :: sts) (tSs T W (.cons g gs)) := (pss_cons h1 h2).imp fun De σ H ⟨b0, H0, B, Γ, d, so, w, r⟩ =>
  ⟨b0, H0, B, Γ, { d with nx := fun Γ' => wpSs T gs d Γ' }, so, w, ⟨fun B1 Γ1 σ1 H1 so1 w1 => ⟨b0, H0, B1, Γ1, d, so1, w1, r⟩, r.rr, r.ro, r.ex, r.rx, r.rm⟩⟩

/-! ### assignments -/
theorem psx_asgV (h : PS X st (tAsg (tG T W ga) (gName i))) : PS X st (tS T W (.asgV i ga)) := h.imp fun De σ H ⟨b0, H0, B, Γ, d, so, w, r⟩ =>
  so.view r w fun v x b1 H1 s rp ⟨z, q⟩ => r.nx _ _ _ _ ((so.step (.tups so.sk.ex s.h)).put_fz i (Rp.imm (ex_trans so.sk.ex s.h) s.bh x rp z)) q
theorem psx_asgS (h : PS X st (tAsg (tG T W ga) (gName i))) : PS X st (tS T W (.asgS i ga)) := h.imp fun De σ H ⟨b0, H0, B, Γ, d, so, w, r⟩ =>
  so.stab r w fun v x B1 H1 s rp q => r.nx _ _ _ _ ((so.step s).put_fz i rp) q
theorem psx_asgF (h : PS X st (tAsg (tF T W gf) (gName i))) : PS X st (tS T W (.asgF i gf)) := h.imp fun De σ H ⟨b0, H0, B, Γ, d, so, w, r⟩ =>
  so.viewF r w fun a xs ds b1 H1 s h1 h2 rp ⟨z, q⟩ => r.nx _ _ _ _ (so.put_ol (.tups so.sk.ex s.h) i h1 (tups_none (ex_back so.sk.ex h1) fun ys z => by rw [h2] at z; cases z) h2 (RpA.imm (ex_trans so.sk.ex s.h) s.bh ds rp z)) q
theorem psx_asgFS (h : PS X st (tAsg (tF T W gf) (gName i))) : PS X st (tS T W (.asgFS i gf)) := h.imp fun De σ H ⟨b0, H0, B, Γ, d, so, w, r⟩ =>
  so.stabF r w fun a xs ds B1 H1 s h1 h2 h3 rp q => r.nx _ _ _ _ (so.put_ol s i h1 h2 h3 rp) q
theorem psx_asgR (h : PS X st (tAsg (tR T W gr) (gName i))) : PS X st (tS T W (.asgR i gr)) := h.imp fun De σ H ⟨b0, H0, B, Γ, d, so, w, r⟩ => by
  refine ⟨H0, B, Γ, so.sk, ?_⟩
  have w' : onR (evR T Γ gr) (fun x => d.ex x Γ) fun r => d.nx (Γ.set i (some (.own r))) := w
  cases q : evR T Γ gr with
  | ok x => rw [q] at w'; exact fun v f B1 H1 s o n k im => r.nx _ _ _ _ (so.put_own s i o n k) w'
  | err x => rw [q] at w'; exact so.err r w'
  | bad => rw [q] at w'; exact w'
theorem psx_asgD (h : PS X st (tAsg tDNewK (gName i))) : PS X st (tS T W (.asgD i)) := h.imp fun De σ H ⟨b0, H0, B, Γ, d, so, w, r⟩ => fun p hp =>
  r.nx _ _ _ _ ⟨so.sk.put_dc i hp, so.nv.set i (fun kvs z => by cases z), so.sp.trans (.new so.sk.ex hp)⟩ w

/-! ### changes -/
theorem psx_appV (h : PS X st (tDrop (tBM X.K "list" rAppend (tVar i) (tCons (tG T W ga) tNil)))) : PS X st (tS T W (.appV i ga)) := h.imp fun De σ H ⟨b0, H0, B, Γ, d, so, w, r⟩ => by
  obtain ⟨ds, q, w'⟩ := w
  obtain ⟨p, xs, h1, h2, h3, h4, h5, h6⟩ := so.list q
  refine ⟨.ref p, h1, .inl ⟨rfl, xs, .inl (.inl h2)⟩, so.view r w' fun v x b1 H1 s rp ⟨z, h8, q2⟩ => ?_⟩
  have so1 := so.step (.tups so.sk.ex s.h)
  obtain ⟨p', xs', k1, k2, k3, k4, k5, k6⟩ := so1.list q
  rw [h1] at k1
  cases k1
  refine ⟨p, xs', v, rfl, rfl, k2, ?_, r.nx _ _ _ _ (k6 _ _ (k3.app (.one (Rp.imm (ex_trans so.sk.ex s.h) s.bh x rp z)))) q2⟩
  rw [k3.len, sizeLine_eq]
  exact h8
theorem psx_appS (h : PS X st (tDrop (tBM X.K "list" rAppend (tVar i) (tCons (tG T W ga) tNil)))) : PS X st (tS T W (.appS i ga)) := h.imp fun De σ H ⟨b0, H0, B, Γ, d, so, w, r⟩ => by
  obtain ⟨ds, q, w'⟩ := w
  obtain ⟨p, xs, h1, h2, h3, h4, h5, h6⟩ := so.list q
  refine ⟨.ref p, h1, .inl ⟨rfl, xs, .inl (.inl h2)⟩, so.stab r w' fun v x B1 H1 s rp ⟨h8, q2⟩ => ?_⟩
  have so1 := so.step s
  obtain ⟨p', xs', k1, k2, k3, k4, k5, k6⟩ := so1.list q
  rw [h1] at k1
  cases k1
  refine ⟨p, xs', v, rfl, rfl, k2, ?_, r.nx _ _ _ _ (k6 _ _ (k3.app (.one rp))) q2⟩
  rw [k3.len, sizeLine_eq]
  exact h8
theorem psx_rev (h : PS X st (tDrop (tBM0 X.K "list" rReverse (tVar i)))) : PS X st (tS T W (.rev i)) := h.imp fun De σ H ⟨b0, H0, B, Γ, d, so, w, r⟩ => by
  obtain ⟨ds, q, w'⟩ := w
  obtain ⟨p, xs, h1, h2, h3, h4, h5, h6⟩ := so.list q
  exact ⟨.ref p, h1, .inl ⟨rfl, xs, .inl (.inl h2)⟩, p, xs, rfl, rfl, h2, r.nx _ _ _ _ (h6 _ _ h3.reverse) w'⟩
theorem any_kv {B : Hp} {ks : List (Key × V)} {kvs : List (Int × D)} (h : KvRp B ks kvs) (k : Int) : (ks.any fun kv => decide (kv.1 = (Sum.inl k : Key))) = kvs.any fun kv => decide (kv.1 = k) := by
  unfold KvRp at h
  induction h with
  | nil => rfl
  | @cons x y xs ys r t ih =>
    rw [List.any_cons, List.any_cons, ih, r.1]
    congr 1
    by_cases z : y.1 = k <;> simp [z]
theorem KvRp.len {B : Hp} {ks : List (Key × V)} {kvs : List (Int × D)} (h : KvRp B ks kvs) : ks.length = kvs.length := Paired.length h
theorem KvRp.put {B : Hp} {ks : List (Key × V)} {kvs : List (Int × D)} (h : KvRp B ks kvs) (k : Int) {v : V} {x : D} (r : Rp B v x) : KvRp B (putK ks (Sum.inl k : Key) v) (dput kvs k x) := by
  unfold putK dput
  rw [any_kv h k]
  by_cases z : (kvs.any fun kv => decide (kv.1 = k)) = true
  · rw [if_pos z, if_pos z]
    clear z
    unfold KvRp at h ⊢
    induction h with
    | nil => exact .nil
    | @cons p q ps qs r' t ih =>
      rw [List.map_cons, List.map_cons]
      refine .cons ?_ ih
      by_cases y : q.1 = k
      · rw [if_pos (by rw [r'.1, y]), if_pos y]
        exact ⟨r'.1, r⟩
      · rw [if_neg (fun w => y (by rw [r'.1] at w; exact Sum.inl.inj w)), if_neg y]
        exact r'
  · rw [if_neg z, if_neg z]
    clear z
    unfold KvRp at h ⊢
    induction h with
    | nil => exact .cons ⟨rfl, r⟩ .nil
    | cons r' t ih => exact .cons r' ih
theorem KvRp.drop {B : Hp} {ks : List (Key × V)} {kvs : List (Int × D)} (h : KvRp B ks kvs) (k : Int) : KvRp B (dropK ks (Sum.inl k : Key)) (ddrop kvs k) := by
  unfold dropK ddrop
  unfold KvRp at h ⊢
  induction h with
  | nil => exact .nil
  | @cons p q ps qs r' t ih =>
    rw [List.filter_cons, List.filter_cons]
    by_cases y : q.1 = k
    · rw [if_neg (by simp [r'.1, y]), if_neg (by simp [y])]
      exact ih
    · rw [if_pos (by simp [r'.1, y]), if_pos (by simp [y])]
      exact .cons r' ih
theorem psx_dset (h : PS X st (sDPut (tVar i) (tG T W gk) (tG T W ga))) : PS X st (tS T W (.dset i gk ga)) := h.imp fun De σ H ⟨b0, H0, B, Γ, d, so, w, r⟩ => by
  obtain ⟨kvs, q, w'⟩ := w
  refine so.view r w' fun v x b1 H1 s rp ⟨z, w2⟩ => ?_
  have so1 := so.step (.tups so.sk.ex s.h)
  have rv := Rp.imm (ex_trans so.sk.ex s.h) s.bh x rp z
  obtain ⟨p, ks, h1, h2, h3, h4⟩ := so1.dict q
  refine ⟨.ref p, h1, so1.view r w2 fun n y b2 H2 s2 rp2 ⟨j, ej, hl, q2⟩ => ?_⟩
  subst ej
  have so2 := so1.step (.tups so1.sk.ex s2.h)
  obtain ⟨p', ks', k1, k2, k3, k4⟩ := so2.dict q
  rw [h1] at k1
  cases k1
  cases rp_int rp2
  refine ⟨p, _, rfl, DPut.k (k := Sum.inl j) k2 (by rw [k3.len, sizeLine_eq]; exact hl), r.nx _ _ _ _ (k4 _ _ (k3.put j (rv.mono (tups_ex _ _)))) q2⟩
theorem psx_dpop (h : PS X st (tDrop (tDPop1 (tVar i) (tG T W gk)))) : PS X st (tS T W (.dpop i gk)) := h.imp fun De σ H ⟨b0, H0, B, Γ, d, so, w, r⟩ => by
  obtain ⟨kvs, q, w'⟩ := w
  obtain ⟨p, ks, h1, h2, h3, h4⟩ := so.dict q
  refine ⟨.ref p, h1, p, rfl, .inl ⟨ks, .inl h2⟩, so.view r w' fun n y b2 H2 s2 rp2 ⟨j, ej, hl, q2⟩ => ?_⟩
  subst ej
  have so2 := so.step (.tups so.sk.ex s2.h)
  obtain ⟨p', ks', k1, k2, k3, k4⟩ := so2.dict q
  rw [h1] at k1
  cases k1
  cases rp_int rp2
  have v := k3.val j
  cases z : dget kvs j with
  | none => rw [z] at hl; cases hl
  | some x =>
    rw [z] at v
    obtain ⟨u, hu, _⟩ := v
    exact ⟨ks', Sum.inl j, u, k2, rfl, hu, r.nx _ _ _ _ (k4 _ _ (k3.drop j)) q2⟩
theorem psx_setI (h : PS X st (tAsg (tG T W ga) (gSub (tVar i) (tG T W gk) rSetL))) : PS X st (tS T W (.setI i gk ga)) := h.imp fun De σ H ⟨b0, H0, B, Γ, d, so, w, r⟩ => by
  obtain ⟨ds, q, w'⟩ := w
  refine so.view r w' fun v x b1 H1 s rp ⟨z, w2⟩ => ?_
  have so1 := so.step (.tups so.sk.ex s.h)
  have rv := Rp.imm (ex_trans so.sk.ex s.h) s.bh x rp z
  obtain ⟨p, xs, h1, h2, h3, h4, h5, h6⟩ := so1.list q
  refine ⟨.ref p, h1, so1.view r w2 fun n y b2 H2 s2 rp2 ⟨j, ej, j0, j1, q2⟩ => ?_⟩
  subst ej
  have so2 := so1.step (.tups so1.sk.ex s2.h)
  obtain ⟨p', xs', k1, k2, k3, k4, k5, k6⟩ := so2.list q
  rw [h1] at k1
  cases k1
  cases rp_int rp2
  refine ⟨p, xs', j, j.toNat, rfl, rfl, k2, ?_, r.nx _ _ _ _ (k6 _ _ (k3.set j.toNat (rv.mono (tups_ex _ _)))) q2⟩
  unfold ixN
  rw [if_pos j0, if_pos (by rw [k3.len]; exact j1)]
theorem psx_popApp (h : PS X st (tDrop (tBM X.K "list" rAppend (tVar i) (tCons (tBM X.K "list" rPopAt (tVar j) (tCons (tG T W gk) tNil)) tNil)))) : PS X st (tS T W (.popApp i j gk)) := h.imp fun De σ H ⟨b0, H0, B, Γ, d, so, w, r⟩ => by
  obtain ⟨ds, es, ne, qi, qj, w'⟩ := w
  obtain ⟨p, xs, h1, h2, h3, h4, h5, h6⟩ := so.list qi
  obtain ⟨p2, ys, g1, g2, g3, g4, g5, g6⟩ := so.list qj
  refine ⟨.ref p, h1, .inl ⟨rfl, xs, .inl (.inl h2)⟩, .ref p2, g1, .inl ⟨rfl, ys, .inl (.inl g2)⟩, so.view r w' fun n y b2 H2 s2 rp2 ⟨m, v, em, m0, m1, hv, hl, q2⟩ => ?_⟩
  subst em
  have so2 := so.step (.tups so.sk.ex s2.h)
  obtain ⟨p2', ys', k1, k2, k3, k4, k5, k6⟩ := so2.list qj
  rw [g1] at k1
  cases k1
  cases rp_int rp2
  obtain ⟨u, hu, ru⟩ := k3.get hv
  have lt : m.toNat < ys'.length := (List.getElem?_eq_some_iff.mp hu).1
  refine ⟨p2, ys', m, m.toNat, u, rfl, rfl, k2, by omega, m1, ?_, hu, ?_⟩
  · have e : m = (m.toNat : Int) := by omega
    exact (ixN_seq (i := m) (by unfold ixN; rw [if_pos m0, if_pos (by omega)])).1
  · have so3 := k6 _ _ (k3.erase m.toNat)
    have qi' : ownL (Γ.set j (some (.own (.ol (es.eraseIdx m.toNat))))) i = some ds := by
      unfold ownL at qi ⊢
      rw [get_set_ne (Ne.symm ne)]
      exact qi
    obtain ⟨p', xs', l1, l2, l3, l4, l5, l6⟩ := so3.list qi'
    rw [h1] at l1
    cases l1
    exact ⟨p, xs', u, rfl, rfl, l2, by rw [l3.len, sizeLine_eq]; exact hl, r.nx _ _ _ _ (l6 _ _ (l3.app (.one ru))) q2⟩
theorem psx_expr (h : PE X e (tG T W ga)) (hs : swapsWith e none pos.line X.env = pure false := by rfl) : PS X (.Expr e pos) (tS T W (.expr ga)) := (ps_expr h hs).imp fun De σ H ⟨b0, H0, B, Γ, d, so, w, r⟩ =>
  so.view r w fun v x b1 H1 s rp q => r.nx _ _ _ _ (so.step (.grow so.sk.ex s.h)) q

/-! ### ways and loops -/
theorem Sp'.out {b0 H0 B3 H3 B4 H4 : Hp} (a : Sp' b0 H0 B3 H3) (c : Sp' B3 H0 B4 H4) : Sp' b0 H0 B4 H4 := ⟨ex_trans a.b c.b, c.h, c.bh, fun p o h1 h2 h3 => c.own p o h1 h2 (a.own p o h1 h2 h3)⟩
theorem So.inn {b0 H0 B H : Hp} {Γ : Env} {σ : L2.St} (h : So b0 H0 B Γ σ H) : So B H0 B Γ σ H := ⟨h.sk, h.nv, ex_refl _, h.sp.h, h.sp.bh, fun _ _ _ _ z => z⟩
theorem So.out {b0 H0 B3 H3 B4 H4 : Hp} {Γ : Env} {σ : L2.St} (a : Sp' b0 H0 B3 H3) (h : So B3 H0 B4 Γ σ H4) : So b0 H0 B4 Γ σ H4 := ⟨h.sk, h.nv, a.out h.sp⟩
/-- what is wanted, from a later base; what follows is told anew -/
theorem Real.inn {b0 H0 B3 H3 : Hp} {d : GD} {De : Ends} {N : Env → Prop} {nx bk ct : L2.St → Hp → Prop} (r : Real T W b0 H0 d De) (a : Sp' b0 H0 B3 H3) (k : ∀ B Γ σ H, So B3 H0 B Γ σ H → N Γ → nx σ H) :
    Real T W B3 H0 { d with nx := N } { De with nx := nx, bk := bk, ct := ct } :=
  ⟨k, fun x v f B H s o n z i q => r.rr x v f B H (a.out s) o n z i q, fun x v B H s rp q => r.ro x v B H (a.out s) rp q, fun x B Γ σ H so q => r.ex x B Γ σ H (so.out a) q, fun x v f B H s o n z q => r.rx x v f B H (a.out s) o n z q, fun p c x v B Γ σ H so h1 h2 h3 q => r.rm p c x v B Γ σ H (so.out a) h1 h2 h3 q⟩
theorem psx_if (hc : PT X c (tT T W gc)) (ha : PSs X bs (tSs T W gs)) (hb : PSs X cs (tSs T W hs)) : PS X (.If c bs cs pos) (tS T W (.ifs gc gs hs)) := (ps_if hc ha hb).imp fun De σ H ⟨b0, H0, B, Γ, d, so, w, r⟩ => by
  have w' : onR (ev T (view Γ) gc) (fun x => d.ex x Γ) fun v => match v with
    | .bool true => wpSs T gs d Γ
    | .bool false => wpSs T hs d Γ
    | _ => False := w
  refine so.viewT r w' fun x H1 so1 k => ?_
  cases x with
  | bool b =>
    refine ⟨b, rfl, ?_⟩
    cases b with
    | true => exact iteT ⟨b0, H0, B, Γ, d, so1, k, r⟩
    | false => exact iteF ⟨b0, H0, B, Γ, d, so1, k, r⟩
  | _ => exact False.elim k
theorem psx_for {gx : TG} (hp : PassesOwn (model X.prog X.w) X.A X.env X.xe) (hc : X.calm = true) (hi : PI X tg iter (tI T W gi gx ts)) (hg : PG X tg gx) (hb : PSs X bs (tSs T W gs)) (hf : ∀ x, foldedSetIterable iter X.env x = pure x := by intro _; rfl) :
    PS X (.For tg iter bs [] pos) (tS T W (.for_ ws ts gi gs)) := (ps_for hp hc hi hg hb hf).imp fun De σ H ⟨b0, H0, B, Γ, d, so, w, r⟩ => by
  have w' : onR (evI T (stab Γ) gi) (fun x => d.ex x Γ) fun items => wpForL (fun d' Γ' => wpSs T gs d' Γ') d ws ts items (wipeE Γ ws) := w
  refine ⟨B, _, so.sk.stab, ?_⟩
  cases e : evI T (stab Γ) gi with
  | err x => rw [e] at w'; exact so.err r w'
  | bad => rw [e] at w'; exact w'
  | ok items =>
    rw [e] at w'
    refine fun J B1 H1 s m => ⟨fun i n σ H => n = items.length - i ∧ i ≤ items.length ∧ ∃ B2 Γ2, Ex B1 B2 ∧ So b0 H0 B2 Γ2 σ H ∧ wpForL (fun d' Γ' => wpSs T gs d' Γ') d ws ts (items.drop i) Γ2,
      ⟨_, rfl, Nat.zero_le _, B1, _, ex_refl _, (so.step s).wipe ws, w'⟩, ?_⟩
    rintro i n σ2 H2 ⟨rfl, hi, B2, Γ2, ex2, so2, w2⟩
    by_cases hlt : i < items.length
    · rw [List.drop_eq_getElem_cons hlt] at w2
      refine .inr ⟨m.go i B2 H2 ex2 so2.sk.ex hlt, fun σ3 H3 => ∃ B3 Γ3, Ex B1 B3 ∧ So b0 H0 B3 Γ3 σ3 H3 ∧ wpForL (fun d' Γ' => wpSs T gs d' Γ') d ws ts (items.drop (i + 1)) Γ3, fun σ3 H3 h => ⟨_, by omega, rfl, hlt, h⟩, fun x H3 y => ?_⟩
      obtain ⟨B3, s3, k3⟩ := m.yld i _ B2 H2 x H3 ex2 so2.sk.ex (List.getElem?_eq_getElem hlt) y
      have so3 := so2.step s3
      exact k3 _ _ fun vs rv => ⟨B3, H0, B3, _, _, (so3.inn).setTs rv, w2, r.inn so3.sp fun B4 Γ4 σ4 H4 so4 w4 => ⟨B4, _, ex_trans ex2 (ex_trans s3.b so4.sp.b), (so4.out so3.sp).wipe ws, w4⟩⟩
    · have ei : i = items.length := by omega
      subst ei
      rw [List.drop_length] at w2
      exact .inl ⟨m.stop _ B2 H2 ex2 so2.sk.ex (Nat.le_refl _), r.nx _ _ _ _ so2 w2⟩
theorem psx_while (hp : PassesOwn (model X.prog X.w) X.A X.env X.xe) (hc : PT X c (tT T W gc)) (hb : PSs X bs (tSs T W gs)) : PS X (.While c bs [] pos) (tS T W (.whl ws gc gs)) := (ps_while hp hc hb).imp fun De σ H ⟨b0, H0, B, Γ, d, so, w, r⟩ => by
  obtain ⟨n, w⟩ := w
  refine ⟨fun n σ H => ∃ B Γ, So b0 H0 B Γ σ H ∧ wpWhl T (fun d' Γ' => wpSs T gs d' Γ') d ws gc n Γ, ⟨n, B, _, so.wipe ws, w⟩, ?_⟩
  rintro n σ2 H2 ⟨B2, Γ2, so2, w2⟩
  cases n with
  | zero => exact w2.elim
  | succ n =>
    have w' : onR (ev T (view Γ2) gc) (fun x => d.ex x Γ2) fun b => match b with
      | .bool true => wpSs T gs { d with nx := fun Γ' => wpWhl T (fun d' Γ' => wpSs T gs d' Γ') d ws gc n (wipeE Γ' ws) } Γ2
      | .bool false => d.nx Γ2
      | _ => False := w2
    refine so2.viewT r w' fun x H3 so3 k => ?_
    cases x with
    | bool b =>
      refine ⟨b, rfl, ?_⟩
      cases b with
      | true => exact iteT ⟨fun σ4 H4 => ∃ B4 Γ4, So b0 H0 B4 Γ4 σ4 H4 ∧ wpWhl T (fun d' Γ' => wpSs T gs d' Γ') d ws gc n Γ4, fun σ4 H4 h => ⟨n, Nat.lt_succ_self n, h⟩, B2, H0, B2, Γ2, _, so3.inn, k, r.inn so3.sp fun B4 Γ4 σ4 H4 so4 w4 => ⟨B4, _, (so4.out so3.sp).wipe ws, w4⟩⟩
      | false => exact iteF (r.nx _ _ _ _ so3 k)
    | _ => exact False.elim k
/-! ### ends -/
theorem psx_ret (h : PE X e (tR T W gr)) : PS X (.Return (some e) pos) (tS T W (.ret gr)) := (ps_ret h).imp fun De σ H ⟨b0, H0, B, Γ, d, so, w, r⟩ => by
  have w' : onR (evR T Γ gr) (fun x => d.ex x Γ) fun r => d.rt (.ret r) := w
  refine ⟨H0, B, Γ, so.sk, ?_⟩
  cases q : evR T Γ gr with
  | ok x => rw [q] at w'; exact fun v f B1 H1 s o n k im => r.rr x v f B1 H1 (so.sp.trans s) o n (fun p hp => ex_back so.sk.e0 (k p hp)) im w'
  | err x => rw [q] at w'; exact so.err r w'
  | bad => rw [q] at w'; exact w'
theorem psx_retOld (h : PE X e (tG T W ga)) : PS X (.Return (some e) pos) (tS T W (.retOld ga)) := (ps_ret h).imp fun De σ H ⟨b0, H0, B, Γ, d, so, w, r⟩ =>
  so.stab r w fun v x B1 H1 s rp q => r.ro x v B1 H1 (so.sp.trans s) rp q
theorem So.ownR {b0 H0 B H : Hp} {Γ : Env} {σ : L2.St} (h : So b0 H0 B Γ σ H) {i : Nat} {r : R} (e : TD.ownR Γ i = some r) : ∃ v f, σ[i]? = some (some v) ∧ Or B H v r f ∧ f.Nodup ∧ (∀ p ∈ f, H0 p = none) := by
  obtain ⟨f, ⟨v, h1, h2, h3⟩, h4, _⟩ := h.change (ownR_at e)
  exact ⟨v, f, h1, h2, h3, fun p hp => (h4 p hp).1⟩
theorem psx_retMv (h : PE X e (tVar i)) : PS X (.Return (some e) pos) (tS T W (.retMv i)) := (ps_ret h).imp fun De σ H ⟨b0, H0, B, Γ, d, so, w, r⟩ => by
  obtain ⟨x, q, im, w⟩ := w
  obtain ⟨v, f, h1, h2, h3, h4⟩ := so.ownR q
  exact ⟨v, h1, r.rr x v f B H so.sp h2 h3 h4 im w⟩
theorem two_own {b0 H0 B H : Hp} {Γ : Env} {σ : L2.St} (so : So b0 H0 B Γ σ H) {r q : R} (ne : i ≠ j) (e1 : ownR Γ i = some r) (e2 : ownR Γ j = some q) :
    ∃ v f u g, σ[i]? = some (some v) ∧ Or B H v r f ∧ σ[j]? = some (some u) ∧ Or B H u q g ∧ (f ++ g).Nodup ∧ ∀ p ∈ f ++ g, H0 p = none := by
  obtain ⟨F, k⟩ := so.sk.sl
  obtain ⟨v, h1, h2, h3⟩ := k.ok i _ (ownR_at e1)
  obtain ⟨u, g1, g2, g3⟩ := k.ok j _ (ownR_at e2)
  refine ⟨v, F i, u, F j, h1, h2, g1, g2, List.nodup_append.mpr ⟨h3, g3, fun a ha b hb z => k.dis i j ne a ha (z ▸ hb)⟩, fun p hp => ?_⟩
  rcases List.mem_append.mp hp with h | h
  · exact (k.at' i p h).1
  · exact (k.at' j p h).1
theorem psx_retTup {k : Nat} {p2 : Pos} (h : PA X [a, b] (tCons (tVar i) (tCons (tVar j) tNil))) : PS X (.Return (some (.Tuple [a, b] k p2)) pos) (tS T W (.retTwo true i j)) := (ps_ret (pe_tup h)).imp fun De σ H ⟨b0, H0, B, Γ, d, so, w, r⟩ => by
  obtain ⟨x, y, ne, e1, e2, i1, i2, w⟩ := w
  obtain ⟨v, f, u, g, h1, h2, g1, g2, nd, fr⟩ := two_own so ne e1 e2
  refine ⟨v, h1, u, g1, by show 2 ≤ sizeLine; rw [sizeLine_eq]; omega, fun p hp => ?_⟩
  have s : Sp' B H (upd B p (.tup [v, u])) (upd H p (.tup [v, u])) := .both so.sk.ex hp
  have al : OrA B H [v, u] [x, y] (f ++ (g ++ [])) := .cons h2 (.cons g2 .nil)
  rw [List.append_nil] at al
  refine r.rr _ (.ref p) (f ++ g) _ _ (so.sp.trans s) (.ot upd_same (al.frame s.b fun c hc => ?_)) nd fr (by show R.imms [x, y] = true; rw [R.imms, R.imms, R.imms, i1, i2]; rfl) w
  obtain ⟨k1, o, k2, k3⟩ := al.at c hc
  have nep : c ≠ p := fun z => by rw [z, hp] at k2; cases k2
  exact ⟨upd_ne nep, by rw [upd_ne nep]; exact k1⟩
theorem psx_retLst {p2 : Pos} (h : PA X [a, b] (tCons (tVar i) (tCons (tVar j) tNil))) : PS X (.Return (some (.List [a, b] p2)) pos) (tS T W (.retTwo false i j)) := (ps_ret (pe_lst h)).imp fun De σ H ⟨b0, H0, B, Γ, d, so, w, r⟩ => by
  obtain ⟨x, y, ne, e1, e2, i1, i2, w⟩ := w
  obtain ⟨v, f, u, g, h1, h2, g1, g2, nd, fr⟩ := two_own so ne e1 e2
  refine ⟨v, h1, u, g1, by show 2 ≤ sizeLine; rw [sizeLine_eq]; omega, fun p hp => ?_⟩
  have s : Sp' B H B (upd H p (.lst [v, u])) := .new so.sk.ex hp
  have al : OrA B H [v, u] [x, y] (f ++ (g ++ [])) := .cons h2 (.cons g2 .nil)
  rw [List.append_nil] at al
  refine r.rr _ (.ref p) (p :: (f ++ g)) _ _ (so.sp.trans s) (.on (ex_back so.sk.ex hp) upd_same (al.frame s.b fun c hc => ?_)) (List.nodup_cons.mpr ⟨fun hm => ?_, nd⟩) (fun c hc => ?_) (by show R.imms [x, y] = true; rw [R.imms, R.imms, R.imms, i1, i2]; rfl) w
  · obtain ⟨k1, o, k2, k3⟩ := al.at c hc
    exact ⟨upd_ne (fun z => by rw [z, hp] at k2; cases k2), k1⟩
  · obtain ⟨k1, o, k2, k3⟩ := al.at p hm
    rw [hp] at k2
    cases k2
  · rcases List.mem_cons.mp hc with rfl | hc
    · exact ex_back so.sk.e0 hp
    · exact fr c hc
theorem psx_raise {x : Nat} (hc : X.calm = true) (tk : Takes X W) (he : PMk X e (fun _ H Q => Q (.ref (T.ca x)) none H)) : PS X (.Raise (some e) none pos) (tS T W (.raise_ x)) := (ps_raise hc tk he).imp fun De σ H ⟨b0, H0, B, Γ, d, so, w, r⟩ =>
  r.ex x B Γ σ H so w
end
end TD

/-! TD12: classes of errors, try; a def's promise. -/
namespace TD
open PySem PySem.Spec PyProof.Rows L2

def cname : Nat → Str
  | 0 => "TillError" | 1 => "NoTill" | 2 => "NoKind" | 3 => "Twice" | 4 => "NoCount" | 5 => "NoSum" | 6 => "TooLittle" | 7 => "NoChange" | 8 => "TooFew" | 9 => "StillHeld" | _ => "NoDeed"
/-- what is known of a class of errors -/
structure Cl1 (K : PySem.W.Frag) (mg : Str → Option Value) (n : Str) (C : Addr) : Prop where
  g : mg n = some (.ref C)
  k : PySem.W.keepIn K (.ref C) = true
  x : PySem.W.excIn K C [.type "ValueError", .type "Exception", .type "BaseException", .type "object"] "ValueError.__new__" = true
  b : PySem.W.subIn K (.ref C) (.type "BaseException") = some true
  t : PySem.W.typeIn K (.ref C) = some (.type "type")
  i : PySem.W.isClsIn K C = true
  v : PySem.W.subIn K (.ref C) (.type "ValueError") = some true
  e : ExcC K C
structure Cls' (K : PySem.W.Frag) (mg : Str → Option Value) (ca : Nat → Addr) (xs ys : List Nat) : Prop where
  one : ∀ y ∈ ys, Cl1 K mg (cname y) (ca y)
  sub : ∀ x ∈ xs, x ∈ ys ∧ ∀ y ∈ ys, PySem.W.subIn K (.ref (ca x)) (.ref (ca y)) = some (subX x y)
section
variable {K : PySem.W.Frag} {mg : Str → Option Value} {ca : Nat → Addr} {xs ys : List Nat}
theorem isCls_some {C : Addr} (h : PySem.W.isClsIn K C = true) : (PySem.W.clsIn K C).isSome = true := h
theorem Cls'.kit (c : Cls' K mg ca xs ys) {x y : Nat} (hx : x ∈ xs) (hy : y ∈ ys) : PySem.W.kitOne K (.ref (ca x)) (.ref (ca y)) = some (subX x y) := by
  have s := (c.sub x hx).2 y hy
  have o := c.one y hy
  unfold PySem.W.kitOne
  by_cases q : (Value.ref (ca x) == Value.ref (ca y)) = true
  · rw [if_pos q]
    have e : ca x = ca y := Value.ref.inj (beq_iff_eq.mp q)
    rw [← s, e]
    have e2 : PySem.W.subIn K (.ref (ca y)) (.ref (ca y)) = PySem.W.subIn K (.ref (ca x)) (.ref (ca y)) := by rw [e]
    rw [e2, s]
    -- a class is below itself
    have hx' := (c.sub x hx)
    have self : PySem.W.subIn K (.ref (ca x)) (.ref (ca x)) = some (subX x x) := hx'.2 x hx'.1
    have e3 : PySem.W.subIn K (.ref (ca x)) (.ref (ca x)) = PySem.W.subIn K (.ref (ca x)) (.ref (ca y)) := by rw [e]
    rw [self, s] at e3
    rw [← e3]
    simp [subX]
  · rw [if_neg q]
    show (if ((PySem.W.clsIn K (ca y)).isSome && PySem.W.typeIn K (.ref (ca y)) == some (.type "type")) = true then PySem.W.subIn K (.ref (ca x)) (.ref (ca y)) else none) = _
    rw [if_pos (by rw [isCls_some o.i, o.t]; rfl), s]
theorem Cls'.kitV (c : Cls' K mg ca xs ys) {x : Nat} (hx : x ∈ xs) : PySem.W.kitOne K (.ref (ca x)) (.type "ValueError") = some true := by
  have o := c.one x (c.sub x hx).1
  unfold PySem.W.kitOne
  rw [if_neg (by intro z; cases beq_iff_eq.mp z)]
  show (if PySem.W.kitMeta "ValueError" = true then PySem.W.subIn K (.ref (ca x)) (.type "ValueError") else none) = _
  rw [if_pos (by decide +kernel), o.v]
theorem Cls'.exm (c : Cls' K mg ca xs ys) {x y : Nat} (hx : x ∈ xs) (hy : y ∈ ys) : PySem.W.exmOne K (.ref (ca x)) (.ref (ca y)) = some (subX x y) := by
  have s := (c.sub x hx).2 y hy
  have o := c.one y hy
  unfold PySem.W.exmOne
  rw [if_pos (by rw [o.b]; rfl)]
  show (if ((PySem.W.clsIn K (ca y)).isSome && PySem.W.typeIn K (.ref (ca y)) == some (.type "type")) = true then PySem.W.subIn K (.ref (ca x)) (.ref (ca y)) else none) = _
  rw [if_pos (by rw [isCls_some o.i, o.t]; rfl), s]
end
section
variable {X : Cx} {T : Tb} {W : WX} {a b c e tg iter : Expr} {st b₀ : Stmt} {sts bs sui : List Stmt} {ga gb gc gk : GE} {gf : GF} {gr : GR} {gi : GI} {g : GS} {gs gb' : GSs} {gh : GHs} {i j t y x : Nat} {ys : List Nat} {pos p np : Pos}
/-- X('..') -/
theorem pmk_cls {m : Str} {k : Nat} {p2 : Pos} (cl : Cls' X.K X.mg T.ca T.xs ys) (hy : x ∈ ys := by decide) (hg : Gl X (cname x) := by rfl) (hdb : (cname x == ("__debug__" : Str)) = false := by decide) :
    PMk X (.Call (.Name (cname x) p) [.Constant (.str m) k p2] [] pos) (fun _ H Q => Q (.ref (T.ca x)) none H) :=
  have o := cl.one x hy
  pmk_own PySem.F.excBase_ValueError o.x o.g o.k (raises_own o.b o.t) hg hdb
theorem psx_rais {m : Str} {k : Nat} {p2 : Pos} (cl : Cls' X.K X.mg T.ca T.xs ys) (hc : X.calm = true) (tk : Takes X W) (hy : x ∈ ys := by decide) (hg : Gl X (cname x) := by rfl) (hdb : (cname x == ("__debug__" : Str)) = false := by decide) :
    PS X (.Raise (some (.Call (.Name (cname x) p) [.Constant (.str m) k p2] [] pos)) none np) (tS T W (.raise_ x)) := psx_raise hc tk (pmk_cls cl hy hg hdb)

/-! ### try -/
def lsOf (T : Tb) : GHs → List (Value × (Addr → Value → Option Addr → TS))
  | .nil => []
  | .cons y s r => (.ref (T.ca y), fun _ _ _ => tSs T W0 s) :: lsOf T r
/-- within an except suite nothing is raised -/
theorem Real.suite {b0 H0 : Hp} {d : GD} {De : Ends} (r : Real T W b0 H0 d De) : Real T W0 b0 H0 { d with ex := fun _ _ => False } De := ⟨r.nx, r.rr, r.ro, (fun x B Γ σ H so q => q.elim), r.rx, r.rm⟩
def hys : GHs → List Nat
  | .nil => []
  | .cons y _ r => y :: hys r
theorem try_go {De : Ends} {b0 H0 : Hp} {d : GD} (cl : Cls' X.K X.mg T.ca T.xs ys) (r : Real T W b0 H0 d De) : ∀ {gh : GHs}, (∀ y ∈ hys gh, y ∈ ys) → ∀ {x : Nat} {B H : Hp} {Γ : TD.Env} {σ : L2.St}, So b0 H0 B Γ σ H → wpH T gh d x Γ → wMany X.K W De (lsOf T gh) (.ref (T.ca x)) none σ H
  | .nil, _, _, _, _, _, _, so, w => r.ex _ _ _ _ _ so w
  | .cons y s gr, h, x, B, H, Γ, σ, so, w => by
    obtain ⟨hx, w1, w2⟩ := w
    refine ⟨subX x y, cl.exm hx (h y List.mem_cons_self), fun z a ha => ⟨b0, H0, B, Γ, _, so, w1 z, r.suite⟩, fun z => try_go cl r (gh := gr) (fun y hy => h y (List.mem_cons_of_mem _ hy)) so (w2 z)⟩
theorem hdx_nil : HdsOk X [] (lsOf T .nil) := .nil
theorem hdx_cons {hds : List ExceptHandler} (cl : Cls' X.K X.mg T.ca T.xs ys) (hs : ∀ (a : Addr) (oe : Obj) (pn : List (Addr × Obj)), PSs (X.suite a ((a, oe) :: pn)) (b₀ :: sui) (tSs T W0 gs)) (r : HdsOk X hds (lsOf T gh)) (hy : y ∈ ys := by decide) (hg : Gl X (cname y) := by rfl) (hdb : (cname y == ("__debug__" : Str)) = false := by decide) :
    HdsOk X (.ExceptHandler (some (.Name (cname y) np)) none (b₀ :: sui) pos :: hds) (lsOf T (.cons y gs gh)) :=
  .cons ⟨hg, hdb, .inl (cl.one y hy).g⟩ (fun a oe _ _ pn _ _ => hs a oe pn) r
theorem psx_try {h₀ : ExceptHandler} {hds : List ExceptHandler} (cl : Cls' X.K X.mg T.ca T.xs ys) (tk : Takes X W)
    (hb : ∀ (W : WX) (pn : List (Addr × Obj)) (xe : Value → Shared → Prop), Takes (X.tr pn xe) W → PassesOwn (model X.prog X.w) X.A X.env xe → PSs (X.tr pn xe) bs (tSs T W gb')) (hh : HdsOk X (h₀ :: hds) (lsOf T gh)) (hy : ∀ y ∈ hys gh, y ∈ ys := by decide)
    (hst : X.stack = X.env :: X.outer := by rfl) (hf : X.env.frame = some X.env.locals := by rfl) : PS X (.Try bs (h₀ :: hds) [] [] pos) (tS T W (.try_ gb' gh)) :=
  (ps_try_many (Wout := W) hst hf tk hb hh).imp fun De σ H ⟨b0, H0, B, Γ, d, so, w, r⟩ =>
    ⟨b0, H0, B, Γ, { d with ex := fun x Γ' => wpH T gh d x Γ' }, so, w, ⟨r.nx, r.rr, r.ro, (fun x B1 Γ1 σ1 H1 so1 w1 => try_go cl r hy so1 w1), r.rx, r.rm⟩⟩
theorem pss_ex {α : Type} {P : α → Prop} {t : α → TS} (h : ∀ x, P x → PSs X sts (t x)) : PSs X sts (fun D σ H => ∃ x, P x ∧ t x D σ H) := ⟨fun pins s σ H D I ⟨x, hx, q⟩ => (h x hx).run pins s σ H D I q⟩
/-- try .. except X as n -/
theorem psx_tryAs {n : Str} {pos' : Pos} (cl : Cls' X.K X.mg T.ca T.xs ys) (tk : Takes X W) (hN : X.N.Nodup) (hi : X.N[i]? = some n) (hln : X.env.kindOf n = some .local)
    (hb : ∀ (W : WX) (pn : List (Addr × Obj)) (xe : Value → Shared → Prop), Takes (X.tr pn xe) W → PassesOwn (model X.prog X.w) X.A X.env xe → PSs (X.tr pn xe) bs (tSs T W gb'))
    (hs : ∀ (a : Addr) (oe : Obj) (pn : List (Addr × Obj)) (x : Nat), x ∈ T.xs → Zc (.ref (T.ca x)) none oe → (∃ vs, oe.data = .fields vs) → PSs (X.suite a ((a, oe) :: pn)) (b₀ :: sui) (tSs { T with xe := some (a, x) } W0 gs))
    (hy : y ∈ ys := by decide) (hg : Gl X (cname y) := by rfl) (hdb : (cname y == ("__debug__" : Str)) = false := by decide) (hst : X.stack = X.env :: X.outer := by rfl) (hf : X.env.frame = some X.env.locals := by rfl) :
    PS X (.Try bs [.ExceptHandler (some (.Name (cname y) np)) (some n) (b₀ :: sui) pos'] [] [] pos) (tS T W (.tryAs i y gb' gs)) :=
  (ps_try_as (i := i) (Wout := W) (tb := fun W => tSs T W gb') (ts := fun a cls d D σ H => ∃ x, (x ∈ T.xs ∧ cls = .ref (T.ca x) ∧ d = none) ∧ tSs { T with xe := some (a, x) } W0 gs D σ H) hst hf hN hi hln ⟨hg, hdb, .inl (cl.one y hy).g⟩ tk hb (fun a oe cls d pn hz hv => pss_ex fun x ⟨hx, e1, e2⟩ => by
    subst e1 e2
    exact hs a oe pn x hx hz hv)).imp fun De σ H ⟨b0, H0, B, Γ, d, so, w, r⟩ => by
  refine ⟨b0, H0, B, Γ, { d with ex := fun x Γ' => x ∈ T.xs ∧ (subX x y = true → ∀ a : Addr, wpSs { T with xe := some (a, x) } gs { d with ex := fun _ _ => False, nx := fun Γ2 => d.nx (Γ2.set i none) } (Γ'.set i (some (.xc a x)))) ∧ (subX x y = false → d.ex x Γ') }, so, w, ⟨r.nx, r.rr, r.ro, (fun x B1 Γ1 σ1 H1 so1 w1 => ?_), r.rx, r.rm⟩⟩
  obtain ⟨hx, w2, w3⟩ := w1
  refine ⟨subX x y, cl.exm hx hy, fun z a ha => ⟨x, ⟨hx, rfl, rfl⟩, b0, H0, B1, _, _, ⟨so1.sk.put_xc i a x, so1.nv.set i (fun _ z => nomatch z), so1.sp⟩, w2 z a, ?_⟩, fun z => r.ex x _ _ _ _ so1 (w3 z)⟩
  exact ⟨fun B2 Γ2 σ2 H2 so2 w4 => r.nx _ _ _ _ ⟨so2.sk.put_no i none, so2.nv.set i (fun _ z => nomatch z), so2.sp⟩ w4, r.rr, r.ro, (fun _ _ _ _ _ _ q => q.elim), r.rx, r.rm⟩

/-! ### isinstance of the error at hand -/
theorem xslot_inv {B H : Hp} {Γ : TD.Env} {σ : L2.St} {a : Addr} {x z : Nat} (hs : Se B Γ σ H) (hT : T.xe = some (a, x)) (h : xslot T Γ i = .ok z) : z = x ∧ σ[i]? = some (some (.ref a)) := by
  unfold xslot at h
  rw [hT] at h
  cases e : Γ[i]? with
  | none => rw [e] at h; cases h
  | some o =>
    cases o with
    | none => rw [e] at h; cases h
    | some s =>
      cases s with
      | xc a' x' =>
        rw [e] at h
        by_cases q : a' = a ∧ x' = x
        · simp only [q, and_self, if_true] at h
          cases h
          obtain ⟨rfl, rfl⟩ := q
          exact ⟨rfl, hs.ok i _ e⟩
        · simp only [q, if_false] at h
          cases h
      | _ => rw [e] at h; cases h
theorem xslot_or (i : Nat) {Γ : TD.Env} : (∃ z, xslot T Γ i = .ok z) ∨ xslot T Γ i = .bad := by
  unfold xslot
  split
  · split
    · exact .inl ⟨_, rfl⟩
    · exact .inr rfl
  · exact .inr rfl
section
variable {oe : Obj} {pn : List (Addr × Obj)} {ad : Addr} {n : Str} {p1 p2 : Pos}
theorem px_ise (cl : Cls' X.K X.mg T.ca T.xs ys) (bi : Bi X.mg) (hT : T.xe = some (ad, x)) (hx : x ∈ T.xs) (hz : Zc (.ref (T.ca x)) none oe) (hv : ∃ vs, oe.data = .fields vs) (hn : PE (X.suite ad ((ad, oe) :: pn)) (.Name n p1) (tVar i)) (hy : y ∈ ys := by decide) (hg : Gl X "isinstance" := by rfl) (hg2 : Gl X (cname y) := by rfl) (hdb : (cname y == ("__debug__" : Str)) = false := by decide)
    (he : starEach [.Name n p1, .Name (cname y) p2] X.env = (false, eval (.Name n p1) X.env) :: starEach [.Name (cname y) p2] X.env := by rfl) :
    PE (X.suite ad ((ad, oe) :: pn)) (.Call (.Name "isinstance" p) [.Name n p1, .Name (cname y) p2] [] pos) (tG T W (.ise i y)) :=
  (pe_callB (call_isE (cl.one x (cl.sub x hx).1).e hz hv) hg bi.isinstance (by decide +kernel) (pa_cons hn (pa_cons (pe_glob (v := .ref (T.ca y)) hg2 (cl.one y hy).g rfl hdb) pa_nil) he) (by decide) (by decide) he rfl).imp fun σ H Q ⟨B, Γ, hs, p⟩ => by
    have p' : Post T W σ B H ((xslot T Γ i).bind fun x => .ok (.bool (subX x y))) Q := p
    rcases xslot_or (T := T) i (Γ := Γ) with ⟨z, e⟩ | e
    · rw [e] at p'
      obtain ⟨rfl, h1⟩ := xslot_inv hs hT e
      exact ⟨_, h1, .ref (T.ca y), .ref (T.ca y), subX z y, rfl, fun u r => r, cl.kit hx hy, Post.here (d := .bool _) hs.ex p' (.bl _)⟩
    · rw [e] at p'
      exact p'.elim
theorem px_iseV (cl : Cls' X.K X.mg T.ca T.xs ys) (bi : Bi X.mg) (hT : T.xe = some (ad, x)) (hx : x ∈ T.xs) (hz : Zc (.ref (T.ca x)) none oe) (hv : ∃ vs, oe.data = .fields vs) (hn : PE (X.suite ad ((ad, oe) :: pn)) (.Name n p1) (tVar i)) (hg : Gl X "isinstance" := by rfl) (hg2 : Gl X "ValueError" := by rfl)
    (he : starEach [.Name n p1, .Name "ValueError" p2] X.env = (false, eval (.Name n p1) X.env) :: starEach [.Name "ValueError" p2] X.env := by rfl) :
    PE (X.suite ad ((ad, oe) :: pn)) (.Call (.Name "isinstance" p) [.Name n p1, .Name "ValueError" p2] [] pos) (tG T W (.ise i 11)) :=
  (pe_callB (call_isE (cl.one x (cl.sub x hx).1).e hz hv) hg bi.isinstance (by decide +kernel) (pa_cons hn (pa_cons (pe_bltn (v := .ty "ValueError") hg2 bi.valueError (by decide +kernel) rfl) pa_nil) he) (by decide) (by decide) he rfl).imp fun σ H Q ⟨B, Γ, hs, p⟩ => by
    have p' : Post T W σ B H ((xslot T Γ i).bind fun x => .ok (.bool (subX x 11))) Q := p
    rcases xslot_or (T := T) i (Γ := Γ) with ⟨z, e⟩ | e
    · rw [e] at p'
      obtain ⟨rfl, h1⟩ := xslot_inv hs hT e
      have hb : subX z 11 = true := by simp [subX]
      have q := Post.here (d := .bool (subX z 11)) hs.ex p' (.bl _)
      rw [hb] at q
      exact ⟨_, h1, .ty "ValueError", .type "ValueError", true, rfl, fun u r => r, cl.kitV hx, q⟩
    · rw [e] at p'
      exact p'.elim
/-- isinstance(e, (c1, c2, ..)) -/
def rIsET (K : PySem.W.Frag) (E a : Addr) : List V → Hp → VK → Prop := fun xs H Q => ∃ (tp : Addr) (cs : List Addr) (b : Bool), xs = [.ref a, .ref tp] ∧ H tp = some (.tup (cs.map V.ref)) ∧ PySem.W.kitAny K (.ref E) (cs.map Value.ref) = some b ∧ Q (.bl b) H
theorem vals_refs : ∀ {cs : List Addr} {us : List Value}, Vals (cs.map V.ref) us → us = cs.map Value.ref
  | [], _, .nil => rfl
  | c :: cs, _, .cons r t => by
    have e : _ = Value.ref c := r
    rw [e, vals_refs t]
    rfl
theorem call_isET {E a : Addr} (C : ExcC X.K E) (hz : Zc (.ref E) none oe) (hf : ∃ vs, oe.data = .fields vs) : CallR (X.suite a ((a, oe) :: pn)) (.builtin "isinstance") (rIsET X.K E a) := by
  intro pins s σ H xs us Q I r h
  obtain ⟨tp, cs, b, ex, ht, ea, q⟩ := h
  subst ex
  obtain ⟨u1, u2, eu, r1, r2⟩ := vals2 r
  subst eu
  have e1 : u1 = Value.ref a := r1
  have e2 : u2 = Value.ref tp := r2
  subst e1 e2
  obtain ⟨hget, _⟩ := I.pin (a, oe) (List.mem_append.mpr (.inl List.mem_cons_self))
  obtain ⟨vs, hvs⟩ := hf
  have J : PySem.W.InstAt s.heap a oe E none := by
    obtain ⟨k1, k2, k3, k4⟩ := oe
    obtain ⟨z1, z2⟩ := hz
    dsimp only at z1 z2 hvs
    subst z1 z2 hvs
    exact ⟨hget, rfl, rfl, trivial⟩
  obtain ⟨_, its, rv, o, g1, g2, m, g3⟩ := (show ObjOk X.prog X.w H s.heap tp (.tup (cs.map V.ref)) from I.hok tp _ ht)
  have ei := vals_refs rv
  subst ei
  obtain ⟨c1, c2, c3, c4⟩ := o
  dsimp only at g2 g3
  subst g2 g3
  refine PySem.W.kia_tup (PySem.W.handS_kitx_exc C.hg C.hk C.hs C.hd C.ha C.hn C.ht C.hm) I.kIn J g1 ea ?_ fun tk => ⟨.bl b, H, I.tok tk, rfl, q⟩
  exact fun z => nomatch z
theorem kit_any (cl : Cls' X.K X.mg T.ca T.xs ys) (hx : x ∈ T.xs) : ∀ {zs : List Nat}, (∀ y ∈ zs, y ∈ ys) → PySem.W.kitAny X.K (.ref (T.ca x)) ((zs.map T.ca).map Value.ref) = some (zs.any (subX x))
  | [], _ => rfl
  | z :: zs, h => by
    have k := cl.kit hx (h z List.mem_cons_self)
    have ih := kit_any cl hx (zs := zs) fun y hy => h y (List.mem_cons_of_mem _ hy)
    rw [List.map_cons, List.map_cons, List.any_cons]
    unfold PySem.W.kitAny
    rw [k]
    cases q : subX x z with
    | true => rfl
    | false => exact ih
theorem px_ises {zs : List Nat} {es : List Expr} {k : Nat} {ta : TA} (cl : Cls' X.K X.mg T.ca T.xs ys) (bi : Bi X.mg) (hT : T.xe = some (ad, x)) (hx : x ∈ T.xs) (hz : Zc (.ref (T.ca x)) none oe) (hv : ∃ vs, oe.data = .fields vs) (hn : PE (X.suite ad ((ad, oe) :: pn)) (.Name n p1) (tVar i))
    (ha : PA (X.suite ad ((ad, oe) :: pn)) es ta) (hta : ∀ σ H Q, Q ((zs.map T.ca).map V.ref) H → ta σ H Q) (hsz : zs.length ≤ 100 := by decide) (hy : ∀ y ∈ zs, y ∈ ys := by decide) (hg : Gl X "isinstance" := by rfl)
    (he : starEach [.Name n p1, .Tuple es k p2] X.env = (false, eval (.Name n p1) X.env) :: starEach [.Tuple es k p2] X.env := by rfl) :
    PE (X.suite ad ((ad, oe) :: pn)) (.Call (.Name "isinstance" p) [.Name n p1, .Tuple es k p2] [] pos) (tG T W (.ises i zs)) :=
  (pe_callB (call_isET (cl.one x (cl.sub x hx).1).e hz hv) hg bi.isinstance (by decide +kernel) (pa_cons hn (pa_cons (pe_tup ha) pa_nil) he) (by decide) (by decide) he rfl).imp fun σ H Q ⟨B, Γ, hs, p⟩ => by
    have p' : Post T W σ B H ((xslot T Γ i).bind fun x => .ok (.bool (zs.any (subX x)))) Q := p
    rcases xslot_or (T := T) i (Γ := Γ) with ⟨z, e⟩ | e
    · rw [e] at p'
      obtain ⟨rfl, h1⟩ := xslot_inv hs hT e
      refine ⟨_, h1, hta σ H _ ⟨?_, fun tp htp => ⟨tp, zs.map T.ca, zs.any (subX z), rfl, upd_same, kit_any cl hx hy, ?_⟩⟩⟩
      · rw [List.length_map, List.length_map, sizeLine_eq]
        omega
      · have p2 : Post T W σ B (upd H tp (.tup ((zs.map T.ca).map V.ref))) (.ok (.bool (zs.any (subX z)))) Q := Post.step p' (.new hs.ex htp)
        exact Post.here (d := .bool _) (ex_trans hs.ex (ex_new htp)) p2 (.bl _)
    · rw [e] at p'
      exact p'.elim
end
end
end TD

/-! TD13: a def by its body's data. -/
namespace TD
open PySem PySem.Spec PyProof.Rows L2

def startE (N : List Str) (ds : List D) : Env := (ds.map fun d => some (Sl.fz d)) ++ List.replicate (N.length - ds.length) none
def gdOf (o : Out) : GD := { nx := fun _ => o = .ret (.im .none), rt := fun x => x = o, ex := fun x _ => o = .exc x }
/-- a def that stands at a name and keeps the promise of φ -/
structure Cal (P : Program) (w : World) (K : PySem.W.Frag) (mg : Str → Option Value) (base : Heap) (ca : Nat → Addr) (x : Str) (φ : List D → Option Out) (k : Nat) : Prop where
  ex : ∃ f fd ps, FnOk P w K mg base (L2.CX P w) k f fd ps (spOf ca φ) ∧ mg x = some (.ref f) ∧ PySem.W.keepIn K (.ref f) = true ∧ Binds K fd ps []
theorem Cal.at {X : Cx} {T : Tb} {x : Str} {φ : List D → Option Out} {j k n : Nat} (c : Cal X.prog X.w X.K X.mg X.base T.ca x φ j) (hr : Room k X.A) (hj : j ≤ k := by decide) (h : T.fs[n]? = some φ := by rfl) : Callee X T n x := by
  obtain ⟨f, fd, ps, F, g, kp, b⟩ := c.ex
  exact ⟨φ, f, fd, ps, j, h, F, hr.mono hj, g, kp, b⟩
section
variable {P : Program} {w : World} {K : PySem.W.Frag} {mg : Str → Option Value} {base : Heap} {T : Tb}
theorem sk_start {H b : Hp} {N : List Str} {vs : List V} {ds : List D} (ex : Ex b H) (r : RpA b vs ds) : So b H b (startE N ds) (L2.start N vs) H := by
  have hl := r.len
  refine ⟨⟨?_, ex_refl _, ex, fun _ => [], fun _ _ _ _ hp => (by cases hp), fun _ _ hp => (by cases hp), fun i s e => ?_⟩, fun j kvs e => ?_, ex_refl _, ex_refl _, ex, fun _ _ _ _ z => z⟩
  · unfold startE L2.start
    simp only [List.length_append, List.length_map, List.length_replicate]
    omega
  · have hi : i < ds.length := by
      by_cases q : i < ds.length
      · exact q
      · unfold startE at e
        rw [List.getElem?_append_right (by simp; omega), List.getElem?_replicate] at e
        split at e <;> cases e
    have e' : ds[i]? = some ds[i] := List.getElem?_eq_getElem hi
    unfold startE at e
    rw [List.getElem?_append_left (by simp; exact hi), List.getElem?_map, e'] at e
    cases e
    obtain ⟨v, hv, rv⟩ := r.get e'
    refine ⟨v, ?_, rv⟩
    unfold L2.start
    rw [List.getElem?_append_left (by simp; omega), List.getElem?_map, hv]
    rfl
  · unfold startE at e
    by_cases q : j < ds.length
    · rw [List.getElem?_append_left (by simp; exact q), List.getElem?_map, List.getElem?_eq_getElem q] at e
      cases e
    · rw [List.getElem?_append_right (by simp; omega), List.getElem?_replicate] at e
      split at e <;> cases e
theorem fn_data {x qual : Str} {st : Stmt} {f : Addr} {fd : FuncData} {N ps : List Str} {k : Nat} {φ : List D → Option Out} {g : GSs} (F : Fun K qual qual st f fd) (gm : mg x = some (.ref f)) (bd : Binds K fd ps []) (S : FnScope N ps (defScope st)) (ar : ∀ ds o, φ ds = some o → ds.length = ps.length)
    (hb : ∀ (cdv : Value) (A : Around) (outer : List PySem.Env) (s : Shared) (H : Hp) (E : XK), Room k (A.deeper (envOfC qual (defScope st) s.heap.objs.size f cdv)) →
      PSs (cxOf (L2.CX P w) P w K mg base N qual (defScope st) f cdv A outer s H E) (defBody st) (tSs T (fun cls d _ H => E cls d H) g))
    (hw : ∀ ds o, φ ds = some o → wpSs T g (gdOf o) (startE N ds)) : Cal P w K mg base T.ca x φ (k + 1) := by
  refine ⟨f, fd, ps, F.okX S (fun vs H Q E h => ?_) (fun cdv A outer s H vs Q E hr h => ⟨_, hb cdv A outer s H E hr, ?_⟩), gm, F.kp, bd⟩
  · obtain ⟨b, ds, ex, r, q⟩ := h
    cases e : φ ds with
    | none => rw [e] at q; exact q.elim
    | some o => rw [r.len, ar ds o e]
  · obtain ⟨b, ds, ex, r, q⟩ := h
    cases e : φ ds with
    | none => rw [e] at q; exact q.elim
    | some o =>
      rw [e] at q
      refine ⟨b, H, b, _, gdOf o, sk_start ex r, hw ds o e, ⟨fun B1 Γ1 σ1 H1 so1 z => ?_, fun r v f B1 H1 s1 o1 n1 k1 i1 z => ?_, fun x v B1 H1 s1 r1 z => ?_, fun x B1 Γ1 σ1 H1 so1 z => ?_, fun r v f B1 H1 s1 o1 n1 k1 z => ?_, fun p c x v B1 Γ1 σ1 H1 so1 _ _ _ z => ?_⟩⟩
      · have z' : o = .ret (.im .none) := z
        subst z'
        exact q .non [] B1 H1 so1.sp (fun _ hp => by cases hp) .nil (.im .non) rfl
      · have z' : .ret r = o := z
        subst z'
        exact q v f B1 H1 s1 k1 n1 o1 i1
      · have z' : .old x = o := z
        subst z'
        exact q v B1 H1 s1 r1
      · have z' : o = .exc x := z
        subst z'
        exact q B1 H1 so1.sp
      · have z' : .mx r = o := z
        subst z'
        exact q v f B1 H1 s1 k1 n1 o1
      · have z' : .mu p c x = o := z
        subst z'
        exact q.elim
end
end TD

/-! TD14: working out what a def's data reaches. -/
namespace TD
open PySem PySem.Spec PyProof.Rows L2

structure GD.Le (d d' : GD) : Prop where
  nx : ∀ Γ, d.nx Γ → d'.nx Γ
  rt : ∀ o, d.rt o → d'.rt o
  ex : ∀ x Γ, d.ex x Γ → d'.ex x Γ
theorem onR_mono {α : Type} {r : Rs α} {e e' : Nat → Prop} {k k' : α → Prop} (h : onR r e k) (he : ∀ x, e x → e' x) (hk : ∀ a, k a → k' a) : onR r e' k' := by
  cases r with
  | ok a => exact hk a h
  | err x => exact he x h
  | bad => exact h
theorem wpForL_mono {wb : GD → Env → Prop} (hwb : ∀ d d' Γ, wb d Γ → GD.Le d d' → wb d' Γ) {ws ts : List Nat} : ∀ (items : List (List D)) {d d' : GD} {Γ : Env}, wpForL wb d ws ts items Γ → GD.Le d d' → wpForL wb d' ws ts items Γ
  | [], _, _, _, h, l => l.nx _ h
  | it :: r, d, d', Γ, h, l => hwb { d with nx := fun Γ' => wpForL wb d ws ts r (wipeE Γ' ws) } _ _ h ⟨fun _ z => wpForL_mono hwb r z l, l.rt, l.ex⟩
theorem wpForO_mono {wb : GD → Env → Prop} (hwb : ∀ d d' Γ, wb d Γ → GD.Le d d' → wb d' Γ) {ws : List Nat} {t i : Nat} {p : Addr} {ds : List D} : ∀ (items : List D) {d d' : GD} {Γ : Env}, wpForO wb d ws t i p ds items Γ → GD.Le d d' → wpForO wb d' ws t i p ds items Γ
  | [], _, _, _, h, l => l.nx _ h
  | x :: r, d, d', Γ, h, l => hwb { d with nx := fun Γ' => Γ'[i]? = some (some (.pin p ds)) ∧ (wipeE Γ' ws)[i]? = some (some (.pin p ds)) ∧ wpForO wb d ws t i p ds r (wipeE Γ' ws) } _ _ h ⟨fun _ z => ⟨z.1, z.2.1, wpForO_mono hwb r z.2.2 l⟩, l.rt, l.ex⟩
theorem wpWhl_mono {T : Tb} {wb : GD → Env → Prop} (hwb : ∀ d d' Γ, wb d Γ → GD.Le d d' → wb d' Γ) {ws : List Nat} {c : GE} : ∀ (n : Nat) {d d' : GD} {Γ : Env}, wpWhl T wb d ws c n Γ → GD.Le d d' → wpWhl T wb d' ws c n Γ
  | 0, _, _, _, h, _ => h
  | n + 1, d, d', Γ, h, l => onR_mono h (fun x z => l.ex _ _ z) fun b z => by
    cases b with
    | bool b => cases b with
      | true => exact hwb { d with nx := fun Γ' => wpWhl T wb d ws c n (wipeE Γ' ws) } _ _ z ⟨fun _ y => wpWhl_mono hwb n y l, l.rt, l.ex⟩
      | false => exact l.nx _ z
    | _ => exact z
mutual
theorem wpS_mono : ∀ (s : GS) {T : Tb} {d d' : GD} {Γ : Env}, TD.wpS T s d Γ → GD.Le d d' → TD.wpS T s d' Γ
  | .asgV i e, _, _, _, _, h, l => onR_mono h (fun _ z => l.ex _ _ z) fun _ z => ⟨z.1, l.nx _ z.2⟩
  | .asgS i e, _, _, _, _, h, l => onR_mono h (fun _ z => l.ex _ _ z) fun _ z => l.nx _ z
  | .asgF i g, _, _, _, _, h, l => onR_mono h (fun _ z => l.ex _ _ z) fun _ z => ⟨z.1, l.nx _ z.2⟩
  | .asgFS i g, _, _, _, _, h, l => onR_mono h (fun _ z => l.ex _ _ z) fun _ z => l.nx _ z
  | .asgR i r, _, _, _, _, h, l => onR_mono h (fun _ z => l.ex _ _ z) fun _ z => l.nx _ z
  | .asgD i, _, _, _, _, h, l => l.nx _ h
  | .appV i e, _, _, _, _, ⟨ds, h1, h2⟩, l => ⟨ds, h1, onR_mono h2 (fun _ z => l.ex _ _ z) fun _ z => ⟨z.1, z.2.1, l.nx _ z.2.2⟩⟩
  | .appS i e, _, _, _, _, ⟨ds, h1, h2⟩, l => ⟨ds, h1, onR_mono h2 (fun _ z => l.ex _ _ z) fun _ z => ⟨z.1, l.nx _ z.2⟩⟩
  | .rev i, _, _, _, _, ⟨ds, h1, h2⟩, l => ⟨ds, h1, l.nx _ h2⟩
  | .dset i k e, _, _, _, _, ⟨ds, h1, h2⟩, l => ⟨ds, h1, onR_mono h2 (fun _ z => l.ex _ _ z) fun _ z => ⟨z.1, onR_mono z.2 (fun _ z => l.ex _ _ z) fun _ ⟨j, y1, y2, y3⟩ => ⟨j, y1, y2, l.nx _ y3⟩⟩⟩
  | .dpop i k, _, _, _, _, ⟨ds, h1, h2⟩, l => ⟨ds, h1, onR_mono h2 (fun _ z => l.ex _ _ z) fun _ ⟨j, y1, y2, y3⟩ => ⟨j, y1, y2, l.nx _ y3⟩⟩
  | .setI i k e, _, _, _, _, ⟨ds, h1, h2⟩, l => ⟨ds, h1, onR_mono h2 (fun _ z => l.ex _ _ z) fun _ z => ⟨z.1, onR_mono z.2 (fun _ z => l.ex _ _ z) fun _ ⟨j, y1, y2, y3, y4⟩ => ⟨j, y1, y2, y3, l.nx _ y4⟩⟩⟩
  | .popApp i j k, _, _, _, _, ⟨ds, es, h0, h1, h2, h3⟩, l => ⟨ds, es, h0, h1, h2, onR_mono h3 (fun _ z => l.ex _ _ z) fun _ ⟨m, v, y1, y2, y3, y4, y5, y6⟩ => ⟨m, v, y1, y2, y3, y4, y5, l.nx _ y6⟩⟩
  | .frz i s, _, _, _, _, ⟨r, h1, h2⟩, l => ⟨r, h1, wpS_mono s h2 l⟩
  | .mutA p e, _, _, _, _, ⟨i, m, r, ds, h1, h2⟩, l => ⟨i, m, r, ds, h1, onR_mono h2 (fun _ z => l.ex _ _ z) fun _ z => ⟨z.1, z.2.1, l.nx _ z.2.2⟩⟩
  | .mutC p, _, _, _, _, ⟨i, m, r, ds, h1, h2⟩, l => ⟨i, m, r, ds, h1, l.nx _ h2⟩
  | .mutS p k e, _, _, _, _, ⟨i, m, r, ds, h1, h2⟩, l => ⟨i, m, r, ds, h1, onR_mono h2 (fun _ z => l.ex _ _ z) fun _ z => ⟨z.1, onR_mono z.2 (fun _ z => l.ex _ _ z) fun _ ⟨j, y1, y2, y3, y4⟩ => ⟨j, y1, y2, y3, l.nx _ y4⟩⟩⟩
  | .tmpApp r e, _, _, _, _, h, l => onR_mono h (fun _ z => l.ex _ _ z) fun _ ⟨ds, z1, z2⟩ => ⟨ds, z1, onR_mono z2 (fun _ z => l.ex _ _ z) fun _ z => ⟨z.1, z.2.1, l.nx _ z.2.2⟩⟩
  | .expr e, _, _, _, _, h, l => onR_mono h (fun _ z => l.ex _ _ z) fun _ z => l.nx _ z
  | .ifs c a b, _, _, _, _, h, l => onR_mono h (fun _ z => l.ex _ _ z) fun v z => by
    cases v with
    | bool q => cases q with
      | true => exact wpSs_mono a z l
      | false => exact wpSs_mono b z l
    | _ => exact z
  | .for_ ws ts gi body, T, _, _, _, h, l => onR_mono h (fun _ z => l.ex _ _ z) fun items z => wpForL_mono (wb := fun d' Γ' => wpSs T body d' Γ') (fun _ _ _ y m => wpSs_mono body y m) items z l
  | .forR ws t a body, T, _, _, _, ⟨n, h1, h2, h3⟩, l => ⟨n, h1, h2, wpForL_mono (wb := fun d' Γ' => wpSs T body d' Γ') (fun _ _ _ y m => wpSs_mono body y m) _ h3 l⟩
  | .forO ws t i body, T, _, _, _, ⟨ds, h1, h2⟩, l => ⟨ds, h1, fun p => ⟨(h2 p).1, wpForO_mono (wb := fun d' Γ' => wpSs T body d' Γ') (fun _ _ _ y m => wpSs_mono body y m) ds (h2 p).2 l⟩⟩
  | .whl ws c body, T, d, d', Γ, ⟨n, h⟩, l => ⟨n, wpWhl_mono (T := T) (wb := fun d' Γ' => wpSs T body d' Γ') (fun _ _ _ y m => wpSs_mono body y m) n h l⟩
  | .ret r, _, _, _, _, h, l => onR_mono h (fun _ z => l.ex _ _ z) fun _ z => l.rt _ z
  | .retMv i, _, _, _, _, ⟨r, h1, h2, h3⟩, l => ⟨r, h1, h2, l.rt _ h3⟩
  | .retTwo tup i j, _, _, _, _, ⟨r, q, h0, h1, h2, h3, h4, h5⟩, l => ⟨r, q, h0, h1, h2, h3, h4, l.rt _ h5⟩
  | .retOld e, _, _, _, _, h, l => onR_mono h (fun _ z => l.ex _ _ z) fun _ z => l.rt _ z
  | .retC j es i, _, _, _, _, ⟨r, h1, h2, h3, ds, r', h4, h5, h6⟩, l => ⟨r, h1, h2, h3, ds, r', h4, h5, l.rt _ h6⟩
  | .setP i k e, _, _, _, _, ⟨p, ds, h1, h2⟩, l => ⟨p, ds, h1, onR_mono h2 (fun _ z => l.ex _ _ z) fun _ z => ⟨z.1, onR_mono z.2 (fun _ z => l.ex _ _ z) fun _ ⟨j, y1, y2, y3, y4⟩ => ⟨j, y1, y2, y3, l.nx _ y4⟩⟩⟩
  | .dsetP i k e, _, _, _, _, ⟨p, ds, h1, h2⟩, l => ⟨p, ds, h1, onR_mono h2 (fun _ z => l.ex _ _ z) fun _ z => ⟨z.1, onR_mono z.2 (fun _ z => l.ex _ _ z) fun _ ⟨j, y1, y2, y3⟩ => ⟨j, y1, y2, l.nx _ y3⟩⟩⟩
  | .dpopP i k, _, _, _, _, ⟨p, ds, h1, h2⟩, l => ⟨p, ds, h1, onR_mono h2 (fun _ z => l.ex _ _ z) fun _ ⟨j, y1, y2, y3⟩ => ⟨j, y1, y2, l.nx _ y3⟩⟩
  | .callM t i j es, _, _, _, _, ⟨c, ds, c', x, h1, h2, h3, h4, h5⟩, l => ⟨c, ds, c', x, h1, h2, h3, h4, l.nx _ h5⟩
  | .ifM n i j es a b, _, _, _, _, ⟨c, ds, c', x, h1, h2, h3, h4, h5, h6⟩, l => ⟨c, ds, c', x, h1, h2, h3, h4, fun e => wpSs_mono a (h5 e) l, fun e => wpSs_mono b (h6 e) l⟩
  | .retM j es, _, _, _, _, ⟨p, c, ds, c', x, h1, h2, h3, h4, h5⟩, l => ⟨p, c, ds, c', x, h1, h2, h3, h4, l.rt _ h5⟩
  | .retP e, _, _, _, _, h, l => onR_mono h (fun _ z => l.ex _ _ z) fun _ ⟨z1, p, c, z2, z3⟩ => ⟨z1, p, c, z2, l.rt _ z3⟩
  | .retK j es i fs e, _, _, _, _, ⟨r, h1, h2, h3, ds1, ds2, b, h4, h5, h6, h7, h8⟩, l => ⟨r, h1, h2, h3, ds1, ds2, b, h4, h5, h6, fun z => l.rt _ (h7 z), fun z => let ⟨c, y1, y2⟩ := h8 z; ⟨c, y1, l.rt _ y2⟩⟩
  | .retA w e i, _, _, _, _, ⟨r, h1, h2, h3⟩, l => ⟨r, h1, h2, onR_mono h3 (fun _ z => l.ex _ _ z) fun _ z => ⟨z.1, l.rt _ z.2⟩⟩
  | .retB g i, _, _, _, _, ⟨r, h1, h2, h3⟩, l => ⟨r, h1, h2, onR_mono h3 (fun _ z => l.ex _ _ z) fun _ z => ⟨z.1, l.rt _ z.2⟩⟩
  | .appR i g, _, _, _, _, ⟨rs, h1, h2, h3⟩, l => ⟨rs, h1, h2, onR_mono h3 (fun _ z => l.ex _ _ z) fun _ z => l.nx _ z⟩
  | .retX w j, _, _, _, _, ⟨x, h1, h2⟩, l => ⟨x, h1, l.rt _ h2⟩
  | .retY w i, _, _, _, _, ⟨r, h1, h2⟩, l => ⟨r, h1, l.rt _ h2⟩
  | .held i ks s, _, d, d', _, ⟨r, h1, h2, h3⟩, l => ⟨r, h1, h2, fun b b' v vs => wpS_mono s (h3 b b' v vs) ⟨fun _ ⟨z1, Γ2, z2, z3⟩ => ⟨z1, Γ2, z2, l.nx _ z3⟩, l.rt, fun _ _ z => z⟩⟩
  | .raise_ x, _, _, _, _, h, l => l.ex _ _ h
  | .try_ body hs, T, d, d', _, h, l => wpSs_mono body (d := { d with ex := fun x Γ' => wpH T hs d x Γ' }) h ⟨l.nx, l.rt, fun x Γ z => wpH_mono hs z l⟩
  | .tryAs i y body suite, T, d, d', _, h, l => wpSs_mono body (d := { d with ex := fun x Γ' => x ∈ T.xs ∧ (subX x y = true → ∀ a : Addr, wpSs { T with xe := some (a, x) } suite { d with ex := fun _ _ => False, nx := fun Γ2 => d.nx (Γ2.set i none) } (Γ'.set i (some (.xc a x)))) ∧ (subX x y = false → d.ex x Γ') }) h ⟨l.nx, l.rt, fun x Γ z => ⟨z.1, fun e a => wpSs_mono suite (z.2.1 e a) ⟨fun _ z2 => l.nx _ z2, l.rt, fun _ _ z2 => z2⟩, fun e => l.ex _ _ (z.2.2 e)⟩⟩
theorem wpSs_mono : ∀ (s : GSs) {T : Tb} {d d' : GD} {Γ : Env}, wpSs T s d Γ → GD.Le d d' → wpSs T s d' Γ
  | .nil, _, _, _, _, h, l => l.nx _ h
  | .dy t u j es a r, _, _, _, _, ⟨h0, rs, ds, w, q, ch, h1, h2, h3, h4, h5⟩, l => ⟨h0, rs, ds, w, q, ch, h1, h2, h3, h4, wpSs_mono r h5 l⟩
  | .brw t i k g r, _, _, _, _, ⟨h0, rs, j, ds, new, h1, h2, h3, h4, h5, h6, h7, h8⟩, l => ⟨h0, rs, j, ds, new, h1, h2, h3, h4, h5, h6, h7, wpSs_mono r h8 l⟩
  | .cons s r, T, d, d', _, h, l => wpS_mono s (d := { d with nx := fun Γ' => wpSs T r d Γ' }) h ⟨fun _ z => wpSs_mono r z l, l.rt, l.ex⟩
theorem wpH_mono : ∀ (s : GHs) {T : Tb} {d d' : GD} {x : Nat} {Γ : Env}, wpH T s d x Γ → GD.Le d d' → wpH T s d' x Γ
  | .nil, _, _, _, _, _, h, l => l.ex _ _ h
  | .cons y s r, T, d, d', _, _, ⟨h1, h2, h3⟩, l => ⟨h1, fun e => wpSs_mono s (d := { d with ex := fun _ _ => False }) (h2 e) ⟨l.nx, l.rt, fun _ _ z => z⟩, fun e => wpH_mono r (h3 e) l⟩
end
/-- what is known between two statements -/
theorem wp_cut {T : Tb} {s : GS} {r : GSs} {d : GD} {Γ : Env} (Q : Env → Prop) (h : TD.wpS T s { d with nx := Q } Γ) (k : ∀ Γ', Q Γ' → wpSs T r d Γ') : wpSs T (.cons s r) d Γ := wpS_mono s h ⟨k, fun _ z => z, fun _ _ z => z⟩
theorem for_go {T : Tb} {ws ts : List Nat} {body : GSs} {d : GD} (I : List (List D) → Env → Prop)
    (hs : ∀ it r Γ, I (it :: r) Γ → wpSs T body { d with nx := fun Γ' => I r (wipeE Γ' ws) } (setTs Γ ts it)) (h1 : ∀ Γ, I [] Γ → d.nx Γ) : ∀ (r : List (List D)) (Γ0 : Env), I r Γ0 → wpForL (fun d' Γ' => wpSs T body d' Γ') d ws ts r Γ0
  | [], Γ0, z => h1 _ z
  | it :: r, Γ0, z => wpSs_mono body (hs it r Γ0 z) ⟨fun Γ' y => for_go I hs h1 r _ y, fun _ z => z, fun _ _ z => z⟩
/-- a loop over a list, by what is known ahead of the rest -/
theorem wp_for {T : Tb} {ws ts : List Nat} {gi : GI} {body : GSs} {d : GD} {Γ : Env} {items : List (List D)} (I : List (List D) → Env → Prop) (he : evI T (stab Γ) gi = .ok items) (h0 : I items (wipeE Γ ws))
    (hs : ∀ it r Γ, I (it :: r) Γ → wpSs T body { d with nx := fun Γ' => I r (wipeE Γ' ws) } (setTs Γ ts it)) (h1 : ∀ Γ, I [] Γ → d.nx Γ) : TD.wpS T (.for_ ws ts gi body) d Γ := by
  show onR (evI T (stab Γ) gi) _ _
  rw [he]
  exact for_go I hs h1 items _ h0
theorem whl_go {T : Tb} {ws : List Nat} {c : GE} {body : GSs} {d : GD} (I : Nat → Env → Prop)
    (hs : ∀ n Γ, I n Γ → (∃ m, n = m + 1 ∧ ev T (view Γ) c = .ok (.bool true) ∧ wpSs T body { d with nx := fun Γ' => I m (wipeE Γ' ws) } Γ) ∨ (ev T (view Γ) c = .ok (.bool false) ∧ d.nx Γ)) : ∀ (n : Nat) (Γ : Env), I n Γ → wpWhl T (fun d' Γ' => wpSs T body d' Γ') d ws c (n + 1) Γ
  | n, Γ, z => by
    show onR (ev T (view Γ) c) _ _
    rcases hs n Γ z with ⟨m, rfl, e, w⟩ | ⟨e, w⟩
    · rw [e]
      exact wpSs_mono body w ⟨fun Γ' y => whl_go I hs m _ y, fun _ z => z, fun _ _ z => z⟩
    · rw [e]
      exact w
/-- a loop while, by what is known with at most n rounds to go -/
theorem wp_whl {T : Tb} {ws : List Nat} {c : GE} {body : GSs} {d : GD} {Γ : Env} (I : Nat → Env → Prop) (n : Nat) (h0 : I n (wipeE Γ ws))
    (hs : ∀ n Γ, I n Γ → (∃ m, n = m + 1 ∧ ev T (view Γ) c = .ok (.bool true) ∧ wpSs T body { d with nx := fun Γ' => I m (wipeE Γ' ws) } Γ) ∨ (ev T (view Γ) c = .ok (.bool false) ∧ d.nx Γ)) : TD.wpS T (.whl ws c body) d Γ :=
  ⟨n + 1, whl_go I hs n _ h0⟩

/-! ### to work out by rewriting -/
def isT (v : D) (A B : Prop) : Prop := match v with
  | .bool true => A
  | .bool false => B
  | _ => False
theorem isT_iff {b : Bool} {A B : Prop} : isT (.bool b) A B ↔ (b = true → A) ∧ (b = false → B) := by
  cases b with
  | true => exact ⟨fun h => ⟨fun _ => h, fun z => nomatch z⟩, fun h => h.1 rfl⟩
  | false => exact ⟨fun h => ⟨fun z => (nomatch z), fun _ => h⟩, fun h => h.2 rfl⟩
section
variable {T : Tb} {d : GD} {Γ : Env}
@[simp] theorem w_nil : wpSs T .nil d Γ = d.nx Γ := rfl
@[simp] theorem w_cons {s : GS} {r : GSs} : wpSs T (.cons s r) d Γ = TD.wpS T s { d with nx := fun Γ' => wpSs T r d Γ' } Γ := rfl
@[simp] theorem w_brw {t i : Nat} {k : GE} {g : GF} {r : GSs} : wpSs T (.brw t i k g r) d Γ = (t ≠ i ∧ ∃ rs j ds new, ownR Γ i = some (.on rs) ∧ ev T (view Γ) k = .ok (.int j) ∧ 0 ≤ j ∧ rs[j.toNat]? = some (.ol ds) ∧ evF T ((view Γ).set t (some (.fz (.list ds)))) g = .ok new ∧ immA new = true ∧ rs.length < 16777216 ∧ wpSs T r d ((Γ.set t none).set i (some (.own (.on (rs ++ [.ol new])))))) := rfl
@[simp] theorem w_ifs {c : GE} {a b : GSs} : TD.wpS T (.ifs c a b) d Γ = onR (ev T (view Γ) c) (fun x => d.ex x Γ) fun v => isT v (wpSs T a d Γ) (wpSs T b d Γ) := by
  show onR _ _ _ = onR _ _ _
  congr 1
@[simp] theorem w_asgV {i : Nat} {e : GE} : TD.wpS T (.asgV i e) d Γ = onR (ev T (view Γ) e) (fun x => d.ex x Γ) fun v => TD.imm v = true ∧ d.nx (Γ.set i (some (.fz v))) := rfl
@[simp] theorem w_asgS {i : Nat} {e : GE} : TD.wpS T (.asgS i e) d Γ = onR (ev T (stab Γ) e) (fun x => d.ex x Γ) fun v => d.nx (Γ.set i (some (.fz v))) := rfl
@[simp] theorem w_asgF {i : Nat} {e : GF} : TD.wpS T (.asgF i e) d Γ = onR (evF T (view Γ) e) (fun x => d.ex x Γ) fun v => immA v = true ∧ d.nx (Γ.set i (some (.own (.ol v)))) := rfl
@[simp] theorem w_asgFS {i : Nat} {e : GF} : TD.wpS T (.asgFS i e) d Γ = onR (evF T (stab Γ) e) (fun x => d.ex x Γ) fun v => d.nx (Γ.set i (some (.own (.ol v)))) := rfl
@[simp] theorem w_asgR {i : Nat} {e : GR} : TD.wpS T (.asgR i e) d Γ = onR (evR T Γ e) (fun x => d.ex x Γ) fun v => d.nx (Γ.set i (some (.own v))) := rfl
@[simp] theorem w_asgD {i : Nat} : TD.wpS T (.asgD i) d Γ = d.nx (Γ.set i (some (.dc true []))) := rfl
@[simp] theorem w_expr {e : GE} : TD.wpS T (.expr e) d Γ = onR (ev T (view Γ) e) (fun x => d.ex x Γ) fun _ => d.nx Γ := rfl
@[simp] theorem w_ret {r : GR} : TD.wpS T (.ret r) d Γ = onR (evR T Γ r) (fun x => d.ex x Γ) fun r => d.rt (.ret r) := rfl
@[simp] theorem w_retOld {e : GE} : TD.wpS T (.retOld e) d Γ = onR (ev T (stab Γ) e) (fun x => d.ex x Γ) fun r => d.rt (.old r) := rfl
@[simp] theorem w_raise {x : Nat} : TD.wpS T (.raise_ x) d Γ = d.ex x Γ := rfl
@[simp] theorem w_appV {i : Nat} {e : GE} : TD.wpS T (.appV i e) d Γ = ∃ ds, ownL Γ i = some ds ∧ onR (ev T (view Γ) e) (fun x => d.ex x Γ) fun v => TD.imm v = true ∧ ds.length < 16777216 ∧ d.nx (Γ.set i (some (.own (.ol (ds ++ [v]))))) := rfl
@[simp] theorem w_appS {i : Nat} {e : GE} : TD.wpS T (.appS i e) d Γ = ∃ ds, ownL Γ i = some ds ∧ onR (ev T (stab Γ) e) (fun x => d.ex x Γ) fun v => ds.length < 16777216 ∧ d.nx (Γ.set i (some (.own (.ol (ds ++ [v]))))) := rfl
@[simp] theorem w_rev {i : Nat} : TD.wpS T (.rev i) d Γ = ∃ ds, ownL Γ i = some ds ∧ d.nx (Γ.set i (some (.own (.ol ds.reverse)))) := rfl
@[simp] theorem w_dset {i : Nat} {k e : GE} : TD.wpS T (.dset i k e) d Γ = ∃ kvs, ownD Γ i = some kvs ∧ onR (ev T (view Γ) e) (fun x => d.ex x Γ) fun v => TD.imm v = true ∧ onR (ev T (view Γ) k) (fun x => d.ex x Γ) fun n => ∃ j, n = .int j ∧ kvs.length < 16777216 ∧ d.nx (Γ.set i (some (.dc true (dput kvs j v)))) := rfl
@[simp] theorem w_setI {i : Nat} {k e : GE} : TD.wpS T (.setI i k e) d Γ = ∃ ds, ownL Γ i = some ds ∧ onR (ev T (view Γ) e) (fun x => d.ex x Γ) fun v => TD.imm v = true ∧ onR (ev T (view Γ) k) (fun x => d.ex x Γ) fun n => ∃ j, n = .int j ∧ 0 ≤ j ∧ j < ds.length ∧ d.nx (Γ.set i (some (.own (.ol (ds.set j.toNat v))))) := rfl
@[simp] theorem w_frz {i : Nat} {s : GS} : TD.wpS T (.frz i s) d Γ = ∃ r, ownR Γ i = some r ∧ TD.wpS T s d (Γ.set i (some (.fz r.toD))) := rfl
@[simp] theorem w_mutA {p : GP} {e : GE} : TD.wpS T (.mutA p e) d Γ = ∃ i l r ds, ownP T Γ p i l r ds ∧ onR (ev T (view Γ) e) (fun x => d.ex x Γ) fun v => TD.imm v = true ∧ ds.length < 16777216 ∧ d.nx (Γ.set i (some (.own (R.put r l (.ol (ds ++ [v])))))) := rfl
@[simp] theorem w_mutC {p : GP} : TD.wpS T (.mutC p) d Γ = ∃ i l r ds, ownP T Γ p i l r ds ∧ d.nx (Γ.set i (some (.own (R.put r l (.ol []))))) := rfl
@[simp] theorem w_mutS {p : GP} {k e : GE} : TD.wpS T (.mutS p k e) d Γ = ∃ i l r ds, ownP T Γ p i l r ds ∧ onR (ev T (view Γ) e) (fun x => d.ex x Γ) fun v => TD.imm v = true ∧ onR (ev T (view Γ) k) (fun x => d.ex x Γ) fun n => ∃ j, n = .int j ∧ 0 ≤ j ∧ j < ds.length ∧ d.nx (Γ.set i (some (.own (R.put r l (.ol (ds.set j.toNat v)))))) := rfl
@[simp] theorem w_tmpApp {r : GR} {e : GE} : TD.wpS T (.tmpApp r e) d Γ = onR (evR T Γ r) (fun x => d.ex x Γ) fun q => ∃ ds, q = .ol ds ∧ onR (ev T (view Γ) e) (fun x => d.ex x Γ) fun v => TD.imm v = true ∧ ds.length < 16777216 ∧ d.nx Γ := rfl
@[simp] theorem w_popApp {i j : Nat} {k : GE} : TD.wpS T (.popApp i j k) d Γ = ∃ ds es, i ≠ j ∧ ownL Γ i = some ds ∧ ownL Γ j = some es ∧ onR (ev T (view Γ) k) (fun x => d.ex x Γ) fun n => ∃ m v, n = .int m ∧ 0 ≤ m ∧ m < 2 ^ 63 ∧ es[m.toNat]? = some v ∧ ds.length < 16777216 ∧ d.nx ((Γ.set j (some (.own (.ol (es.eraseIdx m.toNat))))).set i (some (.own (.ol (ds ++ [v]))))) := rfl
@[simp] theorem w_retMv {i : Nat} : TD.wpS T (.retMv i) d Γ = ∃ r, ownR Γ i = some r ∧ r.imm = true ∧ d.rt (.ret r) := rfl
@[simp] theorem w_retTwo {tup : Bool} {i j : Nat} : TD.wpS T (.retTwo tup i j) d Γ = ∃ r q, i ≠ j ∧ ownR Γ i = some r ∧ ownR Γ j = some q ∧ r.imm = true ∧ q.imm = true ∧ d.rt (.ret (if tup then .ot [r, q] else .on [r, q])) := rfl
@[simp] theorem w_try {b : GSs} {hs : GHs} : TD.wpS T (.try_ b hs) d Γ = wpSs T b { d with ex := fun x Γ' => wpH T hs d x Γ' } Γ := rfl
@[simp] theorem w_tryAs {i y : Nat} {b s : GSs} : TD.wpS T (.tryAs i y b s) d Γ = wpSs T b { d with ex := fun x Γ' => x ∈ T.xs ∧ (subX x y = true → ∀ a : Addr, wpSs { T with xe := some (a, x) } s { d with ex := fun _ _ => False, nx := fun Γ2 => d.nx (Γ2.set i none) } (Γ'.set i (some (.xc a x)))) ∧ (subX x y = false → d.ex x Γ') } Γ := rfl
@[simp] theorem w_setP {i : Nat} {k e : GE} : TD.wpS T (.setP i k e) d Γ = ∃ p ds, ownM Γ i = some (p, .l ds) ∧ onR (ev T (view Γ) e) (fun x => d.ex x Γ) fun v => TD.imm v = true ∧ onR (ev T (view Γ) k) (fun x => d.ex x Γ) fun n => ∃ j, n = .int j ∧ 0 ≤ j ∧ j < ds.length ∧ d.nx (Γ.set i (some (.mp p (.l (ds.set j.toNat v))))) := rfl
@[simp] theorem w_dsetP {i : Nat} {k e : GE} : TD.wpS T (.dsetP i k e) d Γ = ∃ p kvs, ownM Γ i = some (p, .d kvs) ∧ onR (ev T (view Γ) e) (fun x => d.ex x Γ) fun v => TD.imm v = true ∧ onR (ev T (view Γ) k) (fun x => d.ex x Γ) fun n => ∃ j, n = .int j ∧ kvs.length < 16777216 ∧ d.nx (Γ.set i (some (.mp p (.d (dput kvs j v))))) := rfl
@[simp] theorem w_dpopP {i : Nat} {k : GE} : TD.wpS T (.dpopP i k) d Γ = ∃ p kvs, ownM Γ i = some (p, .d kvs) ∧ onR (ev T (view Γ) k) (fun x => d.ex x Γ) fun n => ∃ j, n = .int j ∧ (dget kvs j).isSome = true ∧ d.nx (Γ.set i (some (.mp p (.d (ddrop kvs j))))) := rfl
theorem w_retK {j i : Nat} {es fs : GEs} {e : GE} : TD.wpS T (.retK j es i fs e) d Γ = ∃ r, ownR Γ i = some r ∧ shp r.toD = r ∧ r.imm = true ∧ ∃ ds1 ds2 b, evs T (stab Γ) es = .ok ds1 ∧ evs T (stab Γ) fs = .ok ds2 ∧ callR T j (ds1 ++ r.toD :: ds2) = .ok (.im (.bool b)) ∧ (b = false → d.rt (.ret (.im (.bool false)))) ∧ (b = true → ∃ c, ev T (stab (Γ.set i none)) e = .ok (.bool c) ∧ d.rt (.ret (.im (.bool c)))) := rfl
theorem w_retA {w : Str} {e : GE} {i : Nat} : TD.wpS T (.retA w e i) d Γ = ∃ r, ownR Γ i = some r ∧ r.imm = true ∧ onR (ev T (view Γ) e) (fun x => d.ex x Γ) fun x => TD.imm x = true ∧ d.rt (.ret (.ot [.im (.str w), .im x, r])) := rfl
theorem w_retB {g : GF} {i : Nat} : TD.wpS T (.retB g i) d Γ = ∃ r, ownR Γ i = some r ∧ r.imm = true ∧ onR (evF T (view Γ) g) (fun x => d.ex x Γ) fun ds => immA ds = true ∧ d.rt (.ret (.ot [.ol ds, r.nrm])) := rfl
theorem w_appR {g : GR} {i : Nat} : TD.wpS T (.appR i g) d Γ = ∃ rs, ownR Γ i = some (.on rs) ∧ rs.length < 16777216 ∧ onR (evR T Γ g) (fun x => d.ex x Γ) fun q => d.nx (Γ.set i (some (.own (.on (rs ++ [q]))))) := rfl
theorem w_retX {w : Str} {j : Nat} : TD.wpS T (.retX w j) d Γ = ∃ x, (stab Γ)[j]? = some (some (.fz x)) ∧ d.rt (.mx (.ot [.im (.str w), .ot [.im x, .ol []]])) := rfl
theorem w_retY {w : Str} {i : Nat} : TD.wpS T (.retY w i) d Γ = ∃ r, ownR Γ i = some r ∧ d.rt (.mx (.ot [.im (.str w), r])) := rfl
theorem w_held {i : Nat} {ks : List Nat} {s : GS} : TD.wpS T (.held i ks s) d Γ = ∃ r, ownR Γ i = some r ∧ r.imm = true ∧ ∀ (b b' : Hp) (v : V) (vs : Nat → V), TD.wpS T s { d with ex := fun _ _ => False, nx := fun Γ1 => Γ1[i]? = some (some (.hv b' v r.toD)) ∧ ∃ Γ2, Thaw b Γ1 Γ2 ∧ d.nx (Γ2.set i (some (.own r))) } ((hvE b vs Γ ks).set i (some (.hv b' v r.toD))) := rfl
theorem w_dy {t u j : Nat} {es : GEs} {a : Nat} {r : GSs} : wpSs T (.dy t u j es a r) d Γ = ((t ≠ u ∧ t ≠ a ∧ u ≠ a ∧ t < Γ.length) ∧ ∃ rs ds w q ch, ownR Γ a = some (.on rs) ∧ evs T (stab Γ) es = .ok ds ∧ (T.fs[j]?.bind fun φ => φ ds) = some (.mx (.ot [.im (.str w), .ot [q, .ol ch]])) ∧ rs.length < 16777216 ∧ wpSs T r d (((Γ.set t none).set u (some (.fz q.toD))).set a (some (.own (.on (rs ++ [.ot [.im (.str w), .ol ch]])))))) := rfl
theorem w_callM {t : Option Nat} {i j : Nat} {es : GEs} : TD.wpS T (.callM t i j es) d Γ = ∃ c ds c' x, cnOf Γ i = some c ∧ evs T (stab Γ) es = .ok ds ∧ callM T j (c.enc :: ds) = some (c', x) ∧ c.alike c' ∧ d.nx (setO (putC Γ i c') t x) := rfl
theorem w_ifM {n : Bool} {i j : Nat} {es : GEs} {a b : GSs} : TD.wpS T (.ifM n i j es a b) d Γ = ∃ c ds c' x, cnOf Γ i = some c ∧ evs T (stab Γ) es = .ok ds ∧ callM T j (c.enc :: ds) = some (c', .bool x) ∧ c.alike c' ∧ (((n ^^ x) = true → wpSs T a d (putC Γ i c')) ∧ ((n ^^ x) = false → wpSs T b d (putC Γ i c'))) := rfl
theorem w_retM {j : Nat} {es : GEs} : TD.wpS T (.retM j es) d Γ = ∃ p c ds c' x, ownM Γ 0 = some (p, c) ∧ evs T (stab Γ) es = .ok ds ∧ callM T j (c.enc :: ds) = some (c', x) ∧ c.alike c' ∧ d.rt (.mu p c' x) := rfl
@[simp] theorem w_retP {e : GE} : TD.wpS T (.retP e) d Γ = onR (ev T (view Γ) e) (fun x => d.ex x Γ) fun x => TD.imm x = true ∧ ∃ p c, ownM Γ 0 = some (p, c) ∧ d.rt (.mu p c x) := rfl
@[simp] theorem w_hnil {x : Nat} : wpH T .nil d x Γ = d.ex x Γ := rfl
@[simp] theorem w_hcons {x y : Nat} {s : GSs} {r : GHs} : wpH T (.cons y s r) d x Γ = (x ∈ T.xs ∧ (subX x y = true → wpSs T s { d with ex := fun _ _ => False } Γ) ∧ (subX x y = false → wpH T r d x Γ)) := rfl
end
section
variable {α β : Type} {a : α} {x : Nat} {f : α → Rs β} {g : α → β} {e : Nat → Prop} {k : α → Prop} {i j : Int} {b c : Bool}
@[simp] theorem on_ok : onR (.ok a) e k = k a := rfl
@[simp] theorem on_err : onR (.err x : Rs α) e k = e x := rfl
@[simp] theorem bind_ok : (Rs.ok a).bind f = f a := rfl
@[simp] theorem bind_err : (Rs.err x : Rs α).bind f = .err x := rfl
@[simp] theorem map_ok : (Rs.ok a).map g = .ok (g a) := rfl
@[simp] theorem map_err : (Rs.err x : Rs α).map g = .err x := rfl
@[simp] theorem isT_b {A B : Prop} : isT (.bool b) A B ↔ (b = true → A) ∧ (b = false → B) := isT_iff
@[simp] theorem bin_i {o : BO} : binD o (.int i) (.int j) = bop o i j := rfl
@[simp] theorem bop_add : bop .add i j = .ok (.int (i + j)) := rfl
@[simp] theorem bop_sub : bop .sub i j = .ok (.int (i - j)) := rfl
theorem bop_mul (h : mulOk i j = true) : bop .mul i j = .ok (.int (i * j)) := by
  show (if mulOk i j = true then Rs.ok (PyData.int (i * j)) else Rs.bad) = _
  rw [if_pos h]
theorem mulOk_r (h1 : -(2 ^ 64) < j) (h2 : j < 2 ^ 64) : mulOk i j = true := by
  unfold mulOk
  rw [decide_eq_true (show j.natAbs < 18446744073709551616 by omega)]
  rfl
theorem mulOk_l (h1 : -(2 ^ 64) < i) (h2 : i < 2 ^ 64) : mulOk i j = true := by
  unfold mulOk
  rw [decide_eq_true (show i.natAbs < 18446744073709551616 by omega), Bool.or_true]
theorem bop_mod (h : 0 < j) : bop .mod i j = .ok (.int (i % j)) := by
  unfold bop; simp only [h, decide_true, if_true]
theorem bop_div (h : 0 < j) (h2 : j < 1073741824) : bop .div i j = .ok (.int (i / j)) := by
  unfold bop; simp only [h, show j.toNat < 1073741824 by omega, decide_true, Bool.and_true, if_true]
@[simp] theorem cmp_i {o : CO} : cmpD o (.int i) (.int j) = .ok (.bool (cop o i j)) := rfl
@[simp] theorem cop_lt : cop .lt i j = decide (i < j) := rfl
@[simp] theorem cop_le : cop .le i j = decide (i ≤ j) := rfl
@[simp] theorem cop_gt : cop .gt i j = decide (j < i) := rfl
@[simp] theorem cop_ge : cop .ge i j = decide (j ≤ i) := rfl
@[simp] theorem eq_i {n : Bool} : eqD n (.int i) (.int j) = .ok (.bool (n ^^ decide (i = j))) := rfl
@[simp] theorem eq_b {n : Bool} : eqD n (.bool b) (.bool c) = .ok (.bool (n ^^ decide (b = c))) := rfl
@[simp] theorem not_b : notD (.bool b) = .ok (.bool (!b)) := rfl
@[simp] theorem neg_i : negD (.int i) = .ok (.int (-i)) := rfl
@[simp] theorem abs_i : absD (.int i) = .ok (.int (if i < 0 then -i else i)) := rfl
@[simp] theorem len_l {ds : List D} : lenD (.list ds) = .ok (.int ds.length) := rfl
@[simp] theorem rs_some : Rs.of (some a) = .ok a := rfl
@[simp] theorem isn_i {n : Bool} : isnD n (.int i) = .ok (.bool (n ^^ false)) := rfl
@[simp] theorem isn_n {n : Bool} : isnD n .none = .ok (.bool (n ^^ true)) := rfl
@[simp] theorem isn_l {n : Bool} {ds : List D} : isnD n (.list ds) = .ok (.bool (n ^^ false)) := rfl
@[simp] theorem sum_l {ns : List Int} : sumD (.list (ns.map .int)) = .ok (.int ns.sum) := by
  simp only [sumD, decI_map]
@[simp] theorem inl_l {n : Bool} {ns : List Int} : inlD n (.int i) (.list (ns.map .int)) = .ok (.bool (n ^^ decide (i ∈ ns))) := by
  simp only [inlD, decI_map]
@[simp] theorem cnt_l {ns : List Int} : cntD (.list (ns.map .int)) (.int i) = .ok (.int (ns.count i)) := by
  simp only [cntD, decI_map]
theorem ix_l {ds : List D} {v : D} (h : 0 ≤ i) (e : ds[i.toNat]? = some v) : ixD (.list ds) (.int i) = .ok v := by
  unfold ixD; simp only [h, decide_true, if_true, e, rs_some]
theorem ix_t {ds : List D} {v : D} (h : 0 ≤ i) (e : ds[i.toNat]? = some v) : ixD (.tuple ds) (.int i) = .ok v := by
  unfold ixD; simp only [h, decide_true, if_true, e, rs_some]
@[simp] theorem ix_p0 {p : Int × Int} : ixD (eP p) (.int 0) = .ok (.int p.1) := rfl
@[simp] theorem ix_p1 {p : Int × Int} : ixD (eP p) (.int 1) = .ok (.int p.2) := rfl
@[simp] theorem view_cons {s : Option Sl} {l : Env} : view (s :: l) = s.bind vw1 :: view l := rfl
@[simp] theorem stab_cons {s : Option Sl} {l : Env} : stab (s :: l) = s.bind st1 :: stab l := rfl
@[simp] theorem view_nil : view [] = [] := rfl
@[simp] theorem stab_nil : stab [] = [] := rfl
@[simp] theorem vw_fz {v : D} : vw1 (.fz v) = some (.fz v) := rfl
@[simp] theorem vw_own {r : R} : vw1 (.own r) = some (.fz r.toD) := rfl
@[simp] theorem vw_dc {q : Bool} {kvs : List (Int × D)} : vw1 (.dc q kvs) = some (.dc false kvs) := rfl
@[simp] theorem vw_xc {p : Addr} : vw1 (.xc p x) = some (.xc p x) := rfl
@[simp] theorem vw_pin {p : Addr} {ds : List D} : vw1 (.pin p ds) = some (.fz (.list ds)) := rfl
@[simp] theorem st_fz {v : D} : st1 (.fz v) = some (.fz v) := rfl
@[simp] theorem st_own {r : R} : st1 (.own r) = none := rfl
@[simp] theorem st_dc {q : Bool} {kvs : List (Int × D)} : st1 (.dc q kvs) = some (.dc false kvs) := rfl
@[simp] theorem st_xc {p : Addr} : st1 (.xc p x) = some (.xc p x) := rfl
@[simp] theorem vw_mpl {p : Addr} {ds : List D} : vw1 (.mp p (.l ds)) = some (.fz (.list ds)) := rfl
@[simp] theorem vw_mpd {p : Addr} {kvs : List (Int × D)} : vw1 (.mp p (.d kvs)) = some (.dc false kvs) := rfl
@[simp] theorem st_mpl {p : Addr} {ds : List D} : st1 (.mp p (.l ds)) = none := rfl
@[simp] theorem st_mpd {p : Addr} {kvs : List (Int × D)} : st1 (.mp p (.d kvs)) = some (.dc false kvs) := rfl
@[simp] theorem vw_hv {b : Hp} {v : V} {x : D} : vw1 (.hv b v x) = some (.fz x) := rfl
@[simp] theorem st_hv {b : Hp} {v : V} {x : D} : st1 (.hv b v x) = some (.fz x) := rfl
@[simp] theorem st_pin {p : Addr} {ds : List D} : st1 (.pin p ds) = none := rfl
@[simp] theorem toD_im {v : D} : (R.im v).toD = v := rfl
@[simp] theorem toD_ol {v : List D} : (R.ol v).toD = .list v := rfl
@[simp] theorem toD_on {v : List R} : (R.on v).toD = .list (R.toDs v) := rfl
@[simp] theorem toD_ot {v : List R} : (R.ot v).toD = .tuple (R.toDs v) := rfl
@[simp] theorem toDs_nil : R.toDs [] = [] := rfl
@[simp] theorem toDs_cons {r : R} {rs : List R} : R.toDs (r :: rs) = r.toD :: R.toDs rs := rfl
@[simp] theorem imm_im {v : D} : (R.im v).imm = TD.imm v := rfl
@[simp] theorem imm_ol {v : List D} : (R.ol v).imm = immA v := rfl
@[simp] theorem imm_on {v : List R} : (R.on v).imm = R.imms v := rfl
@[simp] theorem imm_ot {v : List R} : (R.ot v).imm = R.imms v := rfl
@[simp] theorem imms_nil : R.imms [] = true := rfl
@[simp] theorem imms_cons {r : R} {rs : List R} : R.imms (r :: rs) = (r.imm && R.imms rs) := rfl
@[simp] theorem imm_i : TD.imm (.int i) = true := rfl
@[simp] theorem imm_b : TD.imm (.bool b) = true := rfl
@[simp] theorem imm_n : TD.imm .none = true := rfl
@[simp] theorem imm_s {s : Str} : TD.imm (.str s) = true := rfl
@[simp] theorem imm_p {p : Int × Int} : TD.imm (eP p) = true := rfl
@[simp] theorem immA_nil : immA [] = true := rfl
@[simp] theorem immA_cons {v : D} {l : List D} : immA (v :: l) = (TD.imm v && immA l) := rfl
@[simp] theorem immA_append : ∀ {l m : List D}, immA (l ++ m) = (immA l && immA m)
  | [], m => by simp
  | v :: l, m => by simp [immA_append (l := l), Bool.and_assoc]
@[simp] theorem immA_int : ∀ {ns : List Int}, immA (ns.map PyData.int) = true
  | [] => rfl
  | n :: ns => by simp [immA_int (ns := ns)]
@[simp] theorem immA_pair : ∀ {ps : List (Int × Int)}, immA (ps.map eP) = true
  | [] => rfl
  | n :: ns => by simp [immA_pair (ps := ns)]
@[simp] theorem gd_nx {o : Out} {Γ : Env} : (gdOf o).nx Γ = (o = .ret (.im .none)) := rfl
@[simp] theorem gd_rt {o q : Out} : (gdOf o).rt q = (q = o) := rfl
@[simp] theorem gd_ex {o : Out} {Γ : Env} : (gdOf o).ex x Γ = (o = .exc x) := rfl
@[simp] theorem wipe_nil {Γ : Env} : wipeE Γ [] = Γ := rfl
@[simp] theorem wipe_cons {Γ : Env} {n : Nat} {r : List Nat} : wipeE Γ (n :: r) = (wipeE Γ r).set n none := rfl
@[simp] theorem setTs_nil {Γ : Env} : setTs Γ [] [] = Γ := rfl
@[simp] theorem setTs_cons {Γ : Env} {t : Nat} {ts : List Nat} {v : D} {ds : List D} : setTs Γ (t :: ts) (v :: ds) = setTs (Γ.set t (some (.fz v))) ts ds := rfl
end
section
variable {T : Tb} {Γ : Env} {a b c : GE} {es : GEs} {n : Bool} {i : Nat}
def varD (o : Option (Option Sl)) : Rs D := match o with
  | some (some (.fz d)) => .ok d
  | _ => .bad
@[simp] theorem varD_ok {d : D} : varD (some (some (.fz d))) = .ok d := rfl
@[simp] theorem e_var : ev T Γ (.var i) = varD Γ[i]? := rfl
@[simp] theorem e_cst {d : D} : ev T Γ (.cst d) = .ok d := rfl
@[simp] theorem e_bin {o : BO} : ev T Γ (.bin o a b) = (ev T Γ a).bind fun x => (ev T Γ b).bind fun y => binD o x y := rfl
@[simp] theorem e_neg : ev T Γ (.neg a) = (ev T Γ a).bind negD := rfl
@[simp] theorem e_cmp {o : CO} : ev T Γ (.cmp o a b) = (ev T Γ a).bind fun x => (ev T Γ b).bind fun y => cmpD o x y := rfl
@[simp] theorem e_eq : ev T Γ (.eq n a b) = (ev T Γ a).bind fun x => (ev T Γ b).bind fun y => eqD n x y := rfl
@[simp] theorem e_isn : ev T Γ (.isn n a) = (ev T Γ a).bind (isnD n) := rfl
@[simp] theorem e_inl : ev T Γ (.inl n a b) = (ev T Γ a).bind fun x => (ev T Γ b).bind fun y => inlD n x y := rfl
def indD (n : Bool) (kvs : List (Int × D)) (x : D) : Rs D := match x with
  | .int k => .ok (.bool (n ^^ (dget kvs k).isSome))
  | _ => .bad
@[simp] theorem indD_i {kvs : List (Int × D)} {k : Int} : indD n kvs (.int k) = .ok (.bool (n ^^ (dget kvs k).isSome)) := rfl
@[simp] theorem e_ind : ev T Γ (.ind n a i) = (ev T Γ a).bind fun x => (dslot Γ i).bind fun kvs => indD n kvs x := rfl
def dixD (kvs : List (Int × D)) (x : D) : Rs D := match x with
  | .int k => Rs.of (dget kvs k)
  | _ => .bad
@[simp] theorem dixD_i {kvs : List (Int × D)} {k : Int} : dixD kvs (.int k) = Rs.of (dget kvs k) := rfl
@[simp] theorem e_dix : ev T Γ (.dix i a) = (dslot Γ i).bind fun kvs => (ev T Γ a).bind fun x => dixD kvs x := rfl
def boolR (x : D) : Rs D := match x with
  | .bool c => .ok (.bool c)
  | _ => .bad
@[simp] theorem boolR_b {q : Bool} : boolR (.bool q) = .ok (.bool q) := rfl
def andR (x : D) (r : Rs D) : Rs D := match x with
  | .bool true => r.bind boolR
  | .bool false => .ok (.bool false)
  | _ => .bad
def orR (x : D) (r : Rs D) : Rs D := match x with
  | .bool false => r.bind boolR
  | .bool true => .ok (.bool true)
  | _ => .bad
@[simp] theorem andR_b {p q : Bool} : andR (.bool p) (.ok (.bool q)) = .ok (.bool (p && q)) := by cases p <;> rfl
@[simp] theorem andR_f {r : Rs D} : andR (.bool false) r = .ok (.bool false) := rfl
@[simp] theorem andR_t {r : Rs D} : andR (.bool true) r = r.bind boolR := rfl
@[simp] theorem orR_b {p q : Bool} : orR (.bool p) (.ok (.bool q)) = .ok (.bool (p || q)) := by cases p <;> rfl
@[simp] theorem orR_f {r : Rs D} : orR (.bool true) r = .ok (.bool true) := rfl
@[simp] theorem orR_t {r : Rs D} : orR (.bool false) r = r.bind boolR := rfl
theorem boolR_eq : boolR = fun y => (match y with | .bool c => (.ok (.bool c) : Rs D) | _ => .bad) := rfl
theorem andR_if {p : Bool} {r : Rs D} {q : Bool} (h : p = true → r = .ok (.bool q)) : andR (.bool p) r = .ok (.bool (p && q)) := by
  cases p with
  | true => rw [h rfl]; rfl
  | false => rfl
theorem orR_if {p : Bool} {r : Rs D} {q : Bool} (h : p = false → r = .ok (.bool q)) : orR (.bool p) r = .ok (.bool (p || q)) := by
  cases p with
  | false => rw [h rfl]; rfl
  | true => rfl
@[simp] theorem e_and : ev T Γ (.and a b) = (ev T Γ a).bind fun x => andR x (ev T Γ b) := by
  show Rs.bind _ _ = Rs.bind _ _
  congr 1
@[simp] theorem e_or : ev T Γ (.or a b) = (ev T Γ a).bind fun x => orR x (ev T Γ b) := by
  show Rs.bind _ _ = Rs.bind _ _
  congr 1
@[simp] theorem e_not : ev T Γ (.not a) = (ev T Γ a).bind notD := rfl
def iteR (x : D) (r q : Rs D) : Rs D := match x with
  | .bool true => r
  | .bool false => q
  | _ => .bad
@[simp] theorem iteR_b {p : Bool} {r q : Rs D} : iteR (.bool p) r q = if p then r else q := by cases p <;> rfl
@[simp] theorem e_ite : ev T Γ (.ite c a b) = (ev T Γ c).bind fun x => iteR x (ev T Γ a) (ev T Γ b) := by
  show Rs.bind _ _ = Rs.bind _ _
  congr 1
@[simp] theorem e_ix : ev T Γ (.ix a b) = (ev T Γ a).bind fun x => (ev T Γ b).bind fun y => ixD x y := rfl
@[simp] theorem e_tup : ev T Γ (.tup es) = (evs T Γ es).bind fun ds => if sizeOk ds.length then .ok (.tuple ds) else .bad := rfl
@[simp] theorem e_call : ev T Γ (.call i es) = (evs T Γ es).bind (callD T i) := rfl
@[simp] theorem e_len : ev T Γ (.len a) = (ev T Γ a).bind lenD := rfl
@[simp] theorem e_sum : ev T Γ (.sum a) = (ev T Γ a).bind sumD := rfl
@[simp] theorem e_abs : ev T Γ (.abs a) = (ev T Γ a).bind absD := rfl
@[simp] theorem e_mn : ev T Γ (.mn a b) = (ev T Γ a).bind fun x => (ev T Γ b).bind fun y => mnD x y := rfl
@[simp] theorem e_mx : ev T Γ (.mx a b) = (ev T Γ a).bind fun x => (ev T Γ b).bind fun y => mxD x y := rfl
@[simp] theorem e_isi {t : IT} : ev T Γ (.isi t a) = (ev T Γ a).bind fun x => .ok (.bool (isiD t x)) := rfl
@[simp] theorem e_ise {y : Nat} : ev T Γ (.ise i y) = (xslot T Γ i).bind fun x => .ok (.bool (subX x y)) := rfl
@[simp] theorem e_ises {ys : List Nat} : ev T Γ (.ises i ys) = (xslot T Γ i).bind fun x => .ok (.bool (ys.any (subX x))) := rfl
@[simp] theorem e_f {g : GF} : ev T Γ (.f g) = (evF T Γ g).map PyData.list := rfl
@[simp] theorem e_lst : evF T Γ (.lst es) = (evs T Γ es).bind fun ds => if sizeOk ds.length then .ok ds else .bad := rfl
def lofR (x : D) : Rs (List D) := match seqD x with
  | some ds => .ok ds
  | none => .bad
@[simp] theorem lofR_l {ds : List D} : lofR (.list ds) = .ok ds := rfl
@[simp] theorem e_lof : evF T Γ (.lof a) = (ev T Γ a).bind lofR := rfl
def srtR (x : D) : Rs (List D) := match x with
  | .list ds => (match decP ds with
    | some ps => .ok ((pSort ps).map eP)
    | none => .bad)
  | _ => .bad
@[simp] theorem srtR_l {ps : List (Int × Int)} : srtR (.list (ps.map eP)) = .ok ((pSort ps).map eP) := by
  simp only [srtR, decP_map]
@[simp] theorem e_srt : evF T Γ (.srt a) = (ev T Γ a).bind srtR := rfl
@[simp] theorem e_nil : evs T Γ .nil = .ok [] := rfl
@[simp] theorem e_cons : evs T Γ (.cons a es) = (ev T Γ a).bind fun d => (evs T Γ es).map fun ds => d :: ds := rfl
@[simp] theorem r_im : evR T Γ (.im a) = (ev T (view Γ) a).bind fun d => if TD.imm d then .ok (.im d) else .bad := rfl
@[simp] theorem r_f {g : GF} : evR T Γ (.f g) = (evF T (view Γ) g).bind fun ds => if immA ds then .ok (.ol ds) else .bad := rfl
@[simp] theorem r_call : evR T Γ (.call i es) = (evs T (view Γ) es).bind (callR T i) := rfl
@[simp] theorem r_lst {rs : GRs} : evR T Γ (.lst rs) = (evRs T Γ rs).bind fun l => if sizeOk l.length then .ok (.on l) else .bad := rfl
@[simp] theorem r_tup {rs : GRs} : evR T Γ (.tup rs) = (evRs T Γ rs).bind fun l => if sizeOk l.length then .ok (.ot l) else .bad := rfl
@[simp] theorem r_nil : evRs T Γ .nil = .ok [] := rfl
@[simp] theorem r_cons {r : GR} {rs : GRs} : evRs T Γ (.cons r rs) = (evR T Γ r).bind fun x => (evRs T Γ rs).map fun l => x :: l := rfl
def outR (o : Option Out) : Rs R := match o with
  | some (.ret r) => .ok r
  | some (.old _) => .bad
  | some (.exc x) => .err x
  | some (.mu _ _ _) => .bad
  | some (.mx _) => .bad
  | none => .bad
@[simp] theorem outR_ret {r : R} : outR (some (.ret r)) = .ok r := rfl
@[simp] theorem outR_mut {p : Addr} {c : Cn} {x : D} : outR (some (.mu p c x)) = .bad := rfl
@[simp] theorem outR_exc {x : Nat} : outR (some (.exc x)) = .err x := rfl
theorem call_ret {ds : List D} {φ : List D → Option Out} {r : R} (h : T.fs[i]? = some φ) (e : φ ds = some (.ret r)) : callD T i ds = .ok r.toD := by
  unfold callD; rw [h]; simp only [e]
theorem call_old {ds : List D} {φ : List D → Option Out} {r : D} (h : T.fs[i]? = some φ) (e : φ ds = some (.old r)) : callD T i ds = .ok r := by
  unfold callD; rw [h]; simp only [e]
theorem call_exc {ds : List D} {φ : List D → Option Out} {x : Nat} (h : T.fs[i]? = some φ) (e : φ ds = some (.exc x)) : callD T i ds = .err x := by
  unfold callD; rw [h]; simp only [e]
def outD (o : Option Out) : Rs D := match o with
  | some (.ret r) => .ok r.toD
  | some (.old d) => .ok d
  | some (.exc x) => .err x
  | some (.mu _ _ _) => .bad
  | some (.mx _) => .bad
  | none => .bad
@[simp] theorem outD_ret {r : R} : outD (some (.ret r)) = .ok r.toD := rfl
@[simp] theorem outD_old {d : D} : outD (some (.old d)) = .ok d := rfl
@[simp] theorem outD_exc {x : Nat} : outD (some (.exc x)) = .err x := rfl
def fsOut (o : Option (List D → Option Out)) (ds : List D) : Option Out := o.bind fun φ => φ ds
@[simp] theorem fsOut_some {φ : List D → Option Out} {ds : List D} : fsOut (some φ) ds = φ ds := rfl
@[simp] theorem call_eq {ds : List D} : callD T i ds = outD (fsOut T.fs[i]? ds) := by
  unfold callD
  cases T.fs[i]? with
  | none => rfl
  | some φ => rfl
@[simp] theorem callR_eq {ds : List D} : callR T i ds = outR (fsOut T.fs[i]? ds) := by
  unfold callR
  cases T.fs[i]? with
  | none => rfl
  | some φ => rfl
@[simp] theorem mn_i {i j : Int} : mnD (.int i) (.int j) = .ok (.int (if j < i then j else i)) := rfl
@[simp] theorem mx_i {i j : Int} : mxD (.int i) (.int j) = .ok (.int (if j > i then j else i)) := rfl
end
end TD

/-! TD15: more rules. -/
namespace TD
open PySem PySem.Spec PyProof.Rows L2
section
variable {X : Cx} {T : Tb} {W : WX} {st : Stmt} {gf : GF} {i : Nat}
theorem tF_f {g : GF} {σ : L2.St} {H : Hp} {Q : VK} : tG T W (.f g) σ H Q → tF T W g σ H Q := fun ⟨B, Γ, hs, p⟩ => by
  have p' : Post T W σ B H ((evF T Γ g).map PyData.list) Q := p
  refine ⟨B, Γ, hs, ?_⟩
  cases e : evF T Γ g with
  | ok ds =>
    rw [e] at p'
    refine fun p xs B1 H1 s h1 h2 h3 h4 => p' (.ref p) (addF B1 H1 [p]) H1 (s.addF fun q hq => by cases List.mem_singleton.mp hq; exact h1) (.lst (.inl (addF_in s.bh List.mem_cons_self h3)) (h4.mono (addF_ex _ _ _)))
  | err x => rw [e] at p'; exact p'
  | bad => rw [e] at p'; exact p'
theorem psx_asgSF (h : PS X st (tAsg (tF T W gf) (gName i))) : PS X st (tS T W (.asgS i (.f gf))) := h.imp fun De σ H ⟨b0, H0, B, Γ, d, so, w, r⟩ =>
  tF_f (so.stab r w fun v x B1 H1 s rp q => r.nx _ _ _ _ ((so.step s).put_fz i rp) q)
end
end TD

/-! TD16: when data are alike. -/
namespace TD
open PySem PySem.Spec PyProof.Rows L2
/-- numbers and None, in lists and tuples, up to n deep -/
def okD : Nat → D → Bool
  | _, .none => true
  | _, .int _ => true
  | n + 1, .list ds => ds.all (okD n)
  | n + 1, .tuple ds => ds.all (okD n)
  | _, _ => false
theorem layAll_of {ds : List D} : (∀ d ∈ ds, d.canLay0 = true) → PyData.canLayAll0 ds = true := by
  induction ds with
  | nil => exact fun _ => rfl
  | cons a r ih => 
    intro h
    show (a.canLay0 && PyData.canLayAll0 r) = true
    rw [h a List.mem_cons_self, ih fun d hd => h d (List.mem_cons_of_mem _ hd)]
    rfl
theorem depAll_of {n : Nat} {ds : List D} : (∀ d ∈ ds, d.depth ≤ n) → PyData.depthAll ds ≤ n := by
  induction ds with
  | nil => exact fun _ => Nat.zero_le _
  | cons a r ih => exact fun h => Nat.max_le.mpr ⟨h a List.mem_cons_self, ih fun d hd => h d (List.mem_cons_of_mem _ hd)⟩
theorem okD_lay : ∀ (n : Nat) (d : D), okD n d = true → d.canLay0 = true ∧ d.depth ≤ n
  | n, .none, _ => ⟨rfl, Nat.zero_le _⟩
  | n, .int _, _ => ⟨rfl, Nat.zero_le _⟩
  | n, .bool _, h => by cases n <;> cases h
  | n, .str _, h => by cases n <;> cases h
  | n, .dict _, h => by cases n <;> cases h
  | 0, .list _, h => by cases h
  | 0, .tuple _, h => by cases h
  | n + 1, .list ds, h => by
    have h' := List.all_eq_true.mp (show ds.all (okD n) = true from h)
    exact ⟨layAll_of fun d hd => (okD_lay n d (h' d hd)).1, Nat.succ_le_succ (depAll_of fun d hd => (okD_lay n d (h' d hd)).2)⟩
  | n + 1, .tuple ds, h => by
    have h' := List.all_eq_true.mp (show ds.all (okD n) = true from h)
    exact ⟨layAll_of fun d hd => (okD_lay n d (h' d hd)).1, Nat.succ_le_succ (depAll_of fun d hd => (okD_lay n d (h' d hd)).2)⟩
theorem eqvAll_iff {xs ys : List D} (h : ∀ x ∈ xs, ∀ y ∈ ys, (PyData.eqv x y = true ↔ x = y)) : PyData.eqvAll xs ys = true ↔ xs = ys := by
  induction xs generalizing ys with
  | nil => cases ys with
    | nil => exact ⟨fun _ => rfl, fun _ => rfl⟩
    | cons y ys => exact ⟨(fun z => nomatch z), (fun z => nomatch z)⟩
  | cons x xs ih => cases ys with
    | nil => exact ⟨(fun z => nomatch z), (fun z => nomatch z)⟩
    | cons y ys =>
      show (PyData.eqv x y && PyData.eqvAll xs ys) = true ↔ _
      rw [Bool.and_eq_true, h x List.mem_cons_self y List.mem_cons_self, ih fun a ha b hb => h a (List.mem_cons_of_mem _ ha) b (List.mem_cons_of_mem _ hb), List.cons.injEq]
theorem eqv_iff : ∀ (n : Nat) {x y : D} {m : Nat}, okD n x = true → okD m y = true → (PyData.eqv x y = true ↔ x = y) := by
  intro n
  induction n with
  | zero =>
    intro x y m hx hy
    cases x <;> first | (cases hx; done) | skip
    all_goals cases y <;> first | (cases m <;> cases hy; done) | simp [PyData.eqv]
  | succ n ih =>
    intro x y m hx hy
    cases x with
    | bool _ => cases hx
    | str _ => cases hx
    | dict _ => cases hx
    | none => cases y <;> first | (cases m <;> cases hy; done) | simp [PyData.eqv]
    | int _ => cases y <;> first | (cases m <;> cases hy; done) | simp [PyData.eqv]
    | list xs =>
      have h' := List.all_eq_true.mp (show xs.all (okD n) = true from hx)
      cases y with
      | list ys =>
        cases m with
        | zero => cases hy
        | succ m =>
          have h2 := List.all_eq_true.mp (show ys.all (okD m) = true from hy)
          rw [PyData.eqv, eqvAll_iff fun a ha b hb => ih (h' a ha) (h2 b hb), PyData.list.injEq]
      | _ => simp [PyData.eqv]
    | tuple xs =>
      have h' := List.all_eq_true.mp (show xs.all (okD n) = true from hx)
      cases y with
      | tuple ys =>
        cases m with
        | zero => cases hy
        | succ m =>
          have h2 := List.all_eq_true.mp (show ys.all (okD m) = true from hy)
          rw [PyData.eqv, eqvAll_iff fun a ha b hb => ih (h' a ha) (h2 b hb), PyData.tuple.injEq]
      | _ => simp [PyData.eqv]
theorem okD_shaped {n : Nat} {d : D} (h : okD n d = true) (hn : n ≤ 64) : SeqAt.shaped d = true := by
  obtain ⟨a, b⟩ := okD_lay n d h
  unfold SeqAt.shaped
  rw [a, decide_eq_true (Nat.le_trans b hn)]
  rfl
theorem eq_list {n : Bool} {k m : Nat} {xs ys : List D} (hx : okD k (.list xs) = true) (hy : okD m (.list ys) = true) (hk : k ≤ 64) (hm : m ≤ 64) {b : Bool} (hb : b = true ↔ xs = ys) : eqD n (.list xs) (.list ys) = .ok (.bool (n ^^ b)) := by
  show (if (SeqAt.shaped (.list xs) && SeqAt.shaped (.list ys)) = true then Rs.ok (PyData.bool (n ^^ PyData.eqv (.list xs) (.list ys))) else .bad) = _
  rw [okD_shaped hx hk, okD_shaped hy hm]
  have := eqv_iff k hx hy
  rw [PyData.list.injEq] at this
  have e : PyData.eqv (.list xs) (.list ys) = b := Bool.eq_iff_iff.mpr (this.trans hb.symm)
  rw [e]
  rfl
theorem eq_tup {n : Bool} {k m : Nat} {xs ys : List D} (hx : okD k (.tuple xs) = true) (hy : okD m (.tuple ys) = true) (hk : k ≤ 64) (hm : m ≤ 64) {b : Bool} (hb : b = true ↔ xs = ys) : eqD n (.tuple xs) (.tuple ys) = .ok (.bool (n ^^ b)) := by
  show (if (SeqAt.shaped (.tuple xs) && SeqAt.shaped (.tuple ys)) = true then Rs.ok (PyData.bool (n ^^ PyData.eqv (.tuple xs) (.tuple ys))) else .bad) = _
  rw [okD_shaped hx hk, okD_shaped hy hm]
  have := eqv_iff k hx hy
  rw [PyData.tuple.injEq] at this
  have e : PyData.eqv (.tuple xs) (.tuple ys) = b := Bool.eq_iff_iff.mpr (this.trans hb.symm)
  rw [e]
  rfl
theorem eq_same {n : Bool} {k : Nat} {xs : List D} (hx : okD k (.list xs) = true) (hk : k ≤ 64) : eqD n (.list xs) (.list xs) = .ok (.bool (n ^^ true)) := eq_list hx hx hk hk ⟨fun _ => rfl, fun _ => rfl⟩
theorem okD_int (ns : List Int) : okD 1 (.list (ns.map .int)) = true := List.all_eq_true.mpr fun d hd => by
  obtain ⟨n, _, rfl⟩ := List.mem_map.mp hd
  rfl
theorem okD_pair (ps : List (Int × Int)) : okD 2 (.list (ps.map eP)) = true := List.all_eq_true.mpr fun d hd => by
  obtain ⟨n, _, rfl⟩ := List.mem_map.mp hd
  rfl
theorem eP_inj {ps qs : List (Int × Int)} : ps.map eP = qs.map eP ↔ ps = qs := by
  refine ⟨fun h => ?_, fun h => h ▸ rfl⟩
  have := congrArg decP h
  rw [decP_map, decP_map] at this
  exact Option.some.inj this
theorem int_inj {ps qs : List Int} : ps.map PyData.int = qs.map PyData.int ↔ ps = qs := by
  refine ⟨fun h => ?_, fun h => h ▸ rfl⟩
  have := congrArg decI h
  rw [decI_map, decI_map] at this
  exact Option.some.inj this
@[simp] theorem eq_pairs {n : Bool} {ps qs : List (Int × Int)} : eqD n (.list (ps.map eP)) (.list (qs.map eP)) = .ok (.bool (n ^^ decide (ps = qs))) := eq_list (okD_pair _) (okD_pair _) (by decide) (by decide) (by rw [decide_eq_true_iff, eP_inj])
@[simp] theorem eq_ints {n : Bool} {ps qs : List Int} : eqD n (.list (ps.map .int)) (.list (qs.map .int)) = .ok (.bool (n ^^ decide (ps = qs))) := eq_list (okD_int _) (okD_int _) (by decide) (by decide) (by rw [decide_eq_true_iff, int_inj])
end TD

/-! TD17: what the end is made of. -/
namespace TD
open PySem PySem.Spec PyProof.Rows L2
section
variable {P : Program} {w : World} {K : PySem.W.Frag} {mg : Str → Option Value} {base : Heap} {T : Tb}
theorem fn_dataF {x qual : Str} {st : Stmt} {f : Addr} {fd : FuncData} {N ps : List Str} {k : Nat} {φ : List D → Option Out} {g : GSs} (F : Fun K x qual st f fd) (S : FnScope N ps (defScope st)) (ar : ∀ ds o, φ ds = some o → ds.length = ps.length)
    (hb : ∀ (cdv : Value) (A : Around) (outer : List PySem.Env) (s : Shared) (H : Hp) (E : XK), Room k (A.deeper (envOfC qual (defScope st) s.heap.objs.size f cdv)) →
      PSs (cxOf (L2.CX P w) P w K mg base N qual (defScope st) f cdv A outer s H E) (defBody st) (tSs T (fun cls d _ H => E cls d H) g))
    (hw : ∀ ds o, φ ds = some o → wpSs T g (gdOf o) (startE N ds)) : FnOk P w K mg base (L2.CX P w) (k + 1) f fd ps (spOf T.ca φ) := by
  refine F.okX S (fun vs H Q E h => ?_) (fun cdv A outer s H vs Q E hr h => ⟨_, hb cdv A outer s H E hr, ?_⟩)
  · obtain ⟨b, ds, ex, r, q⟩ := h
    cases e : φ ds with
    | none => rw [e] at q; exact q.elim
    | some o => rw [r.len, ar ds o e]
  · obtain ⟨b, ds, ex, r, q⟩ := h
    cases e : φ ds with
    | none => rw [e] at q; exact q.elim
    | some o =>
      rw [e] at q
      refine ⟨b, H, b, _, gdOf o, sk_start ex r, hw ds o e, ⟨fun B1 Γ1 σ1 H1 so1 z => ?_, fun r v f B1 H1 s1 o1 n1 k1 i1 z => ?_, fun x v B1 H1 s1 r1 z => ?_, fun x B1 Γ1 σ1 H1 so1 z => ?_, fun r v f B1 H1 s1 o1 n1 k1 z => ?_, fun p c x v B1 Γ1 σ1 H1 so1 _ _ _ z => ?_⟩⟩
      · have z' : o = .ret (.im .none) := z
        subst z'
        exact q .non [] B1 H1 so1.sp (fun _ hp => by cases hp) .nil (.im .non) rfl
      · have z' : .ret r = o := z
        subst z'
        exact q v f B1 H1 s1 k1 n1 o1 i1
      · have z' : .old x = o := z
        subst z'
        exact q v B1 H1 s1 r1
      · have z' : o = .exc x := z
        subst z'
        exact q B1 H1 so1.sp
      · have z' : .mx r = o := z
        subst z'
        exact q v f B1 H1 s1 k1 n1 o1
      · have z' : .mu p c x = o := z
        subst z'
        exact q.elim
end
def caL (l : List (Nat × Addr)) (n : Nat) : Addr := (l.lookup n).getD 0
theorem memc {P : Nat → Prop} {a : Nat} {l : List Nat} (h : P a) (r : ∀ y ∈ l, P y) : ∀ y ∈ a :: l, P y := fun y hy => by
  cases hy with
  | head => exact h
  | tail _ hy => exact r y hy
theorem memn {P : Nat → Prop} : ∀ y ∈ ([] : List Nat), P y := fun y hy => nomatch hy
/-- the written part holds no list -/
def noL (K : PySem.W.Frag) : Bool := K.all fun p => !(p.2.cls == .type "list")
theorem noL_lookup {K : PySem.W.Frag} (h : noL K = true) {a : Addr} {o : Obj} (e : K.lookup a = some o) : o.cls ≠ .type "list" := by
  unfold noL at h
  induction K with
  | nil => cases e
  | cons p r ih =>
    obtain ⟨b, o'⟩ := p
    rw [List.all_cons, Bool.and_eq_true] at h
    rw [List.lookup_cons] at e
    cases q : a == b with
    | true =>
      rw [q] at e
      cases e
      intro z
      have h1 := h.1
      simp only [z, beq_self_eq_true, Bool.not_true] at h1
      cases h1
    | false =>
      rw [q] at e
      exact ih h.2 e
/-- a promise with no error -/
def spV (φ : List D → Option Out) : Sp := fun vs H Q E => ∃ b ds, Ex b H ∧ RpA b vs ds ∧ match φ ds with
  | some (.ret r) => ∀ v f B1 H1, Sp' b H B1 H1 → (∀ p ∈ f, H p = none) → f.Nodup → Or B1 H1 v r f → r.imm = true → Q v H1
  | _ => False
theorem spV_of {ca : Nat → Addr} {φ : List D → Option Out} : ∀ vs H Q E, spV φ vs H Q E → spOf ca φ vs H Q E := fun vs H Q E ⟨b, ds, h1, h2, h3⟩ => by
  refine ⟨b, ds, h1, h2, ?_⟩
  cases e : φ ds with
  | none => rw [e] at h3; exact h3
  | some o =>
    rw [e] at h3
    cases o with
    | ret r => exact h3
    | old d => exact h3.elim
    | exc x => exact h3.elim
    | mu p c x => exact h3.elim
    | mx r => exact h3.elim
theorem sp_script {K : PySem.W.Frag} {φ : List D → Option Out} (nl : noL K = true) {H : Hp} {a : Addr} {ns : List Int} (hS : SqL K H a (ns.map V.int)) (hφ : φ [.list (ns.map .int)] = some (.ret (.im (.bool true)))) : spV φ [.ref a] H (fun v _ => v = .bl true) fun _ _ _ => False := by
  rcases hS with h | ⟨o, its, n, h1, h2, _⟩
  · refine ⟨H, [.list (ns.map .int)], ex_refl _, .cons (.lst h (ints_rp ns)) .nil, ?_⟩
    rw [hφ]
    intro v f B1 H1 s k n o i
    cases o with
    | im r => cases r; rfl
  · exact absurd h2 (noL_lookup nl h1)
where
  ints_rp {H : Hp} : ∀ ns : List Int, RpA H (ns.map V.int) (ns.map PyData.int)
    | [] => .nil
    | n :: r => .cons (.int n) (ints_rp r)
end TD

/-! TD18: what is one's own is given to the base; a change at a place within. -/
namespace TD
open PySem PySem.Spec PyProof.Rows L2
section
variable {H0 B H B1 H1 b0 : Hp} {Γ : Env} {σ : L2.St}
theorem SlotOk.frz {s : Sl} {x : Option (Option V)} {f g : List Addr} (e : Ex B H) (h : SlotOk B H s x f) (k : ∀ p ∈ f, B p = none) (dj : ∀ p ∈ f, p ∉ g) : SlotOk (addF B H g) H s x f := by
  cases s with
  | fz d =>
    obtain ⟨v, e, r⟩ := h
    exact ⟨v, e, r.mono (addF_ex _ _ _)⟩
  | own r =>
    obtain ⟨v, e, r, n⟩ := h
    exact ⟨v, e, r.frame (addF_ex _ _ _) fun p hp => ⟨rfl, addF_out (dj p hp) (k p hp)⟩, n⟩
  | dc o kvs =>
    obtain ⟨p, ks, e, h1, h2, h3⟩ := h
    exact ⟨p, ks, e, h1, h2.mono (addF_ex _ _ _), h3⟩
  | xc a x => exact h
  | pin p ds =>
    obtain ⟨e, rfl, h1, xs, h2, h3⟩ := h
    exact ⟨e, rfl, addF_out (dj p List.mem_cons_self) h1, xs, h2, h3.mono (addF_ex _ _ _)⟩
  | mp p c =>
    obtain ⟨e, rfl, h1, h2⟩ := h
    exact ⟨e, rfl, addF_out (dj p List.mem_cons_self) h1, h2.step (addF_ex _ _ _) rfl⟩
  | dl kvs =>
    obtain ⟨p, ks, od, e, h1, h2⟩ := h
    exact ⟨p, ks, od, e, addF_ex _ _ _ _ _ h1, h2.mono (addF_ex _ _ _)⟩
  | hv b v d =>
    obtain ⟨e, h1, h2⟩ := h
    exact ⟨e, h1, ex_trans h2 (addF_ex _ _ _)⟩
theorem Sk.freeze (h : Sk H0 B Γ σ H) {i : Nat} {r : R} (e : Γ[i]? = some (some (.own r))) : ∃ f, (∀ p ∈ f, H0 p = none) ∧ Sk H0 (addF B H f) (Γ.set i (some (.fz r.toD))) σ H := by
  obtain ⟨F, g⟩ := h.sl
  have hl : i < Γ.length := (List.getElem?_eq_some_iff.mp e).1
  refine ⟨F i, fun p hp => (g.at' i p hp).1, by rw [List.length_set]; exact h.len, h.e0, addF_le h.ex, fun j => if j = i then [] else F j, ⟨fun a b hab p hp => ?_, fun a p hp => ?_, fun j s' ej => ?_⟩⟩
  · by_cases ha : a = i
    · simp only [ha, if_true] at hp
      cases hp
    · simp only [ha, if_false] at hp
      by_cases hb : b = i
      · simp only [hb, if_true]
        exact fun z => nomatch z
      · simp only [hb, if_false]
        exact g.dis a b hab p hp
  · by_cases ha : a = i
    · simp only [ha, if_true] at hp
      cases hp
    · simp only [ha, if_false] at hp
      obtain ⟨h1, h2, h3⟩ := g.at' a p hp
      exact ⟨h1, addF_out (g.dis a i ha p hp) h2, h3⟩
  · by_cases hj : j = i
    · subst hj
      rw [List.getElem?_set_self hl] at ej
      cases ej
      obtain ⟨v, e1, o, n⟩ := g.ok j _ e
      exact ⟨v, e1, o.freeze h.ex fun p hp => hp⟩
    · rw [get_set_ne (Ne.symm hj)] at ej
      simp only [hj, if_false]
      exact (g.ok j s' ej).frz h.ex (fun p hp => (g.at' j p hp).2.1) fun p hp => g.dis j i hj p hp
theorem So.freeze (h : So b0 H0 B Γ σ H) {i : Nat} {r : R} (e : Γ[i]? = some (some (.own r))) : ∃ B1, So b0 H0 B1 (Γ.set i (some (.fz r.toD))) σ H := by
  obtain ⟨f, k, s⟩ := h.sk.freeze e
  exact ⟨_, s, h.nv.set i (fun _ z => nomatch z), h.sp.addF k⟩
end
section
variable {X : Cx} {T : Tb} {W : WX} {a b c e : Expr} {st : Stmt} {ga gk : GE} {g : GS} {gp : GP} {gr : GR} {i : Nat} {pos : Pos}
theorem psx_frz (h : PS X st (tS T W g)) : PS X st (tS T W (.frz i g)) := h.imp fun De σ H ⟨b0, H0, B, Γ, d, so, w, r⟩ => by
  obtain ⟨q, e, w'⟩ := w
  obtain ⟨B1, so1⟩ := so.freeze (ownR_at e)
  exact ⟨b0, H0, B1, _, d, so1, w', r⟩

/-! ### places -/
def Walk (H : Hp) : V → List Nat → V → Prop
  | v, [], u => u = v
  | v, k :: ks, u => ∃ a xs y, v = .ref a ∧ (H a = some (.lst xs) ∨ H a = some (.tup xs)) ∧ xs[k]? = some y ∧ Walk H y ks u
theorem Walk.mono {H H1 : Hp} (e : Ex H H1) : ∀ {l : List Nat} {v u : V}, Walk H v l u → Walk H1 v l u
  | [], _, _, h => h
  | k :: ks, _, _, ⟨a, xs, y, h1, h2, h3, h4⟩ => ⟨a, xs, y, h1, h2.imp (e _ _) (e _ _), h3, h4.mono e⟩
theorem Walk.det {H : Hp} : ∀ {l : List Nat} {v u w : V}, Walk H v l u → Walk H v l w → u = w
  | [], _, _, _, h, k => h.trans k.symm
  | k :: ks, _, _, _, ⟨a, xs, y, h1, h2, h3, h4⟩, ⟨a', xs', y', g1, g2, g3, g4⟩ => by
    subst h1
    cases g1
    have e : xs = xs' := by
      rcases h2 with h2 | h2 <;> rcases g2 with g2 | g2 <;> rw [h2] at g2 <;> cases g2 <;> rfl
    subst e
    rw [h3] at g3
    cases g3
    exact h4.det g4
theorem Walk.snoc {H : Hp} {a : Addr} {xs : List V} {k : Nat} {y : V} (h2 : H a = some (.lst xs) ∨ H a = some (.tup xs)) (h3 : xs[k]? = some y) : ∀ {l : List Nat} {v : V}, Walk H v l (.ref a) → Walk H v (l ++ [k]) y
  | [], _, h => ⟨a, xs, y, h.symm, h2, h3, rfl⟩
  | j :: ks, _, ⟨a', xs', y', g1, g2, g3, g4⟩ => ⟨a', xs', y', g1, g2, g3, Walk.snoc h2 h3 g4⟩
theorem OrA.nth {B H : Hp} : ∀ {xs : List V} {rs : List R} {f : List Addr}, OrA B H xs rs f → ∀ {k : Nat} {q : R}, rs[k]? = some q → ∃ y g, xs[k]? = some y ∧ Or B H y q g ∧ (∀ p ∈ g, p ∈ f) ∧ (f.Nodup → g.Nodup) ∧
      ∀ (q' : R) (H' : Hp), f.Nodup → Or B H' y q' g → (∀ p ∈ f, p ∉ g → H' p = H p) → OrA B H' xs (rs.set k q') f
  | _, _, _, .nil, k, q, e => by cases e
  | _, _, _, .cons (v := v) (vs := vs) (r := r) (rs := rs) (f := f) (g := g) o t, 0, q, e => by
    cases e
    refine ⟨v, f, rfl, o, fun p hp => List.mem_append_left _ hp, fun n => (List.nodup_append.mp n).1, fun q' H' n o' k => ?_⟩
    refine .cons o' (t.frame (ex_refl _) fun p hp => ⟨k p (List.mem_append_right _ hp) fun z => (List.nodup_append.mp n).2.2 p z p hp rfl, ?_⟩)
    exact (t.at p hp).1
  | _, _, _, .cons (v := v) (vs := vs) (r := r) (rs := rs) (f := f) (g := g) o t, j + 1, q, e => by
    obtain ⟨y, g', h1, h2, h3, h4, h5⟩ := t.nth (k := j) e
    refine ⟨y, g', h1, h2, fun p hp => List.mem_append_right _ (h3 p hp), fun n => h4 (List.nodup_append.mp n).2.1, fun q' H' n o' k => ?_⟩
    refine .cons (o.frame (ex_refl _) fun p hp => ⟨k p (List.mem_append_left _ hp) fun z => (List.nodup_append.mp n).2.2 p hp p (h3 p z) rfl, (o.at p hp).1⟩) (h5 q' H' (List.nodup_append.mp n).2.1 o' fun p hp hn => k p (List.mem_append_right _ hp) hn)
theorem R.at_cons {r : R} {k : Nat} {ks : List Nat} {q : R} (h : R.at r (k :: ks) = some q) : ∃ rs r', (r = .on rs ∨ r = .ot rs) ∧ rs[k]? = some r' ∧ R.at r' ks = some q := by
  cases r with
  | im d => cases h
  | ol d => cases h
  | on rs =>
    have h' : (rs[k]?.bind fun q => q.at ks) = some q := h
    cases e : rs[k]? with
    | none => rw [e] at h'; cases h'
    | some r' => rw [e] at h'; exact ⟨rs, r', .inl rfl, e, h'⟩
  | ot rs =>
    have h' : (rs[k]?.bind fun q => q.at ks) = some q := h
    cases e : rs[k]? with
    | none => rw [e] at h'; cases h'
    | some r' => rw [e] at h'; exact ⟨rs, r', .inr rfl, e, h'⟩
/-- a list of one's own at a place: where it lies, and what a change makes -/
theorem Or.place {B H : Hp} (ex : Ex B H) {ds : List D} : ∀ {l : List Nat} {v : V} {r : R} {f : List Addr}, Or B H v r f → f.Nodup → R.at r l = some (.ol ds) → ∃ p xs, Walk H v l (.ref p) ∧ p ∈ f ∧ B p = none ∧ H p = some (.lst xs) ∧ RpA B xs ds ∧
      ∀ ys es, RpA B ys es → Or B (upd H p (.lst ys)) v (R.put r l (.ol es)) f
  | [], v, r, f, o, n, e => by
    have e' : some r = some (.ol ds) := by
      cases r <;> exact e
    cases e'
    cases o with
    | ol h1 h2 h3 => exact ⟨_, _, rfl, List.mem_cons_self, h1, h2, h3, fun ys es k => by
        have : R.put (.ol ds) [] (.ol es) = .ol es := rfl
        rw [this]
        exact .ol h1 upd_same k⟩
  | k :: ks, v, r, f, o, n, e => by
    obtain ⟨rs, r', hr, e1, e2⟩ := R.at_cons e
    rcases hr with rfl | rfl
    · cases o with
      | on h1 h2 h3 =>
        rename_i p xs g
        have n' := List.nodup_cons.mp n
        obtain ⟨y, g', k1, k2, k3, k4, k5⟩ := h3.nth e1
        obtain ⟨p', ys, w1, w2, w3, w4, w5, w6⟩ := Or.place ex k2 (k4 n'.2) e2
        have hpp : p ≠ p' := fun z => n'.1 (z ▸ k3 p' w2)
        refine ⟨p', ys, ⟨p, xs, y, rfl, .inl h2, k1, w1⟩, List.mem_cons_of_mem _ (k3 p' w2), w3, w4, w5, fun zs es q => ?_⟩
        have : R.put (.on rs) (k :: ks) (.ol es) = .on (rs.set k (R.put r' ks (.ol es))) := by
          show R.on (match rs[k]? with | some r => rs.set k (R.put r ks (.ol es)) | none => rs) = _
          rw [e1]
        rw [this]
        refine .on h1 (by rw [upd_ne hpp]; exact h2) (k5 _ _ n'.2 (w6 zs es q) fun a ha hn => upd_ne fun z => hn (z ▸ w2))
    · cases o with
      | ot h1 h3 =>
        rename_i p xs
        obtain ⟨y, g', k1, k2, k3, k4, k5⟩ := h3.nth e1
        obtain ⟨p', ys, w1, w2, w3, w4, w5, w6⟩ := Or.place ex k2 (k4 n) e2
        refine ⟨p', ys, ⟨p, xs, y, rfl, .inr (ex _ _ h1), k1, w1⟩, k3 p' w2, w3, w4, w5, fun zs es q => ?_⟩
        have : R.put (.ot rs) (k :: ks) (.ol es) = .ot (rs.set k (R.put r' ks (.ol es))) := by
          show R.ot (match rs[k]? with | some r => rs.set k (R.put r ks (.ol es)) | none => rs) = _
          rw [e1]
        rw [this]
        refine .ot h1 (k5 _ _ n (w6 zs es q) fun a ha hn => upd_ne fun z => hn (z ▸ w2))
theorem Or.walk {B H : Hp} (ex : Ex B H) {q : R} : ∀ {l : List Nat} {v : V} {r : R} {f : List Addr}, Or B H v r f → R.at r l = some q → ∃ u g, Walk H v l u ∧ Or B H u q g
  | [], v, r, f, o, e => by
    have e' : some r = some q := by cases r <;> exact e
    cases e'
    exact ⟨v, f, rfl, o⟩
  | k :: ks, v, r, f, o, e => by
    obtain ⟨rs, r', hr, e1, e2⟩ := R.at_cons e
    rcases hr with rfl | rfl
    · cases o with
      | on h1 h2 h3 =>
        obtain ⟨y, g', k1, k2, _⟩ := h3.nth e1
        obtain ⟨u, g, w, o'⟩ := Or.walk ex k2 e2
        exact ⟨u, g, ⟨_, _, y, rfl, .inl h2, k1, w⟩, o'⟩
    · cases o with
      | ot h1 h3 =>
        obtain ⟨y, g', k1, k2, _⟩ := h3.nth e1
        obtain ⟨u, g, w, o'⟩ := Or.walk ex k2 e2
        exact ⟨u, g, ⟨_, _, y, rfl, .inr (ex _ _ h1), k1, w⟩, o'⟩
theorem R.at_snoc {q : R} {k : Nat} : ∀ {l : List Nat} {r : R}, R.at r (l ++ [k]) = some q → ∃ rs r', R.at r l = some r' ∧ (r' = .on rs ∨ r' = .ot rs) ∧ rs[k]? = some q
  | [], r, e => by
    obtain ⟨rs, r', hr, e1, e2⟩ := R.at_cons (show R.at r (k :: []) = some q from e)
    have e' : some r' = some q := by cases r' <;> exact e2
    cases e'
    exact ⟨rs, r, by cases r <;> rfl, hr, e1⟩
  | j :: ks, r, e => by
    obtain ⟨rs, r', hr, e1, e2⟩ := R.at_cons (show R.at r (j :: (ks ++ [k])) = some q from e)
    obtain ⟨rs2, r2, h1, h2, h3⟩ := R.at_snoc e2
    refine ⟨rs2, r2, ?_, h2, h3⟩
    rcases hr with rfl | rfl
    · show (rs[j]?.bind fun q => q.at ks) = _
      rw [e1]
      exact h1
    · show (rs[j]?.bind fun q => q.at ks) = _
      rw [e1]
      exact h1
def tP (T : Tb) (W : WX) (K : PySem.W.Frag) : GP → TE
  | .var i => tVar i
  | .sub p k => tOp (fun x y H Q => rIxL K x y H Q ∨ rIxT K x y H Q) (tP T W K p) (tG T W k)
theorem pp_var {n : Str} {pp : Pos} (h : PE X (.Name n pp) (tVar i)) : PE X (.Name n pp) (tP T W X.K (.var i)) := h
theorem pp_sub (ha : PE X a (tP T W X.K gp)) (hb : PE X b (tG T W gk)) (hs : PlainIx b := by intro _ _; rfl) : PE X (.Subscript a b pos) (tP T W X.K (.sub gp gk)) := pe_ix (ix_list.or ix_tup) ha hb hs
theorem evP_inv {Γ : Env} {k : GE} {i : Nat} {l : List Nat} (h : evP T Γ (.sub gp k) = .ok (i, l)) : ∃ l' j, evP T Γ gp = .ok (i, l') ∧ ev T Γ k = .ok (.int j) ∧ 0 ≤ j ∧ l = l' ++ [j.toNat] := by
  have h' : ((evP T Γ gp).bind fun x => (ev T Γ k).bind fun d => match d with
    | .int j => if decide (0 ≤ j) then Rs.ok (x.1, x.2 ++ [j.toNat]) else .bad
    | _ => .bad) = .ok (i, l) := h
  cases e1 : evP T Γ gp with
  | err x => rw [e1] at h'; cases h'
  | bad => rw [e1] at h'; cases h'
  | ok x =>
    rw [e1] at h'
    cases e2 : ev T Γ k with
    | err x => rw [e2] at h'; cases h'
    | bad => rw [e2] at h'; cases h'
    | ok d =>
      rw [e2] at h'
      cases d with
      | int j =>
        by_cases z : 0 ≤ j
        · have h2 : (if decide (0 ≤ j) then Rs.ok (x.1, x.2 ++ [j.toNat]) else Rs.bad) = .ok (i, l) := h'
          rw [decide_eq_true z, if_pos rfl] at h2
          cases h2
          exact ⟨x.2, j, rfl, rfl, z, rfl⟩
        · have h2 : (if decide (0 ≤ j) then Rs.ok (x.1, x.2 ++ [j.toNat]) else Rs.bad) = .ok (i, l) := h'
          rw [decide_eq_false z] at h2
          cases h2
      | _ => cases h'
theorem tP_run {H0 B H b0 : Hp} {Γ : Env} {σ : L2.St} {K : PySem.W.Frag} {r : R} {v : V} (so : So b0 H0 B Γ σ H) (hr : ownR Γ i = some r) (hv : σ[i]? = some (some v)) : ∀ {gp : GP} {l : List Nat} {q : R} {Q : VK}, evP T (TD.view Γ) gp = .ok (i, l) → R.at r l = some q →
    (∀ u b1 H1, Sp' H H b1 H1 → Walk H1 v l u → Q u H1) → tP T W K gp σ H Q
  | .var j, l, q, Q, e, e2, k => by
    cases e
    exact ⟨v, hv, k v H H (.refl (ex_refl _)) rfl⟩
  | .sub p gk, l, q, Q, e, e2, k => by
    obtain ⟨l', j, h1, h2, h3, rfl⟩ := evP_inv e
    obtain ⟨rs, r', k1, k2, k3⟩ := R.at_snoc e2
    show tP T W K p σ H fun x H1 => tG T W gk σ H1 fun y H2 => rIxL K x y H2 Q ∨ rIxT K x y H2 Q
    refine tP_run so hr hv h1 k1 fun x b1 H1 s w => ?_
    have so1 := so.step (.tups so.sk.ex s.h)
    refine ⟨H1, _, so1.sk.view, ?_⟩
    rw [h2]
    intro y b2 H2 s2 rp
    cases rp_int rp
    have so2 := so1.step (.tups so1.sk.ex s2.h)
    obtain ⟨f, ⟨v', hv', o, n⟩, _⟩ := so2.change (ownR_at hr)
    rw [hv] at hv'
    cases hv'
    obtain ⟨u, g, w2, o2⟩ := Or.walk so2.sk.ex o k1
    have eu := (w.mono s2.h).det w2
    subst eu
    have ss : Sp' H H H2 H2 := ⟨ex_trans s.h s2.h, ex_trans s.h s2.h, ex_refl _, fun p o h1 h2 h3 => by rw [h1] at h3; cases h3⟩
    rcases k2 with rfl | rfl
    · cases o2 with
      | on g1 g2 g3 =>
        obtain ⟨z, _, z1, _⟩ := g3.nth k3
        exact .inl ⟨_, _, j, z, rfl, rfl, .inl (.inl g2), atI_of h3 z1, k z _ _ ss (Walk.snoc (.inl g2) z1 (w.mono s2.h))⟩
    · cases o2 with
      | ot g1 g3 =>
        obtain ⟨z, _, z1, _⟩ := g3.nth k3
        exact .inr ⟨_, _, j, z, rfl, rfl, .inl (.inl (so2.sk.ex _ _ g1)), atI_of h3 z1, k z _ _ ss (Walk.snoc (.inr (so2.sk.ex _ _ g1)) z1 (w.mono s2.h))⟩
/-- a list at a place, ready to be changed -/
theorem So.place {H0 B H b0 : Hp} {Γ : Env} {σ : L2.St} {r : R} {v : V} {l : List Nat} {ds : List D} (so : So b0 H0 B Γ σ H) (hr : TD.ownR Γ i = some r) (hv : σ[i]? = some (some v)) (ha : R.at r l = some (.ol ds)) : ∃ p xs, Walk H v l (.ref p) ∧ H p = some (.lst xs) ∧ RpA B xs ds ∧
    ∀ ys es, RpA B ys es → So b0 H0 B (Γ.set i (some (.own (R.put r l (.ol es))))) σ (upd H p (.lst ys)) := by
  obtain ⟨f, ⟨v', hv', o, n⟩, h2, h3⟩ := so.change (ownR_at hr)
  rw [hv] at hv'
  cases hv'
  obtain ⟨p, xs, w1, w2, w3, w4, w5, w6⟩ := o.place so.sk.ex n ha
  exact ⟨p, xs, w1, w4, w5, fun ys es k => h3 p _ _ f w2 (lst_noTup _) (fun _ z => nomatch z) ⟨v, hv, w6 ys es k, n⟩ fun q hq => hq⟩
theorem So.val {H0 B H b0 : Hp} {Γ : Env} {σ : L2.St} {r : R} (so : So b0 H0 B Γ σ H) (hr : TD.ownR Γ i = some r) : ∃ v, σ[i]? = some (some v) := by
  obtain ⟨f, ⟨v', hv', _⟩, _⟩ := so.change (ownR_at hr)
  exact ⟨v', hv'⟩
theorem psx_mutA (h : PS X st (tDrop (tBM X.K "list" rAppend (tP T W X.K gp) (tCons (tG T W ga) tNil)))) : PS X st (tS T W (.mutA gp ga)) := h.imp fun De σ H ⟨b0, H0, B, Γ, d, so, w, r⟩ => by
  obtain ⟨i, l, q, ds, ⟨e1, e2, e3⟩, w'⟩ := w
  obtain ⟨v, hv⟩ := so.val e2
  refine tP_run so e2 hv e1 e3 fun u b1 H1 s wk => ?_
  have so1 := so.step (.tups so.sk.ex s.h)
  obtain ⟨p, xs, k1, k2, k3, k4⟩ := so1.place e2 hv e3
  cases wk.det k1
  refine ⟨.inl ⟨rfl, xs, .inl (.inl k2)⟩, so1.view r w' fun y x b2 H2 s2 rp ⟨z, h8, q2⟩ => ?_⟩
  have so2 := so1.step (.tups so1.sk.ex s2.h)
  obtain ⟨p', xs', g1, g2, g3, g4⟩ := so2.place e2 hv e3
  cases (wk.mono s2.h).det g1
  refine ⟨p, xs', y, rfl, rfl, g2, ?_, r.nx _ _ _ _ (g4 _ _ (g3.app (.one (Rp.imm (ex_trans so1.sk.ex s2.h) s2.bh x rp z)))) q2⟩
  rw [g3.len, sizeLine_eq]
  exact h8
theorem psx_mutC (h : PS X st (tDrop (tBM0 X.K "list" rClear (tP T W X.K gp)))) : PS X st (tS T W (.mutC gp)) := h.imp fun De σ H ⟨b0, H0, B, Γ, d, so, w, r⟩ => by
  obtain ⟨i, l, q, ds, ⟨e1, e2, e3⟩, w'⟩ := w
  obtain ⟨v, hv⟩ := so.val e2
  refine tP_run so e2 hv e1 e3 fun u b1 H1 s wk => ?_
  have so1 := so.step (.tups so.sk.ex s.h)
  obtain ⟨p, xs, k1, k2, k3, k4⟩ := so1.place e2 hv e3
  cases wk.det k1
  exact ⟨.inl ⟨rfl, xs, .inl (.inl k2)⟩, p, xs, rfl, rfl, k2, r.nx _ _ _ _ (k4 _ _ .nil) w'⟩
theorem psx_mutS (h : PS X st (tAsg (tG T W ga) (gSub (tP T W X.K gp) (tG T W gk) rSetL))) : PS X st (tS T W (.mutS gp gk ga)) := h.imp fun De σ H ⟨b0, H0, B, Γ, d, so, w, r⟩ => by
  obtain ⟨i, l, q, ds, ⟨e1, e2, e3⟩, w'⟩ := w
  obtain ⟨v, hv⟩ := so.val e2
  refine so.view r w' fun y x b1 H1 s rp ⟨z, w2⟩ => ?_
  have so1 := so.step (.tups so.sk.ex s.h)
  have rv := Rp.imm (ex_trans so.sk.ex s.h) s.bh x rp z
  refine tP_run so1 e2 hv e1 e3 fun u b2 H2 s2 wk => ?_
  have so2 := so1.step (.tups so1.sk.ex s2.h)
  refine so2.view r w2 fun n y b3 H3 s3 rp2 ⟨j, ej, j0, j1, q2⟩ => ?_
  subst ej
  have so3 := so2.step (.tups so2.sk.ex s3.h)
  obtain ⟨p, xs, k1, k2, k3, k4⟩ := so3.place e2 hv e3
  cases (wk.mono s3.h).det k1
  cases rp_int rp2
  refine ⟨p, xs, j, j.toNat, rfl, rfl, k2, ?_, r.nx _ _ _ _ (k4 _ _ (k3.set j.toNat ((rv.mono (tups_ex _ _)).mono (tups_ex _ _)))) q2⟩
  unfold ixN
  rw [if_pos j0, if_pos (by rw [k3.len]; exact j1)]
theorem psx_tmpApp (h : PS X st (tDrop (tBM X.K "list" rAppend (tR T W gr) (tCons (tG T W ga) tNil)))) : PS X st (tS T W (.tmpApp gr ga)) := h.imp fun De σ H ⟨b0, H0, B, Γ, d, so, w, r⟩ => by
  refine ⟨H0, B, Γ, so.sk, ?_⟩
  have w' : onR (evR T Γ gr) (fun x => d.ex x Γ) fun q => ∃ ds, q = .ol ds ∧ onR (ev T (TD.view Γ) ga) (fun x => d.ex x Γ) fun v => imm v = true ∧ ds.length < 16777216 ∧ d.nx Γ := w
  cases q : evR T Γ gr with
  | ok x =>
    rw [q] at w'
    obtain ⟨ds, rfl, w2⟩ := w'
    intro v f B1 H1 s o n k im
    cases o with
    | ol h1 h2 h3 =>
      rename_i p xs
      have so1 := so.step s
      refine ⟨.inl ⟨rfl, xs, .inl (.inl h2)⟩, so1.view r w2 fun y x b2 H2 s2 rp ⟨z, h8, q2⟩ => ?_⟩
      refine ⟨p, xs, y, rfl, rfl, s2.h _ _ h2, ?_, r.nx B1 Γ _ _ (so.step ⟨s.b, fun a u e => ?_, fun a u e => ?_, s.own⟩) q2⟩
      · rw [h3.len, sizeLine_eq]
        exact h8
      · have : a ≠ p := fun z => by
          subst z
          rw [k a List.mem_cons_self] at e
          cases e
        rw [upd_ne this]
        exact s2.h _ _ (s.h _ _ e)
      · have : a ≠ p := fun z => by
          subst z
          rw [h1] at e
          cases e
        rw [upd_ne this]
        exact s2.h _ _ (s.bh _ _ e)
  | err x => rw [q] at w'; exact so.err r w'
  | bad => rw [q] at w'; exact w'
end
end TD

/-! TD19: how often a truth value stands in a list. -/
namespace TD
open PySem PySem.Spec PyProof.Rows L2
def rCntB (K : PySem.W.Frag) : V → List V → Hp → VK → Prop := fun x xs H Q => ∃ (p : Addr) (bs : List Bool) (k : Bool), x = .ref p ∧ xs = [.bl k] ∧ SqL K H p (bs.map V.bl) ∧ Q (.int (bs.count k : Nat)) H
def eqb (k : Bool) (v : Value) : Bool := match v with
  | .bool n => n == k
  | _ => false
theorem eqb_all {k : Bool} {A : Around} {s : Shared} : ∀ {us : List Value} {bs : List Bool}, Vals (bs.map V.bl) us → (∀ y ∈ us, SeqAt.EqAt A s y (.bool k) (eqb k y)) ∧ us.countP (eqb k) = bs.count k
  | us, [], r => by
    cases r
    exact ⟨fun y hy => (nomatch hy), rfl⟩
  | us, b :: bs, r => by
    cases r with
    | cons a r =>
      cases (show _ = Value.bool b from a)
      have ih := eqb_all (k := k) (A := A) (s := s) r
      refine ⟨fun y hy => ?_, ?_⟩
      · rcases List.mem_cons.mp hy with e | e
        · rw [e]
          exact SeqAt.EqAt.bool_bool b k
        · exact ih.1 y e
      · rw [List.countP_cons, List.count_cons, ih.2]
        rfl
section
variable {X : Cx} {T : Tb} {W : WX} {a b : Expr} {ga gb : GE} {pos : Pos}
theorem mt_lcountB : MtR X "list.count" (rCntB X.K) := by
  intro pins s σ H x xs v us Q I rx rxs h
  obtain ⟨p, bs, k, rfl, rfl, hs, q⟩ := h
  cases rx
  obtain ⟨u, rfl, ru⟩ := rxs.one
  cases (show u = Value.bool k from ru)
  obtain ⟨its, rv, ⟨⟨cls, dd, data, sl⟩, n, ho, hc, hdn, hd⟩, hlen⟩ := I.list hs
  simp only at hc hd
  subst hc hd
  have hi := fun A s => eqb_all (k := k) (A := A) (s := s) rv
  refine call_meets PySem.F.slot_list_count ⟨_, ho, rfl⟩ PySem.F.entry_list_count (PySem.F.args_list_count_2 _ _)
    (SeqAt.list_countAt p its.toArray n dd sl (.bool k) (eqb k)) ⟨ho, fun y hy => (hi _ _).1 y (by simpa using hy), ?_⟩
  refine ⟨.int (bs.count k : Nat), H, I.tok _, ⟨s.toks, ?_⟩, q⟩
  show Value.int ((its.toArray.toList.countP (eqb k) : Nat) : Int) s.toks = Value.int ((bs.count k : Nat) : Int) s.toks
  rw [show its.toArray.toList = its from rfl, (hi X.A s).2]
theorem decB_sound : ∀ {ds : List D} {ns : List Bool}, decB ds = some ns → ds = ns.map PyData.bool
  | [], _, h => by cases h; rfl
  | d :: r, ns, h => by
    cases d with
    | bool i =>
      have h' : (decB r).map (i :: ·) = some ns := h
      cases e : decB r with
      | none => rw [e] at h'; cases h'
      | some l =>
        rw [e] at h'
        cases h'
        rw [decB_sound e]
        rfl
    | _ => cases h
theorem RpA.bools {H : Hp} : ∀ {vs : List V} {ns : List Bool}, RpA H vs (ns.map PyData.bool) → vs = ns.map V.bl
  | [], [], .nil => rfl
  | _, _ :: _, .cons a b => by cases a; rw [RpA.bools b]; rfl
theorem cntB_inv {σ : L2.St} {B H : Hp} {x y : D} {Q : VK} (p : Post T W σ B H (cntBD x y) Q) : ∃ (ns : List Bool) (k : Bool), x = .list (ns.map .bool) ∧ y = .bool k ∧ Post T W σ B H (.ok (.int (ns.count k))) Q := by
  cases x with
  | list ds => cases y with
    | bool k =>
      have p' : Post T W σ B H (match decB ds with
        | some ns => .ok (.int (ns.count k))
        | none => .bad) Q := p
      cases e : decB ds with
      | none => rw [e] at p'; exact p'.elim
      | some ns => rw [e] at p'; exact ⟨ns, k, by rw [decB_sound e], rfl, p'⟩
    | _ => exact False.elim p
  | _ => exact False.elim p
theorem px_cntB (ha : PE X a (tG T W ga)) (hb : PE X b (tG T W gb)) {ap : Pos} (hm : PE X (.Call (.Attribute a "count" ap) [b] [] pos) (tBM X.K "list" (rCntB X.K) (tG T W ga) (tCons (tG T W gb) tNil))) : PE X (.Call (.Attribute a "count" ap) [b] [] pos) (tG T W (.cntB ga gb)) := hm.imp fun σ H Q ⟨B, Γ, hs, p⟩ =>
  tG_mono (g_bind hs p) fun x H1 ⟨d, B1, st, hs1, rx, p1⟩ => by
    cases d with
    | list ds =>
      cases rx with
      | lst h1 h2 =>
        refine ⟨.inl ⟨rfl, _, .inl (rd_mono hs1.ex h1)⟩, tG_mono (g_bind hs1 p1) fun y H2 ⟨e, B2, st2, hs2, ry, p2⟩ => ?_⟩
        obtain ⟨ns, k, e1, e3, q⟩ := cntB_inv p2
        cases e1
        subst e3
        have e2 := RpA.bools h2
        subst e2
        cases ry
        exact ⟨_, ns, k, rfl, rfl, .inl (rd_mono hs2.ex (rd_mono st2.b h1)), q.here (d := .int _) hs2.ex (.int _)⟩
    | _ => exact False.elim p1
end
@[simp] theorem decB_map : ∀ bs : List Bool, decB (bs.map .bool) = some bs
  | [] => rfl
  | b :: bs => by
    show (decB (bs.map .bool)).map (b :: ·) = _
    rw [decB_map bs]
    rfl
section
variable {T : Tb} {Γ : Env} {a b : GE}
def lstR (x : D) (r : Rs D) : Rs D := match x with
  | .list _ => r
  | _ => .bad
@[simp] theorem lstR_l {ds : List D} {r : Rs D} : lstR (.list ds) r = r := rfl
@[simp] theorem e_cnt : ev T Γ (.cnt a b) = (ev T Γ a).bind fun x => lstR x ((ev T Γ b).bind fun y => cntD x y) := by
  show Rs.bind _ _ = Rs.bind _ _
  congr 1
  funext x
  cases x <;> rfl
@[simp] theorem e_cntB : ev T Γ (.cntB a b) = (ev T Γ a).bind fun x => lstR x ((ev T Γ b).bind fun y => cntBD x y) := by
  show Rs.bind _ _ = Rs.bind _ _
  congr 1
  funext x
  cases x <;> rfl
@[simp] theorem cntB_l {bs : List Bool} {k : Bool} : cntBD (.list (bs.map .bool)) (.bool k) = .ok (.int (bs.count k)) := by
  show (match decB (bs.map .bool) with | some ns => Rs.ok (PyData.int (ns.count k)) | none => .bad) = _
  rw [decB_map]
end
end TD

/-! TD20: loops over numbers and pairs; short words. -/
namespace TL
open PySem PySem.Spec PyProof.Rows L2 TD
abbrev oI (n : Int) : Out := .ret (.im (.int n))
abbrev oB (n : Bool) : Out := .ret (.im (.bool n))
theorem mapO {α β : Type} {o : Option α} {f : α → β} {b : β} (h : o.map f = some b) : ∃ a, o = some a ∧ f a = b := by
  cases o with
  | none => cases h
  | some a => exact ⟨a, rfl, Option.some.inj h⟩
@[simp] theorem pu0 (b : Bool) : (false ^^ b) = b := by cases b <;> rfl
@[simp] theorem size_lit {n : Nat} (h : n ≤ 16777216) : TD.sizeOk n = true := by unfold TD.sizeOk; exact decide_eq_true h
/-- a loop over the numbers from 0 -/
theorem wp_rng {T : Tb} {ws : List Nat} {t : Nat} {a : GE} {body : GSs} {d : GD} {Γ : TD.Env} {n : Int} (I : Nat → TD.Env → Prop) (he : ev T (stab Γ) a = .ok (.int n)) (hn : n < 2 ^ 62) (h0' : 0 ≤ n) (h0 : I 0 (wipeE Γ ws))
    (hs : ∀ (i : Nat) (Γ : TD.Env), (i : Int) < n → I i Γ → wpSs T body { d with nx := fun Γ' => I (i + 1) (wipeE Γ' ws) } (Γ.set t (some (.fz (.int i))))) (h1 : ∀ Γ, I n.toNat Γ → d.nx Γ) : TD.wpS T (.for_ ws [t] (.i1 a) body) d Γ := by
  have e2 : evI T (stab Γ) (.i1 a) = .ok (rngL 0 n) := by
    show (ev T (stab Γ) a).bind _ = _
    rw [he]
    show (if rngOk n = true then Rs.ok (rngL 0 n) else .bad) = _
    rw [if_pos (by unfold rngOk; exact decide_eq_true (by omega))]
  refine wp_for (fun r Γ' => ∃ i : Nat, r = (rngL 0 n).drop i ∧ i ≤ n.toNat ∧ I i Γ') e2 ⟨0, rfl, Nat.zero_le _, h0⟩ (fun it r Γ1 z => ?_) (fun Γ1 z => ?_)
  · obtain ⟨i, e, hi, hI⟩ := z
    have hl : (rngL 0 n).length = n.toNat := by unfold rngL; simp
    have hlt : i < n.toNat := by
      by_cases q : i < n.toNat
      · exact q
      · rw [List.drop_of_length_le (by omega)] at e
        cases e
    rw [List.drop_eq_getElem_cons (by omega)] at e
    have e3 : (rngL 0 n)[i]'(by omega) = [PyData.int i] := by
      unfold rngL
      simp
    rw [e3] at e
    cases e
    exact wpSs_mono body (hs i Γ1 (by omega) hI) ⟨fun Γ2 y => ⟨i + 1, rfl, by omega, y⟩, fun _ y => y, fun _ _ y => y⟩
  · obtain ⟨i, e, hi, hI⟩ := z
    have hl : (rngL 0 n).length = n.toNat := by unfold rngL; simp
    have : i = n.toNat := by
      have := congrArg List.length e
      simp [hl] at this
      omega
    subst this
    exact h1 _ hI

/-- a loop over a list of pairs -/
theorem wp_prs {T : Tb} {ws : List Nat} {t : Nat} {a : GE} {body : GSs} {d : GD} {Γ : TD.Env} {ps : List (Int × Int)} (I : List (Int × Int) → TD.Env → Prop) (he : ev T (stab Γ) a = .ok (.list (ps.map eP))) (h0 : I ps (wipeE Γ ws))
    (hs : ∀ p r Γ, I (p :: r) Γ → wpSs T body { d with nx := fun Γ' => I r (wipeE Γ' ws) } (Γ.set t (some (.fz (eP p))))) (h1 : ∀ Γ, I [] Γ → d.nx Γ) : TD.wpS T (.for_ ws [t] (.il a) body) d Γ := by
  have e2 : evI T (stab Γ) (.il a) = .ok (ps.map fun p => [eP p]) := by
    show (ev T (stab Γ) a).bind _ = _
    rw [he]
    show Rs.ok ((ps.map eP).map fun d => [d]) = _
    rw [List.map_map]
    rfl
  refine wp_for (fun r Γ' => ∃ qs : List (Int × Int), r = qs.map (fun p => [eP p]) ∧ I qs Γ') e2 ⟨ps, rfl, h0⟩ (fun it r Γ1 z => ?_) (fun Γ1 z => ?_)
  · obtain ⟨qs, e, hI⟩ := z
    cases qs with
    | nil => cases e
    | cons p qs =>
      cases e
      exact wpSs_mono body (hs p qs Γ1 hI) ⟨fun Γ2 y => ⟨qs, rfl, y⟩, fun _ y => y, fun _ _ y => y⟩
  · obtain ⟨qs, e, hI⟩ := z
    cases qs with
    | nil => exact h1 _ hI
    | cons p qs => cases e
/-- a list by each of a list -/
theorem lcM_all {α : Type} {f : α → Rs (Option D)} {g : α → D} : ∀ {l : List α}, (∀ a ∈ l, f a = .ok (some (g a))) → lcM f l = .ok (l.map g)
  | [], _ => rfl
  | a :: r, h => by
    unfold lcM
    rw [h a List.mem_cons_self]
    show (lcM f r).map _ = _
    rw [lcM_all fun b hb => h b (List.mem_cons_of_mem _ hb)]
    rfl
theorem bindO {α β : Type} {o : Option α} {f : α → Option β} {b : β} (h : o.bind f = some b) : ∃ a, o = some a ∧ f a = some b := by
  cases o with
  | none => cases h
  | some a => exact ⟨a, rfl, h⟩
theorem e_lc {T : Tb} {Γ : TD.Env} {t : Nat} {a e : GE} {ps : List (Int × Int)} {g : Int × Int → D} (he : ev T Γ a = .ok (.list (ps.map eP))) (hl : ps.length ≤ 16777216) (hg : ∀ p ∈ ps, ev T ((wipeE Γ [t]).set t (some (.fz (eP p)))) e = .ok (g p)) :
    evF T Γ (.lc [t] (.il a) e) = .ok (ps.map g) := by
  show (evI T Γ (.il a)).bind _ = _
  have e2 : evI T Γ (.il a) = .ok (ps.map fun p => [eP p]) := by
    show (ev T Γ a).bind _ = _
    rw [he]
    show Rs.ok ((ps.map eP).map fun d => [d]) = _
    rw [List.map_map]
    rfl
  rw [e2]
  show (if TD.sizeOk (ps.map fun p => [eP p]).length = true then lcM _ (ps.map fun p => [eP p]) else Rs.bad) = _
  rw [if_pos (size_lit (by rw [List.length_map]; exact hl))]
  have := lcM_all (f := fun it => (ev T (setTs (wipeE Γ [t]) [t] it) e).map some) (l := ps.map fun p => [eP p]) (g := fun it => match it with | [.tuple [.int x, .int y]] => g (x, y) | _ => .none) (fun it hit => by
    obtain ⟨p, hp, rfl⟩ := List.mem_map.mp hit
    show (ev T ((wipeE Γ [t]).set t (some (.fz (eP p)))) e).map some = _
    rw [hg p hp]
    rfl)
  rw [this, List.map_map]
  rfl
end TL
namespace TD
open PySem PySem.Spec PyProof.Rows L2
section
variable {T : Tb} {Γ : Env} {a b c : GE} {i j : Int} {ds es : List D}
def slToR (x y : D) : Rs (List D) := match x, y with
  | .list ds, .int j => if decide (0 ≤ j) then .ok (ds.take j.toNat) else .bad
  | _, _ => .bad
theorem slToR_l (h : 0 ≤ j) : slToR (.list ds) (.int j) = .ok (ds.take j.toNat) := by
  show (if decide (0 ≤ j) = true then Rs.ok (ds.take j.toNat) else .bad) = _
  rw [decide_eq_true h, if_pos rfl]
@[simp] theorem e_slTo : evF T Γ (.slTo a b) = (ev T Γ a).bind fun x => (ev T Γ b).bind fun y => slToR x y := rfl
def slFromR (x y : D) : Rs (List D) := match x, y with
  | .list ds, .int j => if decide (0 ≤ j) then .ok (ds.drop j.toNat) else .bad
  | _, _ => .bad
theorem slFromR_l (h : 0 ≤ j) : slFromR (.list ds) (.int j) = .ok (ds.drop j.toNat) := by
  show (if decide (0 ≤ j) = true then Rs.ok (ds.drop j.toNat) else .bad) = _
  rw [decide_eq_true h, if_pos rfl]
@[simp] theorem e_slFrom : evF T Γ (.slFrom a b) = (ev T Γ a).bind fun x => (ev T Γ b).bind fun y => slFromR x y := rfl
def catR (x y : D) : Rs (List D) := match x, y with
  | .list ds, .list es => if TD.sizeOk (ds.length + es.length) then .ok (ds ++ es) else .bad
  | _, _ => .bad
theorem catR_l (h : ds.length + es.length ≤ 16777216) : catR (.list ds) (.list es) = .ok (ds ++ es) := by
  show (if TD.sizeOk (ds.length + es.length) = true then Rs.ok (ds ++ es) else .bad) = _
  rw [TL.size_lit h, if_pos rfl]
@[simp] theorem e_cat : evF T Γ (.cat a b) = (ev T Γ a).bind fun x => (ev T Γ b).bind fun y => catR x y := rfl
def repR (x y : D) : Rs (List D) := match y with
  | .int k => if repOk k then .ok (List.replicate k.toNat x) else .bad
  | _ => .bad
theorem repR_i {x : D} (h : 0 ≤ j) (h2 : j ≤ 16777216) : repR x (.int j) = .ok (List.replicate j.toNat x) := by
  show (if repOk j = true then Rs.ok (List.replicate j.toNat x) else .bad) = _
  unfold repOk
  rw [decide_eq_true h, TL.size_lit (by omega)]
  rfl
@[simp] theorem e_rep : evF T Γ (.rep a b) = (ev T Γ a).bind fun x => (ev T Γ b).bind fun y => repR x y := rfl
@[simp] theorem e_sl2 : evF T Γ (.slBoth a b c) = (ev T Γ a).bind fun x => (ev T Γ b).bind fun y => match y with
    | .int i => (ev T Γ c).bind fun z => match x, z with
      | .list ds, .int j => if decide (0 ≤ i) && decide (i ≤ j) then .ok ((ds.drop i.toNat).take (j - i).toNat) else .bad
      | _, _ => .bad
    | _ => .bad := rfl
end
end TD

/-! TD21: a row of one's own rows is read, and a new one is put behind. -/
namespace TD
open PySem PySem.Spec PyProof.Rows L2
section
variable {H0 B H B1 H1 b0 : Hp} {Γ : Env} {σ : L2.St}
theorem Sk.change2 (h : Sk H0 B Γ σ H) (nv : NV Γ) (st : Sp' B H B1 H1) {i : Nat} {s : Sl} (e : Γ[i]? = some (some s)) : ∃ f, SlotOk B1 H1 s (σ[i]?) f ∧ (∀ p ∈ f, H0 p = none ∧ H p ≠ none ∧ B1 p = none ∧ ∃ o, H1 p = some o ∧ NoTup o) ∧
    ∀ p o s' f', p ∈ f → NoTup o → SlotOk B1 (upd H1 p o) s' (σ[i]?) f' → (∀ q ∈ f', q ∈ f ∨ (H q = none ∧ B1 q = none ∧ ∃ u, H1 q = some u ∧ NoTup u)) → Sk H0 B1 (Γ.set i (some s')) σ (upd H1 p o) := by
  obtain ⟨F, g0⟩ := h.sl
  have g := g0.step st
  have old : ∀ c, ∀ q ∈ F c, H q ≠ none := fun c q hq z => by
    obtain ⟨_, _, o, q3, _⟩ := g0.at' c q hq
    rw [q3] at z
    cases z
  refine ⟨F i, g.ok i s e, fun p hp => ⟨(g.at' i p hp).1, old i p hp, (g.at' i p hp).2⟩, fun p o s' f' hp no k sub => ?_⟩
  obtain ⟨p1, p2, _⟩ := g.at' i p hp
  have exu : ∀ {G : Hp}, G p = none → Ex G H1 → Ex G (upd H1 p o) := fun {G} hn he a u ha => by
    rw [upd_ne (ne_of_none ha hn)]
    exact he a u ha
  have hl : i < Γ.length := (List.getElem?_eq_some_iff.mp e).1
  have new : ∀ c, c ≠ i → ∀ q ∈ f', q ∉ F c := fun c hc q hq z => by
    rcases sub q hq with y | ⟨y, _⟩
    · exact g.dis i c (Ne.symm hc) q y z
    · exact old c q z y
  refine ⟨by rw [List.length_set]; exact h.len, exu p1 (ex_trans h.e0 st.h), exu p2 st.bh, fun j => if j = i then f' else F j, ⟨fun a b hab q hq => ?_, fun a q hq => ?_, fun j t ej => ?_⟩⟩
  · by_cases ha : a = i
    · simp only [ha, if_true] at hq
      by_cases hb : b = i
      · exact absurd (ha.trans hb.symm) hab
      · simp only [hb, if_false]
        exact new b hb q hq
    · simp only [ha, if_false] at hq
      by_cases hb : b = i
      · simp only [hb, if_true]
        exact fun z => new a ha q z hq
      · simp only [hb, if_false]
        exact g.dis a b hab q hq
  · have there : ∀ u, H1 q = some u → NoTup u → ∃ u, upd H1 p o q = some u ∧ NoTup u := fun u q3 q4 => by
      by_cases z : q = p
      · subst z
        exact ⟨o, upd_same, no⟩
      · exact ⟨u, by rw [upd_ne z]; exact q3, q4⟩
    have there2 : ∀ c, q ∈ F c → H0 q = none ∧ B1 q = none ∧ ∃ u, upd H1 p o q = some u ∧ NoTup u := fun c hq => by
      obtain ⟨q1, q2, u, q3, q4⟩ := g.at' c q hq
      exact ⟨q1, q2, there u q3 q4⟩
    by_cases ha : a = i
    · simp only [ha, if_true] at hq
      rcases sub q hq with y | ⟨y1, y2, u, y3, y4⟩
      · exact there2 i y
      · exact ⟨ex_back h.e0 y1, y2, there u y3 y4⟩
    · simp only [ha, if_false] at hq
      exact there2 a hq
  · by_cases hj : j = i
    · subst hj
      rw [List.getElem?_set_self hl] at ej
      cases ej
      simp only [if_true]
      exact k
    · rw [get_set_ne (Ne.symm hj)] at ej
      simp only [hj, if_false]
      have q := g.ok j t ej
      have np : p ∉ F j := g.dis i j (Ne.symm hj) p hp
      cases t with
      | fz d => exact q
      | own r =>
        obtain ⟨v, e1, r1, n1⟩ := q
        exact ⟨v, e1, r1.frame (ex_refl _) fun a ha => ⟨upd_ne fun z => np (z ▸ ha), (r1.at a ha).1⟩, n1⟩
      | dc ow kvs =>
        obtain ⟨d, ks, e1, h1, h2, h3⟩ := q
        cases ow with
        | false => exact absurd ej (nv j kvs)
        | true =>
          have np' : d ≠ p := fun z => np (by rw [h3 rfl, z]; exact List.mem_cons_self)
          exact ⟨d, ks, e1, by rw [upd_ne np']; exact h1, h2, h3⟩
      | xc a x => exact q
      | pin d ds =>
        obtain ⟨e1, ef, h1, xs, h2, h3⟩ := q
        exact ⟨e1, ef, h1, xs, by rw [upd_ne fun z => np (by rw [ef, z]; exact List.mem_cons_self)]; exact h2, h3⟩
      | mp d c =>
        obtain ⟨e1, ef, h1, h2⟩ := q
        exact ⟨e1, ef, h1, h2.step (ex_refl _) (upd_ne fun z => np (by rw [ef, z]; exact List.mem_cons_self))⟩
      | dl kvs => exact q
      | hv b v d => exact q
theorem OrA.snoc {B H : Hp} {v : V} {r : R} {g : List Addr} (o : Or B H v r g) : ∀ {vs : List V} {rs : List R} {f : List Addr}, OrA B H vs rs f → OrA B H (vs ++ [v]) (rs ++ [r]) (f ++ g)
  | _, _, _, .nil => by
    have := OrA.cons o OrA.nil
    rw [List.append_nil] at this
    exact this
  | _, _, _, .cons a b => by
    have := OrA.cons a (OrA.snoc o b)
    rw [← List.append_assoc] at this
    exact this
/-- a new row behind one's own rows -/
theorem So.addRow (h : So b0 H0 B Γ σ H) (st : Sp' B H B1 H1) {i : Nat} {rs : List R} (e : Γ[i]? = some (some (.own (.on rs)))) {q : Addr} {ys : List V} {ds : List D} (q0 : H q = none) (q1 : B1 q = none) (q2 : H1 q = some (.lst ys)) (q3 : RpA B1 ys ds) :
    ∃ l xs, σ[i]? = some (some (.ref l)) ∧ H1 l = some (.lst xs) ∧ xs.length = rs.length ∧ So b0 H0 B1 (Γ.set i (some (.own (.on (rs ++ [.ol ds]))))) σ (upd H1 l (.lst (xs ++ [.ref q]))) := by
  obtain ⟨f, ⟨v, h1, h2, h3⟩, h4, h5⟩ := h.sk.change2 h.nv st e
  cases h2 with
  | on h6 h7 h8 =>
    rename_i l xs g
    have n' := List.nodup_cons.mp h3
    have hql : q ≠ l := fun z => (h4 l List.mem_cons_self).2.1 (z ▸ q0)
    have hqg : q ∉ g := fun z => (h4 q (List.mem_cons_of_mem _ z)).2.1 q0
    have s1 := h5 l (.lst (xs ++ [.ref q])) (.own (.on (rs ++ [.ol ds]))) (l :: (g ++ [q])) List.mem_cons_self (lst_noTup _)
      ⟨_, h1, .on h6 upd_same (OrA.snoc (.ol q1 (by rw [upd_ne hql]; exact q2) q3) (h8.frame (ex_refl _) fun a ha => ⟨upd_ne fun (z : a = l) => n'.1 (z ▸ ha), (h8.at a ha).1⟩)), by
        refine List.nodup_cons.mpr ⟨fun z => ?_, List.nodup_append.mpr ⟨n'.2, by simp, fun a ha b hb => ?_⟩⟩
        · rcases List.mem_append.mp z with z | z
          · exact n'.1 z
          · exact hql (List.mem_singleton.mp z).symm
        · cases List.mem_singleton.mp hb
          exact fun z => hqg (z ▸ ha)⟩
      (fun a ha => by
        rcases List.mem_cons.mp ha with z | z
        · exact .inl (z ▸ List.mem_cons_self)
        · rcases List.mem_append.mp z with z | z
          · exact .inl (List.mem_cons_of_mem _ z)
          · cases List.mem_singleton.mp z
            exact .inr ⟨q0, q1, _, q2, lst_noTup _⟩)
    refine ⟨l, xs, h1, h7, h8.len, s1, h.nv.set i (fun _ z => nomatch z), ?_⟩
    have sp := h.sp.trans st
    have hH0 : H0 l = none := (h4 l List.mem_cons_self).1
    have exu : ∀ {G K : Hp}, G l = none → Ex G K → Ex G (upd K l (.lst (xs ++ [.ref q]))) := fun {G K} hn he a w ha => by
      rw [upd_ne (ne_of_none ha hn)]
      exact he a w ha
    exact ⟨sp.b, exu hH0 sp.h, exu h6 sp.bh, sp.own⟩
end
section
variable {X : Cx} {T : Tb} {W : WX} {st1 st2 : Stmt} {sts : List Stmt} {gk : GE} {gf : GF} {gs : GSs} {t i : Nat}
theorem pss_brw (h1 : PS X st1 (tAsg (tP T W X.K (.sub (.var i) gk)) (gName t))) (h2 : PS X st2 (tDrop (tBM X.K "list" rAppend (tVar i) (tCons (tF T W gf) tNil)))) (h3 : PSs X sts (tSs T W gs)) : PSs X (st1 :: st2 :: sts) (tSs T W (.brw t i gk gf gs)) :=
  (pss_cons h1 (pss_cons h2 h3)).imp fun De σ H ⟨b0, H0, B, Γ, d, so, w, r⟩ => by
  obtain ⟨hti, rs, j, ds, new, e1, e2, e3, e4, e5, e6, e7, w'⟩ := w
  obtain ⟨v, hv⟩ := so.val e1
  have ep : evP T (TD.view Γ) (.sub (.var i) gk) = .ok (i, [j.toNat]) := by
    show (evP T (TD.view Γ) (.var i)).bind _ = _
    show (ev T (TD.view Γ) gk).bind _ = _
    rw [e2]
    show (if decide (0 ≤ j) = true then Rs.ok (i, [] ++ [j.toNat]) else .bad) = _
    rw [decide_eq_true e3, if_pos rfl]
    rfl
  have ea : R.at (.on rs) [j.toNat] = some (.ol ds) := by
    show (rs[j.toNat]?.bind fun q => q.at []) = _
    rw [e4]
    rfl
  refine tP_run so e1 hv ep ea fun u b1 H1 s wk => ?_
  have so1 := so.step (.tups so.sk.ex s.h)
  obtain ⟨p, xs, k1, k2, k3, _⟩ := so1.place e1 hv ea
  cases wk.det k1
  have hs : (σ.set t (some (.ref p)))[i]? = σ[i]? := get_set_ne hti
  refine ⟨v, by rw [hs]; exact hv, ?_⟩
  obtain ⟨f, ⟨v', hv', o, n⟩, _⟩ := so1.change (ownR_at e1)
  rw [hv] at hv'
  cases hv'
  cases o with
  | on g1 g2 g3 =>
    refine ⟨.inl ⟨rfl, _, .inl (.inl g2)⟩, H1, (TD.view Γ).set t (some (.fz (.list ds))), so1.sk.view.put t _ _ (fun s' z => by cases z; exact ⟨_, rfl, .lst (.inl k2) (k3.mono so1.sk.ex)⟩), ?_⟩
    rw [e5]
    intro q zs b2 H2 s2 q0 q1 q2 q3
    have q1' : tups (tups B H1) H2 q = none := tups_none (tups_none (ex_back so.sk.ex (ex_back s.h q0)) fun ys z => by rw [q0] at z; cases z) fun ys z => by rw [q2] at z; cases z
    have q3' : RpA (tups (tups B H1) H2) zs new := RpA.imm (ex_trans so1.sk.ex s2.h) s2.bh new q3 e6
    obtain ⟨l', xs', r1, r2, r3, r4⟩ := so1.addRow (.tups so1.sk.ex s2.h) (ownR_at e1) q0 q1' q2 q3'
    rw [hv] at r1
    cases r1
    refine ⟨_, xs', .ref q, rfl, rfl, r2, ?_, b0, H0, tups (tups B H1) H2, _, d, ?_, w', r⟩
    · rw [r3, sizeLine_eq]
      exact e7
    · have e8 : (Γ.set t none).set i (some (.own (.on (rs ++ [.ol new])))) = (Γ.set i (some (.own (.on (rs ++ [.ol new]))))).set t none := List.set_comm _ _ hti
      rw [e8]
      exact ⟨r4.sk.put_no t _, r4.nv.set t (fun _ z => nomatch z), r4.sp⟩
end
end TD

/-! TD22: one's own lists, made by a comprehension. -/
namespace TD
open PySem PySem.Spec PyProof.Rows L2
section
variable {X : Cx} {T : Tb} {W : WX} {g : TG} {ts : List Nat} {B H H0 : Hp} {Γ : TD.Env} {σ : L2.St} {Q : VK}
theorem lcLs_err {f : List D → Rs (List D)} {x : Nat} : ∀ {l : List (List D)}, lcLs f l ≠ .err x
  | [], z => by cases z
  | a :: r, z => by
    unfold lcLs at z
    cases q : f a with
    | ok o =>
      rw [q] at z
      by_cases h : immA o = true
      · simp only [h, if_true] at z
        cases q2 : lcLs f r with
        | ok l => simp only [q2] at z; cases z
        | err y => exact lcLs_err q2
        | bad => simp only [q2] at z; cases z
      · simp only [h, if_false] at z
        cases z
    | err y => rw [q] at z; cases z
    | bad => rw [q] at z; cases z
theorem OrA.snoc' {B H : Hp} {p : Addr} {xs : List V} {ds : List D} {vs : List V} {ls : List (List D)} {f : List Addr} (o : OrA B H vs (ls.map .ol) f) (h1 : B p = none) (h2 : H p = some (.lst xs)) (h3 : RpA B xs ds) : OrA B H (vs ++ [.ref p]) ((ls ++ [ds]).map .ol) (f ++ [p]) := by
  rw [List.map_append]
  exact OrA.snoc (.ol h1 h2 h3) o
theorem imms_ol : ∀ {ls : List (List PyData)}, (ls.all fun l => immA l) = true → R.imms (ls.map .ol) = true
  | [], _ => rfl
  | l :: r, h => by
    rw [List.all_cons, Bool.and_eq_true] at h
    have ih := imms_ol h.2
    show (immA l && R.imms (r.map .ol)) = true
    rw [h.1, ih]
    rfl
theorem lcL_go {gi : GI} {gf : GF} (hk : Sk H0 B Γ σ H) (p : PostR T W σ B H (evR T Γ (.lcL ts gi gf)) Q) : tLc (tI T W gi g ts) g tYes (tF T W0 gf) ts σ H Q := by
  have hs : Se H (TD.view Γ) σ H := hk.view
  have p' : PostR T W σ B H ((evI T (TD.view Γ) gi).bind fun items => if sizeOk items.length then (lcLs (fun it => evF T (setTs (wipeE (TD.view Γ) ts) ts it) gf) items).map fun ls => R.on (ls.map .ol) else .bad) Q := p
  refine ⟨H, _, hs, ?_⟩
  cases e : evI T (TD.view Γ) gi with
  | err x => rw [e] at p'; exact PErr.view hk.ex p'
  | bad => rw [e] at p'; exact p'
  | ok items =>
    rw [e] at p'
    refine fun J B1 H1 st m D hD => ?_
    have p2 : PostR T W σ B H (if sizeOk items.length then (lcLs (fun it => evF T (setTs (wipeE (TD.view Γ) ts) ts it) gf) items).map fun ls => R.on (ls.map .ol) else .bad) Q := p'
    by_cases hz' : sizeOk items.length = true
    · rw [if_pos hz'] at p2
      have hz := sizeOk_le hz'
      generalize hf : (fun it => evF T (setTs (wipeE (TD.view Γ) ts) ts it) gf) = f at p2
      cases el : lcLs f items with
      | err x => exact (lcLs_err el).elim
      | bad => rw [el] at p2; exact p2.elim
      | ok ds =>
        rw [el] at p2
        have hsw := hs.step st
        have start : ∃ (b : Hp) (acc : List V) (pre rest : List (List PyData)) (fp : List Addr), Sp' B1 H1 b (upd H1 D (.lst [])) ∧ b D = none ∧ upd H1 D (.lst []) D = some (.lst acc) ∧ OrA b (upd H1 D (.lst [])) acc (pre.map .ol) fp ∧ fp.Nodup ∧ (∀ q ∈ fp, H1 q = none ∧ q ≠ D) ∧ (pre.all fun l => immA l) = true ∧ lcLs f (items.drop 0) = .ok rest ∧ ds = pre ++ rest ∧ pre.length ≤ 0 :=
          ⟨B1, [], [], ds, [], .new st.bh hD, ex_back st.bh hD, upd_same, .nil, List.nodup_nil, fun q hq => (nomatch hq), rfl, el, rfl, Nat.le_refl _⟩
        refine ⟨fun i m' H' => m' = items.length - i ∧ i ≤ items.length ∧ ∃ (b : Hp) (acc : List V) (pre rest : List (List PyData)) (fp : List Addr), Sp' B1 H1 b H' ∧ b D = none ∧ H' D = some (.lst acc) ∧ OrA b H' acc (pre.map .ol) fp ∧ fp.Nodup ∧ (∀ q ∈ fp, H1 q = none ∧ q ≠ D) ∧ (pre.all fun l => immA l) = true ∧ lcLs f (items.drop i) = .ok rest ∧ ds = pre ++ rest ∧ pre.length ≤ i, ⟨_, rfl, Nat.zero_le _, start⟩, ?_⟩
        rintro i m' H' ⟨rfl, hi, b, acc, pre, rest, fp, s1, bD, hH, hacc, hnd, hfr, him, hrest, hds, hpl⟩
        have keep : ∀ {b2 H2 : Hp}, Sp' b H' b2 H2 → OrA b2 H2 acc (pre.map .ol) fp := fun {b2 H2} s => hacc.frame s.b fun q hq => by
          obtain ⟨q1, o, q2, q3⟩ := hacc.at q hq
          exact ⟨by rw [s.h _ _ q2, q2], s.own q o q2 q3 q1⟩
        by_cases hlt : i < items.length
        · have hit : items[i]? = some items[i] := List.getElem?_eq_getElem hlt
          rw [List.drop_eq_getElem_cons hlt] at hrest
          refine .inr ⟨m.go i b H' s1.b s1.bh hlt, fun H2 => ∃ (b : Hp) (acc : List V) (pre rest : List (List PyData)) (fp : List Addr), Sp' B1 H1 b H2 ∧ b D = none ∧ H2 D = some (.lst acc) ∧ OrA b H2 acc (pre.map .ol) fp ∧ fp.Nodup ∧ (∀ q ∈ fp, H1 q = none ∧ q ≠ D) ∧ (pre.all fun l => immA l) = true ∧ lcLs f (items.drop (i + 1)) = .ok rest ∧ ds = pre ++ rest ∧ pre.length ≤ i + 1,
            fun H2 w => ⟨_, by omega, rfl, hlt, w⟩, fun x H2 y => ?_⟩
          obtain ⟨b', s2, gk⟩ := m.yld i _ b H' x H2 s1.b s1.bh hit y
          refine gk _ _ fun vs rv => ⟨?_, ?_⟩
          · rw [wipe_setV fun u hu => hu, wipe_wipe fun u hu => hu]
          · have se : Se b' (setTs (wipeE (TD.view Γ) ts) ts items[i]) (setV (L2.wipe σ ts) ts vs) H2 := (((hsw.step s1).step s2).wipe ts).setTs rv
            have b'D : b' D = none := s2.own D _ hH (lst_noTup _) bD
            have hH2 := s2.h _ _ hH
            have s12 := s1.trans s2
            unfold lcLs at hrest
            unfold tYes
            dsimp only
            rw [if_pos rfl]
            refine ⟨b', _, se, ?_⟩
            have hfi : f items[i] = evF T (setTs (wipeE (TD.view Γ) ts) ts items[i]) gf := by rw [← hf]
            cases q : f items[i] with
            | err y => rw [q] at hrest; cases hrest
            | bad => rw [q] at hrest; cases hrest
            | ok o =>
              rw [q] at hrest
              rw [hfi] at q
              rw [q]
              intro pn xs b2 H3 s3 n1 n2 n3 n4
              by_cases hio : immA o = true
              · simp only [hio, if_true] at hrest
                cases q2 : lcLs f (items.drop (i + 1)) with
                | err y => simp only [q2] at hrest; cases hrest
                | bad => simp only [q2] at hrest; cases hrest
                | ok l =>
                  simp only [q2] at hrest
                  cases hrest
                  have b2D : b2 D = none := s3.own D _ hH2 (lst_noTup _) b'D
                  have s := s12.trans s3
                  have hpD : pn ≠ D := fun z => by
                    rw [z, hH2] at n1
                    cases n1
                  have hpf : pn ∉ fp := fun z => by
                    obtain ⟨_, o', q2', _⟩ := hacc.at pn z
                    rw [s2.h _ _ q2'] at n1
                    cases n1
                  have k := (keep (s2.trans s3)).snoc' n2 n3 n4
                  refine ⟨acc, s3.h _ _ hH2, ?_, b2, acc ++ [.ref pn], pre ++ [o], l, fp ++ [pn], ⟨s.b, fun a o ha => ?_, fun a o ha => ?_, s.own⟩, b2D, upd_same, k.frame (ex_refl _) (fun a ha => ⟨upd_ne fun (z : a = D) => ?_, (k.at a ha).1⟩), ?_, ?_, ?_, rfl, by rw [hds]; simp, by simp; omega⟩
                  · rw [hacc.len, List.length_map]
                    omega
                  · rw [upd_ne (ne_of_none ha hD)]
                    exact s.h a o ha
                  · rw [upd_ne (ne_of_none ha b2D)]
                    exact s.bh a o ha
                  · subst z
                    rcases List.mem_append.mp ha with w | w
                    · exact (hfr a w).2 rfl
                    · exact hpD (List.mem_singleton.mp w).symm
                  · refine List.nodup_append.mpr ⟨hnd, by simp, fun a ha c hc => ?_⟩
                    cases List.mem_singleton.mp hc
                    exact fun z => hpf (z ▸ ha)
                  · intro a ha
                    rcases List.mem_append.mp ha with w | w
                    · exact hfr a w
                    · cases List.mem_singleton.mp w
                      exact ⟨ex_back s12.h n1, hpD⟩
                  · rw [List.all_append, him]
                    simp [hio]
              · simp only [hio, if_false] at hrest
                cases hrest
        · have ei : i = items.length := by omega
          subst ei
          rw [List.drop_length] at hrest
          cases hrest
          rw [List.append_nil] at hds
          subst hds
          refine .inl ⟨m.stop _ b H' s1.b s1.bh (Nat.le_refl _), ?_⟩
          have hh : Ex H H' := ex_trans st.h s1.h
          have nH : ∀ q ∈ D :: fp, H q = none := fun q hq => by
            rcases List.mem_cons.mp hq with w | w
            · rw [w]
              exact ex_back st.h hD
            · exact ex_back st.h (hfr q w).1
          have im : R.imm (.on (ds.map .ol)) = true := by
            exact imms_ol him
          exact p2 (.ref D) (D :: fp) (tups B H') H' (.tups hk.ex hh) ((Or.on bD hH hacc).rebase (ex_trans hk.ex hh) s1.bh im fun q hq => ex_back hk.ex (nH q hq)) (List.nodup_cons.mpr ⟨fun z => (hfr D z).2 rfl, hnd⟩) nH im
    · rw [if_neg hz'] at p2
      exact p2.elim
theorem lcL_imp {gi : GI} {gf : GF} : ∀ σ H Q, tR T W (.lcL ts gi gf) σ H Q → tLc (tI T W gi g ts) g tYes (tF T W0 gf) ts σ H Q := fun σ H Q ⟨H0, B, Γ, hk, p⟩ => lcL_go hk p
end
section
variable {T : Tb} {Γ : Env}
@[simp] theorem r_lcL {ts : List Nat} {gi : GI} {g : GF} : evR T Γ (.lcL ts gi g) = (evI T (view Γ) gi).bind fun items => if sizeOk items.length then (lcLs (fun it => evF T (setTs (wipeE (view Γ) ts) ts it) g) items).map fun ls => .on (ls.map .ol) else .bad := rfl
theorem lcLs_all {f : List PyData → Rs (List PyData)} {g : List PyData → List PyData} : ∀ {l : List (List PyData)}, (∀ a ∈ l, f a = .ok (g a) ∧ immA (g a) = true) → lcLs f l = .ok (l.map g)
  | [], _ => rfl
  | a :: r, h => by
    obtain ⟨h1, h2⟩ := h a List.mem_cons_self
    unfold lcLs
    rw [h1]
    show (if immA (g a) = true then (lcLs f r).map _ else .bad) = _
    rw [if_pos h2, lcLs_all fun b hb => h b (List.mem_cons_of_mem _ hb)]
    rfl
end
end TD

/-! TD23: a loop over numbers, their number worked out as things stand. -/
namespace TD
open PySem PySem.Spec PyProof.Rows L2
section
variable {X : Cx} {T : Tb} {W : WX} {tg iter a : Expr} {bs : List Stmt} {ga : GE} {gs : GSs} {ws : List Nat} {t : Nat} {pos p : Pos}
def tIr (T : Tb) (ga : GE) (t : Nat) : TI := fun σ H R => ∃ B Γ n, Se B Γ σ H ∧ ev T Γ ga = .ok (.int n) ∧ rngOk n = true ∧ ∀ J b1 H1, Sp' B H b1 H1 → (∀ B1, Itm J (rngL 0 n) (gName t) [t] B1) → R J H1
theorem pir_range1 (bi : Bi X.mg) (ha : PE X a (tG T W ga)) (hg : Gl X "range" := by rfl) (he : starEach [a] X.env = (false, eval a X.env) :: starEach [] X.env := by rfl) : PI X tg (.Call (.Name "range" p) [a] [] pos) (tIr T ga t) := by
  refine ⟨fun pins s σ H R I h => (pi_range1 (X := X) (tg := tg) hg bi.range (pa_cons ha pa_nil he) he).run pins s σ H R I ?_⟩
  obtain ⟨B, Γ, n, hs, e, hn, k⟩ := h
  refine ⟨B, Γ, hs, ?_⟩
  rw [e]
  intro v B1 H1 st rx
  obtain ⟨q1, q2⟩ := rngOk_iff hn
  refine ⟨n, by rw [rp_int rx], q1, q2, k _ B1 H1 st fun B2 => ?_⟩
  have e1 : (n - 0).toNat = n.toNat := by rw [Int.sub_zero]
  unfold rngL
  rw [e1]
  exact itm_range
theorem psx_forR (hp : PassesOwn (model X.prog X.w) X.A X.env X.xe) (hc : X.calm = true) (hi : PI X tg iter (tIr T ga t)) (hg : PG X tg (gName t)) (hb : PSs X bs (tSs T W gs)) (hf : ∀ x, foldedSetIterable iter X.env x = pure x := by intro _; rfl) :
    PS X (.For tg iter bs [] pos) (tS T W (.forR ws t ga gs)) := (ps_for hp hc hi hg hb hf).imp fun De σ H ⟨b0, H0, B, Γ, d, so, w, r⟩ => by
  obtain ⟨n, e, hn, w'⟩ := w
  refine ⟨H, _, n, so.sk.view, e, hn, fun J b1 H1 s0 m0 => ?_⟩
  have s : Sp' B H (tups B H1) H1 := .tups so.sk.ex s0.h
  have m := m0 (tups B H1)
  generalize rngL 0 n = items at w' m
  refine ⟨fun i n σ H => n = items.length - i ∧ i ≤ items.length ∧ ∃ B2 Γ2, Ex (tups B H1) B2 ∧ So b0 H0 B2 Γ2 σ H ∧ wpForL (fun d' Γ' => wpSs T gs d' Γ') d ws [t] (items.drop i) Γ2,
      ⟨_, rfl, Nat.zero_le _, tups B H1, _, ex_refl _, (so.step s).wipe ws, w'⟩, ?_⟩
  rintro i n σ2 H2 ⟨rfl, hi, B2, Γ2, ex2, so2, w2⟩
  by_cases hlt : i < items.length
  · rw [List.drop_eq_getElem_cons hlt] at w2
    refine .inr ⟨m.go i B2 H2 ex2 so2.sk.ex hlt, fun σ3 H3 => ∃ B3 Γ3, Ex (tups B H1) B3 ∧ So b0 H0 B3 Γ3 σ3 H3 ∧ wpForL (fun d' Γ' => wpSs T gs d' Γ') d ws [t] (items.drop (i + 1)) Γ3, fun σ3 H3 h => ⟨_, by omega, rfl, hlt, h⟩, fun x H3 y => ?_⟩
    obtain ⟨B3, s3, k3⟩ := m.yld i _ B2 H2 x H3 ex2 so2.sk.ex (List.getElem?_eq_getElem hlt) y
    have so3 := so2.step s3
    exact k3 _ _ fun vs rv => ⟨B3, H0, B3, _, _, (so3.inn).setTs rv, w2, r.inn so3.sp fun B4 Γ4 σ4 H4 so4 w4 => ⟨B4, _, ex_trans ex2 (ex_trans s3.b so4.sp.b), (so4.out so3.sp).wipe ws, w4⟩⟩
  · have ei : i = items.length := by omega
    subst ei
    rw [List.drop_length] at w2
    exact .inl ⟨m.stop _ B2 H2 ex2 so2.sk.ex (Nat.le_refl _), r.nx _ _ _ _ so2 w2⟩
end
end TD
namespace TL
open PySem PySem.Spec PyProof.Rows L2 TD
/-- a loop over the numbers from 0, told as things stand -/
theorem wp_rngR {T : Tb} {ws : List Nat} {t : Nat} {a : GE} {body : GSs} {d : GD} {Γ : TD.Env} {n : Int} (I : Nat → TD.Env → Prop) (he : ev T (view Γ) a = .ok (.int n)) (hn : n < 2 ^ 62) (h0' : 0 ≤ n) (h0 : I 0 (wipeE Γ ws))
    (hs : ∀ (i : Nat) (Γ : TD.Env), (i : Int) < n → I i Γ → wpSs T body { d with nx := fun Γ' => I (i + 1) (wipeE Γ' ws) } (Γ.set t (some (.fz (.int i))))) (h1 : ∀ Γ, I n.toNat Γ → d.nx Γ) : TD.wpS T (.forR ws t a body) d Γ := by
  refine ⟨n, he, by unfold rngOk; exact decide_eq_true (by omega), ?_⟩
  have hl : (rngL 0 n).length = n.toNat := by unfold rngL; simp
  refine for_go (fun r Γ' => ∃ i : Nat, r = (rngL 0 n).drop i ∧ i ≤ n.toNat ∧ I i Γ') (fun it r Γ1 z => ?_) (fun Γ1 z => ?_) _ _ ⟨0, rfl, Nat.zero_le _, h0⟩
  · obtain ⟨i, e, hi, hI⟩ := z
    have hlt : i < n.toNat := by
      by_cases q : i < n.toNat
      · exact q
      · rw [List.drop_of_length_le (by omega)] at e
        cases e
    rw [List.drop_eq_getElem_cons (by omega)] at e
    have e3 : (rngL 0 n)[i]'(by omega) = [PyData.int i] := by
      unfold rngL
      simp
    rw [e3] at e
    cases e
    exact wpSs_mono body (hs i Γ1 (by omega) hI) ⟨fun Γ2 y => ⟨i + 1, rfl, by omega, y⟩, fun _ y => y, fun _ _ y => y⟩
  · obtain ⟨i, e, hi, hI⟩ := z
    have : i = n.toNat := by
      have := congrArg List.length e
      simp [hl] at this
      omega
    subst this
    exact h1 _ hI
end TL

/-! TD24: a loop over a list of one's own. -/
namespace TD
open PySem PySem.Spec PyProof.Rows L2
section
variable {H0 B H B1 H1 b0 : Hp} {Γ : Env} {σ : L2.St}
/-- a slot told in other words -/
theorem Sk.reslot (h : Sk H0 B Γ σ H) {i : Nat} {s s' : Sl} (e : Γ[i]? = some (some s)) (k : ∀ f, SlotOk B H s (σ[i]?) f → SlotOk B H s' (σ[i]?) f) : Sk H0 B (Γ.set i (some s')) σ H := by
  obtain ⟨F, g⟩ := h.sl
  refine ⟨by rw [List.length_set]; exact h.len, h.e0, h.ex, F, g.dis, g.at', fun j t ej => ?_⟩
  by_cases hj : i = j
  · subst hj
    have hl : i < Γ.length := (List.getElem?_eq_some_iff.mp e).1
    rw [List.getElem?_set_self hl] at ej
    cases ej
    exact k _ (g.ok i s e)
  · rw [get_set_ne hj] at ej
    exact g.ok j t ej
theorem So.pin (h : So b0 H0 B Γ σ H) {i : Nat} {ds : List D} (e : ownL Γ i = some ds) : ∃ p, σ[i]? = some (some (.ref p)) ∧ So b0 H0 B (Γ.set i (some (.pin p ds))) σ H := by
  obtain ⟨p, xs, h1, _⟩ := h.list e
  refine ⟨p, h1, h.sk.reslot (ownL_at e) fun f k => ?_, h.nv.set i (fun _ z => nomatch z), h.sp⟩
  obtain ⟨v, k1, k2, k3⟩ := k
  rw [h1] at k1
  cases k1
  cases k2 with
  | ol a b c => exact ⟨h1, rfl, a, _, b, c⟩
theorem So.unpin (h : So b0 H0 B Γ σ H) {i : Nat} {p : Addr} {ds : List D} (e : Γ[i]? = some (some (.pin p ds))) : So b0 H0 B (Γ.set i (some (.own (.ol ds)))) σ H := by
  refine ⟨h.sk.reslot e fun f k => ?_, h.nv.set i (fun _ z => nomatch z), h.sp⟩
  obtain ⟨k1, rfl, k2, xs, k3, k4⟩ := k
  exact ⟨_, k1, .ol k2 k3 k4, List.nodup_cons.mpr ⟨(fun z => by cases z), List.nodup_nil⟩⟩
theorem So.pinned (h : So b0 H0 B Γ σ H) {i : Nat} {p : Addr} {ds : List D} (e : Γ[i]? = some (some (.pin p ds))) : σ[i]? = some (some (.ref p)) ∧ ∃ xs, H p = some (.lst xs) ∧ RpA B xs ds := by
  obtain ⟨F, g⟩ := h.sk.sl
  obtain ⟨k1, _, _, xs, k3, k4⟩ := g.ok i _ e
  exact ⟨k1, xs, k3, k4⟩
end
section
variable {X : Cx} {T : Tb} {W : WX} {tg iter : Expr} {bs : List Stmt} {gs : GSs} {ws : List Nat} {t i : Nat} {pos : Pos}
theorem psx_forO (hp : PassesOwn (model X.prog X.w) X.A X.env X.xe) (hc : X.calm = true) (hi : PI X tg iter (iList X.K (tVar i))) (hg : PG X tg (gName t)) (hb : PSs X bs (tSs T W gs)) (hf : ∀ x, foldedSetIterable iter X.env x = pure x := by intro _; rfl) :
    PS X (.For tg iter bs [] pos) (tS T W (.forO ws t i gs)) := (ps_for hp hc hi hg hb hf).imp fun De σ H ⟨b0, H0, B, Γ, d, so, w, r⟩ => by
  obtain ⟨ds, e, w'⟩ := w
  obtain ⟨p, hv, so1⟩ := so.pin e
  obtain ⟨hws, w2⟩ := w' p
  have hl : i < Γ.length := (List.getElem?_eq_some_iff.mp (ownL_at e)).1
  have hpin : (Γ.set i (some (.pin p ds)))[i]? = some (some (.pin p ds)) := List.getElem?_set_self hl
  obtain ⟨_, xs, hH, rx⟩ := so1.pinned hpin
  refine ⟨.ref p, hv, p, rfl, ⟨xs, .inl (.inl hH)⟩, ?_⟩
  refine ⟨fun k n σ H => n = ds.length - k ∧ k ≤ ds.length ∧ ∃ B2 Γ2, So b0 H0 B2 Γ2 σ H ∧ Γ2[i]? = some (some (.pin p ds)) ∧ wpForO (fun d' Γ' => wpSs T gs d' Γ') d ws t i p ds (ds.drop k) Γ2, ⟨_, rfl, Nat.zero_le _, B, _, so1.wipe ws, hws, w2⟩, ?_⟩
  rintro k n σ2 H2 ⟨rfl, hk, B2, Γ2, so2, hpin2, w3⟩
  obtain ⟨_, ys, hH2, ry⟩ := so2.pinned hpin2
  by_cases hlt : k < ds.length
  · rw [List.drop_eq_getElem_cons hlt] at w3
    have hdk : ds[k]? = some ds[k] := List.getElem?_eq_getElem hlt
    obtain ⟨v, hyk, rv⟩ := ry.get hdk
    refine .inr ⟨⟨ys, v, .inl (.inl hH2), hyk⟩, fun σ3 H3 => ∃ B3 Γ3, So b0 H0 B3 Γ3 σ3 H3 ∧ Γ3[i]? = some (some (.pin p ds)) ∧ wpForO (fun d' Γ' => wpSs T gs d' Γ') d ws t i p ds (ds.drop (k + 1)) Γ3, fun σ3 H3 h => ⟨_, by omega, rfl, hlt, h⟩, fun x H3 y => ?_⟩
    obtain ⟨rfl, y⟩ := y
    have hx : ys[k]? = some x := y ys (.inl (.inl hH2))
    rw [hyk] at hx
    cases hx
    exact ⟨B2, H0, B2, _, _, so2.inn.put_fz t rv, w3, r.inn so2.sp fun B4 Γ4 σ4 H4 so4 w4 => ⟨B4, _, (so4.out so2.sp).wipe ws, w4.2.1, w4.2.2⟩⟩
  · have ei : k = ds.length := by omega
    subst ei
    rw [List.drop_length] at w3
    exact .inl ⟨⟨ys, .inl (.inl hH2), by rw [ry.len]; exact Nat.le_refl _⟩, r.nx _ _ _ _ (so2.unpin hpin2) w3⟩
end
end TD
namespace TL
open PySem PySem.Spec PyProof.Rows L2 TD
theorem forO_go {T : Tb} {ws : List Nat} {t i : Nat} {p : Addr} {ds : List D} {body : GSs} {d : GD} (I : List D → TD.Env → Prop)
    (hs : ∀ x r Γ, I (x :: r) Γ → wpSs T body { d with nx := fun Γ' => Γ'[i]? = some (some (.pin p ds)) ∧ (wipeE Γ' ws)[i]? = some (some (.pin p ds)) ∧ I r (wipeE Γ' ws) } (Γ.set t (some (.fz x)))) (h1 : ∀ Γ, I [] Γ → d.nx (Γ.set i (some (.own (.ol ds))))) : ∀ (r : List D) (Γ0 : TD.Env), I r Γ0 → wpForO (fun d' Γ' => wpSs T body d' Γ') d ws t i p ds r Γ0
  | [], Γ0, z => h1 _ z
  | x :: r, Γ0, z => wpSs_mono body (hs x r Γ0 z) ⟨fun Γ' y => ⟨y.1, y.2.1, forO_go I hs h1 r _ y.2.2⟩, fun _ z => z, fun _ _ z => z⟩
/-- a loop over a list of one's own, each told as something else -/
theorem wp_forO {α : Type} {f : α → D} {T : Tb} {ws : List Nat} {t i : Nat} {body : GSs} {d : GD} {Γ : TD.Env} {xs : List α} (I : Addr → List α → TD.Env → Prop) (he : ownL Γ i = some (xs.map f)) (h0 : ∀ p, (wipeE (Γ.set i (some (.pin p (xs.map f)))) ws)[i]? = some (some (.pin p (xs.map f))) ∧ I p xs (wipeE (Γ.set i (some (.pin p (xs.map f)))) ws))
    (hs : ∀ p x r Γ, I p (x :: r) Γ → wpSs T body { d with nx := fun Γ' => Γ'[i]? = some (some (.pin p (xs.map f))) ∧ (wipeE Γ' ws)[i]? = some (some (.pin p (xs.map f))) ∧ I p r (wipeE Γ' ws) } (Γ.set t (some (.fz (f x))))) (h1 : ∀ p Γ, I p [] Γ → d.nx (Γ.set i (some (.own (.ol (xs.map f)))))) : TD.wpS T (.forO ws t i body) d Γ := by
  refine ⟨xs.map f, he, fun p => ⟨(h0 p).1, ?_⟩⟩
  refine forO_go (fun r Γ' => ∃ qs : List α, r = qs.map f ∧ I p qs Γ') (fun x r Γ1 z => ?_) (fun Γ1 z => ?_) _ _ ⟨xs, rfl, (h0 p).2⟩
  · obtain ⟨qs, e, hI⟩ := z
    cases qs with
    | nil => cases e
    | cons q qs =>
      cases e
      exact wpSs_mono body (hs p q qs Γ1 hI) ⟨fun Γ2 y => ⟨y.1, y.2.1, qs, rfl, y.2.2⟩, fun _ y => y, fun _ _ y => y⟩
  · obtain ⟨qs, e, hI⟩ := z
    cases qs with
    | nil => exact h1 _ _ hI
    | cons q qs => cases e
end TL

/-! TD25: a def that takes over what is its caller's own: its last parameter. -/
namespace TD
open PySem PySem.Spec PyProof.Rows L2

def minus (H : Hp) (f : List Addr) : Hp := fun a => if a ∈ f then none else H a
theorem minus_in {H : Hp} {f : List Addr} {a : Addr} (h : a ∈ f) : minus H f a = none := if_pos h
theorem minus_out {H : Hp} {f : List Addr} {a : Addr} (h : a ∉ f) : minus H f a = H a := if_neg h
theorem minus_ex (H : Hp) (f : List Addr) : Ex (minus H f) H := fun a o h => by
  unfold minus at h
  split at h
  · cases h
  · exact h
theorem ex_minus {B H : Hp} {f : List Addr} (e : Ex B H) (k : ∀ p ∈ f, B p = none) : Ex B (minus H f) := fun a o h => by
  rw [minus_out fun z => by rw [k a z] at h; cases h]
  exact e a o h
/-- what is promised of such a def -/
def spC (φ : List D → Option Out) : Sp := fun vs H Q E => ∃ b ds vs' v r f, vs = vs' ++ [v] ∧ Ex b H ∧ RpA b vs' ds ∧ Or b H v r f ∧ f.Nodup ∧ shp r.toD = r ∧ r.imm = true ∧ match φ (ds ++ [r.toD]) with
  | some (.ret r') => ∀ v f' B1 H1, Sp' b (minus H f) B1 H1 → (∀ p ∈ f', minus H f p = none) → f'.Nodup → Or B1 H1 v r' f' → r'.imm = true → Q v H1
  | _ => False
structure CalleeC (X : Cx) (T : Tb) (j : Nat) (x : Str) : Prop where
  ex : ∃ φ f fd ps k, T.fs[j]? = some φ ∧ FnOk X.prog X.w X.K X.mg X.base (L2.CX X.prog X.w) k f fd ps (spC φ) ∧ Room k X.A ∧ X.mg x = some (.ref f) ∧ PySem.W.keepIn X.K (.ref f) = true ∧ Binds X.K fd ps []
structure CalC (P : Program) (w : World) (K : PySem.W.Frag) (mg : Str → Option Value) (base : Heap) (ca : Nat → Addr) (x : Str) (φ : List D → Option Out) (k : Nat) : Prop where
  ex : ∃ f fd ps, FnOk P w K mg base (L2.CX P w) k f fd ps (spC φ) ∧ mg x = some (.ref f) ∧ PySem.W.keepIn K (.ref f) = true ∧ Binds K fd ps []
theorem CalC.at {X : Cx} {T : Tb} {x : Str} {φ : List D → Option Out} {j k n : Nat} (c : CalC X.prog X.w X.K X.mg X.base T.ca x φ j) (hr : Room k X.A) (hj : j ≤ k := by decide) (h : T.fs[n]? = some φ := by rfl) : CalleeC X T n x := by
  obtain ⟨f, fd, ps, F, g, kp, b⟩ := c.ex
  exact ⟨φ, f, fd, ps, j, h, F, hr.mono hj, g, kp, b⟩
def startC (N : List Str) (ds : List D) (r : R) : Env := (ds.map fun d => some (Sl.fz d)) ++ some (.own r) :: List.replicate (N.length - ds.length - 1) none
theorem sk_startC {H b : Hp} {N : List Str} {vs : List V} {ds : List D} {v : V} {r : R} {f : List Addr} (hN : ds.length < N.length) (ex : Ex b H) (rp : RpA b vs ds) (o : Or b H v r f) (nd : f.Nodup) : So b (minus H f) b (startC N ds r) (L2.start N (vs ++ [v])) H := by
  have hl := rp.len
  have gets : ∀ i s, (startC N ds r)[i]? = some (some s) → (∃ d, ds[i]? = some d ∧ s = .fz d) ∨ (i = ds.length ∧ s = .own r) := fun i s e => by
    unfold startC at e
    by_cases hi : i < ds.length
    · have e' : ds[i]? = some ds[i] := List.getElem?_eq_getElem hi
      rw [List.getElem?_append_left (by simp; exact hi), List.getElem?_map, e'] at e
      cases e
      exact .inl ⟨_, e', rfl⟩
    · rw [List.getElem?_append_right (by simp; omega), List.length_map] at e
      by_cases h0 : i = ds.length
      · subst h0
        rw [Nat.sub_self] at e
        cases e
        exact .inr ⟨rfl, rfl⟩
      · obtain ⟨j, hj⟩ : ∃ j, i - ds.length = j + 1 := ⟨i - ds.length - 1, by omega⟩
        rw [hj, List.getElem?_cons_succ, List.getElem?_replicate] at e
        split at e <;> cases e
  refine ⟨⟨?_, minus_ex _ _, ex, fun j => if j = ds.length then f else [], fun i j hij p hp => ?_, fun i p hp => ?_, fun i s e => ?_⟩, fun j kvs e => ?_, ex_refl _, minus_ex _ _, ex, fun _ _ _ _ z => z⟩
  · unfold startC L2.start
    simp only [List.length_append, List.length_map, List.length_replicate, List.length_cons, List.length_nil]
    omega
  · by_cases hi : i = ds.length
    · simp only [hi, if_true] at hp
      have : ¬(j = ds.length) := fun z => hij (hi.trans z.symm)
      simp only [this, if_false]
      exact fun z => nomatch z
    · simp only [hi, if_false] at hp
      cases hp
  · by_cases hi : i = ds.length
    · simp only [hi, if_true] at hp
      obtain ⟨h1, h2⟩ := o.at p hp
      exact ⟨minus_in hp, h1, h2⟩
    · simp only [hi, if_false] at hp
      cases hp
  · rcases gets i s e with ⟨d, hd, rfl⟩ | ⟨rfl, rfl⟩
    · obtain ⟨u, hu, ru⟩ := rp.get hd
      refine ⟨u, ?_, ru⟩
      have hi : i < vs.length := (List.getElem?_eq_some_iff.mp hu).1
      unfold L2.start
      rw [List.getElem?_append_left (by simp; omega), List.getElem?_map, List.getElem?_append_left hi, hu]
      rfl
    · simp only [if_true]
      refine ⟨v, ?_, o, nd⟩
      unfold L2.start
      rw [List.getElem?_append_left (by simp; omega), List.getElem?_map, List.getElem?_append_right (by omega), hl, Nat.sub_self]
      rfl
  · rcases gets j _ e with ⟨d, _, z⟩ | ⟨_, z⟩ <;> cases z
section
variable {P : Program} {w : World} {K : PySem.W.Frag} {mg : Str → Option Value} {base : Heap} {T : Tb}
theorem fn_dataC {x qual : Str} {st : Stmt} {f : Addr} {fd : FuncData} {N ps : List Str} {k : Nat} {φ : List D → Option Out} {g : GSs} (F : Fun K qual qual st f fd) (gm : mg x = some (.ref f)) (bd : Binds K fd ps []) (S : FnScope N ps (defScope st)) (ar : ∀ ds o, φ ds = some o → ds.length = ps.length) (hN : ps.length ≤ N.length)
    (hb : ∀ (cdv : Value) (A : Around) (outer : List PySem.Env) (s : Shared) (H : Hp) (E : XK), Room k (A.deeper (envOfC qual (defScope st) s.heap.objs.size f cdv)) →
      PSs (cxOf (L2.CX P w) P w K mg base N qual (defScope st) f cdv A outer s H E) (defBody st) (tSs T (fun cls d _ H => E cls d H) g))
    (hw : ∀ ds d o, φ (ds ++ [d]) = some o → wpSs T g (gdOf o) (startC N ds (shp d))) : CalC P w K mg base T.ca x φ (k + 1) := by
  refine ⟨f, fd, ps, F.okX S (fun vs H Q E h => ?_) (fun cdv A outer s H vs Q E hr h => ⟨_, hb cdv A outer s H E hr, ?_⟩), gm, F.kp, bd⟩
  · obtain ⟨b, ds, vs', v, r, fo, rfl, ex, rp, o, nd, hs, im, q⟩ := h
    cases e : φ (ds ++ [r.toD]) with
    | none => rw [e] at q; exact q.elim
    | some u =>
      have := ar _ _ e
      rw [List.length_append, List.length_singleton] at this
      rw [List.length_append, List.length_singleton, rp.len, this]
  · obtain ⟨b, ds, vs', v, r, fo, rfl, ex, rp, o, nd, hs, im, q⟩ := h
    cases e : φ (ds ++ [r.toD]) with
    | none => rw [e] at q; exact q.elim
    | some u =>
      rw [e] at q
      have hl := ar _ _ e
      rw [List.length_append, List.length_singleton] at hl
      cases u with
      | old _ => exact q.elim
      | exc _ => exact q.elim
      | mu _ _ _ => exact q.elim
      | mx _ => exact q.elim
      | ret r' =>
        have wq := hw ds r.toD _ e
        rw [hs] at wq
        refine ⟨b, minus H fo, b, _, gdOf (.ret r'), sk_startC (by omega) ex rp o nd, wq, ⟨fun B1 Γ1 σ1 H1 so1 z => ?_, fun r2 v2 f2 B1 H1 s1 o1 n1 k1 i1 z => ?_, fun x2 v2 B1 H1 s1 r1 z => ?_, fun x2 B1 Γ1 σ1 H1 so1 z => ?_, fun r2 v2 f2 B1 H1 s1 o1 n1 k1 z => ?_, fun p2 c2 x2 v2 B1 Γ1 σ1 H1 so1 _ _ _ z => ?_⟩⟩
        · have z' : Out.ret r' = .ret (.im .none) := z
          cases z'
          exact q .non [] B1 H1 so1.sp (fun _ hp => by cases hp) .nil (.im .non) rfl
        · have z' : Out.ret r2 = .ret r' := z
          cases z'
          exact q v2 f2 B1 H1 s1 k1 n1 o1 i1
        · have z' : Out.old x2 = .ret r' := z
          cases z'
        · have z' : Out.ret r' = .exc x2 := z
          cases z'
        · have z' : Out.mx r2 = .ret r' := z
          cases z'
        · have z' : Out.mu p2 c2 x2 = .ret r' := z
          cases z'
end
/-! ### handing over -/
def tAV (T : Tb) (W : WX) (i : Nat) (g : GEs) : TA := fun σ H Q => tA T W g σ H fun vs H1 => ∃ v, σ[i]? = some (some v) ∧ Q (vs ++ [v]) H1
section
variable {X : Cx} {T : Tb} {W : WX} {a e : Expr} {es : List Expr} {ga : GE} {ges : GEs} {i : Nat} {pos pos2 : Pos}
theorem pav_nil (h : PE X a (tVar i)) (hs : starEach [a] X.env = (false, eval a X.env) :: starEach [] X.env := by rfl) : PA X [a] (tAV T W i .nil) := (pa_cons h pa_nil hs).imp fun σ H Q ⟨B, Γ, hs, p⟩ => by
  obtain ⟨v, hv, q⟩ := p [] B H (.refl hs.ex) .nil
  exact ⟨v, hv, q⟩
theorem pav_cons (ha : PE X a (tG T W ga)) (hr : PA X es (tAV T W i ges)) (hs : starEach (a :: es) X.env = (false, eval a X.env) :: starEach es X.env := by rfl) : PA X (a :: es) (tAV T W i (.cons ga ges)) := (pa_cons ha hr hs).imp fun σ H Q ⟨B, Γ, hs, p⟩ => by
  have k : tG T W ga σ H fun v H1 => ∃ d B1, Sp' B H B1 H1 ∧ Se B1 Γ σ H1 ∧ Rp B1 v d ∧ PostA T W σ B1 H1 ((evs T Γ ges).map fun ds => d :: ds) fun vs H1 => ∃ v, σ[i]? = some (some v) ∧ Q (vs ++ [v]) H1 := by
    have p' : PostA T W σ B H ((ev T Γ ga).bind fun d => (evs T Γ ges).map fun ds => d :: ds) fun vs H1 => ∃ v, σ[i]? = some (some v) ∧ Q (vs ++ [v]) H1 := p
    refine ⟨B, Γ, hs, ?_⟩
    cases e : ev T Γ ga with
    | ok d => rw [e] at p'; exact fun v B1 H1 s r => ⟨d, B1, s, hs.step s, r, PostA.step p' s⟩
    | err x => rw [e] at p'; exact p'
    | bad => rw [e] at p'; exact p'
  refine tG_mono k fun v H1 ⟨d, B1, st, hs1, rx, p1⟩ => ⟨B1, Γ, hs1, ?_⟩
  cases e : evs T Γ ges with
  | ok ds => rw [e] at p1; exact fun vs B2 H2 s r => p1 (v :: vs) B2 H2 s (.cons (rx.mono s.b) r)
  | err x => rw [e] at p1; exact p1
  | bad => rw [e] at p1; exact p1
theorem psx_retC {x : Str} {p : Pos} {j : Nat} (c : CalleeC X T j x) (tk : Takes X W) (ha : PA X (e :: es) (tAV T W i ges)) (hg : Gl X x := by rfl)
    (hdb : (x == ("__debug__" : Str)) = false := by decide) (he : starEach (e :: es) X.env = (false, eval e X.env) :: starEach es X.env := by rfl) (hpl : (backTo pos (starEach es X.env)).any (·.1) = false := by rfl) :
    PS X (.Return (some (.Call (.Name x p) (e :: es) [] pos)) pos2) (tS T W (.retC j ges i)) := by
  obtain ⟨φ, f, fd, ps, k, hφ, F, hr, hm, hk, hb⟩ := c.ex
  refine (ps_ret (pe_callS F hr hg hm hk hb (fun σ => passAt tk σ) ha hdb he hpl)).imp fun De σ H ⟨b0, H0, B, Γ, d, so, w, r⟩ => ?_
  obtain ⟨q, e1, e2, e3, ds, r', e4, e5, e6⟩ := w
  show tA T W ges σ H _
  refine ⟨B, _, so.sk.stab, ?_⟩
  rw [e4]
  intro vs B1 H1 s rx
  have so1 := so.step s
  obtain ⟨v, fo, h1, h2, h3, h4⟩ := so1.ownR e1
  refine ⟨v, h1, B1, ds, vs, v, q, fo, rfl, so1.sk.ex, rx, h2, h3, e2, e3, ?_⟩
  unfold callR at e5
  rw [hφ] at e5
  cases z : φ (ds ++ [q.toD]) with
  | none => simp only [z] at e5; cases e5
  | some u =>
    cases u with
    | old _ => simp only [z] at e5; cases e5
    | exc _ => simp only [z] at e5; cases e5
    | mu _ _ _ => simp only [z] at e5; cases e5
    | mx _ => simp only [z] at e5; cases e5
    | ret r2 =>
      simp only [z] at e5
      cases e5
      intro v2 f2 B2 H2 s2 fr nd o im
      have hb1 : ∀ p ∈ fo, H0 p = none := h4
      refine r.rr _ v2 f2 B2 H2 ⟨ex_trans so1.sp.b s2.b, fun a u ha => ?_, s2.bh, fun a u ha hn hb => ?_⟩ o nd (fun a ha => ?_) im e6
      · have hf : a ∉ fo := fun y => by rw [hb1 a y] at ha; cases ha
        exact s2.h a u (by rw [minus_out hf]; exact so1.sp.h a u ha)
      · have hf : a ∉ fo := fun y => by rw [hb1 a y] at ha; cases ha
        exact s2.own a u (by rw [minus_out hf]; exact so1.sp.h a u ha) hn (so1.sp.own a u ha hn hb)
      · by_cases hf : a ∈ fo
        · exact hb1 a hf
        · have := fr a ha
          rw [minus_out hf] at this
          exact ex_back so1.sp.h this
end
end TD

/-! TD26: a def that changes its first parameter in place. -/
namespace TD
open PySem PySem.Spec PyProof.Rows L2

/-- what is promised of such a def -/
def spM (φ : List D → Option Out) : Sp := fun vs H Q E => ∃ b p vs' c ds, vs = .ref p :: vs' ∧ Ex b H ∧ b p = none ∧ CnAt b H p c ∧ RpA b vs' ds ∧ match φ (c.enc :: ds) with
  | some (.mu _ c' x) => ∀ v B1 H1, Sp' b (minus H [p]) B1 H1 → B1 p = none → CnAt B1 H1 p c' → Rp B1 v x → TD.imm x = true → Q v H1
  | _ => False
structure CalleeM (X : Cx) (T : Tb) (j : Nat) (x : Str) : Prop where
  ex : ∃ φ f fd ps k, T.fs[j]? = some φ ∧ FnOk X.prog X.w X.K X.mg X.base (L2.CX X.prog X.w) k f fd ps (spM φ) ∧ Room k X.A ∧ X.mg x = some (.ref f) ∧ PySem.W.keepIn X.K (.ref f) = true ∧ Binds X.K fd ps []
structure CalM (P : Program) (w : World) (K : PySem.W.Frag) (mg : Str → Option Value) (base : Heap) (ca : Nat → Addr) (x : Str) (φ : List D → Option Out) (k : Nat) : Prop where
  ex : ∃ f fd ps, FnOk P w K mg base (L2.CX P w) k f fd ps (spM φ) ∧ mg x = some (.ref f) ∧ PySem.W.keepIn K (.ref f) = true ∧ Binds K fd ps []
theorem CalM.at {X : Cx} {T : Tb} {x : Str} {φ : List D → Option Out} {j k n : Nat} (c : CalM X.prog X.w X.K X.mg X.base T.ca x φ j) (hr : Room k X.A) (hj : j ≤ k := by decide) (h : T.fs[n]? = some φ := by rfl) : CalleeM X T n x := by
  obtain ⟨f, fd, ps, F, g, kp, b⟩ := c.ex
  exact ⟨φ, f, fd, ps, j, h, F, hr.mono hj, g, kp, b⟩
def startM (N : List Str) (p : Addr) (c : Cn) (ds : List D) : Env := some (Sl.mp p c) :: (ds.map fun d => some (Sl.fz d)) ++ List.replicate (N.length - ds.length - 1) none
def gdM (p : Addr) (c : Cn) (x : D) : GD := { nx := fun Γ => ownM Γ 0 = some (p, c) ∧ x = .none, rt := fun o => o = .mu p c x, ex := fun _ _ => False }
@[simp] theorem gdm_nx {p : Addr} {c : Cn} {x : D} {Γ : Env} : (gdM p c x).nx Γ = (ownM Γ 0 = some (p, c) ∧ x = .none) := rfl
@[simp] theorem gdm_rt {p : Addr} {c : Cn} {x : D} {o : Out} : (gdM p c x).rt o = (o = .mu p c x) := rfl
@[simp] theorem gdm_ex {p : Addr} {c : Cn} {x : D} {k : Nat} {Γ : Env} : (gdM p c x).ex k Γ = False := rfl
theorem sk_startM {H b : Hp} {N : List Str} {p : Addr} {c : Cn} {vs : List V} {ds : List D} (hN : ds.length < N.length) (ex : Ex b H) (hp : b p = none) (hc : CnAt b H p c) (rp : RpA b vs ds) : So b (minus H [p]) b (startM N p c ds) (L2.start N (.ref p :: vs)) H := by
  have hl := rp.len
  have gets : ∀ i s, (startM N p c ds)[i]? = some (some s) → (∃ j d, i = j + 1 ∧ ds[j]? = some d ∧ s = .fz d) ∨ (i = 0 ∧ s = .mp p c) := fun i s e => by
    unfold startM at e
    cases i with
    | zero => cases e; exact .inr ⟨rfl, rfl⟩
    | succ j =>
      rw [List.cons_append, List.getElem?_cons_succ] at e
      by_cases hi : j < ds.length
      · have e' : ds[j]? = some ds[j] := List.getElem?_eq_getElem hi
        rw [List.getElem?_append_left (by simp; exact hi), List.getElem?_map, e'] at e
        cases e
        exact .inl ⟨j, _, rfl, e', rfl⟩
      · rw [List.getElem?_append_right (by simp; omega), List.getElem?_replicate] at e
        split at e <;> cases e
  refine ⟨⟨?_, minus_ex _ _, ex, fun j => if j = 0 then [p] else [], fun i j hij q hq => ?_, fun i q hq => ?_, fun i s e => ?_⟩, fun j kvs e => ?_, ex_refl _, minus_ex _ _, ex, fun _ _ _ _ z => z⟩
  · unfold startM L2.start
    simp only [List.length_append, List.length_map, List.length_replicate, List.length_cons]
    omega
  · by_cases hi : i = 0
    · have : ¬(j = 0) := fun z => hij (hi.trans z.symm)
      simp only [this, if_false]
      exact fun z => nomatch z
    · simp only [hi, if_false] at hq
      cases hq
  · by_cases hi : i = 0
    · simp only [hi, if_true] at hq
      cases List.mem_singleton.mp hq
      exact ⟨minus_in List.mem_cons_self, hp, hc.at⟩
    · simp only [hi, if_false] at hq
      cases hq
  · rcases gets i s e with ⟨j, d, rfl, hd, rfl⟩ | ⟨rfl, rfl⟩
    · obtain ⟨u, hu, ru⟩ := rp.get hd
      refine ⟨u, ?_, ru⟩
      have hi : j < vs.length := (List.getElem?_eq_some_iff.mp hu).1
      unfold L2.start
      rw [List.getElem?_append_left (by simp; omega), List.getElem?_map, List.getElem?_cons_succ, hu]
      rfl
    · exact ⟨rfl, rfl, hp, hc⟩
  · rcases gets j _ e with ⟨_, d, _, _, z⟩ | ⟨_, z⟩ <;> cases z
section
variable {b0 H0 B H B1 H1 : Hp} {Γ : Env} {σ : L2.St}
theorem ownM_at {i : Nat} {p : Addr} {c : Cn} (h : ownM Γ i = some (p, c)) : Γ[i]? = some (some (.mp p c)) := by
  unfold ownM at h
  split at h
  · cases h
    assumption
  · cases h
theorem So.mlist (h : So b0 H0 B Γ σ H) {i : Nat} {p : Addr} {ds : List D} (e : ownM Γ i = some (p, .l ds)) : ∃ xs, σ[i]? = some (some (.ref p)) ∧ H p = some (.lst xs) ∧ RpA B xs ds ∧
    ∀ ys es, RpA B ys es → So b0 H0 B (Γ.set i (some (.mp p (.l es)))) σ (upd H p (.lst ys)) := by
  obtain ⟨f, ⟨h1, rfl, h2, xs, h3, h4⟩, _, h6⟩ := h.change (ownM_at e)
  exact ⟨xs, h1, h3, h4, fun ys es r => h6 p _ _ [p] List.mem_cons_self (lst_noTup _) (fun _ z => nomatch z) ⟨h1, rfl, h2, ys, upd_same, r⟩ fun q hq => hq⟩
theorem So.mdict (h : So b0 H0 B Γ σ H) {i : Nat} {p : Addr} {kvs : List (Int × D)} (e : ownM Γ i = some (p, .d kvs)) : ∃ ks, σ[i]? = some (some (.ref p)) ∧ H p = some (.dK ks) ∧ KvRp B ks kvs ∧
    ∀ ls es, KvRp B ls es → So b0 H0 B (Γ.set i (some (.mp p (.d es)))) σ (upd H p (.dK ls)) := by
  obtain ⟨f, ⟨h1, rfl, h2, xs, h3, h4⟩, _, h6⟩ := h.change (ownM_at e)
  exact ⟨xs, h1, h3, h4, fun ys es r => h6 p _ _ [p] List.mem_cons_self (dK_noTup _) (fun _ z => nomatch z) ⟨h1, rfl, h2, ys, upd_same, r⟩ fun q hq => hq⟩
theorem So.mheld (h : So b0 H0 B Γ σ H) {i : Nat} {p : Addr} {c : Cn} (e : ownM Γ i = some (p, c)) : σ[i]? = some (some (.ref p)) ∧ B p = none ∧ CnAt B H p c := by
  obtain ⟨F, g⟩ := h.sk.sl
  obtain ⟨k1, _, k2, k3⟩ := g.ok i _ (ownM_at e)
  exact ⟨k1, k2, k3⟩
theorem SlotOk.swap {H' : Hp} {s : Sl} {x : Option (Option V)} {f : List Addr} (h : SlotOk B H s x f) (ns : ∀ kvs, s ≠ .dc false kvs) (k : ∀ q ∈ f, H' q = H q) : SlotOk B H' s x f := by
  cases s with
  | fz d => exact h
  | own r =>
    obtain ⟨v, e, r, n⟩ := h
    exact ⟨v, e, r.frame (ex_refl _) fun p hp => ⟨k p hp, (r.at p hp).1⟩, n⟩
  | dc o kvs =>
    cases o with
    | false => exact absurd rfl (ns kvs)
    | true =>
      obtain ⟨p, ks, e, h1, h2, h3⟩ := h
      exact ⟨p, ks, e, by rw [k p (by rw [h3 rfl]; exact List.mem_cons_self)]; exact h1, h2, h3⟩
  | xc a x => exact h
  | pin p ds =>
    obtain ⟨e, rfl, h1, xs, h2, h3⟩ := h
    exact ⟨e, rfl, h1, xs, by rw [k p List.mem_cons_self]; exact h2, h3⟩
  | mp p c =>
    obtain ⟨e, rfl, h1, h2⟩ := h
    exact ⟨e, rfl, h1, h2.step (ex_refl _) (k p List.mem_cons_self)⟩
  | dl kvs => exact h
  | hv b v d => exact h
/-- a slot's list or dict is lent, and comes back with something else in it -/
theorem So.lend (h : So b0 H0 B Γ σ H) {i : Nat} {c : Cn} (e : cnOf Γ i = some c) : ∃ p, σ[i]? = some (some (.ref p)) ∧ B p = none ∧ CnAt B H p c ∧
    ∀ B2 H2 c', c.alike c' → Sp' B (minus H [p]) B2 H2 → B2 p = none → CnAt B2 H2 p c' → So b0 H0 B2 (putC Γ i c') σ H2 := by
  obtain ⟨F, g⟩ := h.sk.sl
  have key : ∃ p s, Γ[i]? = some (some s) ∧ F i = [p] ∧ σ[i]? = some (some (.ref p)) ∧ B p = none ∧ CnAt B H p c ∧ ∀ B2 H2 c', c.alike c' → B2 p = none → CnAt B2 H2 p c' → ∃ s', putC Γ i c' = Γ.set i (some s') ∧ (∀ kvs, s' ≠ .dc false kvs) ∧ SlotOk B2 H2 s' (some (some (.ref p))) [p] := by
    unfold cnOf at e
    split at e
    · rename_i ds hs
      cases e
      obtain ⟨v, k1, k2, k3⟩ := g.ok i _ hs
      generalize hF : F i = f at k2 k3
      cases k2 with
      | ol a b r =>
        rename_i p xs
        refine ⟨p, _, hs, rfl, k1, a, ⟨xs, b, r⟩, fun B2 H2 c' al hb hc => ?_⟩
        cases c' with
        | d _ => exact al.elim
        | l es =>
          obtain ⟨ys, y1, y2⟩ := hc
          refine ⟨.own (.ol es), ?_, (fun _ z => nomatch z), _, rfl, .ol hb y1 y2, List.nodup_cons.mpr ⟨(fun z => by cases z), List.nodup_nil⟩⟩
          unfold putC
          rw [hs]
    · rename_i kvs hs
      cases e
      obtain ⟨p, ks, k1, k2, k3, k4⟩ := g.ok i _ hs
      have hF := k4 rfl
      obtain ⟨_, hb, _⟩ := g.at' i p (by rw [hF]; exact List.mem_cons_self)
      refine ⟨p, _, hs, hF, k1, hb, ⟨ks, k2, k3⟩, fun B2 H2 c' al hb hc => ?_⟩
      cases c' with
      | l _ => exact al.elim
      | d es =>
        obtain ⟨ys, y1, y2⟩ := hc
        refine ⟨.dc true es, ?_, (fun _ z => nomatch z), p, ys, rfl, y1, y2, fun _ => rfl⟩
        unfold putC
        rw [hs]
    · rename_i p c' hs
      cases e
      obtain ⟨k1, k2, k3, k4⟩ := g.ok i _ hs
      refine ⟨p, _, hs, k2, k1, k3, k4, fun B2 H2 c' al hb hc => ⟨.mp p c', ?_, (fun _ z => nomatch z), rfl, rfl, hb, hc⟩⟩
      unfold putC
      rw [hs]
    · cases e
  obtain ⟨p, s, hs, hF, h1, h2, h3, k⟩ := key
  refine ⟨p, h1, h2, h3, fun B2 H2 c' al st hb hc => ?_⟩
  obtain ⟨s', e', ns, so'⟩ := k B2 H2 c' al hb hc
  rw [e']
  obtain ⟨p0, _, _⟩ := g.at' i p (by rw [hF]; exact List.mem_cons_self)
  have hl : i < Γ.length := (List.getElem?_eq_some_iff.mp hs).1
  have e0 : Ex H0 H2 := fun a o ha => st.h a o (by
    rw [minus_out fun z => by cases List.mem_singleton.mp z; rw [p0] at ha; cases ha]
    exact h.sk.e0 a o ha)
  have apart : ∀ j, j ≠ i → p ∉ F j := fun j hj => g.dis i j (Ne.symm hj) p (by rw [hF]; exact List.mem_cons_self)
  have there : ∀ j, ∀ q ∈ F j, B2 q = none ∧ (∃ o, H2 q = some o ∧ NoTup o) ∧ (q ≠ p → H2 q = minus H [p] q) := fun j q hq => by
    obtain ⟨_, q2, o, q3, q4⟩ := g.at' j q hq
    by_cases z : q = p
    · subst z
      exact ⟨hb, hc.at, fun y => absurd rfl y⟩
    · have hm : minus H [p] q = some o := by rw [minus_out fun y => z (List.mem_singleton.mp y)]; exact q3
      exact ⟨st.own q o hm q4 q2, ⟨o, st.h q o hm, q4⟩, fun _ => by rw [hm]; exact st.h q o hm⟩
  refine ⟨⟨by rw [List.length_set]; exact h.sk.len, e0, st.bh, F, g.dis, fun j q hq => ⟨(g.at' j q hq).1, (there j q hq).1, (there j q hq).2.1⟩, fun j t ej => ?_⟩, h.nv.set i (fun kvs z => ns kvs (Option.some.inj z)), ex_trans h.sp.b st.b, e0, st.bh, fun q o h4 h5 h6 => ?_⟩
  · by_cases hj : i = j
    · subst hj
      rw [List.getElem?_set_self hl] at ej
      cases ej
      rw [h1, hF]
      exact so'
    · rw [get_set_ne hj] at ej
      have np := apart j (Ne.symm hj)
      have q1 := (g.ok j t ej).swap (H' := minus H [p]) (fun kvs z => h.nv j kvs (by rw [ej, z])) fun q hq => minus_out fun y => np (by cases List.mem_singleton.mp y; exact hq)
      exact q1.step st fun q hq => ⟨(there j q hq).1, (there j q hq).2.2 fun z => np (z ▸ hq)⟩
  · exact st.own q o (by
      rw [minus_out fun z => by cases List.mem_singleton.mp z; rw [p0] at h4; cases h4]
      exact h.sp.h q o h4) h5 (h.sp.own q o h4 h5 h6)
end
section
variable {P : Program} {w : World} {K : PySem.W.Frag} {mg : Str → Option Value} {base : Heap} {T : Tb}
theorem fn_dataM {x qual : Str} {st : Stmt} {f : Addr} {fd : FuncData} {N ps : List Str} {k : Nat} {φ : List D → Option Out} {g : GSs} (F : Fun K qual qual st f fd) (gm : mg x = some (.ref f)) (bd : Binds K fd ps []) (S : FnScope N ps (defScope st)) (ar : ∀ ds o, φ ds = some o → ds.length = ps.length) (hN : ps.length ≤ N.length)
    (hb : ∀ (cdv : Value) (A : Around) (outer : List PySem.Env) (s : Shared) (H : Hp) (E : XK), Room k (A.deeper (envOfC qual (defScope st) s.heap.objs.size f cdv)) →
      PSs (cxOf (L2.CX P w) P w K mg base N qual (defScope st) f cdv A outer s H E) (defBody st) (tSs T (fun cls d _ H => E cls d H) g))
    (hw : ∀ c ds q c' x, φ (c.enc :: ds) = some (.mu q c' x) → ∀ p, wpSs T g (gdM p c' x) (startM N p c ds)) : CalM P w K mg base T.ca x φ (k + 1) := by
  refine ⟨f, fd, ps, F.okX S (fun vs H Q E h => ?_) (fun cdv A outer s H vs Q E hr h => ⟨_, hb cdv A outer s H E hr, ?_⟩), gm, F.kp, bd⟩
  · obtain ⟨b, p, vs', c, ds, rfl, ex, hp, hc, rp, q⟩ := h
    cases e : φ (c.enc :: ds) with
    | none => rw [e] at q; exact q.elim
    | some u =>
      have := ar _ _ e
      rw [List.length_cons] at this
      rw [List.length_cons, rp.len, this]
  · obtain ⟨b, p, vs', c, ds, rfl, ex, hp, hc, rp, q⟩ := h
    cases e : φ (c.enc :: ds) with
    | none => rw [e] at q; exact q.elim
    | some u =>
      rw [e] at q
      have hl := ar _ _ e
      rw [List.length_cons] at hl
      cases u with
      | old _ => exact q.elim
      | exc _ => exact q.elim
      | ret _ => exact q.elim
      | mx _ => exact q.elim
      | mu q0 c' x =>
        refine ⟨b, minus H [p], b, _, gdM p c' x, sk_startM (by omega) ex hp hc rp, hw c ds q0 c' x e p, ⟨fun B1 Γ1 σ1 H1 so1 z => ?_, fun r2 v2 f2 B1 H1 s1 o1 n1 k1 i1 z => ?_, fun x2 v2 B1 H1 s1 r1 z => ?_, fun x2 B1 Γ1 σ1 H1 so1 z => z.elim, fun r2 v2 f2 B1 H1 s1 o1 n1 k1 z => ?_, fun p2 c2 x2 v2 B1 Γ1 σ1 H1 so1 e1 e2 e3 z => ?_⟩⟩
        · have z' : ownM Γ1 0 = some (p, c') ∧ x = .none := z
          obtain ⟨z1, rfl⟩ := z'
          obtain ⟨_, m1, m2⟩ := so1.mheld z1
          exact q .non B1 H1 so1.sp m1 m2 .non rfl
        · have z' : Out.ret r2 = .mu p c' x := z
          cases z'
        · have z' : Out.old x2 = .mu p c' x := z
          cases z'
        · have z' : Out.mx r2 = .mu p c' x := z
          cases z'
        · have z' : Out.mu p2 c2 x2 = .mu p c' x := z
          cases z'
          obtain ⟨_, m1, m2⟩ := so1.mheld e1
          exact q v2 B1 H1 so1.sp m1 m2 e2 e3
end
/-! ### statements -/
/-- the slot itself, then the rest -/
def tAM (T : Tb) (W : WX) (i : Nat) (g : GEs) : TA := fun σ H Q => ∃ v, σ[i]? = some (some v) ∧ tA T W g σ H fun vs H1 => Q (v :: vs) H1
def tM (T : Tb) (W : WX) (i j : Nat) (g : GEs) : TE := fun σ H Q => ∃ b0 H0 B Γ, So b0 H0 B Γ σ H ∧ ∃ c ds c' x, cnOf Γ i = some c ∧ evs T (stab Γ) g = .ok ds ∧ callM T j (c.enc :: ds) = some (c', x) ∧ c.alike c' ∧ ∀ v B1 H1, So b0 H0 B1 (putC Γ i c') σ H1 → Rp B1 v x → TD.imm x = true → Q v H1
section
variable {X : Cx} {T : Tb} {W : WX} {a e : Expr} {st : Stmt} {es : List Expr} {bs cs : List Stmt} {ga gk : GE} {ges : GEs} {gs hs : GSs} {i j t : Nat} {pos pos2 : Pos}
theorem pam (h : PE X a (tVar i)) (hr : PA X es (tA T W ges)) (hs : starEach (a :: es) X.env = (false, eval a X.env) :: starEach es X.env := by rfl) : PA X (a :: es) (tAM T W i ges) := (pa_cons h hr hs).imp fun σ H Q ⟨v, h1, h2⟩ => ⟨v, h1, h2⟩
theorem px_callM {x : Str} {p : Pos} (c : CalleeM X T j x) (tk : Takes X W) (ha : PA X (e :: es) (tAM T W i ges)) (hg : Gl X x := by rfl)
    (hdb : (x == ("__debug__" : Str)) = false := by decide) (he : starEach (e :: es) X.env = (false, eval e X.env) :: starEach es X.env := by rfl) (hpl : (backTo pos (starEach es X.env)).any (·.1) = false := by rfl) :
    PE X (.Call (.Name x p) (e :: es) [] pos) (tM T W i j ges) := by
  obtain ⟨φ, f, fd, ps, k, hφ, F, hr, hm, hk, hb⟩ := c.ex
  refine (pe_callS F hr hg hm hk hb (fun σ => passAt tk σ) ha hdb he hpl).imp fun σ H Q ⟨b0, H0, B, Γ, so, c, ds, c', x, h1, h2, h3, h4, h5⟩ => ?_
  obtain ⟨p, k1, _⟩ := so.lend h1
  refine ⟨.ref p, k1, B, _, so.sk.stab, ?_⟩
  rw [h2]
  intro vs B1 H1 s rx
  have so1 := so.step s
  obtain ⟨p', m1, m2, m3, m4⟩ := so1.lend h1
  rw [k1] at m1
  cases m1
  refine ⟨B1, p, vs, c, ds, rfl, so1.sk.ex, m2, m3, rx, ?_⟩
  unfold callM at h3
  rw [hφ, Option.bind_some] at h3
  cases z : φ (c.enc :: ds) with
  | none => rw [z] at h3; cases h3
  | some u =>
    rw [z] at h3
    cases u with
    | old _ => cases h3
    | exc _ => cases h3
    | ret _ => cases h3
    | mx _ => cases h3
    | mu q0 c2 x2 =>
      cases h3
      exact fun v B2 H2 s2 hb hc r im => h5 v B2 H2 (m4 B2 H2 c' h4 s2 hb hc) r im
theorem callM_of {φ : List D → Option Out} {ds : List D} {q : Addr} {c : Cn} {x : D} (h : T.fs[j]? = some φ) (e : φ ds = some (.mu q c x)) : TD.callM T j ds = some (c, x) := by
  unfold TD.callM
  rw [h, Option.bind_some, e]
  rfl
theorem psx_callM (h : PE X e (tM T W i j ges)) (hs : swapsWith e none pos.line X.env = pure false := by rfl) : PS X (.Expr e pos) (tS T W (.callM none i j ges)) := (ps_expr h hs).imp fun De σ H ⟨b0, H0, B, Γ, d, so, ⟨c, ds, c', x, h1, h2, h3, h4, h5⟩, r⟩ =>
  ⟨b0, H0, B, Γ, so, c, ds, c', x, h1, h2, h3, h4, fun v B1 H1 so1 rx im => r.nx _ _ _ _ so1 h5⟩
theorem psx_asgM (h : PS X st (tAsg (tM T W i j ges) (gName t))) : PS X st (tS T W (.callM (some t) i j ges)) := h.imp fun De σ H ⟨b0, H0, B, Γ, d, so, ⟨c, ds, c', x, h1, h2, h3, h4, h5⟩, r⟩ =>
  ⟨b0, H0, B, Γ, so, c, ds, c', x, h1, h2, h3, h4, fun v B1 H1 so1 rx im => r.nx _ _ _ _ (so1.put_fz t rx) h5⟩
theorem own_put {Γ : Env} {p : Addr} {c c' : Cn} (h : ownM Γ 0 = some (p, c)) : cnOf Γ 0 = some c ∧ ownM (putC Γ 0 c') 0 = some (p, c') := by
  have e := ownM_at h
  have hl : 0 < Γ.length := (List.getElem?_eq_some_iff.mp e).1
  refine ⟨by unfold cnOf; rw [e], ?_⟩
  unfold putC
  rw [e]
  show ownM (Γ.set 0 (some (.mp p c'))) 0 = _
  unfold ownM
  rw [List.getElem?_set_self hl]
theorem psx_retM (h : PE X e (tM T W 0 j ges)) : PS X (.Return (some e) pos) (tS T W (.retM j ges)) := (ps_ret h).imp fun De σ H ⟨b0, H0, B, Γ, d, so, ⟨p, c, ds, c', x, h1, h2, h3, h4, h5⟩, r⟩ =>
  ⟨b0, H0, B, Γ, so, c, ds, c', x, (own_put (c' := c') h1).1, h2, h3, h4, fun v B1 H1 so1 rx im => r.rm p c' x v B1 _ _ H1 so1 (own_put h1).2 rx im h5⟩
theorem psx_retP (h : PE X e (tG T W ga)) : PS X (.Return (some e) pos) (tS T W (.retP ga)) := (ps_ret h).imp fun De σ H ⟨b0, H0, B, Γ, d, so, w, r⟩ =>
  so.view r w fun v x b1 H1 s rp ⟨z, p, c, h1, h2⟩ => r.rm p c x v _ _ _ _ (so.step (.tups so.sk.ex s.h)) h1 (Rp.imm (ex_trans so.sk.ex s.h) s.bh x rp z) z h2
theorem psx_ifNM {p2 : Pos} (h : PE X e (tM T W i j ges)) (ha : PSs X bs (tSs T W gs)) (hb : PSs X cs (tSs T W hs)) (he : ∀ whole, isTrue e X.env whole = (do let v ← whole; standAt e.pos; holding [v] (truthy v)) := by intro _; rfl) : PS X (.If (.UnaryOp .Not e p2) bs cs pos) (tS T W (.ifM true i j ges gs hs)) := (ps_if (pt_not (pt_val h he)) ha hb).imp fun De σ H ⟨b0, H0, B, Γ, d, so, ⟨c, ds, c', x, h1, h2, h3, h4, h5, h6⟩, r⟩ =>
  ⟨b0, H0, B, Γ, so, c, ds, c', _, h1, h2, h3, h4, fun v B1 H1 so1 rx im => ⟨x, rp_bl rx, by
    cases x with
    | true => exact iteF ⟨b0, H0, B1, _, d, so1, h6 rfl, r⟩
    | false => exact iteT ⟨b0, H0, B1, _, d, so1, h5 rfl, r⟩⟩⟩
theorem psx_setP (h : PS X st (tAsg (tG T W ga) (gSub (tVar i) (tG T W gk) rSetL))) : PS X st (tS T W (.setP i gk ga)) := h.imp fun De σ H ⟨b0, H0, B, Γ, d, so, w, r⟩ => by
  obtain ⟨p, ds, q, w'⟩ := w
  refine so.view r w' fun v x b1 H1 s rp ⟨z, w2⟩ => ?_
  have so1 := so.step (.tups so.sk.ex s.h)
  have rv := Rp.imm (ex_trans so.sk.ex s.h) s.bh x rp z
  obtain ⟨xs, h1, h2, h3, h6⟩ := so1.mlist q
  refine ⟨.ref p, h1, so1.view r w2 fun n y b2 H2 s2 rp2 ⟨j, ej, j0, j1, q2⟩ => ?_⟩
  subst ej
  have so2 := so1.step (.tups so1.sk.ex s2.h)
  obtain ⟨xs', k1, k2, k3, k6⟩ := so2.mlist q
  cases rp_int rp2
  refine ⟨p, xs', j, j.toNat, rfl, rfl, k2, ?_, r.nx _ _ _ _ (k6 _ _ (k3.set j.toNat (rv.mono (tups_ex _ _)))) q2⟩
  unfold ixN
  rw [if_pos j0, if_pos (by rw [k3.len]; exact j1)]
theorem psx_dsetP (h : PS X st (sDPut (tVar i) (tG T W gk) (tG T W ga))) : PS X st (tS T W (.dsetP i gk ga)) := h.imp fun De σ H ⟨b0, H0, B, Γ, d, so, w, r⟩ => by
  obtain ⟨p, kvs, q, w'⟩ := w
  refine so.view r w' fun v x b1 H1 s rp ⟨z, w2⟩ => ?_
  have so1 := so.step (.tups so.sk.ex s.h)
  have rv := Rp.imm (ex_trans so.sk.ex s.h) s.bh x rp z
  obtain ⟨ks, h1, h2, h3, h4⟩ := so1.mdict q
  refine ⟨.ref p, h1, so1.view r w2 fun n y b2 H2 s2 rp2 ⟨j, ej, hl, q2⟩ => ?_⟩
  subst ej
  have so2 := so1.step (.tups so1.sk.ex s2.h)
  obtain ⟨ks', k1, k2, k3, k4⟩ := so2.mdict q
  cases rp_int rp2
  refine ⟨p, _, rfl, DPut.k (k := Sum.inl j) k2 (by rw [k3.len, sizeLine_eq]; exact hl), r.nx _ _ _ _ (k4 _ _ (k3.put j (rv.mono (tups_ex _ _)))) q2⟩
theorem psx_dpopP (h : PS X st (tDrop (tDPop1 (tVar i) (tG T W gk)))) : PS X st (tS T W (.dpopP i gk)) := h.imp fun De σ H ⟨b0, H0, B, Γ, d, so, w, r⟩ => by
  obtain ⟨p, kvs, q, w'⟩ := w
  obtain ⟨ks, h1, h2, h3, h4⟩ := so.mdict q
  refine ⟨.ref p, h1, p, rfl, .inl ⟨ks, .inl h2⟩, so.view r w' fun n y b2 H2 s2 rp2 ⟨j, ej, hl, q2⟩ => ?_⟩
  subst ej
  have so2 := so.step (.tups so.sk.ex s2.h)
  obtain ⟨ks', k1, k2, k3, k4⟩ := so2.mdict q
  cases rp_int rp2
  have v := k3.val j
  cases z : dget kvs j with
  | none => rw [z] at hl; cases hl
  | some x =>
    rw [z] at v
    obtain ⟨u, hu, _⟩ := v
    exact ⟨ks', Sum.inl j, u, k2, rfl, hu, r.nx _ _ _ _ (k4 _ _ (k3.drop j)) q2⟩
end
end TD

/-! TD27: a dict's keys walked (the dict is locked), its length; pieces of tuples. -/
namespace TD
open PySem PySem.Spec PyProof.Rows L2
mutual
theorem Rp.via {H H' : Hp} (k1 : ∀ a xs, Rd H a (.lst xs) → Rd H' a (.lst xs)) (k2 : ∀ a xs, H a = some (.tup xs) → H' a = some (.tup xs)) : ∀ {v : V} {d : D}, Rp H v d → Rp H' v d
  | _, _, .non => .non
  | _, _, .bl b => .bl b
  | _, _, .int i => .int i
  | _, _, .str x => .str x
  | _, _, .lst h a => .lst (k1 _ _ h) (RpA.via k1 k2 a)
  | _, _, .tup h a => .tup (k2 _ _ h) (RpA.via k1 k2 a)
theorem RpA.via {H H' : Hp} (k1 : ∀ a xs, Rd H a (.lst xs) → Rd H' a (.lst xs)) (k2 : ∀ a xs, H a = some (.tup xs) → H' a = some (.tup xs)) : ∀ {vs : List V} {ds : List D}, RpA H vs ds → RpA H' vs ds
  | _, _, .nil => .nil
  | _, _, .cons a b => .cons (Rp.via k1 k2 a) (RpA.via k1 k2 b)
end
/-- what stands at p in both heaps is no list and no tuple -/
def Dull (o : Option HO) : Prop := (∀ xs, o ≠ some (.lst xs)) ∧ (∀ u xs, o ≠ some (.frz u (.lst xs))) ∧ ∀ xs, o ≠ some (.tup xs)
theorem via_but {H H' : Hp} {p : Addr} (k : ∀ a, a ≠ p → H' a = H a) (h : Dull (H p)) : (∀ a xs, Rd H a (.lst xs) → Rd H' a (.lst xs)) ∧ (∀ a xs, H a = some (.tup xs) → H' a = some (.tup xs)) := by
  refine ⟨fun a xs r => ?_, fun a xs r => ?_⟩
  · have ne : a ≠ p := fun z => by
      subst z
      rcases r with r | ⟨o, r⟩
      · exact h.1 _ r
      · exact h.2.1 _ _ r
    rcases r with r | ⟨o, r⟩
    · exact .inl (by rw [k a ne]; exact r)
    · exact .inr ⟨o, by rw [k a ne]; exact r⟩
  · have ne : a ≠ p := fun z => by subst z; exact h.2.2 _ r
    rw [k a ne]
    exact r
theorem dull_dK {ks : List (Key × V)} : Dull (some (.dK ks)) := ⟨(fun _ z => nomatch z), (fun _ _ z => nomatch z), fun _ z => nomatch z⟩
theorem dull_frz {od : Obj} {ks : List (Key × V)} : Dull (some (.frz od (.dK ks))) := ⟨(fun _ z => nomatch z), (fun _ _ z => by cases z), fun _ z => nomatch z⟩
theorem dull_none : Dull none := ⟨(fun _ z => nomatch z), (fun _ _ z => nomatch z), fun _ z => nomatch z⟩
section
variable {X : Cx} {T : Tb} {W : WX} {a b e tg : Expr} {ga gb : GE} {pos p2 : Pos} {B H : Hp} {Γ : TD.Env} {σ : L2.St} {i t : Nat}
/-- the slots while the dict at i is locked -/
theorem Se.lock (h : Se B Γ σ H) {o : Bool} {kvs : List (Int × D)} (e : Γ[i]? = some (some (.dc o kvs))) : ∃ p ks, σ[i]? = some (some (.ref p)) ∧ H p = some (.dK ks) ∧ (B p = none ∨ B p = some (.dK ks)) ∧ ∀ od : Obj, Se (upd B p (.frz od (.dK ks))) (lockE Γ i) σ (upd H p (.frz od (.dK ks))) := by
  obtain ⟨p, ks, h1, h2, h3, _⟩ := h.ok i _ e
  have hb : B p = none ∨ B p = some (.dK ks) := by
    cases q : B p with
    | none => exact .inl rfl
    | some u =>
      have := h.ex p u q
      rw [h2] at this
      cases this
      exact .inr rfl
  refine ⟨p, ks, h1, h2, hb, fun od => ?_⟩
  have hl : i < Γ.length := (List.getElem?_eq_some_iff.mp e).1
  have eE : lockE Γ i = (Γ.map unD).set i (some (.dl kvs)) := by unfold lockE; rw [e]
  have dB : Dull (B p) := by
    rcases hb with q | q <;> rw [q]
    · exact dull_none
    · exact dull_dK
  obtain ⟨k1, k2⟩ := @via_but B (upd B p (.frz od (.dK ks))) p (fun a ne => upd_ne ne) dB
  refine ⟨by rw [eE, List.length_set, List.length_map]; exact h.len, fun a u ha => ?_, fun j s ej => ?_⟩
  · by_cases q : a = p
    · subst q
      rw [upd_same] at ha ⊢
      exact ha
    · rw [upd_ne q] at ha ⊢
      exact h.ex a u ha
  · rw [eE] at ej
    by_cases q : i = j
    · subst q
      rw [List.getElem?_set_self (by rw [List.length_map]; exact hl)] at ej
      cases ej
      exact ⟨p, ks, od, h1, upd_same, Paired.mapP h3 fun _ _ z => ⟨z.1, z.2.via k1 k2⟩⟩
    · rw [get_set_ne q, List.getElem?_map] at ej
      cases g : Γ[j]? with
      | none => rw [g] at ej; cases ej
      | some w =>
        rw [g] at ej
        cases w with
        | none => cases ej
        | some s' =>
          have k := h.ok j s' g
          cases s' with
          | fz d =>
            cases ej
            obtain ⟨v, e1, r⟩ := k
            exact ⟨v, e1, r.via k1 k2⟩
          | own r => cases ej
          | dc o kvs => cases ej
          | dl kvs => cases ej
          | xc a x =>
            cases ej
            exact k
          | pin d ds => cases ej
          | mp d c => cases ej
          | hv b v d => cases ej
/-- a new list made while the dict at i is locked -/
theorem pf_lock {g : GF} (h : PE X e (tF T W g)) : PE X e (tF T W (.lock i g)) := (pe_lock h).imp fun σ H Q ⟨B, Γ, hs, p⟩ => by
  have p' : PostF T W σ B H (match evF T (lockE Γ i) g with
    | .ok ds => (cslot Γ i).bind fun _ => .ok ds
    | _ => .bad) Q := p
  cases q : evF T (lockE Γ i) g with
  | err x => rw [q] at p'; exact p'.elim
  | bad => rw [q] at p'; exact p'.elim
  | ok ds =>
    rw [q] at p'
    have p2 : PostF T W σ B H ((cslot Γ i).bind fun _ => .ok ds) Q := p'
    cases c : cslot Γ i with
    | err x => rw [c] at p2; unfold cslot at c; split at c <;> cases c
    | bad => rw [c] at p2; exact p2.elim
    | ok kvs =>
      rw [c] at p2
      have p3 : PostF T W σ B H (.ok ds) Q := p2
      unfold cslot at c
      split at c
      · rename_i o k e
        obtain ⟨d, ks, h1, h2, hb, k⟩ := hs.lock e
        refine ⟨d, .dK ks, h2, trivial, fun od => ⟨_, _, k od, ?_⟩⟩
        rw [q]
        intro a xs B1 H1 s n1 n2 n3 r
        have hd1 : B1 d = some (.frz od (.dK ks)) := s.b _ _ upd_same
        have hH1 : H1 d = some (.frz od (.dK ks)) := s.bh _ _ hd1
        have ad : a ≠ d := fun z => by subst z; rw [upd_same] at n1; cases n1
        refine ⟨hH1, ?_⟩
        obtain ⟨k1, k2⟩ := @via_but B1 (fun x => if x = d then B d else B1 x) d (fun a ne => if_neg ne) (by rw [hd1]; exact dull_frz)
        refine p3 a xs (fun x => if x = d then B d else B1 x) (upd H1 d (.dK ks)) ⟨fun x u hx => ?_, fun x u hx => ?_, fun x u hx => ?_, fun x u g1 g2 g3 => ?_⟩ (by rw [upd_ne ad] at n1; exact n1) (by rw [if_neg ad]; exact n2) (by rw [upd_ne ad]; exact n3) (r.via k1 k2)
        · by_cases z : x = d
          · rw [if_pos z, ← z]
            exact hx
          · rw [if_neg z]
            exact s.b x u (by rw [upd_ne z]; exact hx)
        · by_cases z : x = d
          · subst z
            rw [upd_same, ← h2]
            exact hx
          · rw [upd_ne z]
            exact s.h x u (by rw [upd_ne z]; exact hx)
        · have hx' : (if x = d then B d else B1 x) = some u := hx
          by_cases z : x = d
          · subst z
            rw [if_pos rfl] at hx'
            rw [upd_same, ← h2]
            exact hs.ex _ _ hx'
          · rw [if_neg z] at hx'
            rw [upd_ne z]
            exact s.bh x u hx'
        · show (if x = d then B d else B1 x) = none
          by_cases z : x = d
          · rw [if_pos z, ← z]
            exact g3
          · rw [if_neg z]
            exact s.own x u (by rw [upd_ne z]; exact g1) g2 (by rw [upd_ne z]; exact g3)
      · cases c
theorem itm_keys {p : Addr} {od : Obj} {ks : List (Key × V)} {kvs : List (Int × D)} (h : B p = some (.frz od (.dK ks))) (r : KvRp B ks kvs) : Itm (Itk p od ks) (kvs.map fun kv => [PyData.int kv.1]) (gName t) [t] B where
  go := fun i B2 H2 e1 e2 hi => by
    rw [List.length_map, ← r.len] at hi
    exact ⟨e2 _ _ (e1 _ _ h), hi⟩
  stop := fun i B2 H2 e1 e2 hi => by
    rw [List.length_map, ← r.len] at hi
    exact ⟨e2 _ _ (e1 _ _ h), hi⟩
  yld := fun i it B2 H2 x H' e1 e2 hi y => by
    obtain ⟨rfl, k, v, hk, rfl⟩ := y
    rw [List.getElem?_map] at hi
    have key : ∀ {ks : List (Key × V)} {kvs : List (Int × D)} {i : Nat}, KvRp B ks kvs → ks[i]? = some (k, v) → ∃ q, kvs[i]? = some q ∧ k = Sum.inl q.1 := by
      intro ks kvs i r
      unfold KvRp at r
      induction r generalizing i with
      | nil => intro z; cases z
      | @cons a b as bs r' t' ih =>
        intro z
        cases i with
        | zero => cases z; exact ⟨b, rfl, r'.1⟩
        | succ i => exact ih z
    obtain ⟨q, hq, rfl⟩ := key r hk
    rw [hq] at hi
    cases hi
    exact ⟨B2, .refl e2, fun σ Qt k => k [_] (.one (.int _))⟩
/-- the keys of a locked dict -/
theorem pix_keys (hv : PE X a (tVar i)) : PI X tg a (tI T W (.dk i) (gName t) [t]) := by
  refine ⟨fun pins s σ H R I h => (pi_keys (X := X) (tg := tg) hv).run pins s σ H R I ?_⟩
  obtain ⟨B, Γ, hs, p⟩ := h
  have p' : PostI T W σ B H (gName t) [t] ((lslot Γ i).bind fun kvs => .ok (kvs.map fun kv => [.int kv.1])) R := p
  cases c : lslot Γ i with
  | err x => unfold lslot at c; split at c <;> cases c
  | bad => rw [c] at p'; exact p'.elim
  | ok kvs =>
    rw [c] at p'
    unfold lslot at c
    split at c
    · rename_i k e
      cases c
      obtain ⟨d, ks, od, h1, h2, h3⟩ := hs.ok i _ e
      exact ⟨_, h1, d, od, rfl, .inl ⟨ks, hs.ex _ _ h2, p' _ B H (.refl hs.ex) (itm_keys h2 h3)⟩⟩
    · cases c
def rLenDR : List V → Hp → VK → Prop := fun xs H Q => ∃ a kvs, xs = [V.ref a] ∧ Rd H a (.dK kvs) ∧ Q (.int kvs.length) H
theorem call_lenDR : CallR X (.builtin "len") rLenDR := by
  intro pins s σ H xs us Q I r h
  obtain ⟨a, kvs, rfl, ha, q⟩ := h
  obtain ⟨u, rfl, ru⟩ := vals1 r
  cases ru
  exact d_len I ha fun t s' I' => ⟨.int kvs.length, H, I', ⟨t, rfl⟩, q⟩
theorem px_dlen {p : Pos} (bi : Bi X.mg) (ha : PE X a (tVar i)) (hg : Gl X "len" := by rfl) (he : starEach [a] X.env = (false, eval a X.env) :: starEach [] X.env := by rfl) : PE X (.Call (.Name "len" p) [a] [] pos) (tG T W (.dlen i)) :=
  (pe_callB call_lenDR hg bi.len PySem.boot_len (pa_cons ha pa_nil he) (by decide) (by decide) he rfl).imp fun σ H Q ⟨B, Γ, hs, p⟩ => by
    have p' : Post T W σ B H ((dslot Γ i).bind fun kvs => .ok (.int kvs.length)) Q := p
    rcases dslot_or (Γ := Γ) i with ⟨kvs, hk⟩ | hk
    · rw [hk] at p'
      obtain ⟨q, ks, e1, h1, h2⟩ := dslot_inv hs hk
      refine ⟨_, e1, q, ks, rfl, h1, ?_⟩
      rw [h2.len]
      exact Post.here (d := .int kvs.length) hs.ex p' (.int _)
    · rw [hk] at p'
      exact p'.elim
theorem tup_new {B H : Hp} {Q : VK} {xs : List V} {ds : List D} (ex : Ex B H) (r : RpA B xs ds) (p : Post T W σ B H (.ok (.tuple ds)) Q) {q : Addr} (hq : H q = none) : Q (.ref q) (upd H q (.tup xs)) := by
  have s : Sp' B H (upd B q (.tup xs)) (upd H q (.tup xs)) := .both ex hq
  exact p (.ref q) _ _ s (.tup upd_same (r.mono s.b))
theorem px_tslTo (ha : PE X a (tG T W ga)) (hb : PE X b (tG T W gb)) : PE X (.Subscript a (.Slice none (some b) none p2) pos) (tG T W (.tslTo ga gb)) := (pe_slice sl_tupA ha po_none (po_some hb)).imp fun σ H Q ⟨B, Γ, hs, p⟩ =>
  tG_mono (g_bind hs p) fun x H1 ⟨d, B1, st, hs1, rx, p1⟩ => tG_mono (g_bind hs1 p1) fun y H2 ⟨e, B2, st2, hs2, ry, p2⟩ => by
    cases d with
    | tuple ds =>
      cases e with
      | int j =>
        by_cases h : decide (0 ≤ j) = true
        · simp only [h, if_true] at p2
          cases rx with
          | tup h1 h2 =>
            have j0 := of_decide_eq_true h
            have hq := hs2.ex _ _ (st2.b _ _ h1)
            have h3 := h2.mono st2.b
            refine ⟨j, rp_int ry, _, _, rfl, .of hq, fun w => ?_, fun w q2 hq2 => ?_⟩
            · obtain ⟨k, rfl⟩ : ∃ k : Nat, j = (k : Int) := ⟨j.toNat, by omega⟩
              have w2 := w.2
              rw [HT.sIx_nat] at w2
              rw [Int.toNat_natCast, List.take_of_length_le (by rw [← h3.len]; omega)] at p2
              exact p2.here hs2.ex (.tup (st2.b _ _ h1) h3)
            · rw [cut_to j0]
              exact tup_new hs2.ex (h3.take _) p2 hq2
        · simp only [h] at p2
          exact False.elim p2
      | _ => exact False.elim p2
    | _ => exact False.elim p2
theorem px_tcat (ha : PE X a (tG T W ga)) (hb : PE X b (tG T W gb)) : PE X (.BinOp a .Add b pos) (tG T W (.tcat ga gb)) := (pe_op op_catA ha hb).imp fun σ H Q ⟨B, Γ, hs, p⟩ =>
  tG_mono (g_bind hs p) fun x H1 ⟨d, B1, st, hs1, rx, p1⟩ => tG_mono (g_bind hs1 p1) fun y H2 ⟨e, B2, st2, hs2, ry, p2⟩ => by
    cases d with
    | tuple ds =>
      cases e with
      | tuple es =>
        by_cases h : sizeOk (ds.length + es.length) = true
        · simp only [h, if_true] at p2
          cases rx with
          | tup h1 h2 =>
            cases ry with
            | tup g1 g2 =>
              have h3 := h2.mono st2.b
              have h1' := st2.b _ _ h1
              refine ⟨_, _, _, _, rfl, rfl, .of (hs2.ex _ _ h1'), .of (hs2.ex _ _ g1), by rw [h3.len, g2.len]; exact sizeOk_le h, fun z => ?_, fun _ z => ?_, fun _ _ q hq => ?_⟩
              · subst z
                cases h3
                exact p2.here hs2.ex (.tup g1 g2)
              · subst z
                cases g2
                rw [List.append_nil] at p2
                exact p2.here hs2.ex (.tup h1' h3)
              · exact tup_new hs2.ex (h3.app g2) p2 hq
        · simp only [h] at p2
          exact False.elim p2
      | _ => exact False.elim p2
    | _ => exact False.elim p2
end
end TD

/-! TD28: results with old parts; what is one's own, held for a while. -/
namespace TD
open PySem PySem.Spec PyProof.Rows L2
section
variable {X : Cx} {T : Tb} {W : WX} {st : Stmt} {g : GS} {i j : Nat} {x w : Str} {p p1 p2 p3 pc pos : Pos} {k1 k2 kc : Nat}
theorem le2 : 2 ≤ sizeLine := by rw [sizeLine_eq]; omega
/-- return (w, (x, [])) -/
theorem psx_retX (hj : PE X (.Name x p) (tVar j)) : PS X (.Return (some (.Tuple [.Constant (.str w) kc pc, .Tuple [.Name x p, .List [] p1] k1 p2] k2 p3)) pos) (tS T W (.retX w j)) :=
  (ps_ret (pe_tup (pa_cons pe_str (pa_cons (pe_tup (pa_cons hj (pa_cons (pe_lst pa_nil) pa_nil))) pa_nil)))).imp fun De σ H ⟨b0, H0, B, Γ, d, so, ⟨x, h1, h2⟩, r⟩ => by
  obtain ⟨v, hv, rv⟩ := so.sk.stab.ok j _ h1
  refine ⟨v, hv, ⟨by show 0 ≤ sizeLine; omega, fun l hl => ⟨le2, fun t1 ht1 => ⟨le2, fun t2 ht2 => ?_⟩⟩⟩⟩
  have s1 : Sp' B H B (upd H l (.lst [])) := .new so.sk.ex hl
  have s2 : Sp' B (upd H l (.lst [])) (upd B t1 (.tup [v, .ref l])) (upd (upd H l (.lst [])) t1 (.tup [v, .ref l])) := .both s1.bh ht1
  have s3 : Sp' (upd B t1 (.tup [v, .ref l])) (upd (upd H l (.lst [])) t1 (.tup [v, .ref l])) (upd (upd B t1 (.tup [v, .ref l])) t2 (.tup [.str w, .ref t1])) (upd (upd (upd H l (.lst [])) t1 (.tup [v, .ref l])) t2 (.tup [.str w, .ref t1])) := .both s2.bh ht2
  have n1 : l ≠ t1 := fun z => by subst z; rw [upd_same] at ht1; cases ht1
  have n2 : t1 ≠ t2 := fun z => by subst z; rw [upd_same] at ht2; cases ht2
  have n3 : l ≠ t2 := fun z => by subst z; rw [upd_ne n1, upd_same] at ht2; cases ht2
  have hB : B l = none := ex_back so.sk.ex hl
  refine r.rx _ _ [l] _ _ (so.sp.trans (s1.trans (s2.trans s3))) (.ot upd_same (.cons (f := []) (g := [l]) (.im (.str w)) (.cons (f := [l]) (g := []) (.ot (by rw [upd_ne n2, upd_same]) (.cons (f := []) (g := [l]) (.im (rv.mono (ex_trans s2.b s3.b))) (.cons (f := [l]) (g := []) (.ol (by rw [upd_ne n3, upd_ne n1]; exact hB) (by rw [upd_ne n3, upd_ne n1, upd_same]) .nil) .nil))) .nil))) (List.nodup_cons.mpr ⟨(fun z => by cases z), List.nodup_nil⟩) (fun q hq => by
    cases List.mem_singleton.mp hq
    exact ex_back so.sk.e0 hl) h2
/-- return (w, what is one's own) -/
theorem psx_retY (hi : PE X (.Name x p) (tVar i)) : PS X (.Return (some (.Tuple [.Constant (.str w) kc pc, .Name x p] k2 p3)) pos) (tS T W (.retY w i)) :=
  (ps_ret (pe_tup (pa_cons pe_str (pa_cons hi pa_nil)))).imp fun De σ H ⟨b0, H0, B, Γ, d, so, ⟨q, h1, h2⟩, r⟩ => by
  obtain ⟨v, f, hv, o, nd, fr⟩ := so.ownR h1
  refine ⟨v, hv, ⟨le2, fun t ht => ?_⟩⟩
  have s : Sp' B H (upd B t (.tup [.str w, v])) (upd H t (.tup [.str w, v])) := .both so.sk.ex ht
  have o' := o.frame (B1 := upd B t (.tup [.str w, v])) (H1 := upd H t (.tup [.str w, v])) s.b fun c hc => by
    obtain ⟨k1, u, k2, _⟩ := o.at c hc
    have ne : c ≠ t := fun z => by rw [z, ht] at k2; cases k2
    exact ⟨upd_ne ne, by rw [upd_ne ne]; exact k1⟩
  have al : OrA (upd B t (.tup [.str w, v])) (upd H t (.tup [.str w, v])) [.str w, v] [.im (.str w), q] ([] ++ (f ++ [])) := .cons (.im (.str w)) (.cons o' .nil)
  rw [List.append_nil, List.nil_append] at al
  exact r.rx _ _ f _ _ (so.sp.trans s) (.ot upd_same al) nd fr h2
end
/-! ### held for a while -/
section
variable {H0 B H B1 H1 b0 : Hp} {Γ : TD.Env} {σ : L2.St}
theorem Sk.hold (h : Sk H0 B Γ σ H) {i : Nat} {r : R} (e : Γ[i]? = some (some (.own r))) : ∃ v f, σ[i]? = some (some v) ∧ Or B H v r f ∧ f.Nodup ∧ (∀ p ∈ f, H0 p = none ∧ B p = none) ∧ Sk H0 (addF B H f) (Γ.set i (some (.hv (addF B H f) v r.toD))) σ H := by
  obtain ⟨F, g⟩ := h.sl
  have hl : i < Γ.length := (List.getElem?_eq_some_iff.mp e).1
  obtain ⟨v, e1, o, n⟩ := g.ok i _ e
  refine ⟨v, F i, e1, o, n, fun p hp => ⟨(g.at' i p hp).1, (g.at' i p hp).2.1⟩, by rw [List.length_set]; exact h.len, h.e0, addF_le h.ex, fun j => if j = i then [] else F j, ⟨fun a b hab p hp => ?_, fun a p hp => ?_, fun j s' ej => ?_⟩⟩
  · by_cases ha : a = i
    · simp only [ha, if_true] at hp
      cases hp
    · simp only [ha, if_false] at hp
      by_cases hb : b = i
      · simp only [hb, if_true]
        exact fun z => nomatch z
      · simp only [hb, if_false]
        exact g.dis a b hab p hp
  · by_cases ha : a = i
    · simp only [ha, if_true] at hp
      cases hp
    · simp only [ha, if_false] at hp
      obtain ⟨h1, h2, h3⟩ := g.at' a p hp
      exact ⟨h1, addF_out (g.dis a i ha p hp) h2, h3⟩
  · by_cases hj : j = i
    · subst hj
      rw [List.getElem?_set_self hl] at ej
      cases ej
      exact ⟨e1, o.freeze h.ex fun p hp => hp, ex_refl _⟩
    · rw [get_set_ne (Ne.symm hj)] at ej
      simp only [hj, if_false]
      exact (g.ok j s' ej).frz h.ex (fun p hp => (g.at' j p hp).2.1) fun p hp => g.dis j i hj p hp
/-- the value in a slot -/
def valAt (σ : L2.St) (k : Nat) : V := match σ[k]? with
  | some (some v) => v
  | _ => .non
theorem So.hvs : ∀ {ks : List Nat} {Γ : TD.Env}, So b0 H0 B Γ σ H → So b0 H0 B (hvE B (valAt σ) Γ ks) σ H
  | [], _, h => h
  | k :: ks, Γ, h => by
    show So b0 H0 B (hvE B (valAt σ) (match Γ[k]? with
      | some (some (.fz d)) => Γ.set k (some (.hv B (valAt σ k) d))
      | _ => Γ) ks) σ H
    refine So.hvs ?_
    split
    · rename_i d e
      refine ⟨h.sk.reslot e fun f q => ?_, h.nv.set k (fun _ z => nomatch z), h.sp⟩
      obtain ⟨v, e1, r⟩ := q
      have ev : valAt σ k = v := by unfold valAt; rw [e1]
      exact ⟨by rw [ev]; exact e1, by rw [ev]; exact r, ex_refl _⟩
    · exact h
theorem hvs_other {b : Hp} {vs : Nat → V} {i : Nat} {s : Sl} (hs : ∀ d, s ≠ .fz d) : ∀ {ks : List Nat} {Γ : TD.Env}, Γ[i]? = some (some s) → (hvE b vs Γ ks)[i]? = some (some s)
  | [], _, h => h
  | k :: ks, Γ, h => by
    show (hvE b vs (match Γ[k]? with
      | some (some (.fz d)) => Γ.set k (some (.hv b (vs k) d))
      | _ => Γ) ks)[i]? = _
    refine hvs_other hs ?_
    split
    · rename_i d e
      have ne : k ≠ i := fun z => by
        subst z
        rw [h] at e
        cases e
        exact hs d rfl
      rw [get_set_ne ne]
      exact h
    · exact h
theorem kv_imm {b : Hp} (hb : Ex B H) (e : Ex b H) {ks : List (Key × V)} {kvs : List (Int × Int)} (r : KvRp b ks (kvs.map fun p => (p.1, PyData.int p.2))) : KvRp (tups B H) ks (kvs.map fun p => (p.1, PyData.int p.2)) := by
  unfold KvRp at r ⊢
  generalize hl : (kvs.map fun p => (p.1, PyData.int p.2)) = l at r ⊢
  induction r generalizing kvs with
  | nil => exact .nil
  | @cons a c as cs r' t ih =>
    cases kvs with
    | nil => cases hl
    | cons p ps =>
      cases hl
      exact .cons ⟨r'.1, Rp.imm hb e _ r'.2 rfl⟩ (ih rfl)
/-- what was held is one's own again -/
theorem So.thaw {B' : Hp} {f : List Addr} {v : V} {r : R} {i : Nat} {Γ1 Γ2 : TD.Env} {σ1 : L2.St} (eB : B' = addF B H f) (exB : Ex B H) (b0B : Ex b0 B) (o : Or B H v r f) (nd : f.Nodup) (fr : ∀ p ∈ f, H0 p = none ∧ B p = none) (h : So b0 H0 B1 Γ1 σ1 H1) (e : Γ1[i]? = some (some (.hv B' v r.toD))) (th : Thaw B Γ1 Γ2) :
    ∃ B2, So b0 H0 B2 (Γ2.set i (some (.own r))) σ1 H1 := by
  subst eB
  obtain ⟨F, g⟩ := h.sk.sl
  obtain ⟨e1, _, exF⟩ := g.ok i _ e
  have exb : Ex B B1 := ex_trans (addF_ex _ _ _) exF
  -- what was held stands as it stood
  have same : ∀ q ∈ f, H1 q = H q ∧ ∃ u, H q = some u ∧ NoTup u := fun q hq => by
    obtain ⟨_, u, h2, h3⟩ := o.at q hq
    refine ⟨?_, u, h2, h3⟩
    rw [h2]
    exact h.sk.ex _ _ (exF _ _ (addF_in exB hq h2))
  have exM : Ex (minus B1 f) H1 := ex_trans (minus_ex _ _) h.sk.ex
  have exBM : Ex B (minus B1 f) := ex_minus exb fun p hp => (fr p hp).2
  have exT : Ex (minus B1 f) (tups (minus B1 f) H1) := tups_ex _ _
  have exBT : Ex B (tups (minus B1 f) H1) := ex_trans exBM exT
  have noneT : ∀ q, B1 q = none → (∀ xs, H1 q ≠ some (.tup xs)) → tups (minus B1 f) H1 q = none := fun q hq ht => tups_none (by
    unfold minus
    split
    · rfl
    · exact hq) ht
  have noneF : ∀ q ∈ f, tups (minus B1 f) H1 q = none := fun q hq => tups_none (minus_in hq) fun xs z => by
    obtain ⟨s1, u, s2, s3⟩ := same q hq
    rw [s1, s2] at z
    cases z
    exact s3 xs rfl
  have apart : ∀ j, ∀ q ∈ F j, q ∉ f := fun j q hq hf => by
    obtain ⟨_, h2, _⟩ := g.at' j q hq
    obtain ⟨_, u, h3, _⟩ := same q hf
    rw [exF _ _ (addF_in exB hf h3)] at h2
    cases h2
  have nt : ∀ j, ∀ q ∈ F j, tups (minus B1 f) H1 q = none := fun j q hq => by
    obtain ⟨_, h2, u, h3, h4⟩ := g.at' j q hq
    exact noneT q h2 fun xs z => by rw [h3] at z; cases z; exact h4 xs rfl
  have hl : i < Γ2.length := by
    rw [th.1]
    exact (List.getElem?_eq_some_iff.mp e).1
  refine ⟨tups (minus B1 f) H1, ⟨by rw [List.length_set, th.1]; exact h.sk.len, h.sk.e0, tups_le exM, fun j => if j = i then f else (match Γ2[j]? with | some (some _) => F j | _ => []), ⟨fun a b hab p hp => ?_, fun a p hp => ?_, fun j s ej => ?_⟩⟩, fun j kvs ej => ?_, ex_trans b0B exBT, h.sp.h, tups_le exM, fun p u h1 h2 h3 => ?_⟩
  · have sub : ∀ c, ∀ q, q ∈ (match Γ2[c]? with | some (some _) => F c | _ => []) → q ∈ F c := fun c q hq => by
      split at hq
      · exact hq
      · cases hq
    by_cases ha : a = i
    · simp only [ha, if_true] at hp
      by_cases hb : b = i
      · exact absurd (ha.trans hb.symm) hab
      · simp only [hb, if_false]
        exact fun z => apart b p (sub b p z) hp
    · simp only [ha, if_false] at hp
      by_cases hb : b = i
      · simp only [hb, if_true]
        exact apart a p (sub a p hp)
      · simp only [hb, if_false]
        exact fun z => g.dis a b hab p (sub a p hp) (sub b p z)
  · by_cases ha : a = i
    · simp only [ha, if_true] at hp
      obtain ⟨s1, u, s2, s3⟩ := same p hp
      exact ⟨(fr p hp).1, noneF p hp, u, by rw [s1]; exact s2, s3⟩
    · simp only [ha, if_false] at hp
      have hq : p ∈ F a := by
        split at hp
        · exact hp
        · cases hp
      obtain ⟨h1, h2, h3⟩ := g.at' a p hq
      exact ⟨h1, nt a p hq, h3⟩
  · by_cases hj : j = i
    · subst hj
      rw [List.getElem?_set_self hl] at ej
      cases ej
      simp only [if_true]
      exact ⟨v, e1, o.frame exBT fun q hq => ⟨(same q hq).1, noneF q hq⟩, nd⟩
    · rw [get_set_ne (Ne.symm hj)] at ej
      simp only [hj, if_false, ej]
      rcases th.2 j s ej with ⟨d, rfl, im, ej1⟩ | ⟨r', rfl, im, ej1⟩ | ⟨kvs, rfl, ej1⟩ | ⟨v', d, rfl, ej1⟩
      · obtain ⟨u, k1, k2⟩ := g.ok j _ ej1
        exact ⟨u, k1, Rp.imm exM h.sk.ex d k2 im⟩
      · obtain ⟨u, k1, k2, k3⟩ := g.ok j _ ej1
        exact ⟨u, k1, k2.rebase exM h.sk.ex im fun p hp => by
          unfold minus
          split
          · rfl
          · exact (g.at' j p hp).2.1, k3⟩
      · obtain ⟨p, ks, k1, k2, k3, k4⟩ := g.ok j _ ej1
        exact ⟨p, ks, k1, k2, kv_imm exM h.sk.ex k3, k4⟩
      · obtain ⟨k1, k2, k3⟩ := g.ok j _ ej1
        exact ⟨v', k1, k2.mono exBT⟩
  · by_cases hj : j = i
    · subst hj
      rw [List.getElem?_set_self hl] at ej
      cases ej
    · rw [get_set_ne (Ne.symm hj)] at ej
      rcases th.2 j _ ej with ⟨d, z, _⟩ | ⟨r', z, _⟩ | ⟨kvs, z, _⟩ | ⟨v', d, z, _⟩ <;> cases z
  · have hb1 := h.sp.own p u h1 h2 h3
    refine noneT p hb1 fun xs z => ?_
    rw [h.sp.h p u h1] at z
    cases z
    exact h2 xs rfl
end
section
variable {X : Cx} {T : Tb} {W : WX} {st : Stmt} {g : GS} {i : Nat} {ks : List Nat}
theorem psx_held (h : PS X st (tS T W g)) : PS X st (tS T W (.held i ks g)) := h.imp fun De σ H ⟨b0, H0, B, Γ, d, so, ⟨q, e, im, hw⟩, r⟩ => by
  have soH := so.hvs (ks := ks)
  obtain ⟨v, f, h1, h2, h3, h4, h5⟩ := soH.sk.hold (hvs_other (s := .own q) (fun _ z => nomatch z) (ownR_at e))
  refine ⟨b0, H0, addF B H f, _, _, ⟨h5, soH.nv.set i (fun _ z => nomatch z), so.sp.addF fun p hp => ?_⟩, hw B (addF B H f) v (valAt σ), ⟨fun B1 Γ1 σ1 H1 so1 w1 => ?_, r.rr, r.ro, (fun _ _ _ _ _ _ z => z.elim), r.rx, r.rm⟩⟩
  · exact (h4 p hp).1
  · obtain ⟨e1, Γ2, th, w2⟩ := w1
    obtain ⟨B2, so2⟩ := So.thaw rfl so.sk.ex so.sp.b h2 h3 h4 so1 e1 th
    exact r.nx _ _ _ _ so2 w2
end
end TD

/-! TD29: a result with old parts is taken apart, three statements at once. -/
namespace TD
open PySem PySem.Spec PyProof.Rows L2
def tX (T : Tb) (W : WX) (j : Nat) (g : GEs) : TE := fun σ H Q => ∃ B Γ, Se B Γ σ H ∧ ∃ ds r, evs T Γ g = .ok ds ∧ (T.fs[j]?.bind fun φ => φ ds) = some (.mx r) ∧ ∀ v f B1 H1, Sp' B H B1 H1 → (∀ p ∈ f, H p = none) → f.Nodup → Or B1 H1 v r f → Q v H1
def tI1 (K : PySem.W.Frag) (t : Nat) (k : Int) : TE := tOp (rIxT K) (tVar t) (tC (.int k))
def tI2 (K : PySem.W.Frag) (t : Nat) (k l : Int) : TE := tOp (rIxT K) (tI1 K t k) (tC (.int l))
section
variable {X : Cx} {T : Tb} {W : WX} {a b e : Expr} {es : List Expr} {st1 st2 st3 : Stmt} {sts : List Stmt} {gs : GSs} {ges : GEs} {t u j i : Nat} {pos : Pos} {k l : Int}
theorem px_callX {x : Str} {p : Pos} (c : Callee X T j x) (tk : Takes X W) (ha : PA X (e :: es) (tA T W ges)) (hg : Gl X x := by rfl)
    (hdb : (x == ("__debug__" : Str)) = false := by decide) (he : starEach (e :: es) X.env = (false, eval e X.env) :: starEach es X.env := by rfl) (hpl : (backTo pos (starEach es X.env)).any (·.1) = false := by rfl) :
    PE X (.Call (.Name x p) (e :: es) [] pos) (tX T W j ges) := by
  obtain ⟨φ, f, fd, ps, k, hφ, F, hr, hm, hk, hb⟩ := c.ex
  refine (pe_callS F hr hg hm hk hb (fun σ => passAt tk σ) ha hdb he hpl).imp fun σ H Q ⟨B, Γ, hs, ds, r, e1, e2, h⟩ => ?_
  refine ⟨B, Γ, hs, ?_⟩
  rw [e1]
  intro vs B1 H1 s rx
  rw [hφ, Option.bind_some] at e2
  refine ⟨B1, ds, s.bh, rx, ?_⟩
  rw [e2]
  exact fun v f B2 H2 s2 fr nd o => h v f B2 H2 (s.trans s2) (fun p hp => ex_back s.h (fr p hp)) nd o
theorem px_i1 {n : Str} {p pc : Pos} {kc : Nat} (ht : PE X (.Name n p) (tVar t)) : PE X (.Subscript (.Name n p) (.Constant (.int k) kc pc) pos) (tI1 X.K t k) := pe_ix ix_tup ht pe_int (fun _ _ => rfl)
theorem px_i2 {pc : Pos} {kc : Nat} (ht : PE X a (tI1 X.K t k)) : PE X (.Subscript a (.Constant (.int l) kc pc) pos) (tI2 X.K t k l) := pe_ix ix_tup ht pe_int (fun _ _ => rfl)
theorem pss_dy (h1 : PS X st1 (tAsg (tX T W j ges) (gName t))) (h2 : PS X st2 (tAsg (tI2 X.K t 1 0) (gName u))) (h3 : PS X st3 (tDrop (tBM X.K "list" rAppend (tVar i) (tCons (tTup (tCons (tI1 X.K t 0) (tCons (tI2 X.K t 1 1) tNil))) tNil)))) (h4 : PSs X sts (tSs T W gs)) :
    PSs X (st1 :: st2 :: st3 :: sts) (tSs T W (.dy t u j ges i gs)) := (pss_cons h1 (pss_cons h2 (pss_cons h3 h4))).imp fun De σ H ⟨b0, H0, B, Γ, d, so, w, r⟩ => by
  obtain ⟨⟨n1, n2, n3, tl⟩, rs, ds, w, q, ch, e1, e2, e3, e4, w'⟩ := w
  refine ⟨B, _, so.sk.stab, ds, _, e2, e3, fun v f B1 H1 s fr nd o => ?_⟩
  cases o with
  | ot g1 al =>
    cases al with
    | cons o1 al2 =>
      cases o1 with
      | im rw1 =>
        cases al2 with
        | cons o2 al3 =>
          cases al3
          cases o2 with
          | ot g2 bl =>
            cases bl with
            | cons oq bl2 =>
              cases bl2 with
              | cons oc bl3 =>
                cases bl3
                cases oc with
                | ol c1 c2 c3 =>
                  rename_i t1 vw t2 y fq c zs
                  have frq : ∀ p ∈ fq, H p = none := fun p hp => fr p (by simp [hp])
                  have frc : H c = none := fr c (by simp)
                  have nd' : (fq ++ [c]).Nodup := by simpa using nd
                  have cq : c ∉ fq := fun z => (List.nodup_append.mp nd').2.2 c z c List.mem_cons_self rfl
                  have sF := s.addF frq
                  have ev : vw = .str w := by cases rw1; rfl
                  subst ev
                  have rq : Rp (addF B1 H1 fq) y q.toD := oq.freeze s.bh fun p hp => hp
                  have so1 := so.step sF
                  obtain ⟨f0, ⟨v0, hv0, o0, nd0⟩, hrest⟩ := so1.change (ownR_at e1)
                  cases o0 with
                  | on m1 m2 m3 =>
                    rename_i l0 xs g0
                    have g1' := s.bh _ _ g1
                    have g2' := s.bh _ _ g2
                    have tl' : t < σ.length := by rw [← so.sk.len]; exact tl
                    have hs1 : (σ.set t (some (.ref t1)))[t]? = some (some (.ref t1)) := List.getElem?_set_self tl'
                    have hs2 : ((σ.set t (some (.ref t1))).set u (some y))[t]? = some (some (.ref t1)) := by rw [get_set_ne (Ne.symm n1)]; exact hs1
                    have hs3 : ((σ.set t (some (.ref t1))).set u (some y))[i]? = some (some (.ref l0)) := by rw [get_set_ne n3, get_set_ne n2]; exact hv0
                    refine ⟨.ref t1, hs1, t1, _, 1, _, rfl, rfl, .of g1', rfl, t2, _, 0, _, rfl, rfl, .of g2', rfl, ?_⟩
                    refine ⟨.ref l0, hs3, .inl ⟨rfl, _, .inl (.inl m2)⟩, ?_⟩
                    refine ⟨.ref t1, hs2, t1, _, 0, _, rfl, rfl, .of g1', rfl, .ref t1, hs2, t1, _, 1, _, rfl, rfl, .of g1', rfl, t2, _, 1, _, rfl, rfl, .of g2', rfl, by show 2 ≤ sizeLine; rw [sizeLine_eq]; omega, fun t3 ht3 => ?_⟩
                    have sN : Sp' (addF B1 H1 fq) H1 (upd (addF B1 H1 fq) t3 (.tup [.str w, .ref c])) (upd H1 t3 (.tup [.str w, .ref c])) := .both sF.bh ht3
                    have sA := sF.trans sN
                    have nl : l0 ≠ t3 := fun z => by subst z; rw [m2] at ht3; cases ht3
                    have nc : c ≠ t3 := fun z => by subst z; rw [c2] at ht3; cases ht3
                    have cB : upd (addF B1 H1 fq) t3 (.tup [.str w, .ref c]) c = none := by rw [upd_ne nc]; exact addF_out cq c1
                    obtain ⟨f9, ⟨v9, hv9, o9, nd9⟩, k9, ch9⟩ := so.sk.change2 so.nv sA (ownR_at e1)
                    rw [hv0] at hv9
                    cases hv9
                    cases o9 with
                    | on h6 h7 h8 =>
                      rename_i xs9 g9
                      have hx : xs9 = xs := by
                        rw [upd_ne nl, m2] at h7
                        cases h7
                        rfl
                      subst hx
                      have n9 := List.nodup_cons.mp nd9
                      have cl9 : c ≠ l0 := fun z => (k9 l0 List.mem_cons_self).2.1 (z ▸ frc)
                      have cg9 : c ∉ g9 := fun z => (k9 c (List.mem_cons_of_mem _ z)).2.1 frc
                      refine ⟨l0, xs9, .ref t3, rfl, rfl, h7, by rw [h8.len, sizeLine_eq]; exact e4, b0, H0, upd (addF B1 H1 fq) t3 (.tup [.str w, .ref c]), _, d, ?_, w', r⟩
                      have sk9 := ch9 l0 (.lst (xs9 ++ [.ref t3])) (.own (.on (rs ++ [.ot [.im (.str w), .ol ch]]))) (l0 :: (g9 ++ [c])) List.mem_cons_self (lst_noTup _)
                        ⟨_, hv0, .on h6 upd_same (OrA.snoc (.ot (f := [c]) upd_same (.cons (f := []) (g := [c]) (.im (.str w)) (.cons (f := [c]) (g := []) (.ol cB (by rw [upd_ne cl9, upd_ne nc]; exact c2) (c3.mono (ex_trans (addF_ex _ _ _) sN.b))) .nil))) (h8.frame (ex_refl _) fun p hp => ⟨upd_ne fun (z : p = l0) => n9.1 (z ▸ hp), (h8.at p hp).1⟩)), by
                          refine List.nodup_cons.mpr ⟨fun z => ?_, List.nodup_append.mpr ⟨n9.2, by simp, fun p hp b hb => ?_⟩⟩
                          · rcases List.mem_append.mp z with z | z
                            · exact n9.1 z
                            · exact cl9 (List.mem_singleton.mp z).symm
                          · cases List.mem_singleton.mp hb
                            exact fun z => cg9 (z ▸ hp)⟩
                        (fun p hp => by
                          rcases List.mem_cons.mp hp with z | z
                          · exact .inl (z ▸ List.mem_cons_self)
                          · rcases List.mem_append.mp z with z | z
                            · exact .inl (List.mem_cons_of_mem _ z)
                            · cases List.mem_singleton.mp z
                              exact .inr ⟨frc, cB, _, by rw [upd_ne nc]; exact c2, lst_noTup _⟩)
                      have hH0 : H0 l0 = none := (k9 l0 List.mem_cons_self).1
                      have exu : ∀ {G K : Hp}, G l0 = none → Ex G K → Ex G (upd K l0 (.lst (xs9 ++ [.ref t3]))) := fun {G K} hn he a w ha => by
                        rw [upd_ne (ne_of_none ha hn)]
                        exact he a w ha
                      have spA := so.sp.trans sA
                      have so9 : So b0 H0 _ (Γ.set i _) σ _ := ⟨sk9, so.nv.set i (fun _ z => nomatch z), spA.b, exu hH0 spA.h, exu h6 spA.bh, spA.own⟩
                      have so10 : So b0 H0 _ (((Γ.set i (some (.own (.on (rs ++ [.ot [.im (.str w), .ol ch]]))))).set t none).set u (some (.fz q.toD))) _ _ := ⟨(so9.sk.put_no t (some (.ref t1))).put_fz u (rq.mono sN.b), NV.set (s := some (.fz q.toD)) (NV.set (s := none) so9.nv t (fun _ z => nomatch z)) u (fun _ z => nomatch z), so9.sp⟩
                      have eG : ∀ s9 : Option Sl, ((Γ.set t none).set u (some (.fz q.toD))).set i s9 = ((Γ.set i s9).set t none).set u (some (.fz q.toD)) := fun s9 => by
                        rw [List.set_comm _ _ n3, List.set_comm _ _ n2]
                      rw [eG]
                      exact so10
end
end TD

/-! TD30: what is one's own, made by a comprehension, each of it of any shape. -/
namespace TD
open PySem PySem.Spec PyProof.Rows L2
theorem Se.sk {B H : Hp} {Γ : TD.Env} {σ : L2.St} (h : Se B Γ σ H) : Sk B B Γ σ H := ⟨h.len, h.ex, h.ex, fun _ => [], fun _ _ _ _ hp => (by cases hp), fun _ _ hp => (by cases hp), h.ok⟩
theorem R.imms_append : ∀ {l m : List R}, R.imms (l ++ m) = (R.imms l && R.imms m)
  | [], m => by simp [R.imms]
  | r :: l, m => by
    rw [List.cons_append, R.imms, R.imms, R.imms_append, Bool.and_assoc]
section
variable {X : Cx} {T : Tb} {W : WX} {g : TG} {ts : List Nat} {B H H0 : Hp} {Γ : TD.Env} {σ : L2.St} {Q : VK}
theorem lcRs_err {f : List D → Rs R} {x : Nat} : ∀ {l : List (List D)}, lcRs f l ≠ .err x
  | [], z => by cases z
  | a :: r, z => by
    unfold lcRs at z
    cases q : f a with
    | ok o =>
      rw [q] at z
      cases q2 : lcRs f r with
      | ok l => simp only [q2] at z; cases z
      | err y => exact lcRs_err q2
      | bad => simp only [q2] at z; cases z
    | err y => rw [q] at z; cases z
    | bad => rw [q] at z; cases z
theorem lcR_go {gi : GI} {gr : GR} (hk : Sk H0 B Γ σ H) (p : PostR T W σ B H (evR T Γ (.lcR ts gi gr)) Q) : tLc (tI T W gi g ts) g tYes (tR T W0 gr) ts σ H Q := by
  have hs : Se H (TD.view Γ) σ H := hk.view
  have p' : PostR T W σ B H ((evI T (TD.view Γ) gi).bind fun items => if sizeOk items.length then (lcRs (fun it => evR T (setTs (wipeE (TD.view Γ) ts) ts it) gr) items).map .on else .bad) Q := p
  refine ⟨H, _, hs, ?_⟩
  cases e : evI T (TD.view Γ) gi with
  | err x => rw [e] at p'; exact PErr.view hk.ex p'
  | bad => rw [e] at p'; exact p'
  | ok items =>
    rw [e] at p'
    refine fun J B1 H1 st m D hD => ?_
    have p2 : PostR T W σ B H (if sizeOk items.length then (lcRs (fun it => evR T (setTs (wipeE (TD.view Γ) ts) ts it) gr) items).map .on else .bad) Q := p'
    by_cases hz' : sizeOk items.length = true
    · rw [if_pos hz'] at p2
      have hz := sizeOk_le hz'
      generalize hf : (fun it => evR T (setTs (wipeE (TD.view Γ) ts) ts it) gr) = f at p2
      cases el : lcRs f items with
      | err x => exact (lcRs_err el).elim
      | bad => rw [el] at p2; exact p2.elim
      | ok ds =>
        rw [el] at p2
        have hsw := hs.step st
        have start : ∃ (b : Hp) (acc : List V) (pre rest : List R) (fp : List Addr), Sp' B1 H1 b (upd H1 D (.lst [])) ∧ b D = none ∧ upd H1 D (.lst []) D = some (.lst acc) ∧ OrA b (upd H1 D (.lst [])) acc pre fp ∧ fp.Nodup ∧ (∀ q ∈ fp, H1 q = none ∧ q ≠ D) ∧ R.imms pre = true ∧ lcRs f (items.drop 0) = .ok rest ∧ ds = pre ++ rest ∧ pre.length ≤ 0 :=
          ⟨B1, [], [], ds, [], .new st.bh hD, ex_back st.bh hD, upd_same, .nil, List.nodup_nil, fun q hq => (nomatch hq), rfl, el, rfl, Nat.le_refl _⟩
        refine ⟨fun i m' H' => m' = items.length - i ∧ i ≤ items.length ∧ ∃ (b : Hp) (acc : List V) (pre rest : List R) (fp : List Addr), Sp' B1 H1 b H' ∧ b D = none ∧ H' D = some (.lst acc) ∧ OrA b H' acc pre fp ∧ fp.Nodup ∧ (∀ q ∈ fp, H1 q = none ∧ q ≠ D) ∧ R.imms pre = true ∧ lcRs f (items.drop i) = .ok rest ∧ ds = pre ++ rest ∧ pre.length ≤ i, ⟨_, rfl, Nat.zero_le _, start⟩, ?_⟩
        rintro i m' H' ⟨rfl, hi, b, acc, pre, rest, fp, s1, bD, hH, hacc, hnd, hfr, him, hrest, hds, hpl⟩
        have keep : ∀ {b2 H2 : Hp}, Sp' b H' b2 H2 → OrA b2 H2 acc pre fp := fun {b2 H2} s => hacc.frame s.b fun q hq => by
          obtain ⟨q1, o, q2, q3⟩ := hacc.at q hq
          exact ⟨by rw [s.h _ _ q2, q2], s.own q o q2 q3 q1⟩
        by_cases hlt : i < items.length
        · have hit : items[i]? = some items[i] := List.getElem?_eq_getElem hlt
          rw [List.drop_eq_getElem_cons hlt] at hrest
          refine .inr ⟨m.go i b H' s1.b s1.bh hlt, fun H2 => ∃ (b : Hp) (acc : List V) (pre rest : List R) (fp : List Addr), Sp' B1 H1 b H2 ∧ b D = none ∧ H2 D = some (.lst acc) ∧ OrA b H2 acc pre fp ∧ fp.Nodup ∧ (∀ q ∈ fp, H1 q = none ∧ q ≠ D) ∧ R.imms pre = true ∧ lcRs f (items.drop (i + 1)) = .ok rest ∧ ds = pre ++ rest ∧ pre.length ≤ i + 1,
            fun H2 w => ⟨_, by omega, rfl, hlt, w⟩, fun x H2 y => ?_⟩
          obtain ⟨b', s2, gk⟩ := m.yld i _ b H' x H2 s1.b s1.bh hit y
          refine gk _ _ fun vs rv => ⟨?_, ?_⟩
          · rw [wipe_setV fun u hu => hu, wipe_wipe fun u hu => hu]
          · have se : Se b' (setTs (wipeE (TD.view Γ) ts) ts items[i]) (setV (L2.wipe σ ts) ts vs) H2 := (((hsw.step s1).step s2).wipe ts).setTs rv
            have b'D : b' D = none := s2.own D _ hH (lst_noTup _) bD
            have hH2 := s2.h _ _ hH
            have s12 := s1.trans s2
            unfold lcRs at hrest
            unfold tYes
            dsimp only
            rw [if_pos rfl]
            refine ⟨b', b', _, se.sk, ?_⟩
            have hfi : f items[i] = evR T (setTs (wipeE (TD.view Γ) ts) ts items[i]) gr := by rw [← hf]
            cases q : f items[i] with
            | err y => rw [q] at hrest; cases hrest
            | bad => rw [q] at hrest; cases hrest
            | ok o =>
              rw [q] at hrest
              rw [hfi] at q
              rw [q]
              intro v f' b2 H3 s3 ov nd' fr' io
              cases q2 : lcRs f (items.drop (i + 1)) with
              | err y => simp only [q2] at hrest; cases hrest
              | bad => simp only [q2] at hrest; cases hrest
              | ok l =>
                simp only [q2] at hrest
                cases hrest
                have b2D : b2 D = none := s3.own D _ hH2 (lst_noTup _) b'D
                have s := s12.trans s3
                have fD : ∀ q ∈ f', q ≠ D := fun q hq z => by
                  subst z
                  rw [fr' q hq] at hH2
                  cases hH2
                have ff : ∀ q ∈ f', q ∉ fp := fun q hq z => by
                  obtain ⟨_, o', q2', _⟩ := hacc.at q z
                  have := s2.h _ _ q2'
                  rw [fr' q hq] at this
                  cases this
                have k := OrA.snoc ov (keep (s2.trans s3))
                refine ⟨acc, s3.h _ _ hH2, ?_, b2, acc ++ [v], pre ++ [o], l, fp ++ f', ⟨s.b, fun a o ha => ?_, fun a o ha => ?_, s.own⟩, b2D, upd_same, k.frame (ex_refl _) (fun a ha => ⟨upd_ne fun (z : a = D) => ?_, (k.at a ha).1⟩), ?_, ?_, ?_, rfl, by rw [hds]; simp, by simp; omega⟩
                · rw [hacc.len]
                  omega
                · rw [upd_ne (ne_of_none ha hD)]
                  exact s.h a o ha
                · rw [upd_ne (ne_of_none ha b2D)]
                  exact s.bh a o ha
                · subst z
                  rcases List.mem_append.mp ha with w | w
                  · exact (hfr a w).2 rfl
                  · exact fD a w rfl
                · exact List.nodup_append.mpr ⟨hnd, nd', fun a ha c hc z => ff c hc (z ▸ ha)⟩
                · intro a ha
                  rcases List.mem_append.mp ha with w | w
                  · exact hfr a w
                  · exact ⟨ex_back s12.h (fr' a w), fD a w⟩
                · rw [R.imms_append, him]
                  simp [R.imms, io]
        · have ei : i = items.length := by omega
          subst ei
          rw [List.drop_length] at hrest
          cases hrest
          rw [List.append_nil] at hds
          subst hds
          refine .inl ⟨m.stop _ b H' s1.b s1.bh (Nat.le_refl _), ?_⟩
          have hh : Ex H H' := ex_trans st.h s1.h
          have nH : ∀ q ∈ D :: fp, H q = none := fun q hq => by
            rcases List.mem_cons.mp hq with w | w
            · rw [w]
              exact ex_back st.h hD
            · exact ex_back st.h (hfr q w).1
          have im : R.imm (.on ds) = true := him
          exact p2 (.ref D) (D :: fp) (tups B H') H' (.tups hk.ex hh) ((Or.on bD hH hacc).rebase (ex_trans hk.ex hh) s1.bh im fun q hq => ex_back hk.ex (nH q hq)) (List.nodup_cons.mpr ⟨fun z => (hfr D z).2 rfl, hnd⟩) nH im
    · rw [if_neg hz'] at p2
      exact p2.elim
theorem lcR_imp {gi : GI} {gr : GR} : ∀ σ H Q, tR T W (.lcR ts gi gr) σ H Q → tLc (tI T W gi g ts) g tYes (tR T W0 gr) ts σ H Q := fun σ H Q ⟨H0, B, Γ, hk, p⟩ => lcR_go hk p
end
section
variable {T : Tb} {Γ : Env}
@[simp] theorem r_lcR {ts : List Nat} {gi : GI} {r : GR} : evR T Γ (.lcR ts gi r) = (evI T (view Γ) gi).bind fun items => if sizeOk items.length then (lcRs (fun it => evR T (setTs (wipeE (view Γ) ts) ts it) r) items).map .on else .bad := rfl
theorem lcRs_all {α : Type} {m : α → List PyData} {f : List PyData → Rs R} {g : α → R} : ∀ {l : List α}, (∀ a ∈ l, f (m a) = .ok (g a)) → lcRs f (l.map m) = .ok (l.map g)
  | [], _ => rfl
  | a :: r, h => by
    rw [List.map_cons]
    unfold lcRs
    rw [h a List.mem_cons_self, lcRs_all fun b hb => h b (List.mem_cons_of_mem _ hb)]
    rfl
end
end TD

/-! TD31: a def that takes over one of its parameters, at the place n. -/
namespace TD
open PySem PySem.Spec PyProof.Rows L2
def spK (n : Nat) (φ : List D → Option Out) : Sp := fun vs H Q E => ∃ b ds1 ds2 vs1 vs2 v r f, vs = vs1 ++ v :: vs2 ∧ ds1.length = n ∧ Ex b H ∧ RpA b vs1 ds1 ∧ RpA b vs2 ds2 ∧ Or b H v r f ∧ f.Nodup ∧ shp r.toD = r ∧ r.imm = true ∧ match φ (ds1 ++ r.toD :: ds2) with
  | some (.ret r') => ∀ v f' B1 H1, Sp' b (minus H f) B1 H1 → (∀ p ∈ f', minus H f p = none) → f'.Nodup → Or B1 H1 v r' f' → r'.imm = true → Q v H1
  | _ => False
structure CalleeK (n : Nat) (X : Cx) (T : Tb) (j : Nat) (x : Str) : Prop where
  ex : ∃ φ f fd ps k, T.fs[j]? = some φ ∧ FnOk X.prog X.w X.K X.mg X.base (L2.CX X.prog X.w) k f fd ps (spK n φ) ∧ Room k X.A ∧ X.mg x = some (.ref f) ∧ PySem.W.keepIn X.K (.ref f) = true ∧ Binds X.K fd ps []
structure CalK (n : Nat) (P : Program) (w : World) (K : PySem.W.Frag) (mg : Str → Option Value) (base : Heap) (ca : Nat → Addr) (x : Str) (φ : List D → Option Out) (k : Nat) : Prop where
  ex : ∃ f fd ps, FnOk P w K mg base (L2.CX P w) k f fd ps (spK n φ) ∧ mg x = some (.ref f) ∧ PySem.W.keepIn K (.ref f) = true ∧ Binds K fd ps []
theorem CalK.at {m : Nat} {X : Cx} {T : Tb} {x : Str} {φ : List D → Option Out} {j k n : Nat} (c : CalK m X.prog X.w X.K X.mg X.base T.ca x φ j) (hr : Room k X.A) (hj : j ≤ k := by decide) (h : T.fs[n]? = some φ := by rfl) : CalleeK m X T n x := by
  obtain ⟨f, fd, ps, F, g, kp, b⟩ := c.ex
  exact ⟨φ, f, fd, ps, j, h, F, hr.mono hj, g, kp, b⟩
def startK (N : List Str) (ds1 : List D) (r : R) (ds2 : List D) : Env := (ds1.map fun d => some (Sl.fz d)) ++ some (.own r) :: (ds2.map fun d => some (Sl.fz d)) ++ List.replicate (N.length - ds1.length - ds2.length - 1) none
theorem sk_startK {H b : Hp} {N : List Str} {vs1 vs2 : List V} {ds1 ds2 : List D} {v : V} {r : R} {f : List Addr} (hN : ds1.length + ds2.length < N.length) (ex : Ex b H) (rp1 : RpA b vs1 ds1) (rp2 : RpA b vs2 ds2) (o : Or b H v r f) (nd : f.Nodup) : So b (minus H f) b (startK N ds1 r ds2) (L2.start N (vs1 ++ v :: vs2)) H := by
  have hl1 := rp1.len
  have hl2 := rp2.len
  have gets : ∀ i s, (startK N ds1 r ds2)[i]? = some (some s) → (∃ d, ds1[i]? = some d ∧ s = .fz d) ∨ (i = ds1.length ∧ s = .own r) ∨ (∃ j d, i = ds1.length + 1 + j ∧ ds2[j]? = some d ∧ s = .fz d) := fun i s e => by
    unfold startK at e
    by_cases hi : i < ds1.length
    · have e' : ds1[i]? = some ds1[i] := List.getElem?_eq_getElem hi
      rw [List.append_assoc, List.getElem?_append_left (by simp; exact hi), List.getElem?_map, e'] at e
      cases e
      exact .inl ⟨_, e', rfl⟩
    · rw [List.append_assoc, List.getElem?_append_right (by simp; omega), List.length_map] at e
      by_cases h0 : i = ds1.length
      · subst h0
        rw [Nat.sub_self] at e
        cases e
        exact .inr (.inl ⟨rfl, rfl⟩)
      · obtain ⟨j, hj⟩ : ∃ j, i - ds1.length = j + 1 := ⟨i - ds1.length - 1, by omega⟩
        rw [hj, List.cons_append, List.getElem?_cons_succ] at e
        by_cases hj2 : j < ds2.length
        · have e' : ds2[j]? = some ds2[j] := List.getElem?_eq_getElem hj2
          rw [List.getElem?_append_left (by simp; exact hj2), List.getElem?_map, e'] at e
          cases e
          exact .inr (.inr ⟨j, _, by omega, e', rfl⟩)
        · rw [List.getElem?_append_right (by simp; omega), List.getElem?_replicate] at e
          split at e <;> cases e
  refine ⟨⟨?_, minus_ex _ _, ex, fun j => if j = ds1.length then f else [], fun i j hij p hp => ?_, fun i p hp => ?_, fun i s e => ?_⟩, fun j kvs e => ?_, ex_refl _, minus_ex _ _, ex, fun _ _ _ _ z => z⟩
  · unfold startK L2.start
    simp only [List.length_append, List.length_map, List.length_replicate, List.length_cons]
    omega
  · by_cases hi : i = ds1.length
    · have : ¬(j = ds1.length) := fun z => hij (hi.trans z.symm)
      simp only [this, if_false]
      exact fun z => nomatch z
    · simp only [hi, if_false] at hp
      cases hp
  · by_cases hi : i = ds1.length
    · simp only [hi, if_true] at hp
      obtain ⟨h1, h2⟩ := o.at p hp
      exact ⟨minus_in hp, h1, h2⟩
    · simp only [hi, if_false] at hp
      cases hp
  · rcases gets i s e with ⟨d, hd, rfl⟩ | ⟨rfl, rfl⟩ | ⟨j, d, rfl, hd, rfl⟩
    · obtain ⟨u, hu, ru⟩ := rp1.get hd
      refine ⟨u, ?_, ru⟩
      have hi : i < vs1.length := (List.getElem?_eq_some_iff.mp hu).1
      unfold L2.start
      rw [List.getElem?_append_left (by simp; omega), List.getElem?_map, List.getElem?_append_left hi, hu]
      rfl
    · simp only [if_true]
      refine ⟨v, ?_, o, nd⟩
      unfold L2.start
      rw [List.getElem?_append_left (by simp; omega), List.getElem?_map, List.getElem?_append_right (by omega), hl1, Nat.sub_self]
      rfl
    · obtain ⟨u, hu, ru⟩ := rp2.get hd
      refine ⟨u, ?_, ru⟩
      have hi : j < vs2.length := (List.getElem?_eq_some_iff.mp hu).1
      unfold L2.start
      rw [List.getElem?_append_left (by simp; omega), List.getElem?_map, List.getElem?_append_right (by omega), hl1, show ds1.length + 1 + j - ds1.length = j + 1 by omega, List.getElem?_cons_succ, hu]
      rfl
  · rcases gets j _ e with ⟨d, _, z⟩ | ⟨_, z⟩ | ⟨_, d, _, _, z⟩ <;> cases z
section
variable {P : Program} {w : World} {K : PySem.W.Frag} {mg : Str → Option Value} {base : Heap} {T : Tb}
theorem fn_dataK {n : Nat} {x qual : Str} {st : Stmt} {f : Addr} {fd : FuncData} {N ps : List Str} {k : Nat} {φ : List D → Option Out} {g : GSs} (F : Fun K qual qual st f fd) (gm : mg x = some (.ref f)) (bd : Binds K fd ps []) (S : FnScope N ps (defScope st)) (ar : ∀ ds o, φ ds = some o → ds.length = ps.length) (hN : ps.length ≤ N.length)
    (hb : ∀ (cdv : Value) (A : Around) (outer : List PySem.Env) (s : Shared) (H : Hp) (E : XK), Room k (A.deeper (envOfC qual (defScope st) s.heap.objs.size f cdv)) →
      PSs (cxOf (L2.CX P w) P w K mg base N qual (defScope st) f cdv A outer s H E) (defBody st) (tSs T (fun cls d _ H => E cls d H) g))
    (hw : ∀ ds1 d ds2 o, ds1.length = n → φ (ds1 ++ d :: ds2) = some o → wpSs T g (gdOf o) (startK N ds1 (shp d) ds2)) : CalK n P w K mg base T.ca x φ (k + 1) := by
  refine ⟨f, fd, ps, F.okX S (fun vs H Q E h => ?_) (fun cdv A outer s H vs Q E hr h => ⟨_, hb cdv A outer s H E hr, ?_⟩), gm, F.kp, bd⟩
  · obtain ⟨b, ds1, ds2, vs1, vs2, v, r, fo, rfl, hn, ex, rp1, rp2, o, nd, hs, im, q⟩ := h
    cases e : φ (ds1 ++ r.toD :: ds2) with
    | none => rw [e] at q; exact q.elim
    | some u =>
      have := ar _ _ e
      rw [List.length_append, List.length_cons] at this
      rw [List.length_append, List.length_cons, rp1.len, rp2.len, this]
  · obtain ⟨b, ds1, ds2, vs1, vs2, v, r, fo, rfl, hn, ex, rp1, rp2, o, nd, hs, im, q⟩ := h
    cases e : φ (ds1 ++ r.toD :: ds2) with
    | none => rw [e] at q; exact q.elim
    | some u =>
      rw [e] at q
      have hl := ar _ _ e
      rw [List.length_append, List.length_cons] at hl
      cases u with
      | old _ => exact q.elim
      | exc _ => exact q.elim
      | mu _ _ _ => exact q.elim
      | mx _ => exact q.elim
      | ret r' =>
        have wq := hw ds1 r.toD ds2 _ hn e
        rw [hs] at wq
        refine ⟨b, minus H fo, b, _, gdOf (.ret r'), sk_startK (by omega) ex rp1 rp2 o nd, wq, ⟨fun B1 Γ1 σ1 H1 so1 z => ?_, fun r2 v2 f2 B1 H1 s1 o1 n1 k1 i1 z => ?_, fun x2 v2 B1 H1 s1 r1 z => ?_, fun x2 B1 Γ1 σ1 H1 so1 z => ?_, fun r2 v2 f2 B1 H1 s1 o1 n1 k1 z => ?_, fun p2 c2 x2 v2 B1 Γ1 σ1 H1 so1 _ _ _ z => ?_⟩⟩
        · have z' : Out.ret r' = .ret (.im .none) := z
          cases z'
          exact q .non [] B1 H1 so1.sp (fun _ hp => by cases hp) .nil (.im .non) rfl
        · have z' : Out.ret r2 = .ret r' := z
          cases z'
          exact q v2 f2 B1 H1 s1 k1 n1 o1 i1
        · have z' : Out.old x2 = .ret r' := z
          cases z'
        · have z' : Out.ret r' = .exc x2 := z
          cases z'
        · have z' : Out.mx r2 = .ret r' := z
          cases z'
        · have z' : Out.mu p2 c2 x2 = .ret r' := z
          cases z'
end
/-! ### the call -/
def tAK (T : Tb) (W : WX) (i : Nat) (g h : GEs) : TA := fun σ H Q => tA T W g σ H fun vs H1 => ∃ v, σ[i]? = some (some v) ∧ tA T W h σ H1 fun us H2 => Q (vs ++ v :: us) H2
section
variable {X : Cx} {T : Tb} {W : WX} {a e e2 : Expr} {es : List Expr} {ga ge : GE} {ges gfs : GEs} {i j n : Nat} {pos pos2 : Pos}
theorem pak_nil (h : PE X a (tVar i)) (hr : PA X es (tA T W gfs)) (hs : starEach (a :: es) X.env = (false, eval a X.env) :: starEach es X.env := by rfl) : PA X (a :: es) (tAK T W i .nil gfs) := (pa_cons h hr hs).imp fun σ H Q ⟨B, Γ, hs, p⟩ => by
  obtain ⟨v, hv, q⟩ := p [] B H (.refl hs.ex) .nil
  exact ⟨v, hv, q⟩
theorem pak_cons (ha : PE X a (tG T W ga)) (hr : PA X es (tAK T W i ges gfs)) (hs : starEach (a :: es) X.env = (false, eval a X.env) :: starEach es X.env := by rfl) : PA X (a :: es) (tAK T W i (.cons ga ges) gfs) := (pa_cons ha hr hs).imp fun σ H Q ⟨B, Γ, hs, p⟩ => by
  have k : tG T W ga σ H fun v H1 => ∃ d B1, Sp' B H B1 H1 ∧ Se B1 Γ σ H1 ∧ Rp B1 v d ∧ PostA T W σ B1 H1 ((evs T Γ ges).map fun ds => d :: ds) fun vs H1 => ∃ v, σ[i]? = some (some v) ∧ tA T W gfs σ H1 fun us H2 => Q (vs ++ v :: us) H2 := by
    have p' : PostA T W σ B H ((ev T Γ ga).bind fun d => (evs T Γ ges).map fun ds => d :: ds) fun vs H1 => ∃ v, σ[i]? = some (some v) ∧ tA T W gfs σ H1 fun us H2 => Q (vs ++ v :: us) H2 := p
    refine ⟨B, Γ, hs, ?_⟩
    cases e : ev T Γ ga with
    | ok d => rw [e] at p'; exact fun v B1 H1 s r => ⟨d, B1, s, hs.step s, r, PostA.step p' s⟩
    | err x => rw [e] at p'; exact p'
    | bad => rw [e] at p'; exact p'
  refine tG_mono k fun v H1 ⟨d, B1, st, hs1, rx, p1⟩ => ⟨B1, Γ, hs1, ?_⟩
  cases e : evs T Γ ges with
  | ok ds => rw [e] at p1; exact fun vs B2 H2 s r => p1 (v :: vs) B2 H2 s (.cons (rx.mono s.b) r)
  | err x => rw [e] at p1; exact p1
  | bad => rw [e] at p1; exact p1
/-- what is one's own is gone -/
theorem So.drop {b0 H0 B H : Hp} {Γ : TD.Env} {σ : L2.St} (h : So b0 H0 B Γ σ H) {i : Nat} {r : R} (e : TD.ownR Γ i = some r) : ∃ v f, σ[i]? = some (some v) ∧ Or B H v r f ∧ f.Nodup ∧ (∀ p ∈ f, H0 p = none) ∧ So b0 H0 B (Γ.set i none) σ (minus H f) := by
  obtain ⟨F, g⟩ := h.sk.sl
  obtain ⟨v, e1, o, nd⟩ := g.ok i _ (ownR_at e)
  have fr : ∀ p ∈ F i, H0 p = none ∧ B p = none := fun p hp => ⟨(g.at' i p hp).1, (g.at' i p hp).2.1⟩
  refine ⟨v, F i, e1, o, nd, fun p hp => (fr p hp).1, ⟨by rw [List.length_set]; exact h.sk.len, ex_minus h.sk.e0 fun p hp => (fr p hp).1, ex_minus h.sk.ex fun p hp => (fr p hp).2, fun j => if j = i then [] else F j, ⟨fun a b hab p hp => ?_, fun a p hp => ?_, fun j s ej => ?_⟩⟩, h.nv.set i (fun _ z => nomatch z), h.sp.b, ex_minus h.sp.h fun p hp => (fr p hp).1, ex_minus h.sp.bh fun p hp => (fr p hp).2, h.sp.own⟩
  · by_cases ha : a = i
    · simp only [ha, if_true] at hp
      cases hp
    · simp only [ha, if_false] at hp
      by_cases hb : b = i
      · simp only [hb, if_true]
        exact fun z => nomatch z
      · simp only [hb, if_false]
        exact g.dis a b hab p hp
  · by_cases ha : a = i
    · simp only [ha, if_true] at hp
      cases hp
    · simp only [ha, if_false] at hp
      obtain ⟨h1, h2, u, h3, h4⟩ := g.at' a p hp
      exact ⟨h1, h2, u, by rw [minus_out fun z => g.dis a i ha p hp z]; exact h3, h4⟩
  · by_cases hj : i = j
    · subst hj
      have hl : i < Γ.length := (List.getElem?_eq_some_iff.mp (ownR_at e)).1
      rw [List.getElem?_set_self hl] at ej
      cases ej
    · rw [get_set_ne hj] at ej
      have hj' : ¬(j = i) := fun z => hj z.symm
      simp only [hj', if_false]
      exact (g.ok j s ej).swap (fun kvs z => h.nv j kvs (by rw [ej, z])) fun q hq => minus_out fun z => g.dis j i hj' q hq z
theorem psx_retK {x : Str} {p : Pos} (c : CalleeK n X T j x) (tk : Takes X W) (ha : PA X (e :: es) (tAK T W i ges gfs)) (hn : ∀ (Γ : TD.Env) ds, evs T Γ ges = .ok ds → ds.length = n) (hb : PE X e2 (tG T W ge)) (hg : Gl X x := by rfl)
    (hdb : (x == ("__debug__" : Str)) = false := by decide) (he : starEach (e :: es) X.env = (false, eval e X.env) :: starEach es X.env := by rfl) (hpl : (backTo pos (starEach es X.env)).any (·.1) = false := by rfl) {p3 : Pos} :
    PS X (.Return (some (.BoolOp .And [.Call (.Name x p) (e :: es) [] pos, e2] p3)) pos2) (tS T W (.retK j ges i gfs ge)) := by
  obtain ⟨φ, f, fd, ps, k, hφ, F, hr, hm, hk, hbd⟩ := c.ex
  refine (ps_ret (pe_and (pe_callS F hr hg hm hk hbd (fun σ => passAt tk σ) ha hdb he hpl) (pe_one hb))).imp fun De σ H ⟨b0, H0, B, Γ, d, so, w, r⟩ => ?_
  obtain ⟨q, e1, e2, e3, ds1, ds2, b, e4, e5, e6, e7, e8⟩ := w
  show tA T W ges σ H _
  refine ⟨B, _, so.sk.stab, ?_⟩
  rw [e4]
  intro vs B1 H1 s rx
  have so1 := so.step s
  obtain ⟨v0, fo0, h10, _⟩ := so1.ownR e1
  refine ⟨v0, h10, B1, _, so1.sk.stab, ?_⟩
  rw [e5]
  intro us B2 H2 s2 ru
  have so2 := so1.step s2
  obtain ⟨v, fo, h1, h2, h3, h4, so3⟩ := so2.drop e1
  rw [h10] at h1
  cases h1
  refine ⟨B2, ds1, ds2, vs, us, v0, q, fo, rfl, hn _ _ e4, so2.sk.ex, rx.mono s2.b, ru, h2, h3, e2, e3, ?_⟩
  unfold callR at e6
  rw [hφ] at e6
  cases z : φ (ds1 ++ q.toD :: ds2) with
  | none => simp only [z] at e6; cases e6
  | some u =>
    cases u with
    | old _ => simp only [z] at e6; cases e6
    | exc _ => simp only [z] at e6; cases e6
    | mu _ _ _ => simp only [z] at e6; cases e6
    | mx _ => simp only [z] at e6; cases e6
    | ret r2 =>
      simp only [z] at e6
      cases e6
      intro v2 f2 B3 H3 s3 fr nd o im
      have so4 := so3.step s3
      cases o with
      | im rb =>
        cases rb
        refine ⟨b, rfl, ?_⟩
        cases b with
        | false => exact iteF (r.rr _ _ [] B3 H3 so4.sp (.im (.bl false)) List.nodup_nil (fun _ hp => by cases hp) rfl (e7 rfl))
        | true =>
          obtain ⟨cc, y1, y2⟩ := e8 rfl
          refine iteT ⟨B3, _, so4.sk.stab, ?_⟩
          rw [y1]
          intro v5 B5 H5 s5 r5
          cases rp_bl r5
          exact r.rr _ _ [] B5 H5 (so4.sp.trans s5) (.im (.bl cc)) List.nodup_nil (fun _ hp => by cases hp) rfl y2
end
end TD

/-! TD32: what is one's own within a tuple returned; a new part put behind. -/
namespace TD
open PySem PySem.Spec PyProof.Rows L2
section
variable {X : Cx} {T : Tb} {W : WX} {a b e : Expr} {st : Stmt} {ga : GE} {gf : GF} {gr : GR} {i : Nat} {x w : Str} {p pc p3 pos : Pos} {kc k2 : Nat}
theorem Or.nrm {B H : Hp} {v : V} {r : R} {f : List Addr} (o : Or B H v r f) : Or B H v r.nrm f := by
  cases r with
  | on rs =>
    cases rs with
    | nil =>
      cases o with
      | on h1 h2 h3 =>
        cases h3
        exact .ol h1 h2 .nil
    | cons a l => exact o
  | _ => exact o
theorem R.nrm_imm {r : R} (h : r.imm = true) : r.nrm.imm = true := by
  cases r with
  | on rs =>
    cases rs with
    | nil => rfl
    | cons a l => exact h
  | _ => exact h
theorem le3 : 3 ≤ sizeLine := by rw [sizeLine_eq]; omega
theorem psx_retA (hb : PE X b (tG T W ga)) (hi : PE X (.Name x p) (tVar i)) (hs : starEach [b, .Name x p] X.env = (false, eval b X.env) :: starEach [.Name x p] X.env := by rfl) : PS X (.Return (some (.Tuple [.Constant (.str w) kc pc, b, .Name x p] k2 p3)) pos) (tS T W (.retA w ga i)) :=
  (ps_ret (pe_tup (pa_cons pe_str (pa_cons hb (pa_cons hi pa_nil) hs)))).imp fun De σ H ⟨b0, H0, B, Γ, d, so, ⟨q, h1, h2, h3⟩, r⟩ => by
  refine so.view r h3 fun v y b1 H1 s rp ⟨im, q2⟩ => ?_
  have so1 := so.step (.tups so.sk.ex s.h)
  have rv := Rp.imm (ex_trans so.sk.ex s.h) s.bh y rp im
  obtain ⟨u, f, hu, o, nd, fr⟩ := so1.ownR h1
  refine ⟨u, hu, ⟨le3, fun t ht => ?_⟩⟩
  have s2 : Sp' (tups B H1) H1 (upd (tups B H1) t (.tup [.str w, v, u])) (upd H1 t (.tup [.str w, v, u])) := .both so1.sk.ex ht
  have o' := o.frame (B1 := upd (tups B H1) t (.tup [.str w, v, u])) (H1 := upd H1 t (.tup [.str w, v, u])) s2.b fun c hc => by
    obtain ⟨k1, z, k2, _⟩ := o.at c hc
    have ne : c ≠ t := fun z => by rw [z, ht] at k2; cases k2
    exact ⟨upd_ne ne, by rw [upd_ne ne]; exact k1⟩
  have al : OrA (upd (tups B H1) t (.tup [.str w, v, u])) (upd H1 t (.tup [.str w, v, u])) [.str w, v, u] [.im (.str w), .im y, q] ([] ++ ([] ++ (f ++ []))) := .cons (.im (.str w)) (.cons (.im (rv.mono s2.b)) (.cons o' .nil))
  rw [List.append_nil, List.nil_append, List.nil_append] at al
  refine r.rr _ _ f _ _ (so1.sp.trans s2) (.ot upd_same al) nd fr ?_ q2
  show (true && (TD.imm y && (q.imm && true))) = true
  rw [im, h2]
  rfl
theorem psx_retB (hb : PE X b (tF T W gf)) (hi : PE X (.Name x p) (tVar i)) (hs : starEach [b, .Name x p] X.env = (false, eval b X.env) :: starEach [.Name x p] X.env := by rfl) : PS X (.Return (some (.Tuple [b, .Name x p] k2 p3)) pos) (tS T W (.retB gf i)) :=
  (ps_ret (pe_tup (pa_cons hb (pa_cons hi pa_nil) hs))).imp fun De σ H ⟨b0, H0, B, Γ, d, so, ⟨q, h1, h2, h3⟩, r⟩ => by
  refine so.viewF r h3 fun c xs ds b1 H1 s n1 n2 rp ⟨im, q2⟩ => ?_
  have so1 := so.step (.tups so.sk.ex s.h)
  have rv := RpA.imm (ex_trans so.sk.ex s.h) s.bh ds rp im
  have hB : tups B H1 c = none := tups_none (ex_back so.sk.ex n1) fun ys z => by rw [n2] at z; cases z
  obtain ⟨f, ⟨u, hu, o, nd⟩, k, _⟩ := so.sk.change2 so.nv (.tups so.sk.ex s.h) (ownR_at h1)
  have fr : ∀ p ∈ f, H0 p = none := fun p hp => (k p hp).1
  have cf : c ∉ f := fun z => (k c z).2.1 n1
  refine ⟨u, hu, ⟨le2, fun t ht => ?_⟩⟩
  have s2 : Sp' (tups B H1) H1 (upd (tups B H1) t (.tup [.ref c, u])) (upd H1 t (.tup [.ref c, u])) := .both so1.sk.ex ht
  have ct : c ≠ t := fun z => by subst z; rw [n2] at ht; cases ht
  have o' := o.frame (B1 := upd (tups B H1) t (.tup [.ref c, u])) (H1 := upd H1 t (.tup [.ref c, u])) s2.b fun c hc => by
    obtain ⟨k1, z, k2, _⟩ := o.at c hc
    have ne : c ≠ t := fun z => by rw [z, ht] at k2; cases k2
    exact ⟨upd_ne ne, by rw [upd_ne ne]; exact k1⟩
  have o' := o'.nrm
  have h2 := R.nrm_imm h2
  have al : OrA (upd (tups B H1) t (.tup [.ref c, u])) (upd H1 t (.tup [.ref c, u])) [.ref c, u] [.ol ds, q.nrm] ([c] ++ (f ++ [])) := .cons (.ol (by rw [upd_ne ct]; exact hB) (by rw [upd_ne ct]; exact n2) (rv.mono s2.b)) (.cons o' .nil)
  rw [List.append_nil] at al
  refine r.rr _ _ _ _ _ (so1.sp.trans s2) (.ot upd_same al) (List.nodup_cons.mpr ⟨cf, nd⟩) (fun y hy => ?_) ?_ q2
  · rcases List.mem_cons.mp hy with rfl | hy
    · exact ex_back so.sk.e0 n1
    · exact fr y hy
  · show (immA ds && (q.nrm.imm && true)) = true
    rw [im, h2]
    rfl
/-- a new part behind one's own parts -/
theorem So.addR {b0 H0 B H B1 H1 : Hp} {Γ : TD.Env} {σ : L2.St} {rs : List R} {v : V} {q : R} {f : List Addr} (so : So b0 H0 B Γ σ H) (st : Sp' B H B1 H1) (e : TD.ownR Γ i = some (.on rs)) (o : Or B1 H1 v q f) (nd : f.Nodup) (fr : ∀ p ∈ f, H p = none) :
    ∃ l xs, σ[i]? = some (some (.ref l)) ∧ H1 l = some (.lst xs) ∧ xs.length = rs.length ∧ So b0 H0 B1 (Γ.set i (some (.own (.on (rs ++ [q]))))) σ (upd H1 l (.lst (xs ++ [v]))) := by
  obtain ⟨f9, ⟨v9, hv9, o9, nd9⟩, k9, ch9⟩ := so.sk.change2 so.nv st (ownR_at e)
  cases o9 with
  | on h6 h7 h8 =>
    rename_i l xs g
    have n9 := List.nodup_cons.mp nd9
    have fl : ∀ c ∈ f, c ≠ l := fun c hc z => (k9 l List.mem_cons_self).2.1 (z ▸ fr c hc)
    have fg : ∀ c ∈ f, c ∉ g := fun c hc z => (k9 c (List.mem_cons_of_mem _ z)).2.1 (fr c hc)
    have sk9 := ch9 l (.lst (xs ++ [v])) (.own (.on (rs ++ [q]))) (l :: (g ++ f)) List.mem_cons_self (lst_noTup _)
      ⟨_, hv9, .on h6 upd_same (OrA.snoc (o.frame (ex_refl _) fun p hp => ⟨upd_ne (fl p hp), (o.at p hp).1⟩) (h8.frame (ex_refl _) fun p hp => ⟨upd_ne fun (z : p = l) => n9.1 (z ▸ hp), (h8.at p hp).1⟩)), by
        refine List.nodup_cons.mpr ⟨fun z => ?_, List.nodup_append.mpr ⟨n9.2, nd, fun p hp b hb z => fg b hb (z ▸ hp)⟩⟩
        rcases List.mem_append.mp z with z | z
        · exact n9.1 z
        · exact fl l z rfl⟩
      (fun p hp => by
        rcases List.mem_cons.mp hp with z | z
        · exact .inl (z ▸ List.mem_cons_self)
        · rcases List.mem_append.mp z with z | z
          · exact .inl (List.mem_cons_of_mem _ z)
          · exact .inr ⟨fr p z, (o.at p z).1, (o.at p z).2⟩)
    have hH0 : H0 l = none := (k9 l List.mem_cons_self).1
    have exu : ∀ {G K : Hp}, G l = none → Ex G K → Ex G (upd K l (.lst (xs ++ [v]))) := fun {G K} hn he a w ha => by
      rw [upd_ne (ne_of_none ha hn)]
      exact he a w ha
    have spA := so.sp.trans st
    exact ⟨l, xs, hv9, h7, h8.len, sk9, so.nv.set i (fun _ z => nomatch z), spA.b, exu hH0 spA.h, exu h6 spA.bh, spA.own⟩
theorem psx_appR (h : PS X st (tDrop (tBM X.K "list" rAppend (tVar i) (tCons (tR T W gr) tNil)))) : PS X st (tS T W (.appR i gr)) := h.imp fun De σ H ⟨b0, H0, B, Γ, d, so, ⟨rs, h1, h2, h3⟩, r⟩ => by
  obtain ⟨f0, ⟨v0, hv0, o0, _⟩, _⟩ := so.change (ownR_at h1)
  cases o0 with
  | on m1 m2 m3 =>
    refine ⟨_, hv0, .inl ⟨rfl, _, .inl (.inl m2)⟩, H0, B, Γ, so.sk, ?_⟩
    cases q : evR T Γ gr with
    | err x => rw [q] at h3; exact so.err r h3
    | bad => rw [q] at h3; exact h3.elim
    | ok y =>
      rw [q] at h3
      intro v f B1 H1 s o nd fr im
      obtain ⟨l, xs, k1, k2, k3, k4⟩ := so.addR s h1 o nd fr
      rw [hv0] at k1
      cases k1
      exact ⟨_, xs, v, rfl, rfl, k2, by rw [k3, sizeLine_eq]; exact h2, r.nx _ _ _ _ k4 h3⟩
end
section
variable {X : Cx} {T : Tb} {W : WX} {tg iter elt : Expr} {g : TG} {gi : GI} {gr : GR} {ts : List Nat} {own : List (Str × Nat)} {scope : Scope} {pos : Pos}
theorem px_lcR (hc : X.calm = true) (hN : X.N.Nodup) (hi : PI X tg iter (tI T W gi g ts)) (ok : BlkOk X.N X.env.scope scope own) (ho : own.map (·.2) = ts)
    (hg : ∀ (s : Shared) (H : Hp) (C : Addr) (cl : List (Str × Addr)) (fp : List Addr), PG (X.blk s H scope (compEnvC scope cl C X.env) fp) tg g)
    (he : ∀ (s : Shared) (H : Hp) (C : Addr) (cl : List (Str × Addr)) (fp : List Addr), PE (X.blk s H scope (compEnvC scope cl C X.env) fp) elt (tR T W0 gr)) (hs : ∀ x, foldedSetIterable iter X.env x = pure x := by intro _; rfl) :
    PE X (.ListComp elt [⟨tg, iter, [], 0⟩] scope pos) (tR T W (.lcR ts gi gr)) := by
  subst ho
  exact (pe_lc hc hN hi ok hg (fun _ _ _ _ _ => pts_nil) he hs).imp lcR_imp
end
end TD

/-! TD33: how many there are. -/
namespace TD
open PySem PySem.Spec PyProof.Rows L2
def GEs.len : GEs → Nat
  | .nil => 0
  | .cons _ r => r.len + 1
theorem evs_len {T : Tb} {Γ : TD.Env} : ∀ {g : GEs} {ds : List D}, evs T Γ g = .ok ds → ds.length = g.len
  | .nil, ds, h => by
    have h' : (Rs.ok [] : Rs (List D)) = .ok ds := h
    cases h'
    rfl
  | .cons e r, ds, h => by
    have h' : ((ev T Γ e).bind fun d => (evs T Γ r).map fun ds => d :: ds) = .ok ds := h
    cases h1 : ev T Γ e with
    | ok d =>
      rw [h1] at h'
      cases h2 : evs T Γ r with
      | ok l =>
        rw [bind_ok, h2] at h'
        cases h'
        exact congrArg (· + 1) (evs_len h2)
      | err x => rw [bind_ok, h2] at h'; cases h'
      | bad => rw [bind_ok, h2] at h'; cases h'
    | err x => rw [h1] at h'; cases h'
    | bad => rw [h1] at h'; cases h'
end TD

namespace TL
open PySem PySem.Spec PyProof.Rows L2 TD
def topS (i : Nat) : Stmt := PySem.Challenge.pw_tilldrawer_k09_whole_day.main.body.getD i (.Pass ⟨0, 0, 0, 0⟩)
abbrev xsL : List Nat := [1, 2, 3, 4, 5, 6, 7, 8, 9, 10]
abbrev ysL : List Nat := [1, 2, 3, 4, 5, 6, 7, 8, 9, 10]
section
variable {P : Program} {w : World} {K : PySem.W.Frag} {mg : Str → Option Value} {base : Heap} {ca : Nat → Addr}

/-! ### need_value -/
abbrev s_need_value : Stmt := topS 16
theorem sc_need_value : FnScope ["value"] ["value"] (defScope s_need_value) := ⟨rfl, rfl, rfl, by decide +kernel, rfl, by decide +kernel, by decide +kernel⟩
def g_need_value : GSs := .cons (.ifs (.or (.cmp .lt (.var 0) (.cst (.int 1))) (.cmp .gt (.var 0) (.cst (.int 1000)))) (.cons (.raise_ 2) (.nil)) (.nil)) (.nil)
abbrev n_need_value : List Str := ["value"]
theorem dv_need_value {ph_need_value : List D → Option Out} {f : Addr} {fd : FuncData} (F : Fun K "need_value" "need_value" s_need_value f fd) (gm : mg "need_value" = some (.ref f)) (bd : Binds K fd ["value"] []) (bi : Bi mg) (cl : Cls' K mg ca xsL ysL) (k_GREATEST : ∃ t, mg "GREATEST" = some (.int 1000 t))
    (ar : ∀ ds o, ph_need_value ds = some o → ds.length = 1) (wp : ∀ ds o, ph_need_value ds = some o → wpSs ⟨[], ca, xsL, none⟩ g_need_value (gdOf o) (startE n_need_value ds)) :
    Cal P w K mg base ca "need_value" ph_need_value 1 :=
  fn_data (T := ⟨[], ca, xsL, none⟩) (g := g_need_value) F gm bd sc_need_value ar (fun cdv A outer s H E hr => by
    have hu := hr.units
    exact psx_cons (psx_if (PW.pt (pw_o (pt_lt (px_var 0) (px_int)) (pw_o1 (pt_gt (px_var 0) (px_glob (by rfl) k_GREATEST.choose_spec))))) (psx_cons (psx_rais (x := 2) cl rfl (takes_of rfl rfl rfl rfl)) (psx_nil)) (psx_nil)) (psx_nil)) wp

/-! ### need_count -/
abbrev s_need_count : Stmt := topS 17
theorem sc_need_count : FnScope ["count"] ["count"] (defScope s_need_count) := ⟨rfl, rfl, rfl, by decide +kernel, rfl, by decide +kernel, by decide +kernel⟩
def g_need_count : GSs := .cons (.ifs (.or (.cmp .lt (.var 0) (.cst (.int 0))) (.cmp .gt (.var 0) (.cst (.int 1000000000)))) (.cons (.raise_ 4) (.nil)) (.nil)) (.nil)
abbrev n_need_count : List Str := ["count"]
theorem dv_need_count {ph_need_count : List D → Option Out} {f : Addr} {fd : FuncData} (F : Fun K "need_count" "need_count" s_need_count f fd) (gm : mg "need_count" = some (.ref f)) (bd : Binds K fd ["count"] []) (bi : Bi mg) (cl : Cls' K mg ca xsL ysL) (k_MOST_PIECES : ∃ t, mg "MOST_PIECES" = some (.int 1000000000 t))
    (ar : ∀ ds o, ph_need_count ds = some o → ds.length = 1) (wp : ∀ ds o, ph_need_count ds = some o → wpSs ⟨[], ca, xsL, none⟩ g_need_count (gdOf o) (startE n_need_count ds)) :
    Cal P w K mg base ca "need_count" ph_need_count 1 :=
  fn_data (T := ⟨[], ca, xsL, none⟩) (g := g_need_count) F gm bd sc_need_count ar (fun cdv A outer s H E hr => by
    have hu := hr.units
    exact psx_cons (psx_if (PW.pt (pw_o (pt_lt (px_var 0) (px_int)) (pw_o1 (pt_gt (px_var 0) (px_glob (by rfl) k_MOST_PIECES.choose_spec))))) (psx_cons (psx_rais (x := 4) cl rfl (takes_of rfl rfl rfl rfl)) (psx_nil)) (psx_nil)) (psx_nil)) wp

/-! ### count_of -/
abbrev s_count_of : Stmt := topS 18
theorem sc_count_of : FnScope ["till", "value", "pair"] ["till", "value"] (defScope s_count_of) := ⟨rfl, rfl, rfl, by decide +kernel, rfl, by decide +kernel, by decide +kernel⟩
def g_count_of : GSs := .cons (.for_ [2] [2] (.il (.var 0)) (.cons (.ifs (.eq false (.ix (.var 2) (.cst (.int 0))) (.var 1)) (.cons (.ret (.im (.ix (.var 2) (.cst (.int 1))))) (.nil)) (.nil)) (.nil))) (.cons (.raise_ 2) (.nil))
abbrev n_count_of : List Str := ["till", "value", "pair"]
theorem dv_count_of {ph_count_of : List D → Option Out} {f : Addr} {fd : FuncData} (F : Fun K "count_of" "count_of" s_count_of f fd) (gm : mg "count_of" = some (.ref f)) (bd : Binds K fd ["till", "value"] []) (bi : Bi mg) (cl : Cls' K mg ca xsL ysL)
    (ar : ∀ ds o, ph_count_of ds = some o → ds.length = 2) (wp : ∀ ds o, ph_count_of ds = some o → wpSs ⟨[], ca, xsL, none⟩ g_count_of (gdOf o) (startE n_count_of ds)) :
    Cal P w K mg base ca "count_of" ph_count_of 1 :=
  fn_data (T := ⟨[], ca, xsL, none⟩) (g := g_count_of) F gm bd sc_count_of ar (fun cdv A outer s H E hr => by
    have hu := hr.units
    exact psx_cons (psx_for (ws := [2]) (ts := [2]) (gx := (gName 2)) (passes_of rfl) rfl (pix_list (px_var 0)) (pg_name (i := 2) sc_count_of.nd rfl (by first | exact Or.inl rfl | exact Or.inr rfl)) (psx_cons (psx_if (pt_eq hu (px_ix (px_var 2) (px_int)) (px_var 1)) (psx_cons (psx_ret (px_r (px_ix (px_var 2) (px_int)))) (psx_nil)) (psx_nil)) (psx_nil))) (psx_cons (psx_rais (x := 2) cl rfl (takes_of rfl rfl rfl rfl)) (psx_nil))) wp

/-! ### with_count -/
abbrev s_with_count : Stmt := topS 19
theorem sc_with_count : FnScope ["till", "value", "count", "pair"] ["till", "value", "count"] (defScope s_with_count) := ⟨rfl, rfl, rfl, by decide +kernel, rfl, by decide +kernel, by decide +kernel⟩
def g_with_count : GSs := .cons (.ret (.f (.lc [3] (.il (.var 0)) (.ite (.eq false (.ix (.var 3) (.cst (.int 0))) (.var 1)) (.tup (.cons (.ix (.var 3) (.cst (.int 0))) (.cons (.var 2) (.nil)))) (.var 3))))) (.nil)
abbrev n_with_count : List Str := ["till", "value", "count", "pair"]
theorem dv_with_count {ph_with_count : List D → Option Out} {f : Addr} {fd : FuncData} (F : Fun K "with_count" "with_count" s_with_count f fd) (gm : mg "with_count" = some (.ref f)) (bd : Binds K fd ["till", "value", "count"] []) (bi : Bi mg) (cl : Cls' K mg ca xsL ysL)
    (ar : ∀ ds o, ph_with_count ds = some o → ds.length = 3) (wp : ∀ ds o, ph_with_count ds = some o → wpSs ⟨[], ca, xsL, none⟩ g_with_count (gdOf o) (startE n_with_count ds)) :
    Cal P w K mg base ca "with_count" ph_with_count 1 :=
  fn_data (T := ⟨[], ca, xsL, none⟩) (g := g_with_count) F gm bd sc_with_count ar (fun cdv A outer s H E hr => by
    have hu := hr.units
    exact psx_cons (psx_ret (px_rf (pf_lc (own := [("pair", 3)]) (g := (gName 3)) (ts := [3]) rfl sc_with_count.nd (pix_list (px_var 0)) (blkOk_by (own := [("pair", 3)]) (N := ["till", "value", "count", "pair"]) (sc := defScope s_with_count) (by decide +kernel)) rfl (fun _ _ _ _ _ => pg_name (i := 3) sc_with_count.nd rfl (by first | exact Or.inl rfl | exact Or.inr rfl)) (fun _ _ _ _ _ => px_ite (pt_eq hu (px_ix (px_var 3) (px_int)) (px_var 1)) (px_tup (pax_cons (px_ix (px_var 3) (px_int)) (pax_cons (px_var 2) (pax_nil)))) (px_var 3))))) (psx_nil)) wp

/-! ### need_sum -/
abbrev s_need_sum : Stmt := topS 22
theorem sc_need_sum : FnScope ["due"] ["due"] (defScope s_need_sum) := ⟨rfl, rfl, rfl, by decide +kernel, rfl, by decide +kernel, by decide +kernel⟩
def g_need_sum : GSs := .cons (.ifs (.or (.cmp .lt (.var 0) (.cst (.int 0))) (.cmp .gt (.var 0) (.cst (.int 1000)))) (.cons (.raise_ 5) (.nil)) (.nil)) (.nil)
abbrev n_need_sum : List Str := ["due"]
theorem dv_need_sum {ph_need_sum : List D → Option Out} {f : Addr} {fd : FuncData} (F : Fun K "need_sum" "need_sum" s_need_sum f fd) (gm : mg "need_sum" = some (.ref f)) (bd : Binds K fd ["due"] []) (bi : Bi mg) (cl : Cls' K mg ca xsL ysL) (k_GREATEST_SUM : ∃ t, mg "GREATEST_SUM" = some (.int 1000 t))
    (ar : ∀ ds o, ph_need_sum ds = some o → ds.length = 1) (wp : ∀ ds o, ph_need_sum ds = some o → wpSs ⟨[], ca, xsL, none⟩ g_need_sum (gdOf o) (startE n_need_sum ds)) :
    Cal P w K mg base ca "need_sum" ph_need_sum 1 :=
  fn_data (T := ⟨[], ca, xsL, none⟩) (g := g_need_sum) F gm bd sc_need_sum ar (fun cdv A outer s H E hr => by
    have hu := hr.units
    exact psx_cons (psx_if (PW.pt (pw_o (pt_lt (px_var 0) (px_int)) (pw_o1 (pt_gt (px_var 0) (px_glob (by rfl) k_GREATEST_SUM.choose_spec))))) (psx_cons (psx_rais (x := 5) cl rfl (takes_of rfl rfl rfl rfl)) (psx_nil)) (psx_nil)) (psx_nil)) wp

/-! ### least -/
abbrev s_least : Stmt := topS 23
theorem sc_least : FnScope ["ahead", "at", "pair", "found", "many", "few"] ["ahead", "at", "pair"] (defScope s_least) := ⟨rfl, rfl, rfl, by decide +kernel, rfl, by decide +kernel, by decide +kernel⟩
def g_least : GSs := .cons (.asgV 3 (.cst .none)) (.cons (.for_ [4, 5] [4] (.i1 (.bin .add (.mn (.ix (.var 2) (.cst (.int 1))) (.bin .div (.var 1) (.ix (.var 2) (.cst (.int 0))))) (.cst (.int 1)))) (.cons (.asgV 5 (.ix (.var 0) (.bin .sub (.var 1) (.bin .mul (.var 4) (.ix (.var 2) (.cst (.int 0))))))) (.cons (.ifs (.and (.isn true (.var 5)) (.or (.isn false (.var 3)) (.cmp .lt (.bin .add (.var 5) (.var 4)) (.var 3)))) (.cons (.asgV 3 (.bin .add (.var 5) (.var 4))) (.nil)) (.nil)) (.nil)))) (.cons (.ret (.im (.var 3))) (.nil)))
abbrev n_least : List Str := ["ahead", "at", "pair", "found", "many", "few"]
theorem dv_least {ph_least : List D → Option Out} {f : Addr} {fd : FuncData} (F : Fun K "least" "least" s_least f fd) (gm : mg "least" = some (.ref f)) (bd : Binds K fd ["ahead", "at", "pair"] []) (bi : Bi mg) (cl : Cls' K mg ca xsL ysL)
    (ar : ∀ ds o, ph_least ds = some o → ds.length = 3) (wp : ∀ ds o, ph_least ds = some o → wpSs ⟨[], ca, xsL, none⟩ g_least (gdOf o) (startE n_least ds)) :
    Cal P w K mg base ca "least" ph_least 1 :=
  fn_data (T := ⟨[], ca, xsL, none⟩) (g := g_least) F gm bd sc_least ar (fun cdv A outer s H E hr => by
    have hu := hr.units
    exact psx_cons (psx_asgV (ps_set (i := 3) sc_least.nd rfl (by first | exact Or.inl rfl | exact Or.inr rfl) (px_non))) (psx_cons (psx_for (ws := [4, 5]) (ts := [4]) (gx := (gName 4)) (passes_of rfl) rfl (pix_range1 bi (px_add (px_mn bi rfl (px_ix (px_var 2) (px_int)) (px_div (px_var 1) (px_ix (px_var 2) (px_int)))) (px_int))) (pg_name (i := 4) sc_least.nd rfl (by first | exact Or.inl rfl | exact Or.inr rfl)) (psx_cons (psx_asgV (ps_set (i := 5) sc_least.nd rfl (by first | exact Or.inl rfl | exact Or.inr rfl) (px_ix (px_var 0) (px_sub (px_var 1) (px_mul (px_var 4) (px_ix (px_var 2) (px_int))))))) (psx_cons (psx_if (PW.pt (pw_a (pt_notN (px_var 5)) (pw_a1 (PW.pt (pw_o (pt_isN (px_var 3)) (pw_o1 (pt_lt (px_add (px_var 5) (px_var 4)) (px_var 3)))))))) (psx_cons (psx_asgV (ps_set (i := 3) sc_least.nd rfl (by first | exact Or.inl rfl | exact Or.inr rfl) (px_add (px_var 5) (px_var 4)))) (psx_nil)) (psx_nil)) (psx_nil)))) (psx_cons (psx_ret (px_r (px_var 3))) (psx_nil)))) wp

/-! ### table -/
abbrev s_table : Stmt := topS 24
theorem sc_table : FnScope ["till", "most", "rows", "pair", "ahead", "at"] ["till", "most"] (defScope s_table) := ⟨rfl, rfl, rfl, by decide +kernel, rfl, by decide +kernel, by decide +kernel⟩
def g_table : GSs := .cons (.expr (.call 0 (.cons (.var 1) (.nil)))) (.cons (.asgR 2 (.lst (.cons (.f (.cat (.f (.lst (.cons (.cst (.int 0)) (.nil)))) (.f (.rep (.cst .none) (.var 1))))) (.nil)))) (.cons (.for_ [3, 4] [3] (.il (.var 0)) (.brw 4 2 (.bin .sub (.len (.var 2)) (.cst (.int 1))) (.lc [5] (.i1 (.bin .add (.var 1) (.cst (.int 1)))) (.call 1 (.cons (.var 4) (.cons (.var 5) (.cons (.var 3) (.nil)))))) (.nil))) (.cons (.retMv 2) (.nil))))
abbrev n_table : List Str := ["till", "most", "rows", "pair", "ahead", "at"]
theorem dv_table {ph_need_sum : List D → Option Out} {ph_least : List D → Option Out} {ph_table : List D → Option Out} {f : Addr} {fd : FuncData} (F : Fun K "table" "table" s_table f fd) (gm : mg "table" = some (.ref f)) (bd : Binds K fd ["till", "most"] []) (bi : Bi mg) (cl : Cls' K mg ca xsL ysL) (c_need_sum : Cal P w K mg base ca "need_sum" ph_need_sum 1) (c_least : Cal P w K mg base ca "least" ph_least 1)
    (ar : ∀ ds o, ph_table ds = some o → ds.length = 2) (wp : ∀ ds o, ph_table ds = some o → wpSs ⟨[ph_need_sum, ph_least], ca, xsL, none⟩ g_table (gdOf o) (startE n_table ds)) :
    Cal P w K mg base ca "table" ph_table 2 :=
  fn_data (T := ⟨[ph_need_sum, ph_least], ca, xsL, none⟩) (g := g_table) F gm bd sc_table ar (fun cdv A outer s H E hr => by
    have hu := hr.units
    exact psx_cons (psx_expr (px_call (c_need_sum.at hr) (takes_of rfl rfl rfl rfl) (pax_cons (px_var 1) (pax_nil)))) (psx_cons (psx_asgR (ps_set (i := 2) sc_table.nd rfl (by first | exact Or.inl rfl | exact Or.inr rfl) (px_rlst (prs_cons (px_rf (pf_cat (px_f (pf_lst (pax_cons (px_int) (pax_nil)))) (px_f (pf_rep (px_non) (px_var 1))))) (prs_nil))))) (psx_cons (psx_for (ws := [3, 4]) (ts := [3]) (gx := (gName 3)) (passes_of rfl) rfl (pix_list (px_var 0)) (pg_name (i := 3) sc_table.nd rfl (by first | exact Or.inl rfl | exact Or.inr rfl)) (pss_brw (ps_set (i := 4) sc_table.nd rfl (by first | exact Or.inl rfl | exact Or.inr rfl) (pp_sub (pp_var (pv 2)) (px_sub (px_len bi (px_var 2)) (px_int)))) (ps_expr (pe_bm PySem.F.plainAttrs_list PySem.F.slot_list_append PySem.F.type_list_append mt_append (pv 2) (pa_cons (pf_lc (own := [("at", 5)]) (g := (gName 5)) (ts := [5]) rfl sc_table.nd (pix_range1 bi (px_add (px_var 1) (px_int))) (blkOk_by (own := [("at", 5)]) (N := ["till", "most", "rows", "pair", "ahead", "at"]) (sc := defScope s_table) (by decide +kernel)) rfl (fun _ _ _ _ _ => pg_name (i := 5) sc_table.nd rfl (by first | exact Or.inl rfl | exact Or.inr rfl)) (fun _ _ _ _ _ => px_call (c_least.at hr) takes0 (pax_cons (px_var 4) (pax_cons (px_var 5) (pax_cons (px_var 3) (pax_nil)))))) pa_nil))) (psx_nil))) (psx_cons (psx_retMv (pv 2)) (psx_nil))))) wp

/-! ### as_many -/
abbrev s_as_many : Stmt := topS 25
theorem sc_as_many : FnScope ["ahead", "at", "pair", "few", "many"] ["ahead", "at", "pair", "few"] (defScope s_as_many) := ⟨rfl, rfl, rfl, by decide +kernel, rfl, by decide +kernel, by decide +kernel⟩
def g_as_many : GSs := .cons (.asgV 4 (.mn (.ix (.var 2) (.cst (.int 1))) (.bin .div (.var 1) (.ix (.var 2) (.cst (.int 0)))))) (.cons (.whl [] (.or (.isn false (.ix (.var 0) (.bin .sub (.var 1) (.bin .mul (.var 4) (.ix (.var 2) (.cst (.int 0))))))) (.eq true (.bin .add (.ix (.var 0) (.bin .sub (.var 1) (.bin .mul (.var 4) (.ix (.var 2) (.cst (.int 0)))))) (.var 4)) (.var 3))) (.cons (.asgV 4 (.bin .sub (.var 4) (.cst (.int 1)))) (.nil))) (.cons (.ret (.im (.var 4))) (.nil)))
abbrev n_as_many : List Str := ["ahead", "at", "pair", "few", "many"]
theorem dv_as_many {ph_as_many : List D → Option Out} {f : Addr} {fd : FuncData} (F : Fun K "as_many" "as_many" s_as_many f fd) (gm : mg "as_many" = some (.ref f)) (bd : Binds K fd ["ahead", "at", "pair", "few"] []) (bi : Bi mg) (cl : Cls' K mg ca xsL ysL)
    (ar : ∀ ds o, ph_as_many ds = some o → ds.length = 4) (wp : ∀ ds o, ph_as_many ds = some o → wpSs ⟨[], ca, xsL, none⟩ g_as_many (gdOf o) (startE n_as_many ds)) :
    Cal P w K mg base ca "as_many" ph_as_many 1 :=
  fn_data (T := ⟨[], ca, xsL, none⟩) (g := g_as_many) F gm bd sc_as_many ar (fun cdv A outer s H E hr => by
    have hu := hr.units
    exact psx_cons (psx_asgV (ps_set (i := 4) sc_as_many.nd rfl (by first | exact Or.inl rfl | exact Or.inr rfl) (px_mn bi rfl (px_ix (px_var 2) (px_int)) (px_div (px_var 1) (px_ix (px_var 2) (px_int)))))) (psx_cons (psx_while (ws := []) (passes_of rfl) (PW.pt (pw_o (pt_isN (px_ix (px_var 0) (px_sub (px_var 1) (px_mul (px_var 4) (px_ix (px_var 2) (px_int)))))) (pw_o1 (pt_ne hu (px_add (px_ix (px_var 0) (px_sub (px_var 1) (px_mul (px_var 4) (px_ix (px_var 2) (px_int))))) (px_var 4)) (px_var 3))))) (psx_cons (psx_asgV (ps_set (i := 4) sc_as_many.nd rfl (by first | exact Or.inl rfl | exact Or.inr rfl) (px_sub (px_var 4) (px_int)))) (psx_nil))) (psx_cons (psx_ret (px_r (px_var 4))) (psx_nil)))) wp

/-! ### fewest -/
abbrev s_fewest : Stmt := topS 26
theorem sc_fewest : FnScope ["till", "due", "rows", "found", "at", "k", "many"] ["till", "due"] (defScope s_fewest) := ⟨rfl, rfl, rfl, by decide +kernel, rfl, by decide +kernel, by decide +kernel⟩
def g_fewest : GSs := .cons (.asgS 2 (.call 0 (.cons (.var 0) (.cons (.var 1) (.nil))))) (.cons (.ifs (.isn false (.ix (.ix (.var 2) (.len (.var 0))) (.var 1))) (.cons (.raise_ 7) (.nil)) (.nil)) (.cons (.asgF 3 (.lst (.nil))) (.cons (.asgV 4 (.var 1)) (.cons (.for_ [5, 6] [5] (.idn (.len (.var 0))) (.cons (.asgV 6 (.call 1 (.cons (.ix (.var 2) (.bin .sub (.var 5) (.cst (.int 1)))) (.cons (.var 4) (.cons (.ix (.var 0) (.bin .sub (.var 5) (.cst (.int 1)))) (.cons (.ix (.ix (.var 2) (.var 5)) (.var 4)) (.nil))))))) (.cons (.ifs (.cmp .gt (.var 6) (.cst (.int 0))) (.cons (.appV 3 (.tup (.cons (.ix (.ix (.var 0) (.bin .sub (.var 5) (.cst (.int 1)))) (.cst (.int 0))) (.cons (.var 6) (.nil))))) (.nil)) (.nil)) (.cons (.asgV 4 (.bin .sub (.var 4) (.bin .mul (.var 6) (.ix (.ix (.var 0) (.bin .sub (.var 5) (.cst (.int 1)))) (.cst (.int 0)))))) (.nil))))) (.cons (.rev 3) (.cons (.retMv 3) (.nil)))))))
abbrev n_fewest : List Str := ["till", "due", "rows", "found", "at", "k", "many"]
theorem dv_fewest {ph_table : List D → Option Out} {ph_as_many : List D → Option Out} {ph_fewest : List D → Option Out} {f : Addr} {fd : FuncData} (F : Fun K "fewest" "fewest" s_fewest f fd) (gm : mg "fewest" = some (.ref f)) (bd : Binds K fd ["till", "due"] []) (bi : Bi mg) (cl : Cls' K mg ca xsL ysL) (c_table : Cal P w K mg base ca "table" ph_table 2) (c_as_many : Cal P w K mg base ca "as_many" ph_as_many 1)
    (ar : ∀ ds o, ph_fewest ds = some o → ds.length = 2) (wp : ∀ ds o, ph_fewest ds = some o → wpSs ⟨[ph_table, ph_as_many], ca, xsL, none⟩ g_fewest (gdOf o) (startE n_fewest ds)) :
    Cal P w K mg base ca "fewest" ph_fewest 3 :=
  fn_data (T := ⟨[ph_table, ph_as_many], ca, xsL, none⟩) (g := g_fewest) F gm bd sc_fewest ar (fun cdv A outer s H E hr => by
    have hu := hr.units
    exact psx_cons (psx_asgS (ps_set (i := 2) sc_fewest.nd rfl (by first | exact Or.inl rfl | exact Or.inr rfl) (px_call (c_table.at hr) (takes_of rfl rfl rfl rfl) (pax_cons (px_var 0) (pax_cons (px_var 1) (pax_nil)))))) (psx_cons (psx_if (pt_isN (px_ix (px_ix (px_var 2) (px_len bi (px_var 0))) (px_var 1))) (psx_cons (psx_rais (x := 7) cl rfl (takes_of rfl rfl rfl rfl)) (psx_nil)) (psx_nil)) (psx_cons (psx_asgF (ps_set (i := 3) sc_fewest.nd rfl (by first | exact Or.inl rfl | exact Or.inr rfl) (pf_lst (pax_nil)))) (psx_cons (psx_asgV (ps_set (i := 4) sc_fewest.nd rfl (by first | exact Or.inl rfl | exact Or.inr rfl) (px_var 1))) (psx_cons (psx_for (ws := [5, 6]) (ts := [5]) (gx := (gName 5)) (passes_of rfl) rfl (pix_down bi (px_len bi (px_var 0))) (pg_name (i := 5) sc_fewest.nd rfl (by first | exact Or.inl rfl | exact Or.inr rfl)) (psx_cons (psx_asgV (ps_set (i := 6) sc_fewest.nd rfl (by first | exact Or.inl rfl | exact Or.inr rfl) (px_call (c_as_many.at hr) (takes_of rfl rfl rfl rfl) (pax_cons (px_ix (px_var 2) (px_sub (px_var 5) (px_int))) (pax_cons (px_var 4) (pax_cons (px_ix (px_var 0) (px_sub (px_var 5) (px_int))) (pax_cons (px_ix (px_ix (px_var 2) (px_var 5)) (px_var 4)) (pax_nil)))))))) (psx_cons (psx_if (pt_gt (px_var 6) (px_int)) (psx_cons (psx_appV (ps_expr (pe_bm PySem.F.plainAttrs_list PySem.F.slot_list_append PySem.F.type_list_append mt_append (pv 3) (pa_cons (px_tup (pax_cons (px_ix (px_ix (px_var 0) (px_sub (px_var 5) (px_int))) (px_int)) (pax_cons (px_var 6) (pax_nil)))) pa_nil)))) (psx_nil)) (psx_nil)) (psx_cons (psx_asgV (ps_set (i := 4) sc_fewest.nd rfl (by first | exact Or.inl rfl | exact Or.inr rfl) (px_sub (px_var 4) (px_mul (px_var 6) (px_ix (px_ix (px_var 0) (px_sub (px_var 5) (px_int))) (px_int)))))) (psx_nil))))) (psx_cons (psx_rev (ps_expr (pe_bm0 PySem.F.plainAttrs_list PySem.F.slot_list_reverse PySem.F.type_list_reverse mt_reverse (pv 3)))) (psx_cons (psx_retMv (pv 3)) (psx_nil)))))))) wp

/-! ### with_all -/
abbrev s_with_all : Stmt := topS 29
theorem sc_with_all : FnScope ["till", "values", "value", "count"] ["till", "values"] (defScope s_with_all) := ⟨rfl, rfl, rfl, by decide +kernel, rfl, by decide +kernel, by decide +kernel⟩
def g_with_all : GSs := .cons (.ifs (.cmp .gt (.len (.var 1)) (.cst (.int 60))) (.cons (.raise_ 4) (.nil)) (.nil)) (.cons (.asgF 0 (.lof (.var 0))) (.cons (.for_ [2, 3] [2] (.il (.var 1)) (.cons (.asgV 3 (.call 0 (.cons (.var 0) (.cons (.var 2) (.nil))))) (.cons (.expr (.call 1 (.cons (.bin .add (.var 3) (.cst (.int 1))) (.nil)))) (.cons (.asgR 0 (.call 2 (.cons (.var 0) (.cons (.var 2) (.cons (.bin .add (.var 3) (.cst (.int 1))) (.nil)))))) (.nil))))) (.cons (.retMv 0) (.nil))))
abbrev n_with_all : List Str := ["till", "values", "value", "count"]
theorem dv_with_all {ph_count_of : List D → Option Out} {ph_need_count : List D → Option Out} {ph_with_count : List D → Option Out} {ph_with_all : List D → Option Out} {f : Addr} {fd : FuncData} (F : Fun K "with_all" "with_all" s_with_all f fd) (gm : mg "with_all" = some (.ref f)) (bd : Binds K fd ["till", "values"] []) (bi : Bi mg) (cl : Cls' K mg ca xsL ysL) (k_MOST_PAID : ∃ t, mg "MOST_PAID" = some (.int 60 t)) (c_count_of : Cal P w K mg base ca "count_of" ph_count_of 1) (c_need_count : Cal P w K mg base ca "need_count" ph_need_count 1) (c_with_count : Cal P w K mg base ca "with_count" ph_with_count 1)
    (ar : ∀ ds o, ph_with_all ds = some o → ds.length = 2) (wp : ∀ ds o, ph_with_all ds = some o → wpSs ⟨[ph_count_of, ph_need_count, ph_with_count], ca, xsL, none⟩ g_with_all (gdOf o) (startE n_with_all ds)) :
    Cal P w K mg base ca "with_all" ph_with_all 2 :=
  fn_data (T := ⟨[ph_count_of, ph_need_count, ph_with_count], ca, xsL, none⟩) (g := g_with_all) F gm bd sc_with_all ar (fun cdv A outer s H E hr => by
    have hu := hr.units
    exact psx_cons (psx_if (pt_gt (px_len bi (px_var 1)) (px_glob (by rfl) k_MOST_PAID.choose_spec)) (psx_cons (psx_rais (x := 4) cl rfl (takes_of rfl rfl rfl rfl)) (psx_nil)) (psx_nil)) (psx_cons (psx_asgF (ps_set (i := 0) sc_with_all.nd rfl (by first | exact Or.inl rfl | exact Or.inr rfl) (pf_lof bi (px_var 0)))) (psx_cons (psx_for (ws := [2, 3]) (ts := [2]) (gx := (gName 2)) (passes_of rfl) rfl (pix_list (px_var 1)) (pg_name (i := 2) sc_with_all.nd rfl (by first | exact Or.inl rfl | exact Or.inr rfl)) (psx_cons (psx_asgV (ps_set (i := 3) sc_with_all.nd rfl (by first | exact Or.inl rfl | exact Or.inr rfl) (px_call (c_count_of.at hr) (takes_of rfl rfl rfl rfl) (pax_cons (px_var 0) (pax_cons (px_var 2) (pax_nil)))))) (psx_cons (psx_expr (px_call (c_need_count.at hr) (takes_of rfl rfl rfl rfl) (pax_cons (px_add (px_var 3) (px_int)) (pax_nil)))) (psx_cons (psx_asgR (ps_set (i := 0) sc_with_all.nd rfl (by first | exact Or.inl rfl | exact Or.inr rfl) (px_rcall (c_with_count.at hr) (takes_of rfl rfl rfl rfl) (pax_cons (px_var 0) (pax_cons (px_var 2) (pax_cons (px_add (px_var 3) (px_int)) (pax_nil))))))) (psx_nil))))) (psx_cons (psx_retMv (pv 0)) (psx_nil))))) wp

/-! ### paid -/
abbrev s_paid : Stmt := topS 30
theorem sc_paid : FnScope ["till", "price", "values", "full", "due", "change", "pair"] ["till", "price", "values"] (defScope s_paid) := ⟨rfl, rfl, rfl, by decide +kernel, rfl, by decide +kernel, by decide +kernel⟩
def g_paid : GSs := .cons (.expr (.call 0 (.cons (.var 1) (.nil)))) (.cons (.asgR 3 (.call 1 (.cons (.var 0) (.cons (.var 2) (.nil))))) (.cons (.asgV 4 (.bin .sub (.sum (.var 2)) (.var 1))) (.cons (.ifs (.cmp .lt (.var 4) (.cst (.int 0))) (.cons (.raise_ 6) (.nil)) (.nil)) (.cons (.asgR 5 (.call 2 (.cons (.var 3) (.cons (.var 4) (.nil))))) (.cons (.forO [6] 6 5 (.cons (.asgR 3 (.call 3 (.cons (.var 3) (.cons (.ix (.var 6) (.cst (.int 0))) (.cons (.bin .sub (.call 4 (.cons (.var 3) (.cons (.ix (.var 6) (.cst (.int 0))) (.nil)))) (.ix (.var 6) (.cst (.int 1)))) (.nil)))))) (.nil))) (.cons (.retTwo true 3 5) (.nil)))))))
abbrev n_paid : List Str := ["till", "price", "values", "full", "due", "change", "pair"]
theorem dv_paid {ph_need_sum : List D → Option Out} {ph_with_all : List D → Option Out} {ph_fewest : List D → Option Out} {ph_with_count : List D → Option Out} {ph_count_of : List D → Option Out} {ph_paid : List D → Option Out} {f : Addr} {fd : FuncData} (F : Fun K "paid" "paid" s_paid f fd) (gm : mg "paid" = some (.ref f)) (bd : Binds K fd ["till", "price", "values"] []) (bi : Bi mg) (cl : Cls' K mg ca xsL ysL) (c_need_sum : Cal P w K mg base ca "need_sum" ph_need_sum 1) (c_with_all : Cal P w K mg base ca "with_all" ph_with_all 2) (c_fewest : Cal P w K mg base ca "fewest" ph_fewest 3) (c_with_count : Cal P w K mg base ca "with_count" ph_with_count 1) (c_count_of : Cal P w K mg base ca "count_of" ph_count_of 1)
    (ar : ∀ ds o, ph_paid ds = some o → ds.length = 3) (wp : ∀ ds o, ph_paid ds = some o → wpSs ⟨[ph_need_sum, ph_with_all, ph_fewest, ph_with_count, ph_count_of], ca, xsL, none⟩ g_paid (gdOf o) (startE n_paid ds)) :
    Cal P w K mg base ca "paid" ph_paid 4 :=
  fn_data (T := ⟨[ph_need_sum, ph_with_all, ph_fewest, ph_with_count, ph_count_of], ca, xsL, none⟩) (g := g_paid) F gm bd sc_paid ar (fun cdv A outer s H E hr => by
    have hu := hr.units
    exact psx_cons (psx_expr (px_call (c_need_sum.at hr) (takes_of rfl rfl rfl rfl) (pax_cons (px_var 1) (pax_nil)))) (psx_cons (psx_asgR (ps_set (i := 3) sc_paid.nd rfl (by first | exact Or.inl rfl | exact Or.inr rfl) (px_rcall (c_with_all.at hr) (takes_of rfl rfl rfl rfl) (pax_cons (px_var 0) (pax_cons (px_var 2) (pax_nil)))))) (psx_cons (psx_asgV (ps_set (i := 4) sc_paid.nd rfl (by first | exact Or.inl rfl | exact Or.inr rfl) (px_sub (px_sum bi rfl (px_var 2)) (px_var 1)))) (psx_cons (psx_if (pt_lt (px_var 4) (px_int)) (psx_cons (psx_rais (x := 6) cl rfl (takes_of rfl rfl rfl rfl)) (psx_nil)) (psx_nil)) (psx_cons (psx_asgR (ps_set (i := 5) sc_paid.nd rfl (by first | exact Or.inl rfl | exact Or.inr rfl) (px_rcall (c_fewest.at hr) (takes_of rfl rfl rfl rfl) (pax_cons (px_var 3) (pax_cons (px_var 4) (pax_nil)))))) (psx_cons (psx_forO (ws := [6]) (t := 6) (i := 5) (passes_of rfl) rfl (pi_list (pv 5)) (pg_name (i := 6) sc_paid.nd rfl (by first | exact Or.inl rfl | exact Or.inr rfl)) (psx_cons (psx_asgR (ps_set (i := 3) sc_paid.nd rfl (by first | exact Or.inl rfl | exact Or.inr rfl) (px_rcall (c_with_count.at hr) (takes_of rfl rfl rfl rfl) (pax_cons (px_var 3) (pax_cons (px_ix (px_var 6) (px_int)) (pax_cons (px_sub (px_call (c_count_of.at hr) (takes_of rfl rfl rfl rfl) (pax_cons (px_var 3) (pax_cons (px_ix (px_var 6) (px_int)) (pax_nil)))) (px_ix (px_var 6) (px_int))) (pax_nil))))))) (psx_nil))) (psx_cons (psx_retTup (pa_cons (pv 3) (pa_cons (pv 5) pa_nil))) (psx_nil)))))))) wp

/-! ### brought -/
abbrev s_brought : Stmt := topS 31
theorem sc_brought : FnScope ["till", "value", "count", "there"] ["till", "value", "count"] (defScope s_brought) := ⟨rfl, rfl, rfl, by decide +kernel, rfl, by decide +kernel, by decide +kernel⟩
def g_brought : GSs := .cons (.asgV 3 (.call 0 (.cons (.var 0) (.cons (.var 1) (.nil))))) (.cons (.expr (.call 1 (.cons (.var 2) (.nil)))) (.cons (.expr (.call 1 (.cons (.bin .add (.var 3) (.var 2)) (.nil)))) (.cons (.ret (.call 2 (.cons (.var 0) (.cons (.var 1) (.cons (.bin .add (.var 3) (.var 2)) (.nil)))))) (.nil))))
abbrev n_brought : List Str := ["till", "value", "count", "there"]
theorem dv_brought {ph_count_of : List D → Option Out} {ph_need_count : List D → Option Out} {ph_with_count : List D → Option Out} {ph_brought : List D → Option Out} {f : Addr} {fd : FuncData} (F : Fun K "brought" "brought" s_brought f fd) (gm : mg "brought" = some (.ref f)) (bd : Binds K fd ["till", "value", "count"] []) (bi : Bi mg) (cl : Cls' K mg ca xsL ysL) (c_count_of : Cal P w K mg base ca "count_of" ph_count_of 1) (c_need_count : Cal P w K mg base ca "need_count" ph_need_count 1) (c_with_count : Cal P w K mg base ca "with_count" ph_with_count 1)
    (ar : ∀ ds o, ph_brought ds = some o → ds.length = 3) (wp : ∀ ds o, ph_brought ds = some o → wpSs ⟨[ph_count_of, ph_need_count, ph_with_count], ca, xsL, none⟩ g_brought (gdOf o) (startE n_brought ds)) :
    Cal P w K mg base ca "brought" ph_brought 2 :=
  fn_data (T := ⟨[ph_count_of, ph_need_count, ph_with_count], ca, xsL, none⟩) (g := g_brought) F gm bd sc_brought ar (fun cdv A outer s H E hr => by
    have hu := hr.units
    exact psx_cons (psx_asgV (ps_set (i := 3) sc_brought.nd rfl (by first | exact Or.inl rfl | exact Or.inr rfl) (px_call (c_count_of.at hr) (takes_of rfl rfl rfl rfl) (pax_cons (px_var 0) (pax_cons (px_var 1) (pax_nil)))))) (psx_cons (psx_expr (px_call (c_need_count.at hr) (takes_of rfl rfl rfl rfl) (pax_cons (px_var 2) (pax_nil)))) (psx_cons (psx_expr (px_call (c_need_count.at hr) (takes_of rfl rfl rfl rfl) (pax_cons (px_add (px_var 3) (px_var 2)) (pax_nil)))) (psx_cons (psx_ret (px_rcall (c_with_count.at hr) (takes_of rfl rfl rfl rfl) (pax_cons (px_var 0) (pax_cons (px_var 1) (pax_cons (px_add (px_var 3) (px_var 2)) (pax_nil)))))) (psx_nil))))) wp

/-! ### fetched -/
abbrev s_fetched : Stmt := topS 32
theorem sc_fetched : FnScope ["till", "value", "count", "there"] ["till", "value", "count"] (defScope s_fetched) := ⟨rfl, rfl, rfl, by decide +kernel, rfl, by decide +kernel, by decide +kernel⟩
def g_fetched : GSs := .cons (.asgV 3 (.call 0 (.cons (.var 0) (.cons (.var 1) (.nil))))) (.cons (.expr (.call 1 (.cons (.var 2) (.nil)))) (.cons (.ifs (.cmp .gt (.var 2) (.var 3)) (.cons (.raise_ 8) (.nil)) (.nil)) (.cons (.ret (.call 2 (.cons (.var 0) (.cons (.var 1) (.cons (.bin .sub (.var 3) (.var 2)) (.nil)))))) (.nil))))
abbrev n_fetched : List Str := ["till", "value", "count", "there"]
theorem dv_fetched {ph_count_of : List D → Option Out} {ph_need_count : List D → Option Out} {ph_with_count : List D → Option Out} {ph_fetched : List D → Option Out} {f : Addr} {fd : FuncData} (F : Fun K "fetched" "fetched" s_fetched f fd) (gm : mg "fetched" = some (.ref f)) (bd : Binds K fd ["till", "value", "count"] []) (bi : Bi mg) (cl : Cls' K mg ca xsL ysL) (c_count_of : Cal P w K mg base ca "count_of" ph_count_of 1) (c_need_count : Cal P w K mg base ca "need_count" ph_need_count 1) (c_with_count : Cal P w K mg base ca "with_count" ph_with_count 1)
    (ar : ∀ ds o, ph_fetched ds = some o → ds.length = 3) (wp : ∀ ds o, ph_fetched ds = some o → wpSs ⟨[ph_count_of, ph_need_count, ph_with_count], ca, xsL, none⟩ g_fetched (gdOf o) (startE n_fetched ds)) :
    Cal P w K mg base ca "fetched" ph_fetched 2 :=
  fn_data (T := ⟨[ph_count_of, ph_need_count, ph_with_count], ca, xsL, none⟩) (g := g_fetched) F gm bd sc_fetched ar (fun cdv A outer s H E hr => by
    have hu := hr.units
    exact psx_cons (psx_asgV (ps_set (i := 3) sc_fetched.nd rfl (by first | exact Or.inl rfl | exact Or.inr rfl) (px_call (c_count_of.at hr) (takes_of rfl rfl rfl rfl) (pax_cons (px_var 0) (pax_cons (px_var 1) (pax_nil)))))) (psx_cons (psx_expr (px_call (c_need_count.at hr) (takes_of rfl rfl rfl rfl) (pax_cons (px_var 2) (pax_nil)))) (psx_cons (psx_if (pt_gt (px_var 2) (px_var 3)) (psx_cons (psx_rais (x := 8) cl rfl (takes_of rfl rfl rfl rfl)) (psx_nil)) (psx_nil)) (psx_cons (psx_ret (px_rcall (c_with_count.at hr) (takes_of rfl rfl rfl rfl) (pax_cons (px_var 0) (pax_cons (px_var 1) (pax_cons (px_sub (px_var 3) (px_var 2)) (pax_nil)))))) (psx_nil))))) wp

/-! ### kind_in -/
abbrev s_kind_in : Stmt := topS 33
theorem sc_kind_in : FnScope ["till", "value", "pair"] ["till", "value"] (defScope s_kind_in) := ⟨rfl, rfl, rfl, by decide +kernel, rfl, by decide +kernel, by decide +kernel⟩
def g_kind_in : GSs := .cons (.expr (.call 0 (.cons (.var 1) (.nil)))) (.cons (.ifs (.inl false (.var 1) (.f (.lc [2] (.il (.var 0)) (.ix (.var 2) (.cst (.int 0)))))) (.cons (.raise_ 3) (.nil)) (.nil)) (.cons (.ifs (.eq false (.len (.var 0)) (.cst (.int 10))) (.cons (.raise_ 1) (.nil)) (.nil)) (.cons (.ret (.f (.srt (.f (.cat (.var 0) (.f (.lst (.cons (.tup (.cons (.var 1) (.cons (.cst (.int 0)) (.nil)))) (.nil))))))))) (.nil))))
abbrev n_kind_in : List Str := ["till", "value", "pair"]
theorem dv_kind_in {ph_need_value : List D → Option Out} {ph_kind_in : List D → Option Out} {f : Addr} {fd : FuncData} (F : Fun K "kind_in" "kind_in" s_kind_in f fd) (gm : mg "kind_in" = some (.ref f)) (bd : Binds K fd ["till", "value"] []) (bi : Bi mg) (cl : Cls' K mg ca xsL ysL) (k_MOST_KINDS : ∃ t, mg "MOST_KINDS" = some (.int 10 t)) (c_need_value : Cal P w K mg base ca "need_value" ph_need_value 1)
    (ar : ∀ ds o, ph_kind_in ds = some o → ds.length = 2) (wp : ∀ ds o, ph_kind_in ds = some o → wpSs ⟨[ph_need_value], ca, xsL, none⟩ g_kind_in (gdOf o) (startE n_kind_in ds)) :
    Cal P w K mg base ca "kind_in" ph_kind_in 2 :=
  fn_data (T := ⟨[ph_need_value], ca, xsL, none⟩) (g := g_kind_in) F gm bd sc_kind_in ar (fun cdv A outer s H E hr => by
    have hu := hr.units
    exact psx_cons (psx_expr (px_call (c_need_value.at hr) (takes_of rfl rfl rfl rfl) (pax_cons (px_var 1) (pax_nil)))) (psx_cons (psx_if (pt_in (px_var 1) (px_f (pf_lc (own := [("pair", 2)]) (g := (gName 2)) (ts := [2]) rfl sc_kind_in.nd (pix_list (px_var 0)) (blkOk_by (own := [("pair", 2)]) (N := ["till", "value", "pair"]) (sc := defScope s_kind_in) (by decide +kernel)) rfl (fun _ _ _ _ _ => pg_name (i := 2) sc_kind_in.nd rfl (by first | exact Or.inl rfl | exact Or.inr rfl)) (fun _ _ _ _ _ => px_ix (px_var 2) (px_int))))) (psx_cons (psx_rais (x := 3) cl rfl (takes_of rfl rfl rfl rfl)) (psx_nil)) (psx_nil)) (psx_cons (psx_if (pt_eq hu (px_len bi (px_var 0)) (px_glob (by rfl) k_MOST_KINDS.choose_spec)) (psx_cons (psx_rais (x := 1) cl rfl (takes_of rfl rfl rfl rfl)) (psx_nil)) (psx_nil)) (psx_cons (psx_ret (px_rf (pf_srt bi (px_f (pf_cat (px_var 0) (px_f (pf_lst (pax_cons (px_tup (pax_cons (px_var 1) (pax_cons (px_int) (pax_nil)))) (pax_nil))))))))) (psx_nil))))) wp

/-! ### kind_out -/
abbrev s_kind_out : Stmt := topS 34
theorem sc_kind_out : FnScope ["till", "value", "pair"] ["till", "value"] (defScope s_kind_out) := ⟨rfl, rfl, rfl, by decide +kernel, rfl, by decide +kernel, by decide +kernel⟩
def g_kind_out : GSs := .cons (.ifs (.cmp .gt (.call 0 (.cons (.var 0) (.cons (.var 1) (.nil)))) (.cst (.int 0))) (.cons (.raise_ 9) (.nil)) (.nil)) (.cons (.ifs (.eq false (.len (.var 0)) (.cst (.int 1))) (.cons (.raise_ 1) (.nil)) (.nil)) (.cons (.ret (.f (.lcf [2] (.il (.var 0)) (.eq true (.ix (.var 2) (.cst (.int 0))) (.var 1)) (.var 2)))) (.nil)))
abbrev n_kind_out : List Str := ["till", "value", "pair"]
theorem dv_kind_out {ph_count_of : List D → Option Out} {ph_kind_out : List D → Option Out} {f : Addr} {fd : FuncData} (F : Fun K "kind_out" "kind_out" s_kind_out f fd) (gm : mg "kind_out" = some (.ref f)) (bd : Binds K fd ["till", "value"] []) (bi : Bi mg) (cl : Cls' K mg ca xsL ysL) (c_count_of : Cal P w K mg base ca "count_of" ph_count_of 1)
    (ar : ∀ ds o, ph_kind_out ds = some o → ds.length = 2) (wp : ∀ ds o, ph_kind_out ds = some o → wpSs ⟨[ph_count_of], ca, xsL, none⟩ g_kind_out (gdOf o) (startE n_kind_out ds)) :
    Cal P w K mg base ca "kind_out" ph_kind_out 2 :=
  fn_data (T := ⟨[ph_count_of], ca, xsL, none⟩) (g := g_kind_out) F gm bd sc_kind_out ar (fun cdv A outer s H E hr => by
    have hu := hr.units
    exact psx_cons (psx_if (pt_gt (px_call (c_count_of.at hr) (takes_of rfl rfl rfl rfl) (pax_cons (px_var 0) (pax_cons (px_var 1) (pax_nil)))) (px_int)) (psx_cons (psx_rais (x := 9) cl rfl (takes_of rfl rfl rfl rfl)) (psx_nil)) (psx_nil)) (psx_cons (psx_if (pt_eq hu (px_len bi (px_var 0)) (px_int)) (psx_cons (psx_rais (x := 1) cl rfl (takes_of rfl rfl rfl rfl)) (psx_nil)) (psx_nil)) (psx_cons (psx_ret (px_rf (pf_lcf (own := [("pair", 2)]) (g := (gName 2)) (ts := [2]) rfl sc_kind_out.nd (pix_list (px_var 0)) (blkOk_by (own := [("pair", 2)]) (N := ["till", "value", "pair"]) (sc := defScope s_kind_out) (by decide +kernel)) rfl (fun _ _ _ _ _ => pg_name (i := 2) sc_kind_out.nd rfl (by first | exact Or.inl rfl | exact Or.inr rfl)) (fun _ _ _ _ _ => pt_ne hu (px_ix (px_var 2) (px_int)) (px_var 1)) (fun _ _ _ _ _ => px_var 2)))) (psx_nil)))) wp

/-! ### done -/
abbrev s_done : Stmt := topS 36
theorem sc_done : FnScope ["till", "deed"] ["till", "deed"] (defScope s_done) := ⟨rfl, rfl, rfl, by decide +kernel, rfl, by decide +kernel, by decide +kernel⟩
def g_done : GSs := .cons (.ifs (.eq false (.ix (.var 1) (.cst (.int 0))) (.cst (.str "paid"))) (.cons (.ret (.call 0 (.cons (.var 0) (.cons (.ix (.var 1) (.cst (.int 1))) (.cons (.ix (.var 1) (.cst (.int 2))) (.nil)))))) (.nil)) (.nil)) (.cons (.ifs (.eq false (.ix (.var 1) (.cst (.int 0))) (.cst (.str "brought"))) (.cons (.ret (.tup (.cons (.call 1 (.cons (.var 0) (.cons (.ix (.var 1) (.cst (.int 1))) (.cons (.ix (.var 1) (.cst (.int 2))) (.nil))))) (.cons (.f (.lst (.nil))) (.nil))))) (.nil)) (.nil)) (.cons (.ifs (.eq false (.ix (.var 1) (.cst (.int 0))) (.cst (.str "fetched"))) (.cons (.ret (.tup (.cons (.call 2 (.cons (.var 0) (.cons (.ix (.var 1) (.cst (.int 1))) (.cons (.ix (.var 1) (.cst (.int 2))) (.nil))))) (.cons (.f (.lst (.nil))) (.nil))))) (.nil)) (.nil)) (.cons (.ifs (.eq false (.ix (.var 1) (.cst (.int 0))) (.cst (.str "in"))) (.cons (.ret (.tup (.cons (.call 3 (.cons (.var 0) (.cons (.ix (.var 1) (.cst (.int 1))) (.nil)))) (.cons (.f (.lst (.nil))) (.nil))))) (.nil)) (.nil)) (.cons (.ifs (.eq false (.ix (.var 1) (.cst (.int 0))) (.cst (.str "out"))) (.cons (.ret (.tup (.cons (.call 4 (.cons (.var 0) (.cons (.ix (.var 1) (.cst (.int 1))) (.nil)))) (.cons (.f (.lst (.nil))) (.nil))))) (.nil)) (.nil)) (.cons (.raise_ 10) (.nil))))))
abbrev n_done : List Str := ["till", "deed"]
theorem dv_done {ph_paid : List D → Option Out} {ph_brought : List D → Option Out} {ph_fetched : List D → Option Out} {ph_kind_in : List D → Option Out} {ph_kind_out : List D → Option Out} {ph_done : List D → Option Out} {f : Addr} {fd : FuncData} (F : Fun K "done" "done" s_done f fd) (gm : mg "done" = some (.ref f)) (bd : Binds K fd ["till", "deed"] []) (bi : Bi mg) (cl : Cls' K mg ca xsL ysL) (c_paid : Cal P w K mg base ca "paid" ph_paid 4) (c_brought : Cal P w K mg base ca "brought" ph_brought 2) (c_fetched : Cal P w K mg base ca "fetched" ph_fetched 2) (c_kind_in : Cal P w K mg base ca "kind_in" ph_kind_in 2) (c_kind_out : Cal P w K mg base ca "kind_out" ph_kind_out 2)
    (ar : ∀ ds o, ph_done ds = some o → ds.length = 2) (wp : ∀ ds o, ph_done ds = some o → wpSs ⟨[ph_paid, ph_brought, ph_fetched, ph_kind_in, ph_kind_out], ca, xsL, none⟩ g_done (gdOf o) (startE n_done ds)) :
    Cal P w K mg base ca "done" ph_done 5 :=
  fn_data (T := ⟨[ph_paid, ph_brought, ph_fetched, ph_kind_in, ph_kind_out], ca, xsL, none⟩) (g := g_done) F gm bd sc_done ar (fun cdv A outer s H E hr => by
    have hu := hr.units
    exact psx_cons (psx_if (pt_eq hu (px_ix (px_var 1) (px_int)) (px_str)) (psx_cons (psx_ret (px_rcall (c_paid.at hr) (takes_of rfl rfl rfl rfl) (pax_cons (px_var 0) (pax_cons (px_ix (px_var 1) (px_int)) (pax_cons (px_ix (px_var 1) (px_int)) (pax_nil)))))) (psx_nil)) (psx_nil)) (psx_cons (psx_if (pt_eq hu (px_ix (px_var 1) (px_int)) (px_str)) (psx_cons (psx_ret (px_rtup (prs_cons (px_rcall (c_brought.at hr) (takes_of rfl rfl rfl rfl) (pax_cons (px_var 0) (pax_cons (px_ix (px_var 1) (px_int)) (pax_cons (px_ix (px_var 1) (px_int)) (pax_nil))))) (prs_cons (px_rf (pf_lst (pax_nil))) (prs_nil))))) (psx_nil)) (psx_nil)) (psx_cons (psx_if (pt_eq hu (px_ix (px_var 1) (px_int)) (px_str)) (psx_cons (psx_ret (px_rtup (prs_cons (px_rcall (c_fetched.at hr) (takes_of rfl rfl rfl rfl) (pax_cons (px_var 0) (pax_cons (px_ix (px_var 1) (px_int)) (pax_cons (px_ix (px_var 1) (px_int)) (pax_nil))))) (prs_cons (px_rf (pf_lst (pax_nil))) (prs_nil))))) (psx_nil)) (psx_nil)) (psx_cons (psx_if (pt_eq hu (px_ix (px_var 1) (px_int)) (px_str)) (psx_cons (psx_ret (px_rtup (prs_cons (px_rcall (c_kind_in.at hr) (takes_of rfl rfl rfl rfl) (pax_cons (px_var 0) (pax_cons (px_ix (px_var 1) (px_int)) (pax_nil)))) (prs_cons (px_rf (pf_lst (pax_nil))) (prs_nil))))) (psx_nil)) (psx_nil)) (psx_cons (psx_if (pt_eq hu (px_ix (px_var 1) (px_int)) (px_str)) (psx_cons (psx_ret (px_rtup (prs_cons (px_rcall (c_kind_out.at hr) (takes_of rfl rfl rfl rfl) (pax_cons (px_var 0) (pax_cons (px_ix (px_var 1) (px_int)) (pax_nil)))) (prs_cons (px_rf (pf_lst (pax_nil))) (prs_nil))))) (psx_nil)) (psx_nil)) (psx_cons (psx_rais (x := 10) cl rfl (takes_of rfl rfl rfl rfl)) (psx_nil))))))) wp

/-! ### tried -/
abbrev s_tried : Stmt := topS 37
theorem sc_tried : FnScope ["till", "deed", "found"] ["till", "deed"] (defScope s_tried) := ⟨rfl, rfl, rfl, by decide +kernel, rfl, by decide +kernel, by decide +kernel⟩
def g_tried : GSs := .cons (.try_ (.cons (.asgR 2 (.call 0 (.cons (.var 0) (.cons (.var 1) (.nil))))) (.nil)) (.cons 2 (.cons (.retX "no kind" 0) (.nil)) (.cons 3 (.cons (.retX "twice" 0) (.nil)) (.cons 4 (.cons (.retX "no count" 0) (.nil)) (.cons 1 (.cons (.retX "no till" 0) (.nil)) (.cons 5 (.cons (.retX "no sum" 0) (.nil)) (.cons 6 (.cons (.retX "too little" 0) (.nil)) (.cons 7 (.cons (.retX "no change" 0) (.nil)) (.cons 8 (.cons (.retX "too few" 0) (.nil)) (.cons 9 (.cons (.retX "still held" 0) (.nil)) (.cons 10 (.cons (.retX "no deed" 0) (.nil)) (.nil)))))))))))) (.cons (.retY "done" 2) (.nil))
abbrev n_tried : List Str := ["till", "deed", "found"]
theorem dv_tried {ph_done : List D → Option Out} {ph_tried : List D → Option Out} {f : Addr} {fd : FuncData} (F : Fun K "tried" "tried" s_tried f fd) (gm : mg "tried" = some (.ref f)) (bd : Binds K fd ["till", "deed"] []) (bi : Bi mg) (cl : Cls' K mg ca xsL ysL) (c_done : Cal P w K mg base ca "done" ph_done 5)
    (ar : ∀ ds o, ph_tried ds = some o → ds.length = 2) (wp : ∀ ds o, ph_tried ds = some o → wpSs ⟨[ph_done], ca, xsL, none⟩ g_tried (gdOf o) (startE n_tried ds)) :
    Cal P w K mg base ca "tried" ph_tried 6 :=
  fn_data (T := ⟨[ph_done], ca, xsL, none⟩) (g := g_tried) F gm bd sc_tried ar (fun cdv A outer s H E hr => by
    have hu := hr.units
    exact psx_cons (psx_try cl (takes_of rfl rfl rfl rfl) (fun W pn xe tk' ow' => psx_cons (psx_asgR (ps_set (i := 2) sc_tried.nd rfl (by first | exact Or.inl rfl | exact Or.inr rfl) (px_rcall (c_done.at hr) tk' (pax_cons (px_var 0) (pax_cons (px_var 1) (pax_nil)))))) (psx_nil)) (hdx_cons (y := 2) cl (fun ad oe pn => psx_cons (psx_retX (pv 0)) (psx_nil)) (hdx_cons (y := 3) cl (fun ad oe pn => psx_cons (psx_retX (pv 0)) (psx_nil)) (hdx_cons (y := 4) cl (fun ad oe pn => psx_cons (psx_retX (pv 0)) (psx_nil)) (hdx_cons (y := 1) cl (fun ad oe pn => psx_cons (psx_retX (pv 0)) (psx_nil)) (hdx_cons (y := 5) cl (fun ad oe pn => psx_cons (psx_retX (pv 0)) (psx_nil)) (hdx_cons (y := 6) cl (fun ad oe pn => psx_cons (psx_retX (pv 0)) (psx_nil)) (hdx_cons (y := 7) cl (fun ad oe pn => psx_cons (psx_retX (pv 0)) (psx_nil)) (hdx_cons (y := 8) cl (fun ad oe pn => psx_cons (psx_retX (pv 0)) (psx_nil)) (hdx_cons (y := 9) cl (fun ad oe pn => psx_cons (psx_retX (pv 0)) (psx_nil)) (hdx_cons (y := 10) cl (fun ad oe pn => psx_cons (psx_retX (pv 0)) (psx_nil)) (hdx_nil)))))))))))) (psx_cons (psx_retY (pv 2)) (psx_nil))) wp

/-! ### day -/
abbrev s_day : Stmt := topS 38
theorem sc_day : FnScope ["till", "deeds", "answers", "deed", "found", "pair"] ["till", "deeds"] (defScope s_day) := ⟨rfl, rfl, rfl, by decide +kernel, rfl, by decide +kernel, by decide +kernel⟩
def g_day : GSs := .cons (.asgR 2 (.lst .nil)) (.cons (.for_ [3, 4] [3] (.il (.var 1)) (.dy 4 0 0 (.cons (.var 0) (.cons (.var 3) (.nil))) 2 (.nil))) (.cons (.retB (.lc [5] (.il (.var 0)) (.var 5)) 2) (.nil)))
abbrev n_day : List Str := ["till", "deeds", "answers", "deed", "found", "pair"]
theorem dv_day {ph_tried : List D → Option Out} {ph_day : List D → Option Out} {f : Addr} {fd : FuncData} (F : Fun K "day" "day" s_day f fd) (gm : mg "day" = some (.ref f)) (bd : Binds K fd ["till", "deeds"] []) (bi : Bi mg) (cl : Cls' K mg ca xsL ysL) (c_tried : Cal P w K mg base ca "tried" ph_tried 6)
    (ar : ∀ ds o, ph_day ds = some o → ds.length = 2) (wp : ∀ ds o, ph_day ds = some o → wpSs ⟨[ph_tried], ca, xsL, none⟩ g_day (gdOf o) (startE n_day ds)) :
    Cal P w K mg base ca "day" ph_day 7 :=
  fn_data (T := ⟨[ph_tried], ca, xsL, none⟩) (g := g_day) F gm bd sc_day ar (fun cdv A outer s H E hr => by
    have hu := hr.units
    exact psx_cons (psx_asgR (ps_set (i := 2) sc_day.nd rfl (by first | exact Or.inl rfl | exact Or.inr rfl) (px_rlst prs_nil))) (psx_cons (psx_for (ws := [3, 4]) (ts := [3]) (gx := (gName 3)) (passes_of rfl) rfl (pix_list (px_var 1)) (pg_name (i := 3) sc_day.nd rfl (by first | exact Or.inl rfl | exact Or.inr rfl)) (pss_dy (t := 4) (u := 0) (i := 2) (ps_set (i := 4) sc_day.nd rfl (by first | exact Or.inl rfl | exact Or.inr rfl) (px_callX (c_tried.at hr) (takes_of rfl rfl rfl rfl) (pax_cons (px_var 0) (pax_cons (px_var 3) (pax_nil))))) (ps_set (i := 0) sc_day.nd rfl (by first | exact Or.inl rfl | exact Or.inr rfl) (px_i2 (px_i1 (pv 4)))) (ps_expr (pe_bm PySem.F.plainAttrs_list PySem.F.slot_list_append PySem.F.type_list_append mt_append (pv 2) (pa_cons (pe_tup (pa_cons (px_i1 (pv 4)) (pa_cons (px_i2 (px_i1 (pv 4))) pa_nil))) pa_nil))) psx_nil)) (psx_cons (psx_retB (pf_lc (own := [("pair", 5)]) (g := (gName 5)) (ts := [5]) rfl sc_day.nd (pix_list (px_var 0)) (blkOk_by (own := [("pair", 5)]) (N := ["till", "deeds", "answers", "deed", "found", "pair"]) (sc := defScope s_day) (by decide +kernel)) rfl (fun _ _ _ _ _ => pg_name (i := 5) sc_day.nd rfl (by first | exact Or.inl rfl | exact Or.inr rfl)) (fun _ _ _ _ _ => px_var 5)) (pv 2)) (psx_nil)))) wp

/-! ### law_cell_at -/
abbrev s_l_cell_at : Stmt := topS 40
theorem sc_l_cell_at : FnScope ["_law_script", "_law_k"] ["_law_script", "_law_k"] (defScope s_l_cell_at) := ⟨rfl, rfl, rfl, by decide +kernel, rfl, by decide +kernel, by decide +kernel⟩
def g_l_cell_at : GSs := .cons (.ifs (.cmp .lt (.var 1) (.len (.var 0))) (.cons (.ret (.im (.ix (.var 0) (.var 1)))) (.nil)) (.nil)) (.cons (.ret (.im (.cst (.int 0)))) (.nil))
abbrev n_l_cell_at : List Str := ["_law_script", "_law_k"]
theorem dv_l_cell_at {ph_l_cell_at : List D → Option Out} {f : Addr} {fd : FuncData} (F : Fun K "_law_cell_at" "_law_cell_at" s_l_cell_at f fd) (gm : mg "_law_cell_at" = some (.ref f)) (bd : Binds K fd ["_law_script", "_law_k"] []) (bi : Bi mg) (cl : Cls' K mg ca xsL ysL)
    (ar : ∀ ds o, ph_l_cell_at ds = some o → ds.length = 2) (wp : ∀ ds o, ph_l_cell_at ds = some o → wpSs ⟨[], ca, xsL, none⟩ g_l_cell_at (gdOf o) (startE n_l_cell_at ds)) :
    Cal P w K mg base ca "_law_cell_at" ph_l_cell_at 1 :=
  fn_data (T := ⟨[], ca, xsL, none⟩) (g := g_l_cell_at) F gm bd sc_l_cell_at ar (fun cdv A outer s H E hr => by
    have hu := hr.units
    exact psx_cons (psx_if (pt_lt (px_var 1) (px_len bi (px_var 0))) (psx_cons (psx_ret (px_r (px_ix (px_var 0) (px_var 1)))) (psx_nil)) (psx_nil)) (psx_cons (psx_ret (px_r (px_int))) (psx_nil))) wp

/-! ### law_whole -/
abbrev s_l_whole : Stmt := topS 41
theorem sc_l_whole : FnScope ["_law_found"] ["_law_found"] (defScope s_l_whole) := ⟨rfl, rfl, rfl, by decide +kernel, rfl, by decide +kernel, by decide +kernel⟩
def g_l_whole : GSs := .cons (.ret (.im (.and (.isi .int (.var 0)) (.not (.isi .bool (.var 0)))))) (.nil)
abbrev n_l_whole : List Str := ["_law_found"]
theorem dv_l_whole {ph_l_whole : List D → Option Out} {f : Addr} {fd : FuncData} (F : Fun K "_law_whole" "_law_whole" s_l_whole f fd) (gm : mg "_law_whole" = some (.ref f)) (bd : Binds K fd ["_law_found"] []) (bi : Bi mg) (cl : Cls' K mg ca xsL ysL)
    (ar : ∀ ds o, ph_l_whole ds = some o → ds.length = 1) (wp : ∀ ds o, ph_l_whole ds = some o → wpSs ⟨[], ca, xsL, none⟩ g_l_whole (gdOf o) (startE n_l_whole ds)) :
    Cal P w K mg base ca "_law_whole" ph_l_whole 1 :=
  fn_data (T := ⟨[], ca, xsL, none⟩) (g := g_l_whole) F gm bd sc_l_whole ar (fun cdv A outer s H E hr => by
    have hu := hr.units
    exact psx_cons (psx_ret (px_r (px_and (px_isInt bi (px_var 0)) (px_one (px_not (px_isBool bi (px_var 0))))))) (psx_nil)) wp

/-! ### law_mixed -/
abbrev s_l_mixed : Stmt := topS 42
theorem sc_l_mixed : FnScope ["_law_cell", "_law_k"] ["_law_cell", "_law_k"] (defScope s_l_mixed) := ⟨rfl, rfl, rfl, by decide +kernel, rfl, by decide +kernel, by decide +kernel⟩
def g_l_mixed : GSs := .cons (.ret (.im (.bin .mod (.bin .mul (.bin .add (.var 0) (.bin .mul (.cst (.int 7919)) (.var 1))) (.cst (.int 48271))) (.cst (.int 2147483647))))) (.nil)
abbrev n_l_mixed : List Str := ["_law_cell", "_law_k"]
theorem dv_l_mixed {ph_l_mixed : List D → Option Out} {f : Addr} {fd : FuncData} (F : Fun K "_law_mixed" "_law_mixed" s_l_mixed f fd) (gm : mg "_law_mixed" = some (.ref f)) (bd : Binds K fd ["_law_cell", "_law_k"] []) (bi : Bi mg) (cl : Cls' K mg ca xsL ysL)
    (ar : ∀ ds o, ph_l_mixed ds = some o → ds.length = 2) (wp : ∀ ds o, ph_l_mixed ds = some o → wpSs ⟨[], ca, xsL, none⟩ g_l_mixed (gdOf o) (startE n_l_mixed ds)) :
    Cal P w K mg base ca "_law_mixed" ph_l_mixed 1 :=
  fn_data (T := ⟨[], ca, xsL, none⟩) (g := g_l_mixed) F gm bd sc_l_mixed ar (fun cdv A outer s H E hr => by
    have hu := hr.units
    exact psx_cons (psx_ret (px_r (px_mod (px_mul (px_add (px_var 0) (px_mul (px_int) (px_var 1))) (px_int)) (px_int)))) (psx_nil)) wp

/-! ### law_value -/
abbrev s_l_value : Stmt := topS 43
theorem sc_l_value : FnScope ["_law_cell", "_law_k", "_law_drawn"] ["_law_cell", "_law_k"] (defScope s_l_value) := ⟨rfl, rfl, rfl, by decide +kernel, rfl, by decide +kernel, by decide +kernel⟩
def g_l_value : GSs := .cons (.asgV 2 (.call 0 (.cons (.var 0) (.cons (.var 1) (.nil))))) (.cons (.ifs (.eq false (.bin .mod (.var 0) (.cst (.int 3))) (.cst (.int 0))) (.cons (.ret (.im (.ix (.f (.lst (.cons (.cst (.int 1)) (.cons (.cst (.int 2)) (.cons (.cst (.int 5)) (.cons (.cst (.int 10)) (.cons (.cst (.int 20)) (.cons (.cst (.int 50)) (.cons (.cst (.int 100)) (.cons (.cst (.int 200)) (.cons (.cst (.int 500)) (.cons (.cst (.int 1000)) (.nil))))))))))))) (.bin .mod (.var 2) (.cst (.int 10)))))) (.nil)) (.nil)) (.cons (.ifs (.eq false (.bin .mod (.var 0) (.cst (.int 3))) (.cst (.int 1))) (.cons (.ret (.im (.bin .add (.cst (.int 1)) (.bin .mod (.var 2) (.cst (.int 30)))))) (.nil)) (.nil)) (.cons (.ret (.im (.bin .add (.cst (.int 1)) (.bin .mod (.var 2) (.cst (.int 1000)))))) (.nil))))
abbrev n_l_value : List Str := ["_law_cell", "_law_k", "_law_drawn"]
theorem dv_l_value {ph_l_mixed : List D → Option Out} {ph_l_value : List D → Option Out} {f : Addr} {fd : FuncData} (F : Fun K "_law_value" "_law_value" s_l_value f fd) (gm : mg "_law_value" = some (.ref f)) (bd : Binds K fd ["_law_cell", "_law_k"] []) (bi : Bi mg) (cl : Cls' K mg ca xsL ysL) (c_l_mixed : Cal P w K mg base ca "_law_mixed" ph_l_mixed 1)
    (ar : ∀ ds o, ph_l_value ds = some o → ds.length = 2) (wp : ∀ ds o, ph_l_value ds = some o → wpSs ⟨[ph_l_mixed], ca, xsL, none⟩ g_l_value (gdOf o) (startE n_l_value ds)) :
    Cal P w K mg base ca "_law_value" ph_l_value 2 :=
  fn_data (T := ⟨[ph_l_mixed], ca, xsL, none⟩) (g := g_l_value) F gm bd sc_l_value ar (fun cdv A outer s H E hr => by
    have hu := hr.units
    exact psx_cons (psx_asgV (ps_set (i := 2) sc_l_value.nd rfl (by first | exact Or.inl rfl | exact Or.inr rfl) (px_call (c_l_mixed.at hr) (takes_of rfl rfl rfl rfl) (pax_cons (px_var 0) (pax_cons (px_var 1) (pax_nil)))))) (psx_cons (psx_if (pt_eq hu (px_mod (px_var 0) (px_int)) (px_int)) (psx_cons (psx_ret (px_r (px_ix (px_f (pf_lst (pax_cons (px_int) (pax_cons (px_int) (pax_cons (px_int) (pax_cons (px_int) (pax_cons (px_int) (pax_cons (px_int) (pax_cons (px_int) (pax_cons (px_int) (pax_cons (px_int) (pax_cons (px_int) (pax_nil))))))))))))) (px_mod (px_var 2) (px_int))))) (psx_nil)) (psx_nil)) (psx_cons (psx_if (pt_eq hu (px_mod (px_var 0) (px_int)) (px_int)) (psx_cons (psx_ret (px_r (px_add (px_int) (px_mod (px_var 2) (px_int))))) (psx_nil)) (psx_nil)) (psx_cons (psx_ret (px_r (px_add (px_int) (px_mod (px_var 2) (px_int))))) (psx_nil))))) wp

/-! ### law_count -/
abbrev s_l_count : Stmt := topS 44
theorem sc_l_count : FnScope ["_law_cell", "_law_k", "_law_drawn"] ["_law_cell", "_law_k"] (defScope s_l_count) := ⟨rfl, rfl, rfl, by decide +kernel, rfl, by decide +kernel, by decide +kernel⟩
def g_l_count : GSs := .cons (.asgV 2 (.call 0 (.cons (.var 0) (.cons (.var 1) (.nil))))) (.cons (.ifs (.eq false (.bin .mod (.bin .div (.var 0) (.cst (.int 3))) (.cst (.int 4))) (.cst (.int 1))) (.cons (.ret (.im (.bin .mod (.var 2) (.cst (.int 61))))) (.nil)) (.nil)) (.cons (.ifs (.eq false (.bin .mod (.bin .div (.var 0) (.cst (.int 3))) (.cst (.int 12))) (.cst (.int 6))) (.cons (.ret (.im (.bin .mul (.bin .mod (.bin .div (.var 2) (.cst (.int 7))) (.cst (.int 2))) (.bin .sub (.cst (.int 1000000000)) (.bin .mod (.var 2) (.cst (.int 50))))))) (.nil)) (.nil)) (.cons (.ret (.im (.bin .mod (.var 2) (.cst (.int 5))))) (.nil))))
abbrev n_l_count : List Str := ["_law_cell", "_law_k", "_law_drawn"]
theorem dv_l_count {ph_l_mixed : List D → Option Out} {ph_l_count : List D → Option Out} {f : Addr} {fd : FuncData} (F : Fun K "_law_count" "_law_count" s_l_count f fd) (gm : mg "_law_count" = some (.ref f)) (bd : Binds K fd ["_law_cell", "_law_k"] []) (bi : Bi mg) (cl : Cls' K mg ca xsL ysL) (c_l_mixed : Cal P w K mg base ca "_law_mixed" ph_l_mixed 1)
    (ar : ∀ ds o, ph_l_count ds = some o → ds.length = 2) (wp : ∀ ds o, ph_l_count ds = some o → wpSs ⟨[ph_l_mixed], ca, xsL, none⟩ g_l_count (gdOf o) (startE n_l_count ds)) :
    Cal P w K mg base ca "_law_count" ph_l_count 2 :=
  fn_data (T := ⟨[ph_l_mixed], ca, xsL, none⟩) (g := g_l_count) F gm bd sc_l_count ar (fun cdv A outer s H E hr => by
    have hu := hr.units
    exact psx_cons (psx_asgV (ps_set (i := 2) sc_l_count.nd rfl (by first | exact Or.inl rfl | exact Or.inr rfl) (px_call (c_l_mixed.at hr) (takes_of rfl rfl rfl rfl) (pax_cons (px_var 0) (pax_cons (px_var 1) (pax_nil)))))) (psx_cons (psx_if (pt_eq hu (px_mod (px_div (px_var 0) (px_int)) (px_int)) (px_int)) (psx_cons (psx_ret (px_r (px_mod (px_var 2) (px_int)))) (psx_nil)) (psx_nil)) (psx_cons (psx_if (pt_eq hu (px_mod (px_div (px_var 0) (px_int)) (px_int)) (px_int)) (psx_cons (psx_ret (px_r (px_mul (px_mod (px_div (px_var 2) (px_int)) (px_int)) (px_sub (px_pow (by unfold CPow; decide) (by decide)) (px_mod (px_var 2) (px_int)))))) (psx_nil)) (psx_nil)) (psx_cons (psx_ret (px_r (px_mod (px_var 2) (px_int)))) (psx_nil))))) wp

/-! ### law_pairs -/
abbrev s_l_pairs : Stmt := topS 45
theorem sc_l_pairs : FnScope ["_law_script", "_law_cell", "_law_many", "_law_found", "_law_seen", "_law_k", "_law_value_here"] ["_law_script"] (defScope s_l_pairs) := ⟨rfl, rfl, rfl, by decide +kernel, rfl, by decide +kernel, by decide +kernel⟩
def g_l_pairs : GSs := .cons (.asgV 1 (.call 0 (.cons (.var 0) (.cons (.cst (.int 0)) (.nil))))) (.cons (.asgV 2 (.bin .add (.cst (.int 1)) (.bin .mod (.var 1) (.cst (.int 5))))) (.cons (.ifs (.eq false (.bin .mod (.bin .div (.var 1) (.cst (.int 5))) (.cst (.int 8))) (.cst (.int 1))) (.cons (.asgV 2 (.bin .add (.cst (.int 6)) (.bin .mod (.bin .div (.var 1) (.cst (.int 40))) (.cst (.int 5))))) (.nil)) (.nil)) (.cons (.asgF 3 (.lst (.nil))) (.cons (.asgD 4) (.cons (.for_ [5, 6] [5] (.i1 (.var 2)) (.cons (.asgV 6 (.call 1 (.cons (.call 0 (.cons (.var 0) (.cons (.cst (.int 1)) (.nil)))) (.cons (.bin .add (.var 5) (.cst (.int 1))) (.nil))))) (.cons (.whl [] (.ind false (.var 6) 4) (.cons (.asgV 6 (.bin .add (.bin .mod (.var 6) (.cst (.int 1000))) (.cst (.int 1)))) (.nil))) (.cons (.dset 4 (.var 6) (.cst (.bool true))) (.cons (.appV 3 (.tup (.cons (.var 6) (.cons (.call 2 (.cons (.call 0 (.cons (.var 0) (.cons (.cst (.int 2)) (.nil)))) (.cons (.bin .add (.var 5) (.cst (.int 1))) (.nil)))) (.nil))))) (.nil)))))) (.cons (.retMv 3) (.nil)))))))
abbrev n_l_pairs : List Str := ["_law_script", "_law_cell", "_law_many", "_law_found", "_law_seen", "_law_k", "_law_value_here"]
theorem dv_l_pairs {ph_l_cell_at : List D → Option Out} {ph_l_value : List D → Option Out} {ph_l_count : List D → Option Out} {ph_l_pairs : List D → Option Out} {f : Addr} {fd : FuncData} (F : Fun K "_law_pairs" "_law_pairs" s_l_pairs f fd) (gm : mg "_law_pairs" = some (.ref f)) (bd : Binds K fd ["_law_script"] []) (bi : Bi mg) (cl : Cls' K mg ca xsL ysL) (c_l_cell_at : Cal P w K mg base ca "_law_cell_at" ph_l_cell_at 1) (c_l_value : Cal P w K mg base ca "_law_value" ph_l_value 2) (c_l_count : Cal P w K mg base ca "_law_count" ph_l_count 2)
    (ar : ∀ ds o, ph_l_pairs ds = some o → ds.length = 1) (wp : ∀ ds o, ph_l_pairs ds = some o → wpSs ⟨[ph_l_cell_at, ph_l_value, ph_l_count], ca, xsL, none⟩ g_l_pairs (gdOf o) (startE n_l_pairs ds)) :
    Cal P w K mg base ca "_law_pairs" ph_l_pairs 3 :=
  fn_data (T := ⟨[ph_l_cell_at, ph_l_value, ph_l_count], ca, xsL, none⟩) (g := g_l_pairs) F gm bd sc_l_pairs ar (fun cdv A outer s H E hr => by
    have hu := hr.units
    exact psx_cons (psx_asgV (ps_set (i := 1) sc_l_pairs.nd rfl (by first | exact Or.inl rfl | exact Or.inr rfl) (px_call (c_l_cell_at.at hr) (takes_of rfl rfl rfl rfl) (pax_cons (px_var 0) (pax_cons (px_int) (pax_nil)))))) (psx_cons (psx_asgV (ps_set (i := 2) sc_l_pairs.nd rfl (by first | exact Or.inl rfl | exact Or.inr rfl) (px_add (px_int) (px_mod (px_var 1) (px_int))))) (psx_cons (psx_if (pt_eq hu (px_mod (px_div (px_var 1) (px_int)) (px_int)) (px_int)) (psx_cons (psx_asgV (ps_set (i := 2) sc_l_pairs.nd rfl (by first | exact Or.inl rfl | exact Or.inr rfl) (px_add (px_int) (px_mod (px_div (px_var 1) (px_int)) (px_int))))) (psx_nil)) (psx_nil)) (psx_cons (psx_asgF (ps_set (i := 3) sc_l_pairs.nd rfl (by first | exact Or.inl rfl | exact Or.inr rfl) (pf_lst (pax_nil)))) (psx_cons (psx_asgD (ps_set (i := 4) sc_l_pairs.nd rfl (by first | exact Or.inl rfl | exact Or.inr rfl) (pe_dnewK))) (psx_cons (psx_for (ws := [5, 6]) (ts := [5]) (gx := (gName 5)) (passes_of rfl) rfl (pix_range1 bi (px_var 2)) (pg_name (i := 5) sc_l_pairs.nd rfl (by first | exact Or.inl rfl | exact Or.inr rfl)) (psx_cons (psx_asgV (ps_set (i := 6) sc_l_pairs.nd rfl (by first | exact Or.inl rfl | exact Or.inr rfl) (px_call (c_l_value.at hr) (takes_of rfl rfl rfl rfl) (pax_cons (px_call (c_l_cell_at.at hr) (takes_of rfl rfl rfl rfl) (pax_cons (px_var 0) (pax_cons (px_int) (pax_nil)))) (pax_cons (px_add (px_var 5) (px_int)) (pax_nil)))))) (psx_cons (psx_while (ws := []) (passes_of rfl) (pt_ind hu (px_var 6) (pv 4)) (psx_cons (psx_asgV (ps_set (i := 6) sc_l_pairs.nd rfl (by first | exact Or.inl rfl | exact Or.inr rfl) (px_add (px_mod (px_var 6) (px_int)) (px_int)))) (psx_nil))) (psx_cons (psx_dset (ps_dput (Nat.lt_of_le_of_lt (Nat.add_le_add_left (by decide) _) hu) (pv 4) (px_var 6) (px_bl) (by rfl))) (psx_cons (psx_appV (ps_expr (pe_bm PySem.F.plainAttrs_list PySem.F.slot_list_append PySem.F.type_list_append mt_append (pv 3) (pa_cons (px_tup (pax_cons (px_var 6) (pax_cons (px_call (c_l_count.at hr) (takes_of rfl rfl rfl rfl) (pax_cons (px_call (c_l_cell_at.at hr) (takes_of rfl rfl rfl rfl) (pax_cons (px_var 0) (pax_cons (px_int) (pax_nil)))) (pax_cons (px_add (px_var 5) (px_int)) (pax_nil)))) (pax_nil)))) pa_nil)))) (psx_nil)))))) (psx_cons (psx_retMv (pv 3)) (psx_nil)))))))) wp

/-! ### law_alike -/
abbrev s_l_alike : Stmt := topS 46
theorem sc_l_alike : FnScope ["_law_found", "_law_due", "_law_pair"] ["_law_found", "_law_due"] (defScope s_l_alike) := ⟨rfl, rfl, rfl, by decide +kernel, rfl, by decide +kernel, by decide +kernel⟩
def g_l_alike : GSs := .cons (.ifs (.or (.not (.isi .list (.var 0))) (.eq true (.var 0) (.var 1))) (.cons (.ret (.im (.cst (.bool false)))) (.nil)) (.nil)) (.cons (.for_ [2] [2] (.il (.var 0)) (.cons (.ifs (.or (.not (.isi .tuple (.var 2))) (.or (.not (.call 0 (.cons (.ix (.var 2) (.cst (.int 0))) (.nil)))) (.not (.call 0 (.cons (.ix (.var 2) (.cst (.int 1))) (.nil)))))) (.cons (.ret (.im (.cst (.bool false)))) (.nil)) (.nil)) (.nil))) (.cons (.ret (.im (.cst (.bool true)))) (.nil)))
abbrev n_l_alike : List Str := ["_law_found", "_law_due", "_law_pair"]
theorem dv_l_alike {ph_l_whole : List D → Option Out} {ph_l_alike : List D → Option Out} {f : Addr} {fd : FuncData} (F : Fun K "_law_alike" "_law_alike" s_l_alike f fd) (gm : mg "_law_alike" = some (.ref f)) (bd : Binds K fd ["_law_found", "_law_due"] []) (bi : Bi mg) (cl : Cls' K mg ca xsL ysL) (c_l_whole : Cal P w K mg base ca "_law_whole" ph_l_whole 1)
    (ar : ∀ ds o, ph_l_alike ds = some o → ds.length = 2) (wp : ∀ ds o, ph_l_alike ds = some o → wpSs ⟨[ph_l_whole], ca, xsL, none⟩ g_l_alike (gdOf o) (startE n_l_alike ds)) :
    Cal P w K mg base ca "_law_alike" ph_l_alike 2 :=
  fn_data (T := ⟨[ph_l_whole], ca, xsL, none⟩) (g := g_l_alike) F gm bd sc_l_alike ar (fun cdv A outer s H E hr => by
    have hu := hr.units
    exact psx_cons (psx_if (PW.pt (pw_o (pt_n (pt_v (px_isList bi (px_var 0)))) (pw_o1 (pt_ne hu (px_var 0) (px_var 1))))) (psx_cons (psx_ret (px_r (px_bl))) (psx_nil)) (psx_nil)) (psx_cons (psx_for (ws := [2]) (ts := [2]) (gx := (gName 2)) (passes_of rfl) rfl (pix_list (px_var 0)) (pg_name (i := 2) sc_l_alike.nd rfl (by first | exact Or.inl rfl | exact Or.inr rfl)) (psx_cons (psx_if (PW.pt (pw_o (pt_n (pt_v (px_isTuple bi (px_var 2)))) (pw_o (pt_n (pt_v (px_call (c_l_whole.at hr) (takes_of rfl rfl rfl rfl) (pax_cons (px_ix (px_var 2) (px_int)) (pax_nil))))) (pw_o1 (pt_n (pt_v (px_call (c_l_whole.at hr) (takes_of rfl rfl rfl rfl) (pax_cons (px_ix (px_var 2) (px_int)) (pax_nil))))))))) (psx_cons (psx_ret (px_r (px_bl))) (psx_nil)) (psx_nil)) (psx_nil))) (psx_cons (psx_ret (px_r (px_bl))) (psx_nil)))) wp

/-! ### law_least -/
abbrev s_l_least : Stmt := topS 47
theorem sc_l_least : FnScope ["_law_ahead", "_law_at", "_law_value_here", "_law_count_here", "_law_found", "_law_many", "_law_few"] ["_law_ahead", "_law_at", "_law_value_here", "_law_count_here"] (defScope s_l_least) := ⟨rfl, rfl, rfl, by decide +kernel, rfl, by decide +kernel, by decide +kernel⟩
def g_l_least : GSs := .cons (.asgV 4 (.cst .none)) (.cons (.for_ [5, 6] [5] (.i1 (.bin .add (.mn (.var 3) (.bin .div (.var 1) (.var 2))) (.cst (.int 1)))) (.cons (.asgV 6 (.ix (.var 0) (.bin .sub (.var 1) (.bin .mul (.var 5) (.var 2))))) (.cons (.ifs (.and (.isn true (.var 6)) (.or (.isn false (.var 4)) (.cmp .lt (.bin .add (.var 6) (.var 5)) (.var 4)))) (.cons (.asgV 4 (.bin .add (.var 6) (.var 5))) (.nil)) (.nil)) (.nil)))) (.cons (.ret (.im (.var 4))) (.nil)))
abbrev n_l_least : List Str := ["_law_ahead", "_law_at", "_law_value_here", "_law_count_here", "_law_found", "_law_many", "_law_few"]
theorem dv_l_least {ph_l_least : List D → Option Out} {f : Addr} {fd : FuncData} (F : Fun K "_law_least" "_law_least" s_l_least f fd) (gm : mg "_law_least" = some (.ref f)) (bd : Binds K fd ["_law_ahead", "_law_at", "_law_value_here", "_law_count_here"] []) (bi : Bi mg) (cl : Cls' K mg ca xsL ysL)
    (ar : ∀ ds o, ph_l_least ds = some o → ds.length = 4) (wp : ∀ ds o, ph_l_least ds = some o → wpSs ⟨[], ca, xsL, none⟩ g_l_least (gdOf o) (startE n_l_least ds)) :
    Cal P w K mg base ca "_law_least" ph_l_least 1 :=
  fn_data (T := ⟨[], ca, xsL, none⟩) (g := g_l_least) F gm bd sc_l_least ar (fun cdv A outer s H E hr => by
    have hu := hr.units
    exact psx_cons (psx_asgV (ps_set (i := 4) sc_l_least.nd rfl (by first | exact Or.inl rfl | exact Or.inr rfl) (px_non))) (psx_cons (psx_for (ws := [5, 6]) (ts := [5]) (gx := (gName 5)) (passes_of rfl) rfl (pix_range1 bi (px_add (px_mn bi rfl (px_var 3) (px_div (px_var 1) (px_var 2))) (px_int))) (pg_name (i := 5) sc_l_least.nd rfl (by first | exact Or.inl rfl | exact Or.inr rfl)) (psx_cons (psx_asgV (ps_set (i := 6) sc_l_least.nd rfl (by first | exact Or.inl rfl | exact Or.inr rfl) (px_ix (px_var 0) (px_sub (px_var 1) (px_mul (px_var 5) (px_var 2)))))) (psx_cons (psx_if (PW.pt (pw_a (pt_notN (px_var 6)) (pw_a1 (PW.pt (pw_o (pt_isN (px_var 4)) (pw_o1 (pt_lt (px_add (px_var 6) (px_var 5)) (px_var 4)))))))) (psx_cons (psx_asgV (ps_set (i := 4) sc_l_least.nd rfl (by first | exact Or.inl rfl | exact Or.inr rfl) (px_add (px_var 6) (px_var 5)))) (psx_nil)) (psx_nil)) (psx_nil)))) (psx_cons (psx_ret (px_r (px_var 4))) (psx_nil)))) wp

/-! ### law_row -/
abbrev s_l_row : Stmt := topS 48
theorem sc_l_row : FnScope ["_law_row_here", "_law_size", "_law_few"] ["_law_row_here", "_law_size"] (defScope s_l_row) := ⟨rfl, rfl, rfl, by decide +kernel, rfl, by decide +kernel, by decide +kernel⟩
def g_l_row : GSs := .cons (.ifs (.or (.not (.isi .list (.var 0))) (.eq true (.len (.var 0)) (.var 1))) (.cons (.ret (.im (.cst (.bool false)))) (.nil)) (.nil)) (.cons (.for_ [2] [2] (.il (.var 0)) (.cons (.ifs (.and (.isn true (.var 2)) (.not (.call 0 (.cons (.var 2) (.nil))))) (.cons (.ret (.im (.cst (.bool false)))) (.nil)) (.nil)) (.nil))) (.cons (.ret (.im (.cst (.bool true)))) (.nil)))
abbrev n_l_row : List Str := ["_law_row_here", "_law_size", "_law_few"]
theorem dv_l_row {ph_l_whole : List D → Option Out} {ph_l_row : List D → Option Out} {f : Addr} {fd : FuncData} (F : Fun K "_law_row" "_law_row" s_l_row f fd) (gm : mg "_law_row" = some (.ref f)) (bd : Binds K fd ["_law_row_here", "_law_size"] []) (bi : Bi mg) (cl : Cls' K mg ca xsL ysL) (c_l_whole : Cal P w K mg base ca "_law_whole" ph_l_whole 1)
    (ar : ∀ ds o, ph_l_row ds = some o → ds.length = 2) (wp : ∀ ds o, ph_l_row ds = some o → wpSs ⟨[ph_l_whole], ca, xsL, none⟩ g_l_row (gdOf o) (startE n_l_row ds)) :
    Cal P w K mg base ca "_law_row" ph_l_row 2 :=
  fn_data (T := ⟨[ph_l_whole], ca, xsL, none⟩) (g := g_l_row) F gm bd sc_l_row ar (fun cdv A outer s H E hr => by
    have hu := hr.units
    exact psx_cons (psx_if (PW.pt (pw_o (pt_n (pt_v (px_isList bi (px_var 0)))) (pw_o1 (pt_ne hu (px_len bi (px_var 0)) (px_var 1))))) (psx_cons (psx_ret (px_r (px_bl))) (psx_nil)) (psx_nil)) (psx_cons (psx_for (ws := [2]) (ts := [2]) (gx := (gName 2)) (passes_of rfl) rfl (pix_list (px_var 0)) (pg_name (i := 2) sc_l_row.nd rfl (by first | exact Or.inl rfl | exact Or.inr rfl)) (psx_cons (psx_if (PW.pt (pw_a (pt_notN (px_var 2)) (pw_a1 (pt_n (pt_v (px_call (c_l_whole.at hr) (takes_of rfl rfl rfl rfl) (pax_cons (px_var 2) (pax_nil)))))))) (psx_cons (psx_ret (px_r (px_bl))) (psx_nil)) (psx_nil)) (psx_nil))) (psx_cons (psx_ret (px_r (px_bl))) (psx_nil)))) wp

/-! ### law_walked -/
abbrev s_l_walked : Stmt := topS 49
theorem sc_l_walked : FnScope ["_law_rows", "_law_till", "_law_most", "_law_k", "_law_at"] ["_law_rows", "_law_till", "_law_most"] (defScope s_l_walked) := ⟨rfl, rfl, rfl, by decide +kernel, rfl, by decide +kernel, by decide +kernel⟩
def g_l_walked : GSs := .cons (.ifs (.or (.not (.isi .list (.var 0))) (.or (.eq true (.len (.var 0)) (.bin .add (.len (.var 1)) (.cst (.int 1)))) (.not (.call 0 (.cons (.ix (.var 0) (.cst (.int 0))) (.cons (.bin .add (.var 2) (.cst (.int 1))) (.nil))))))) (.cons (.ret (.im (.cst (.bool false)))) (.nil)) (.nil)) (.cons (.ifs (.eq true (.ix (.var 0) (.cst (.int 0))) (.f (.cat (.f (.lst (.cons (.cst (.int 0)) (.nil)))) (.f (.rep (.cst .none) (.var 2)))))) (.cons (.ret (.im (.cst (.bool false)))) (.nil)) (.nil)) (.cons (.for_ [3, 4] [3] (.i1 (.len (.var 1))) (.cons (.ifs (.not (.call 0 (.cons (.ix (.var 0) (.bin .add (.var 3) (.cst (.int 1)))) (.cons (.bin .add (.var 2) (.cst (.int 1))) (.nil))))) (.cons (.ret (.im (.cst (.bool false)))) (.nil)) (.nil)) (.cons (.for_ [4] [4] (.i1 (.bin .add (.var 2) (.cst (.int 1)))) (.cons (.ifs (.eq true (.ix (.ix (.var 0) (.bin .add (.var 3) (.cst (.int 1)))) (.var 4)) (.call 1 (.cons (.ix (.var 0) (.var 3)) (.cons (.var 4) (.cons (.ix (.ix (.var 1) (.var 3)) (.cst (.int 0))) (.cons (.ix (.ix (.var 1) (.var 3)) (.cst (.int 1))) (.nil))))))) (.cons (.ret (.im (.cst (.bool false)))) (.nil)) (.nil)) (.nil))) (.nil)))) (.cons (.ret (.im (.cst (.bool true)))) (.nil))))
abbrev n_l_walked : List Str := ["_law_rows", "_law_till", "_law_most", "_law_k", "_law_at"]
theorem dv_l_walked {ph_l_row : List D → Option Out} {ph_l_least : List D → Option Out} {ph_l_walked : List D → Option Out} {f : Addr} {fd : FuncData} (F : Fun K "_law_walked" "_law_walked" s_l_walked f fd) (gm : mg "_law_walked" = some (.ref f)) (bd : Binds K fd ["_law_rows", "_law_till", "_law_most"] []) (bi : Bi mg) (cl : Cls' K mg ca xsL ysL) (c_l_row : Cal P w K mg base ca "_law_row" ph_l_row 2) (c_l_least : Cal P w K mg base ca "_law_least" ph_l_least 1)
    (ar : ∀ ds o, ph_l_walked ds = some o → ds.length = 3) (wp : ∀ ds o, ph_l_walked ds = some o → wpSs ⟨[ph_l_row, ph_l_least], ca, xsL, none⟩ g_l_walked (gdOf o) (startE n_l_walked ds)) :
    Cal P w K mg base ca "_law_walked" ph_l_walked 3 :=
  fn_data (T := ⟨[ph_l_row, ph_l_least], ca, xsL, none⟩) (g := g_l_walked) F gm bd sc_l_walked ar (fun cdv A outer s H E hr => by
    have hu := hr.units
    exact psx_cons (psx_if (PW.pt (pw_o (pt_n (pt_v (px_isList bi (px_var 0)))) (pw_o (pt_ne hu (px_len bi (px_var 0)) (px_add (px_len bi (px_var 1)) (px_int))) (pw_o1 (pt_n (pt_v (px_call (c_l_row.at hr) (takes_of rfl rfl rfl rfl) (pax_cons (px_ix (px_var 0) (px_int)) (pax_cons (px_add (px_var 2) (px_int)) (pax_nil)))))))))) (psx_cons (psx_ret (px_r (px_bl))) (psx_nil)) (psx_nil)) (psx_cons (psx_if (pt_ne hu (px_ix (px_var 0) (px_int)) (px_f (pf_cat (px_f (pf_lst (pax_cons (px_int) (pax_nil)))) (px_f (pf_rep (px_non) (px_var 2)))))) (psx_cons (psx_ret (px_r (px_bl))) (psx_nil)) (psx_nil)) (psx_cons (psx_for (ws := [3, 4]) (ts := [3]) (gx := (gName 3)) (passes_of rfl) rfl (pix_range1 bi (px_len bi (px_var 1))) (pg_name (i := 3) sc_l_walked.nd rfl (by first | exact Or.inl rfl | exact Or.inr rfl)) (psx_cons (psx_if (pt_n (pt_v (px_call (c_l_row.at hr) (takes_of rfl rfl rfl rfl) (pax_cons (px_ix (px_var 0) (px_add (px_var 3) (px_int))) (pax_cons (px_add (px_var 2) (px_int)) (pax_nil)))))) (psx_cons (psx_ret (px_r (px_bl))) (psx_nil)) (psx_nil)) (psx_cons (psx_for (ws := [4]) (ts := [4]) (gx := (gName 4)) (passes_of rfl) rfl (pix_range1 bi (px_add (px_var 2) (px_int))) (pg_name (i := 4) sc_l_walked.nd rfl (by first | exact Or.inl rfl | exact Or.inr rfl)) (psx_cons (psx_if (pt_ne hu (px_ix (px_ix (px_var 0) (px_add (px_var 3) (px_int))) (px_var 4)) (px_call (c_l_least.at hr) (takes_of rfl rfl rfl rfl) (pax_cons (px_ix (px_var 0) (px_var 3)) (pax_cons (px_var 4) (pax_cons (px_ix (px_ix (px_var 1) (px_var 3)) (px_int)) (pax_cons (px_ix (px_ix (px_var 1) (px_var 3)) (px_int)) (pax_nil))))))) (psx_cons (psx_ret (px_r (px_bl))) (psx_nil)) (psx_nil)) (psx_nil))) (psx_nil)))) (psx_cons (psx_ret (px_r (px_bl))) (psx_nil))))) wp

/-! ### law_change -/
abbrev s_l_change : Stmt := topS 50
theorem sc_l_change : FnScope ["_law_found", "_law_till", "_law_due", "_law_left", "_law_many", "_law_last", "_law_pair", "_law_there", "_law_one"] ["_law_found", "_law_till", "_law_due"] (defScope s_l_change) := ⟨rfl, rfl, rfl, by decide +kernel, rfl, by decide +kernel, by decide +kernel⟩
def g_l_change : GSs := .cons (.ifs (.not (.isi .list (.var 0))) (.cons (.ret (.im (.cst (.int (-1))))) (.nil)) (.nil)) (.cons (.asgV 3 (.var 2)) (.cons (.asgV 4 (.cst (.int 0))) (.cons (.asgV 5 (.cst (.int 0))) (.cons (.for_ [6, 7, 8] [6] (.il (.var 0)) (.cons (.ifs (.or (.not (.isi .tuple (.var 6))) (.or (.eq true (.len (.var 6)) (.cst (.int 2))) (.or (.not (.call 0 (.cons (.ix (.var 6) (.cst (.int 0))) (.nil)))) (.not (.call 0 (.cons (.ix (.var 6) (.cst (.int 1))) (.nil))))))) (.cons (.ret (.im (.cst (.int (-1))))) (.nil)) (.nil)) (.cons (.ifs (.or (.cmp .le (.ix (.var 6) (.cst (.int 0))) (.var 5)) (.cmp .lt (.ix (.var 6) (.cst (.int 1))) (.cst (.int 1)))) (.cons (.ret (.im (.cst (.int (-1))))) (.nil)) (.nil)) (.cons (.asgV 7 (.cst (.int 0))) (.cons (.for_ [8] [8] (.il (.var 1)) (.cons (.ifs (.eq false (.ix (.var 8) (.cst (.int 0))) (.ix (.var 6) (.cst (.int 0)))) (.cons (.asgV 7 (.ix (.var 8) (.cst (.int 1)))) (.nil)) (.nil)) (.nil))) (.cons (.ifs (.cmp .gt (.ix (.var 6) (.cst (.int 1))) (.var 7)) (.cons (.ret (.im (.cst (.int (-1))))) (.nil)) (.nil)) (.cons (.asgV 5 (.ix (.var 6) (.cst (.int 0)))) (.cons (.asgV 3 (.bin .sub (.var 3) (.bin .mul (.ix (.var 6) (.cst (.int 0))) (.ix (.var 6) (.cst (.int 1)))))) (.cons (.asgV 4 (.bin .add (.var 4) (.ix (.var 6) (.cst (.int 1))))) (.nil)))))))))) (.cons (.ifs (.eq true (.var 3) (.cst (.int 0))) (.cons (.ret (.im (.cst (.int (-1))))) (.nil)) (.nil)) (.cons (.ret (.im (.var 4))) (.nil)))))))
abbrev n_l_change : List Str := ["_law_found", "_law_till", "_law_due", "_law_left", "_law_many", "_law_last", "_law_pair", "_law_there", "_law_one"]
theorem dv_l_change {ph_l_whole : List D → Option Out} {ph_l_change : List D → Option Out} {f : Addr} {fd : FuncData} (F : Fun K "_law_change" "_law_change" s_l_change f fd) (gm : mg "_law_change" = some (.ref f)) (bd : Binds K fd ["_law_found", "_law_till", "_law_due"] []) (bi : Bi mg) (cl : Cls' K mg ca xsL ysL) (c_l_whole : Cal P w K mg base ca "_law_whole" ph_l_whole 1)
    (ar : ∀ ds o, ph_l_change ds = some o → ds.length = 3) (wp : ∀ ds o, ph_l_change ds = some o → wpSs ⟨[ph_l_whole], ca, xsL, none⟩ g_l_change (gdOf o) (startE n_l_change ds)) :
    Cal P w K mg base ca "_law_change" ph_l_change 2 :=
  fn_data (T := ⟨[ph_l_whole], ca, xsL, none⟩) (g := g_l_change) F gm bd sc_l_change ar (fun cdv A outer s H E hr => by
    have hu := hr.units
    exact psx_cons (psx_if (pt_n (pt_v (px_isList bi (px_var 0)))) (psx_cons (psx_ret (px_r (px_negc (by decide)))) (psx_nil)) (psx_nil)) (psx_cons (psx_asgV (ps_set (i := 3) sc_l_change.nd rfl (by first | exact Or.inl rfl | exact Or.inr rfl) (px_var 2))) (psx_cons (psx_asgV (ps_set (i := 4) sc_l_change.nd rfl (by first | exact Or.inl rfl | exact Or.inr rfl) (px_int))) (psx_cons (psx_asgV (ps_set (i := 5) sc_l_change.nd rfl (by first | exact Or.inl rfl | exact Or.inr rfl) (px_int))) (psx_cons (psx_for (ws := [6, 7, 8]) (ts := [6]) (gx := (gName 6)) (passes_of rfl) rfl (pix_list (px_var 0)) (pg_name (i := 6) sc_l_change.nd rfl (by first | exact Or.inl rfl | exact Or.inr rfl)) (psx_cons (psx_if (PW.pt (pw_o (pt_n (pt_v (px_isTuple bi (px_var 6)))) (pw_o (pt_ne hu (px_len bi (px_var 6)) (px_int)) (pw_o (pt_n (pt_v (px_call (c_l_whole.at hr) (takes_of rfl rfl rfl rfl) (pax_cons (px_ix (px_var 6) (px_int)) (pax_nil))))) (pw_o1 (pt_n (pt_v (px_call (c_l_whole.at hr) (takes_of rfl rfl rfl rfl) (pax_cons (px_ix (px_var 6) (px_int)) (pax_nil)))))))))) (psx_cons (psx_ret (px_r (px_negc (by decide)))) (psx_nil)) (psx_nil)) (psx_cons (psx_if (PW.pt (pw_o (pt_le (px_ix (px_var 6) (px_int)) (px_var 5)) (pw_o1 (pt_lt (px_ix (px_var 6) (px_int)) (px_int))))) (psx_cons (psx_ret (px_r (px_negc (by decide)))) (psx_nil)) (psx_nil)) (psx_cons (psx_asgV (ps_set (i := 7) sc_l_change.nd rfl (by first | exact Or.inl rfl | exact Or.inr rfl) (px_int))) (psx_cons (psx_for (ws := [8]) (ts := [8]) (gx := (gName 8)) (passes_of rfl) rfl (pix_list (px_var 1)) (pg_name (i := 8) sc_l_change.nd rfl (by first | exact Or.inl rfl | exact Or.inr rfl)) (psx_cons (psx_if (pt_eq hu (px_ix (px_var 8) (px_int)) (px_ix (px_var 6) (px_int))) (psx_cons (psx_asgV (ps_set (i := 7) sc_l_change.nd rfl (by first | exact Or.inl rfl | exact Or.inr rfl) (px_ix (px_var 8) (px_int)))) (psx_nil)) (psx_nil)) (psx_nil))) (psx_cons (psx_if (pt_gt (px_ix (px_var 6) (px_int)) (px_var 7)) (psx_cons (psx_ret (px_r (px_negc (by decide)))) (psx_nil)) (psx_nil)) (psx_cons (psx_asgV (ps_set (i := 5) sc_l_change.nd rfl (by first | exact Or.inl rfl | exact Or.inr rfl) (px_ix (px_var 6) (px_int)))) (psx_cons (psx_asgV (ps_set (i := 3) sc_l_change.nd rfl (by first | exact Or.inl rfl | exact Or.inr rfl) (px_sub (px_var 3) (px_mul (px_ix (px_var 6) (px_int)) (px_ix (px_var 6) (px_int)))))) (psx_cons (psx_asgV (ps_set (i := 4) sc_l_change.nd rfl (by first | exact Or.inl rfl | exact Or.inr rfl) (px_add (px_var 4) (px_ix (px_var 6) (px_int))))) (psx_nil)))))))))) (psx_cons (psx_if (pt_ne hu (px_var 3) (px_int)) (psx_cons (psx_ret (px_r (px_negc (by decide)))) (psx_nil)) (psx_nil)) (psx_cons (psx_ret (px_r (px_var 4))) (psx_nil)))))))) wp

/-! ### law_known -/
abbrev s_l_known : Stmt := topS 51
theorem sc_l_known : FnScope ["_law_values", "_law_drawn", "_law_strange"] ["_law_values", "_law_drawn"] (defScope s_l_known) := ⟨rfl, rfl, rfl, by decide +kernel, rfl, by decide +kernel, by decide +kernel⟩
def g_l_known : GSs := .cons (.asgS 2 (.f (.lst (.cons (.cst (.int 0)) (.cons (.cst (.int 1001)) (.cons (.bin .add (.cst (.int 7)) (.bin .mod (.var 1) (.cst (.int 990)))) (.cons (.cst (.int (-3))) (.cons (.cst (.int 1000)) (.cons (.bin .add (.cst (.int 1)) (.bin .mod (.var 1) (.cst (.int 30)))) (.nil)))))))))) (.cons (.ifs (.or (.eq false (.bin .mod (.bin .div (.var 1) (.cst (.int 11))) (.cst (.int 9))) (.cst (.int 1))) (.eq false (.len (.var 0)) (.cst (.int 0)))) (.cons (.ret (.im (.ix (.var 2) (.bin .mod (.bin .div (.var 1) (.cst (.int 99))) (.cst (.int 6)))))) (.nil)) (.nil)) (.cons (.ret (.im (.ix (.var 0) (.bin .mod (.bin .div (.var 1) (.cst (.int 99))) (.len (.var 0)))))) (.nil)))
abbrev n_l_known : List Str := ["_law_values", "_law_drawn", "_law_strange"]
theorem dv_l_known {ph_l_known : List D → Option Out} {f : Addr} {fd : FuncData} (F : Fun K "_law_known" "_law_known" s_l_known f fd) (gm : mg "_law_known" = some (.ref f)) (bd : Binds K fd ["_law_values", "_law_drawn"] []) (bi : Bi mg) (cl : Cls' K mg ca xsL ysL)
    (ar : ∀ ds o, ph_l_known ds = some o → ds.length = 2) (wp : ∀ ds o, ph_l_known ds = some o → wpSs ⟨[], ca, xsL, none⟩ g_l_known (gdOf o) (startE n_l_known ds)) :
    Cal P w K mg base ca "_law_known" ph_l_known 1 :=
  fn_data (T := ⟨[], ca, xsL, none⟩) (g := g_l_known) F gm bd sc_l_known ar (fun cdv A outer s H E hr => by
    have hu := hr.units
    exact psx_cons (psx_asgS (ps_set (i := 2) sc_l_known.nd rfl (by first | exact Or.inl rfl | exact Or.inr rfl) (px_f (pf_lst (pax_cons (px_int) (pax_cons (px_int) (pax_cons (px_add (px_int) (px_mod (px_var 1) (px_int))) (pax_cons (px_negc (by decide)) (pax_cons (px_int) (pax_cons (px_add (px_int) (px_mod (px_var 1) (px_int))) (pax_nil))))))))))) (psx_cons (psx_if (PW.pt (pw_o (pt_eq hu (px_mod (px_div (px_var 1) (px_int)) (px_int)) (px_int)) (pw_o1 (pt_eq hu (px_len bi (px_var 0)) (px_int))))) (psx_cons (psx_ret (px_r (px_ix (px_var 2) (px_mod (px_div (px_var 1) (px_int)) (px_int))))) (psx_nil)) (psx_nil)) (psx_cons (psx_ret (px_r (px_ix (px_var 0) (px_mod (px_div (px_var 1) (px_int)) (px_len bi (px_var 0)))))) (psx_nil)))) wp

/-! ### law_deed -/
abbrev s_l_deed : Stmt := topS 52
theorem sc_l_deed : FnScope ["_law_cell", "_law_values", "_law_k", "_law_drawn", "_law_value_here", "_law_count_here", "_law_which", "_law_given", "_law_many", "_law_turn", "_law_near", "_law_far", "_law_beyond", "_law_price"] ["_law_cell", "_law_values", "_law_k"] (defScope s_l_deed) := ⟨rfl, rfl, rfl, by decide +kernel, rfl, by decide +kernel, by decide +kernel⟩
def g_l_deed : GSs := .cons (.asgV 3 (.call 0 (.cons (.var 0) (.cons (.cst (.int 1)) (.nil))))) (.cons (.asgV 4 (.call 1 (.cons (.var 1) (.cons (.call 0 (.cons (.var 0) (.cons (.cst (.int 2)) (.nil)))) (.nil))))) (.cons (.asgV 5 (.ix (.f (.lst (.cons (.bin .mod (.bin .div (.var 3) (.cst (.int 64))) (.cst (.int 9))) (.cons (.bin .mod (.bin .div (.var 3) (.cst (.int 64))) (.cst (.int 60))) (.cons (.cst (.int 0)) (.cons (.cst (.int (-1))) (.cons (.cst (.int 1000000000)) (.cons (.bin .add (.cst (.int 1000000000)) (.cst (.int 1))) (.cons (.bin .mod (.bin .div (.var 3) (.cst (.int 64))) (.cst (.int 4))) (.cons (.cst (.int 1)) (.nil))))))))))) (.bin .mod (.bin .div (.var 3) (.cst (.int 8))) (.cst (.int 8))))) (.cons (.asgV 6 (.bin .mod (.var 0) (.cst (.int 12)))) (.cons (.ifs (.cmp .lt (.var 6) (.cst (.int 6))) (.cons (.asgF 7 (.lst (.nil))) (.cons (.asgV 8 (.bin .mod (.bin .div (.var 3) (.cst (.int 8))) (.cst (.int 7)))) (.cons (.ifs (.eq false (.bin .mod (.bin .div (.var 3) (.cst (.int 56))) (.cst (.int 12))) (.cst (.int 1))) (.cons (.asgV 8 (.bin .add (.cst (.int 7)) (.bin .mod (.bin .div (.var 3) (.cst (.int 672))) (.cst (.int 56))))) (.nil)) (.nil)) (.cons (.for_ [9] [9] (.i1 (.var 8)) (.cons (.appV 7 (.call 1 (.cons (.var 1) (.cons (.call 0 (.cons (.var 0) (.cons (.bin .add (.cst (.int 3)) (.var 9)) (.nil)))) (.nil))))) (.nil))) (.cons (.asgV 10 (.mx (.cst (.int 0)) (.bin .sub (.sum (.var 7)) (.bin .mod (.bin .div (.var 3) (.cst (.int 64))) (.cst (.int 40)))))) (.cons (.asgV 11 (.mx (.cst (.int 0)) (.bin .sub (.sum (.var 7)) (.bin .mod (.bin .div (.var 3) (.cst (.int 64))) (.ix (.f (.lst (.cons (.cst (.int 40)) (.cons (.cst (.int 120)) (.nil))))) (.int (.eq false (.bin .mod (.var 2) (.cst (.int 12))) (.cst (.int 5))))))))) (.cons (.asgV 12 (.bin .add (.sum (.var 7)) (.cst (.int 1)))) (.cons (.ifs (.cmp .gt (.sum (.var 7)) (.cst (.int 1000))) (.cons (.asgV 12 (.bin .sub (.sum (.var 7)) (.cst (.int 1001)))) (.nil)) (.nil)) (.cons (.asgV 13 (.ix (.f (.lst (.cons (.var 10) (.cons (.var 12) (.cons (.var 11) (.cons (.cst (.int (-1))) (.cons (.cst (.int 1001)) (.cons (.sum (.var 7)) (.nil))))))))) (.bin .mod (.bin .div (.var 3) (.cst (.int 512))) (.cst (.int 6))))) (.cons (.retA "paid" (.var 13) 7) (.nil))))))))))) (.nil)) (.cons (.ifs (.cmp .lt (.var 6) (.cst (.int 8))) (.cons (.ret (.im (.tup (.cons (.cst (.str "brought")) (.cons (.var 4) (.cons (.var 5) (.nil))))))) (.nil)) (.nil)) (.cons (.ifs (.cmp .lt (.var 6) (.cst (.int 10))) (.cons (.ret (.im (.tup (.cons (.cst (.str "fetched")) (.cons (.var 4) (.cons (.var 5) (.nil))))))) (.nil)) (.nil)) (.cons (.ifs (.eq false (.bin .mod (.var 3) (.cst (.int 16))) (.cst (.int 1))) (.cons (.ret (.im (.tcat (.tup (.cons (.ix (.f (.lst (.cons (.cst (.str "Paid")) (.cons (.cst (.str "")) (.cons (.cst (.str "take")) (.cons (.cst (.str "ins")) (.nil))))))) (.bin .mod (.bin .div (.var 3) (.cst (.int 16))) (.cst (.int 4)))) (.nil))) (.tslTo (.tup (.cons (.var 4) (.cons (.var 5) (.cons (.cst (.int 1)) (.nil))))) (.bin .mod (.bin .div (.var 3) (.cst (.int 64))) (.cst (.int 4))))))) (.nil)) (.nil)) (.cons (.ifs (.eq false (.var 6) (.cst (.int 10))) (.cons (.ret (.im (.tup (.cons (.cst (.str "in")) (.cons (.ix (.f (.lst (.cons (.var 4) (.cons (.bin .add (.cst (.int 1)) (.bin .mod (.bin .div (.var 3) (.cst (.int 16))) (.cst (.int 60)))) (.nil))))) (.bin .mod (.var 3) (.cst (.int 2)))) (.nil)))))) (.nil)) (.nil)) (.cons (.ret (.im (.tup (.cons (.cst (.str "out")) (.cons (.var 4) (.nil)))))) (.nil))))))))))
abbrev n_l_deed : List Str := ["_law_cell", "_law_values", "_law_k", "_law_drawn", "_law_value_here", "_law_count_here", "_law_which", "_law_given", "_law_many", "_law_turn", "_law_near", "_law_far", "_law_beyond", "_law_price"]
theorem dv_l_deed {ph_l_mixed : List D → Option Out} {ph_l_known : List D → Option Out} {ph_l_deed : List D → Option Out} {f : Addr} {fd : FuncData} (F : Fun K "_law_deed" "_law_deed" s_l_deed f fd) (gm : mg "_law_deed" = some (.ref f)) (bd : Binds K fd ["_law_cell", "_law_values", "_law_k"] []) (bi : Bi mg) (cl : Cls' K mg ca xsL ysL) (c_l_mixed : Cal P w K mg base ca "_law_mixed" ph_l_mixed 1) (c_l_known : Cal P w K mg base ca "_law_known" ph_l_known 1)
    (ar : ∀ ds o, ph_l_deed ds = some o → ds.length = 3) (wp : ∀ ds o, ph_l_deed ds = some o → wpSs ⟨[ph_l_mixed, ph_l_known], ca, xsL, none⟩ g_l_deed (gdOf o) (startE n_l_deed ds)) :
    Cal P w K mg base ca "_law_deed" ph_l_deed 2 :=
  fn_data (T := ⟨[ph_l_mixed, ph_l_known], ca, xsL, none⟩) (g := g_l_deed) F gm bd sc_l_deed ar (fun cdv A outer s H E hr => by
    have hu := hr.units
    exact psx_cons (psx_asgV (ps_set (i := 3) sc_l_deed.nd rfl (by first | exact Or.inl rfl | exact Or.inr rfl) (px_call (c_l_mixed.at hr) (takes_of rfl rfl rfl rfl) (pax_cons (px_var 0) (pax_cons (px_int) (pax_nil)))))) (psx_cons (psx_asgV (ps_set (i := 4) sc_l_deed.nd rfl (by first | exact Or.inl rfl | exact Or.inr rfl) (px_call (c_l_known.at hr) (takes_of rfl rfl rfl rfl) (pax_cons (px_var 1) (pax_cons (px_call (c_l_mixed.at hr) (takes_of rfl rfl rfl rfl) (pax_cons (px_var 0) (pax_cons (px_int) (pax_nil)))) (pax_nil)))))) (psx_cons (psx_asgV (ps_set (i := 5) sc_l_deed.nd rfl (by first | exact Or.inl rfl | exact Or.inr rfl) (px_ix (px_f (pf_lst (pax_cons (px_mod (px_div (px_var 3) (px_int)) (px_int)) (pax_cons (px_mod (px_div (px_var 3) (px_int)) (px_int)) (pax_cons (px_int) (pax_cons (px_negc (by decide)) (pax_cons (px_pow (by unfold CPow; decide) (by decide)) (pax_cons (px_add (px_pow (by unfold CPow; decide) (by decide)) (px_int)) (pax_cons (px_mod (px_div (px_var 3) (px_int)) (px_int)) (pax_cons (px_int) (pax_nil))))))))))) (px_mod (px_div (px_var 3) (px_int)) (px_int))))) (psx_cons (psx_asgV (ps_set (i := 6) sc_l_deed.nd rfl (by first | exact Or.inl rfl | exact Or.inr rfl) (px_mod (px_var 0) (px_int)))) (psx_cons (psx_if (pt_lt (px_var 6) (px_int)) (psx_cons (psx_asgF (ps_set (i := 7) sc_l_deed.nd rfl (by first | exact Or.inl rfl | exact Or.inr rfl) (pf_lst (pax_nil)))) (psx_cons (psx_asgV (ps_set (i := 8) sc_l_deed.nd rfl (by first | exact Or.inl rfl | exact Or.inr rfl) (px_mod (px_div (px_var 3) (px_int)) (px_int)))) (psx_cons (psx_if (pt_eq hu (px_mod (px_div (px_var 3) (px_int)) (px_int)) (px_int)) (psx_cons (psx_asgV (ps_set (i := 8) sc_l_deed.nd rfl (by first | exact Or.inl rfl | exact Or.inr rfl) (px_add (px_int) (px_mod (px_div (px_var 3) (px_int)) (px_int))))) (psx_nil)) (psx_nil)) (psx_cons (psx_for (ws := [9]) (ts := [9]) (gx := (gName 9)) (passes_of rfl) rfl (pix_range1 bi (px_var 8)) (pg_name (i := 9) sc_l_deed.nd rfl (by first | exact Or.inl rfl | exact Or.inr rfl)) (psx_cons (psx_appV (ps_expr (pe_bm PySem.F.plainAttrs_list PySem.F.slot_list_append PySem.F.type_list_append mt_append (pv 7) (pa_cons (px_call (c_l_known.at hr) (takes_of rfl rfl rfl rfl) (pax_cons (px_var 1) (pax_cons (px_call (c_l_mixed.at hr) (takes_of rfl rfl rfl rfl) (pax_cons (px_var 0) (pax_cons (px_add (px_int) (px_var 9)) (pax_nil)))) (pax_nil)))) pa_nil)))) (psx_nil))) (psx_cons (psx_asgV (ps_set (i := 10) sc_l_deed.nd rfl (by first | exact Or.inl rfl | exact Or.inr rfl) (px_mx bi rfl (px_int) (px_sub (px_sum bi rfl (px_var 7)) (px_mod (px_div (px_var 3) (px_int)) (px_int)))))) (psx_cons (psx_asgV (ps_set (i := 11) sc_l_deed.nd rfl (by first | exact Or.inl rfl | exact Or.inr rfl) (px_mx bi rfl (px_int) (px_sub (px_sum bi rfl (px_var 7)) (px_mod (px_div (px_var 3) (px_int)) (px_ix (px_f (pf_lst (pax_cons (px_int) (pax_cons (px_int) (pax_nil))))) (px_toint bi (px_eq hu (px_mod (px_var 2) (px_int)) (px_int))))))))) (psx_cons (psx_asgV (ps_set (i := 12) sc_l_deed.nd rfl (by first | exact Or.inl rfl | exact Or.inr rfl) (px_add (px_sum bi rfl (px_var 7)) (px_int)))) (psx_cons (psx_if (pt_gt (px_sum bi rfl (px_var 7)) (px_int)) (psx_cons (psx_asgV (ps_set (i := 12) sc_l_deed.nd rfl (by first | exact Or.inl rfl | exact Or.inr rfl) (px_sub (px_sum bi rfl (px_var 7)) (px_int)))) (psx_nil)) (psx_nil)) (psx_cons (psx_asgV (ps_set (i := 13) sc_l_deed.nd rfl (by first | exact Or.inl rfl | exact Or.inr rfl) (px_ix (px_f (pf_lst (pax_cons (px_var 10) (pax_cons (px_var 12) (pax_cons (px_var 11) (pax_cons (px_negc (by decide)) (pax_cons (px_int) (pax_cons (px_sum bi rfl (px_var 7)) (pax_nil))))))))) (px_mod (px_div (px_var 3) (px_int)) (px_int))))) (psx_cons (psx_retA (px_var 13) (pv 7)) (psx_nil))))))))))) (psx_nil)) (psx_cons (psx_if (pt_lt (px_var 6) (px_int)) (psx_cons (psx_ret (px_r (px_tup (pax_cons (px_str) (pax_cons (px_var 4) (pax_cons (px_var 5) (pax_nil))))))) (psx_nil)) (psx_nil)) (psx_cons (psx_if (pt_lt (px_var 6) (px_int)) (psx_cons (psx_ret (px_r (px_tup (pax_cons (px_str) (pax_cons (px_var 4) (pax_cons (px_var 5) (pax_nil))))))) (psx_nil)) (psx_nil)) (psx_cons (psx_if (pt_eq hu (px_mod (px_var 3) (px_int)) (px_int)) (psx_cons (psx_ret (px_r (px_tcat (px_tup (pax_cons (px_ix (px_f (pf_lst (pax_cons (px_str) (pax_cons (px_str) (pax_cons (px_str) (pax_cons (px_str) (pax_nil))))))) (px_mod (px_div (px_var 3) (px_int)) (px_int))) (pax_nil))) (px_tslTo (px_tup (pax_cons (px_var 4) (pax_cons (px_var 5) (pax_cons (px_int) (pax_nil))))) (px_mod (px_div (px_var 3) (px_int)) (px_int)))))) (psx_nil)) (psx_nil)) (psx_cons (psx_if (pt_eq hu (px_var 6) (px_int)) (psx_cons (psx_ret (px_r (px_tup (pax_cons (px_str) (pax_cons (px_ix (px_f (pf_lst (pax_cons (px_var 4) (pax_cons (px_add (px_int) (px_mod (px_div (px_var 3) (px_int)) (px_int))) (pax_nil))))) (px_mod (px_var 3) (px_int))) (pax_nil)))))) (psx_nil)) (psx_nil)) (psx_cons (psx_ret (px_r (px_tup (pax_cons (px_str) (pax_cons (px_var 4) (pax_nil)))))) (psx_nil))))))))))) wp

/-! ### law_moved -/
abbrev s_l_moved : Stmt := topS 53
theorem sc_l_moved : FnScope ["_law_held", "_law_deed_here", "_law_value_here", "_law_count_here"] ["_law_held", "_law_deed_here"] (defScope s_l_moved) := ⟨rfl, rfl, rfl, by decide +kernel, rfl, by decide +kernel, by decide +kernel⟩
def g_l_moved : GSs := .cons (.asgV 2 (.ix (.var 1) (.cst (.int 1)))) (.cons (.ifs (.ind true (.var 2) 0) (.cons (.retP (.cst (.str "no kind"))) (.nil)) (.nil)) (.cons (.asgV 3 (.ix (.var 1) (.cst (.int 2)))) (.cons (.ifs (.or (.cmp .lt (.var 3) (.cst (.int 0))) (.or (.cmp .gt (.var 3) (.cst (.int 1000000000))) (.and (.eq false (.ix (.var 1) (.cst (.int 0))) (.cst (.str "brought"))) (.cmp .gt (.bin .add (.dix 0 (.var 2)) (.var 3)) (.cst (.int 1000000000)))))) (.cons (.retP (.cst (.str "no count"))) (.nil)) (.nil)) (.cons (.ifs (.and (.eq false (.ix (.var 1) (.cst (.int 0))) (.cst (.str "fetched"))) (.cmp .gt (.var 3) (.dix 0 (.var 2)))) (.cons (.retP (.cst (.str "too few"))) (.nil)) (.nil)) (.cons (.dsetP 0 (.var 2) (.bin .add (.dix 0 (.var 2)) (.ix (.f (.lst (.cons (.var 3) (.cons (.bin .sub (.cst (.int 0)) (.var 3)) (.nil))))) (.int (.eq false (.ix (.var 1) (.cst (.int 0))) (.cst (.str "fetched"))))))) (.cons (.retP (.cst (.str "done"))) (.nil)))))))
abbrev n_l_moved : List Str := ["_law_held", "_law_deed_here", "_law_value_here", "_law_count_here"]
theorem dv_l_moved {ph_l_moved : List D → Option Out} {f : Addr} {fd : FuncData} (F : Fun K "_law_moved" "_law_moved" s_l_moved f fd) (gm : mg "_law_moved" = some (.ref f)) (bd : Binds K fd ["_law_held", "_law_deed_here"] []) (bi : Bi mg) (cl : Cls' K mg ca xsL ysL)
    (ar : ∀ ds o, ph_l_moved ds = some o → ds.length = 2) (wp : ∀ c ds q c' x, ph_l_moved (c.enc :: ds) = some (.mu q c' x) → ∀ p, wpSs ⟨[], ca, xsL, none⟩ g_l_moved (gdM p c' x) (startM n_l_moved p c ds)) :
    CalM P w K mg base ca "_law_moved" ph_l_moved 1 :=
  fn_dataM (T := ⟨[], ca, xsL, none⟩) (g := g_l_moved) F gm bd sc_l_moved ar (by decide) (fun cdv A outer s H E hr => by
    have hu := hr.units
    exact psx_cons (psx_asgV (ps_set (i := 2) sc_l_moved.nd rfl (by first | exact Or.inl rfl | exact Or.inr rfl) (px_ix (px_var 1) (px_int)))) (psx_cons (psx_if (pt_nind hu (px_var 2) (pv 0)) (psx_cons (psx_retP (px_str)) (psx_nil)) (psx_nil)) (psx_cons (psx_asgV (ps_set (i := 3) sc_l_moved.nd rfl (by first | exact Or.inl rfl | exact Or.inr rfl) (px_ix (px_var 1) (px_int)))) (psx_cons (psx_if (PW.pt (pw_o (pt_lt (px_var 3) (px_int)) (pw_o (pt_gt (px_var 3) (px_pow (by unfold CPow; decide) (by decide))) (pw_o1 (PW.pt (pw_a (pt_eq hu (px_ix (px_var 1) (px_int)) (px_str)) (pw_a1 (pt_gt (px_add (px_dix hu (px_var 2) (pv 0)) (px_var 3)) (px_pow (by unfold CPow; decide) (by decide)))))))))) (psx_cons (psx_retP (px_str)) (psx_nil)) (psx_nil)) (psx_cons (psx_if (PW.pt (pw_a (pt_eq hu (px_ix (px_var 1) (px_int)) (px_str)) (pw_a1 (pt_gt (px_var 3) (px_dix hu (px_var 2) (pv 0)))))) (psx_cons (psx_retP (px_str)) (psx_nil)) (psx_nil)) (psx_cons (psx_dsetP (ps_dput (Nat.lt_of_le_of_lt (Nat.add_le_add_left (by decide) _) hu) (pv 0) (px_var 2) (px_add (px_dix hu (px_var 2) (pv 0)) (px_ix (px_f (pf_lst (pax_cons (px_var 3) (pax_cons (px_sub (px_int) (px_var 3)) (pax_nil))))) (px_toint bi (px_eq hu (px_ix (px_var 1) (px_int)) (px_str))))) (by rfl))) (psx_cons (psx_retP (px_str)) (psx_nil)))))))) wp

/-! ### law_kind -/
abbrev s_l_kind : Stmt := topS 54
theorem sc_l_kind : FnScope ["_law_held", "_law_deed_here", "_law_value_here"] ["_law_held", "_law_deed_here"] (defScope s_l_kind) := ⟨rfl, rfl, rfl, by decide +kernel, rfl, by decide +kernel, by decide +kernel⟩
def g_l_kind : GSs := .cons (.asgV 2 (.ix (.var 1) (.cst (.int 1)))) (.cons (.ifs (.eq false (.ix (.var 1) (.cst (.int 0))) (.cst (.str "in"))) (.cons (.ifs (.or (.cmp .lt (.var 2) (.cst (.int 1))) (.cmp .gt (.var 2) (.cst (.int 1000)))) (.cons (.retP (.cst (.str "no kind"))) (.nil)) (.nil)) (.cons (.ifs (.ind false (.var 2) 0) (.cons (.retP (.cst (.str "twice"))) (.nil)) (.nil)) (.cons (.ifs (.eq false (.dlen 0) (.cst (.int 10))) (.cons (.retP (.cst (.str "no till"))) (.nil)) (.nil)) (.cons (.dsetP 0 (.var 2) (.cst (.int 0))) (.cons (.retP (.cst (.str "done"))) (.nil)))))) (.nil)) (.cons (.ifs (.ind true (.var 2) 0) (.cons (.retP (.cst (.str "no kind"))) (.nil)) (.nil)) (.cons (.ifs (.cmp .gt (.dix 0 (.var 2)) (.cst (.int 0))) (.cons (.retP (.cst (.str "still held"))) (.nil)) (.nil)) (.cons (.ifs (.eq false (.dlen 0) (.cst (.int 1))) (.cons (.retP (.cst (.str "no till"))) (.nil)) (.nil)) (.cons (.dpopP 0 (.var 2)) (.cons (.retP (.cst (.str "done"))) (.nil)))))))
abbrev n_l_kind : List Str := ["_law_held", "_law_deed_here", "_law_value_here"]
theorem dv_l_kind {ph_l_kind : List D → Option Out} {f : Addr} {fd : FuncData} (F : Fun K "_law_kind" "_law_kind" s_l_kind f fd) (gm : mg "_law_kind" = some (.ref f)) (bd : Binds K fd ["_law_held", "_law_deed_here"] []) (bi : Bi mg) (cl : Cls' K mg ca xsL ysL)
    (ar : ∀ ds o, ph_l_kind ds = some o → ds.length = 2) (wp : ∀ c ds q c' x, ph_l_kind (c.enc :: ds) = some (.mu q c' x) → ∀ p, wpSs ⟨[], ca, xsL, none⟩ g_l_kind (gdM p c' x) (startM n_l_kind p c ds)) :
    CalM P w K mg base ca "_law_kind" ph_l_kind 1 :=
  fn_dataM (T := ⟨[], ca, xsL, none⟩) (g := g_l_kind) F gm bd sc_l_kind ar (by decide) (fun cdv A outer s H E hr => by
    have hu := hr.units
    exact psx_cons (psx_asgV (ps_set (i := 2) sc_l_kind.nd rfl (by first | exact Or.inl rfl | exact Or.inr rfl) (px_ix (px_var 1) (px_int)))) (psx_cons (psx_if (pt_eq hu (px_ix (px_var 1) (px_int)) (px_str)) (psx_cons (psx_if (PW.pt (pw_o (pt_lt (px_var 2) (px_int)) (pw_o1 (pt_gt (px_var 2) (px_int))))) (psx_cons (psx_retP (px_str)) (psx_nil)) (psx_nil)) (psx_cons (psx_if (pt_ind hu (px_var 2) (pv 0)) (psx_cons (psx_retP (px_str)) (psx_nil)) (psx_nil)) (psx_cons (psx_if (pt_eq hu (px_dlen bi (pv 0)) (px_int)) (psx_cons (psx_retP (px_str)) (psx_nil)) (psx_nil)) (psx_cons (psx_dsetP (ps_dput (Nat.lt_of_le_of_lt (Nat.add_le_add_left (by decide) _) hu) (pv 0) (px_var 2) (px_int) (by rfl))) (psx_cons (psx_retP (px_str)) (psx_nil)))))) (psx_nil)) (psx_cons (psx_if (pt_nind hu (px_var 2) (pv 0)) (psx_cons (psx_retP (px_str)) (psx_nil)) (psx_nil)) (psx_cons (psx_if (pt_gt (px_dix hu (px_var 2) (pv 0)) (px_int)) (psx_cons (psx_retP (px_str)) (psx_nil)) (psx_nil)) (psx_cons (psx_if (pt_eq hu (px_dlen bi (pv 0)) (px_int)) (psx_cons (psx_retP (px_str)) (psx_nil)) (psx_nil)) (psx_cons (psx_dpopP (ps_expr (pe_dpop1 (pv 0) (px_var 2) ⟨rfl, rfl, rfl, rfl⟩))) (psx_cons (psx_retP (px_str)) (psx_nil)))))))) wp

/-! ### law_unpaid -/
abbrev s_l_unpaid : Stmt := topS 55
theorem sc_l_unpaid : FnScope ["_law_held", "_law_deed_here", "_law_k", "_law_value_here"] ["_law_held", "_law_deed_here"] (defScope s_l_unpaid) := ⟨rfl, rfl, rfl, by decide +kernel, rfl, by decide +kernel, by decide +kernel⟩
def g_l_unpaid : GSs := .cons (.ifs (.or (.cmp .lt (.ix (.var 1) (.cst (.int 1))) (.cst (.int 0))) (.cmp .gt (.ix (.var 1) (.cst (.int 1))) (.cst (.int 1000)))) (.cons (.retP (.cst (.str "no sum"))) (.nil)) (.nil)) (.cons (.ifs (.cmp .gt (.len (.ix (.var 1) (.cst (.int 2)))) (.cst (.int 60))) (.cons (.retP (.cst (.str "no count"))) (.nil)) (.nil)) (.cons (.for_ [2, 3] [2] (.i1 (.len (.ix (.var 1) (.cst (.int 2))))) (.cons (.asgV 3 (.ix (.ix (.var 1) (.cst (.int 2))) (.var 2))) (.cons (.ifs (.ind true (.var 3) 0) (.cons (.retP (.cst (.str "no kind"))) (.nil)) (.nil)) (.cons (.ifs (.eq false (.bin .add (.dix 0 (.var 3)) (.cnt (.f (.slTo (.ix (.var 1) (.cst (.int 2))) (.var 2))) (.var 3))) (.cst (.int 1000000000))) (.cons (.retP (.cst (.str "no count"))) (.nil)) (.nil)) (.nil))))) (.cons (.ifs (.cmp .lt (.sum (.ix (.var 1) (.cst (.int 2)))) (.ix (.var 1) (.cst (.int 1)))) (.cons (.retP (.cst (.str "too little"))) (.nil)) (.nil)) (.cons (.ifs (.cmp .gt (.bin .sub (.sum (.ix (.var 1) (.cst (.int 2)))) (.ix (.var 1) (.cst (.int 1)))) (.cst (.int 1000))) (.cons (.retP (.cst (.str "no sum"))) (.nil)) (.nil)) (.cons (.retP (.cst (.str ""))) (.nil))))))
abbrev n_l_unpaid : List Str := ["_law_held", "_law_deed_here", "_law_k", "_law_value_here"]
theorem dv_l_unpaid {ph_l_unpaid : List D → Option Out} {f : Addr} {fd : FuncData} (F : Fun K "_law_unpaid" "_law_unpaid" s_l_unpaid f fd) (gm : mg "_law_unpaid" = some (.ref f)) (bd : Binds K fd ["_law_held", "_law_deed_here"] []) (bi : Bi mg) (cl : Cls' K mg ca xsL ysL)
    (ar : ∀ ds o, ph_l_unpaid ds = some o → ds.length = 2) (wp : ∀ c ds q c' x, ph_l_unpaid (c.enc :: ds) = some (.mu q c' x) → ∀ p, wpSs ⟨[], ca, xsL, none⟩ g_l_unpaid (gdM p c' x) (startM n_l_unpaid p c ds)) :
    CalM P w K mg base ca "_law_unpaid" ph_l_unpaid 1 :=
  fn_dataM (T := ⟨[], ca, xsL, none⟩) (g := g_l_unpaid) F gm bd sc_l_unpaid ar (by decide) (fun cdv A outer s H E hr => by
    have hu := hr.units
    exact psx_cons (psx_if (PW.pt (pw_o (pt_lt (px_ix (px_var 1) (px_int)) (px_int)) (pw_o1 (pt_gt (px_ix (px_var 1) (px_int)) (px_int))))) (psx_cons (psx_retP (px_str)) (psx_nil)) (psx_nil)) (psx_cons (psx_if (pt_gt (px_len bi (px_ix (px_var 1) (px_int))) (px_int)) (psx_cons (psx_retP (px_str)) (psx_nil)) (psx_nil)) (psx_cons (psx_for (ws := [2, 3]) (ts := [2]) (gx := (gName 2)) (passes_of rfl) rfl (pix_range1 bi (px_len bi (px_ix (px_var 1) (px_int)))) (pg_name (i := 2) sc_l_unpaid.nd rfl (by first | exact Or.inl rfl | exact Or.inr rfl)) (psx_cons (psx_asgV (ps_set (i := 3) sc_l_unpaid.nd rfl (by first | exact Or.inl rfl | exact Or.inr rfl) (px_ix (px_ix (px_var 1) (px_int)) (px_var 2)))) (psx_cons (psx_if (pt_nind hu (px_var 3) (pv 0)) (psx_cons (psx_retP (px_str)) (psx_nil)) (psx_nil)) (psx_cons (psx_if (pt_eq hu (px_add (px_dix hu (px_var 3) (pv 0)) (px_cnt (px_f (pf_slTo (px_ix (px_var 1) (px_int)) (px_var 2))) (px_var 3) (pe_bm PySem.F.plainAttrs_list PySem.F.slot_list_count PySem.F.type_list_count mt_lcount (px_f (pf_slTo (px_ix (px_var 1) (px_int)) (px_var 2))) (pa_cons (px_var 3) pa_nil)))) (px_pow (by unfold CPow; decide) (by decide))) (psx_cons (psx_retP (px_str)) (psx_nil)) (psx_nil)) (psx_nil))))) (psx_cons (psx_if (pt_lt (px_sum bi rfl (px_ix (px_var 1) (px_int))) (px_ix (px_var 1) (px_int))) (psx_cons (psx_retP (px_str)) (psx_nil)) (psx_nil)) (psx_cons (psx_if (pt_gt (px_sub (px_sum bi rfl (px_ix (px_var 1) (px_int))) (px_ix (px_var 1) (px_int))) (px_int)) (psx_cons (psx_retP (px_str)) (psx_nil)) (psx_nil)) (psx_cons (psx_retP (px_str)) (psx_nil))))))) wp

/-! ### law_exact -/
abbrev s_l_exact : Stmt := topS 56
theorem sc_l_exact : FnScope ["_law_rows", "_law_till", "_law_due", "_law_found", "_law_at", "_law_k", "_law_value_here", "_law_few", "_law_many"] ["_law_rows", "_law_till", "_law_due"] (defScope s_l_exact) := ⟨rfl, rfl, rfl, by decide +kernel, rfl, by decide +kernel, by decide +kernel⟩
def g_l_exact : GSs := .cons (.asgF 3 (.lst (.nil))) (.cons (.asgV 4 (.var 2)) (.cons (.for_ [5, 6, 7, 8] [5] (.idn (.len (.var 1))) (.cons (.asgV 6 (.ix (.ix (.var 1) (.bin .sub (.var 5) (.cst (.int 1)))) (.cst (.int 0)))) (.cons (.asgV 7 (.ix (.ix (.var 0) (.var 5)) (.var 4))) (.cons (.asgV 8 (.mn (.ix (.ix (.var 1) (.bin .sub (.var 5) (.cst (.int 1)))) (.cst (.int 1))) (.bin .div (.var 4) (.var 6)))) (.cons (.whl [] (.eq true (.ix (.ix (.var 0) (.bin .sub (.var 5) (.cst (.int 1)))) (.bin .sub (.var 4) (.bin .mul (.var 8) (.var 6)))) (.bin .sub (.var 7) (.var 8))) (.cons (.asgV 8 (.bin .sub (.var 8) (.cst (.int 1)))) (.nil))) (.cons (.ifs (.cmp .gt (.var 8) (.cst (.int 0))) (.cons (.appV 3 (.tup (.cons (.var 6) (.cons (.var 8) (.nil))))) (.nil)) (.nil)) (.cons (.asgV 4 (.bin .sub (.var 4) (.bin .mul (.var 8) (.var 6)))) (.nil)))))))) (.cons (.rev 3) (.cons (.retMv 3) (.nil)))))
abbrev n_l_exact : List Str := ["_law_rows", "_law_till", "_law_due", "_law_found", "_law_at", "_law_k", "_law_value_here", "_law_few", "_law_many"]
theorem dv_l_exact {ph_l_exact : List D → Option Out} {f : Addr} {fd : FuncData} (F : Fun K "_law_exact" "_law_exact" s_l_exact f fd) (gm : mg "_law_exact" = some (.ref f)) (bd : Binds K fd ["_law_rows", "_law_till", "_law_due"] []) (bi : Bi mg) (cl : Cls' K mg ca xsL ysL)
    (ar : ∀ ds o, ph_l_exact ds = some o → ds.length = 3) (wp : ∀ ds o, ph_l_exact ds = some o → wpSs ⟨[], ca, xsL, none⟩ g_l_exact (gdOf o) (startE n_l_exact ds)) :
    Cal P w K mg base ca "_law_exact" ph_l_exact 1 :=
  fn_data (T := ⟨[], ca, xsL, none⟩) (g := g_l_exact) F gm bd sc_l_exact ar (fun cdv A outer s H E hr => by
    have hu := hr.units
    exact psx_cons (psx_asgF (ps_set (i := 3) sc_l_exact.nd rfl (by first | exact Or.inl rfl | exact Or.inr rfl) (pf_lst (pax_nil)))) (psx_cons (psx_asgV (ps_set (i := 4) sc_l_exact.nd rfl (by first | exact Or.inl rfl | exact Or.inr rfl) (px_var 2))) (psx_cons (psx_for (ws := [5, 6, 7, 8]) (ts := [5]) (gx := (gName 5)) (passes_of rfl) rfl (pix_down bi (px_len bi (px_var 1))) (pg_name (i := 5) sc_l_exact.nd rfl (by first | exact Or.inl rfl | exact Or.inr rfl)) (psx_cons (psx_asgV (ps_set (i := 6) sc_l_exact.nd rfl (by first | exact Or.inl rfl | exact Or.inr rfl) (px_ix (px_ix (px_var 1) (px_sub (px_var 5) (px_int))) (px_int)))) (psx_cons (psx_asgV (ps_set (i := 7) sc_l_exact.nd rfl (by first | exact Or.inl rfl | exact Or.inr rfl) (px_ix (px_ix (px_var 0) (px_var 5)) (px_var 4)))) (psx_cons (psx_asgV (ps_set (i := 8) sc_l_exact.nd rfl (by first | exact Or.inl rfl | exact Or.inr rfl) (px_mn bi rfl (px_ix (px_ix (px_var 1) (px_sub (px_var 5) (px_int))) (px_int)) (px_div (px_var 4) (px_var 6))))) (psx_cons (psx_while (ws := []) (passes_of rfl) (pt_ne hu (px_ix (px_ix (px_var 0) (px_sub (px_var 5) (px_int))) (px_sub (px_var 4) (px_mul (px_var 8) (px_var 6)))) (px_sub (px_var 7) (px_var 8))) (psx_cons (psx_asgV (ps_set (i := 8) sc_l_exact.nd rfl (by first | exact Or.inl rfl | exact Or.inr rfl) (px_sub (px_var 8) (px_int)))) (psx_nil))) (psx_cons (psx_if (pt_gt (px_var 8) (px_int)) (psx_cons (psx_appV (ps_expr (pe_bm PySem.F.plainAttrs_list PySem.F.slot_list_append PySem.F.type_list_append mt_append (pv 3) (pa_cons (px_tup (pax_cons (px_var 6) (pax_cons (px_var 8) (pax_nil)))) pa_nil)))) (psx_nil)) (psx_nil)) (psx_cons (psx_asgV (ps_set (i := 4) sc_l_exact.nd rfl (by first | exact Or.inl rfl | exact Or.inr rfl) (px_sub (px_var 4) (px_mul (px_var 8) (px_var 6))))) (psx_nil)))))))) (psx_cons (psx_rev (ps_expr (pe_bm0 PySem.F.plainAttrs_list PySem.F.slot_list_reverse PySem.F.type_list_reverse mt_reverse (pv 3)))) (psx_cons (psx_retMv (pv 3)) (psx_nil)))))) wp

/-! ### law_paid -/
abbrev s_l_paid : Stmt := topS 57
theorem sc_l_paid : FnScope ["_law_held", "_law_deed_here", "_law_answer", "_law_word", "_law_due", "_law_full", "_law_value_here", "_law_rows", "_law_pair", "_law_one"] ["_law_held", "_law_deed_here", "_law_answer"] (defScope s_l_paid) := ⟨rfl, rfl, rfl, by decide +kernel, rfl, by decide +kernel, by decide +kernel⟩
def g_l_paid : GSs := .cons (.callM (some 3) 0 0 (.cons (.var 1) (.nil))) (.cons (.ifs (.eq true (.var 3) (.cst (.str ""))) (.cons (.retP (.eq false (.var 2) (.tup (.cons (.var 3) (.cons (.f (.lst (.nil))) (.nil)))))) (.nil)) (.nil)) (.cons (.asgV 4 (.bin .sub (.sum (.ix (.var 1) (.cst (.int 2)))) (.ix (.var 1) (.cst (.int 1))))) (.cons (.asgS 5 (.f (.srt (.f (.lock 0 (.lc [6] (.dk 0) (.tup (.cons (.var 6) (.cons (.bin .add (.dix 0 (.var 6)) (.cnt (.ix (.var 1) (.cst (.int 2))) (.var 6))) (.nil)))))))))) (.cons (.asgS 7 (.call 1 (.cons (.f (.lof (.var 5))) (.cons (.var 4) (.nil))))) (.cons (.ifs (.not (.call 2 (.cons (.var 7) (.cons (.var 5) (.cons (.var 4) (.nil)))))) (.cons (.retP (.cst (.bool false))) (.nil)) (.nil)) (.cons (.ifs (.isn false (.ix (.ix (.var 7) (.len (.var 5))) (.var 4))) (.cons (.retP (.eq false (.var 2) (.tup (.cons (.cst (.str "no change")) (.cons (.f (.lst (.nil))) (.nil)))))) (.nil)) (.nil)) (.cons (.ifs (.or (.eq true (.ix (.var 2) (.cst (.int 0))) (.cst (.str "done"))) (.eq true (.call 4 (.cons (.ix (.var 2) (.cst (.int 1))) (.cons (.var 5) (.cons (.var 4) (.nil))))) (.ix (.ix (.var 7) (.len (.var 5))) (.var 4)))) (.cons (.retP (.cst (.bool false))) (.nil)) (.nil)) (.cons (.ifs (.eq true (.ix (.var 2) (.cst (.int 1))) (.call 3 (.cons (.var 7) (.cons (.var 5) (.cons (.var 4) (.nil)))))) (.cons (.retP (.cst (.bool false))) (.nil)) (.nil)) (.cons (.for_ [8] [8] (.il (.var 5)) (.cons (.dsetP 0 (.ix (.var 8) (.cst (.int 0))) (.bin .sub (.ix (.var 8) (.cst (.int 1))) (.sum (.f (.lcf [9] (.il (.ix (.var 2) (.cst (.int 1)))) (.eq false (.ix (.var 9) (.cst (.int 0))) (.ix (.var 8) (.cst (.int 0)))) (.ix (.var 9) (.cst (.int 1)))))))) (.nil))) (.cons (.retP (.cst (.bool true))) (.nil)))))))))))
abbrev n_l_paid : List Str := ["_law_held", "_law_deed_here", "_law_answer", "_law_word", "_law_due", "_law_full", "_law_value_here", "_law_rows", "_law_pair", "_law_one"]
theorem dv_l_paid {ph_l_unpaid : List D → Option Out} {ph_table : List D → Option Out} {ph_l_walked : List D → Option Out} {ph_l_exact : List D → Option Out} {ph_l_change : List D → Option Out} {ph_l_paid : List D → Option Out} {f : Addr} {fd : FuncData} (F : Fun K "_law_paid" "_law_paid" s_l_paid f fd) (gm : mg "_law_paid" = some (.ref f)) (bd : Binds K fd ["_law_held", "_law_deed_here", "_law_answer"] []) (bi : Bi mg) (cl : Cls' K mg ca xsL ysL) (c_l_unpaid : CalM P w K mg base ca "_law_unpaid" ph_l_unpaid 1) (c_table : Cal P w K mg base ca "table" ph_table 2) (c_l_walked : Cal P w K mg base ca "_law_walked" ph_l_walked 3) (c_l_exact : Cal P w K mg base ca "_law_exact" ph_l_exact 1) (c_l_change : Cal P w K mg base ca "_law_change" ph_l_change 2)
    (ar : ∀ ds o, ph_l_paid ds = some o → ds.length = 3) (wp : ∀ c ds q c' x, ph_l_paid (c.enc :: ds) = some (.mu q c' x) → ∀ p, wpSs ⟨[ph_l_unpaid, ph_table, ph_l_walked, ph_l_exact, ph_l_change], ca, xsL, none⟩ g_l_paid (gdM p c' x) (startM n_l_paid p c ds)) :
    CalM P w K mg base ca "_law_paid" ph_l_paid 4 :=
  fn_dataM (T := ⟨[ph_l_unpaid, ph_table, ph_l_walked, ph_l_exact, ph_l_change], ca, xsL, none⟩) (g := g_l_paid) F gm bd sc_l_paid ar (by decide) (fun cdv A outer s H E hr => by
    have hu := hr.units
    exact psx_cons (psx_asgM (t := 3) (ps_set (i := 3) sc_l_paid.nd rfl (by first | exact Or.inl rfl | exact Or.inr rfl) (px_callM (i := 0) (c_l_unpaid.at hr) (takes_of rfl rfl rfl rfl) (pam (pv 0) (pax_cons (px_var 1) (pax_nil)))))) (psx_cons (psx_if (pt_ne hu (px_var 3) (px_str)) (psx_cons (psx_retP (px_eq hu (px_var 2) (px_tup (pax_cons (px_var 3) (pax_cons (px_f (pf_lst (pax_nil))) (pax_nil)))))) (psx_nil)) (psx_nil)) (psx_cons (psx_asgV (ps_set (i := 4) sc_l_paid.nd rfl (by first | exact Or.inl rfl | exact Or.inr rfl) (px_sub (px_sum bi rfl (px_ix (px_var 1) (px_int))) (px_ix (px_var 1) (px_int))))) (psx_cons (psx_asgS (ps_set (i := 5) sc_l_paid.nd rfl (by first | exact Or.inl rfl | exact Or.inr rfl) (px_f (pf_srt bi (px_f (pf_lock (i := 0) (pf_lc (own := [("_law_value_here", 6)]) (g := (gName 6)) (ts := [6]) rfl sc_l_paid.nd (pix_keys (pv 0)) (blkOk_by (own := [("_law_value_here", 6)]) (N := ["_law_held", "_law_deed_here", "_law_answer", "_law_word", "_law_due", "_law_full", "_law_value_here", "_law_rows", "_law_pair", "_law_one"]) (sc := defScope s_l_paid) (by decide +kernel)) rfl (fun _ _ _ _ _ => pg_name (i := 6) sc_l_paid.nd rfl (by first | exact Or.inl rfl | exact Or.inr rfl)) (fun _ _ _ _ _ => px_tup (pax_cons (px_var 6) (pax_cons (px_add (px_dix hu (px_var 6) (pv 0)) (px_cnt (px_ix (px_var 1) (px_int)) (px_var 6) (pe_bm PySem.F.plainAttrs_list PySem.F.slot_list_count PySem.F.type_list_count mt_lcount (px_ix (px_var 1) (px_int)) (pa_cons (px_var 6) pa_nil)))) (pax_nil))))))))))) (psx_cons (psx_asgS (ps_set (i := 7) sc_l_paid.nd rfl (by first | exact Or.inl rfl | exact Or.inr rfl) (px_call (c_table.at hr) (takes_of rfl rfl rfl rfl) (pax_cons (px_f (pf_lof bi (px_var 5))) (pax_cons (px_var 4) (pax_nil)))))) (psx_cons (psx_if (pt_n (pt_v (px_call (c_l_walked.at hr) (takes_of rfl rfl rfl rfl) (pax_cons (px_var 7) (pax_cons (px_var 5) (pax_cons (px_var 4) (pax_nil))))))) (psx_cons (psx_retP (px_bl)) (psx_nil)) (psx_nil)) (psx_cons (psx_if (pt_isN (px_ix (px_ix (px_var 7) (px_len bi (px_var 5))) (px_var 4))) (psx_cons (psx_retP (px_eq hu (px_var 2) (px_tup (pax_cons (px_str) (pax_cons (px_f (pf_lst (pax_nil))) (pax_nil)))))) (psx_nil)) (psx_nil)) (psx_cons (psx_if (PW.pt (pw_o (pt_ne hu (px_ix (px_var 2) (px_int)) (px_str)) (pw_o1 (pt_ne hu (px_call (c_l_change.at hr) (takes_of rfl rfl rfl rfl) (pax_cons (px_ix (px_var 2) (px_int)) (pax_cons (px_var 5) (pax_cons (px_var 4) (pax_nil))))) (px_ix (px_ix (px_var 7) (px_len bi (px_var 5))) (px_var 4)))))) (psx_cons (psx_retP (px_bl)) (psx_nil)) (psx_nil)) (psx_cons (psx_if (pt_ne hu (px_ix (px_var 2) (px_int)) (px_call (c_l_exact.at hr) (takes_of rfl rfl rfl rfl) (pax_cons (px_var 7) (pax_cons (px_var 5) (pax_cons (px_var 4) (pax_nil)))))) (psx_cons (psx_retP (px_bl)) (psx_nil)) (psx_nil)) (psx_cons (psx_for (ws := [8]) (ts := [8]) (gx := (gName 8)) (passes_of rfl) rfl (pix_list (px_var 5)) (pg_name (i := 8) sc_l_paid.nd rfl (by first | exact Or.inl rfl | exact Or.inr rfl)) (psx_cons (psx_dsetP (ps_dput (Nat.lt_of_le_of_lt (Nat.add_le_add_left (by decide) _) hu) (pv 0) (px_ix (px_var 8) (px_int)) (px_sub (px_ix (px_var 8) (px_int)) (px_sum bi rfl (px_f (pf_lcf (own := [("_law_one", 9)]) (g := (gName 9)) (ts := [9]) rfl sc_l_paid.nd (pix_list (px_ix (px_var 2) (px_int))) (blkOk_by (own := [("_law_one", 9)]) (N := ["_law_held", "_law_deed_here", "_law_answer", "_law_word", "_law_due", "_law_full", "_law_value_here", "_law_rows", "_law_pair", "_law_one"]) (sc := defScope s_l_paid) (by decide +kernel)) rfl (fun _ _ _ _ _ => pg_name (i := 9) sc_l_paid.nd rfl (by first | exact Or.inl rfl | exact Or.inr rfl)) (fun _ _ _ _ _ => pt_eq hu (px_ix (px_var 9) (px_int)) (px_ix (px_var 8) (px_int))) (fun _ _ _ _ _ => px_ix (px_var 9) (px_int)))))) (by rfl))) (psx_nil))) (psx_cons (psx_retP (px_bl)) (psx_nil)))))))))))) wp

/-! ### law_right -/
abbrev s_l_right : Stmt := topS 58
theorem sc_l_right : FnScope ["_law_held", "_law_deed_here", "_law_answer", "_law_word"] ["_law_held", "_law_deed_here", "_law_answer"] (defScope s_l_right) := ⟨rfl, rfl, rfl, by decide +kernel, rfl, by decide +kernel, by decide +kernel⟩
def g_l_right : GSs := .cons (.ifs (.or (.not (.isi .tuple (.var 2))) (.or (.eq true (.len (.var 2)) (.cst (.int 2))) (.not (.isi .list (.ix (.var 2) (.cst (.int 1))))))) (.cons (.retP (.cst (.bool false))) (.nil)) (.nil)) (.cons (.ifs (.eq false (.ix (.var 1) (.cst (.int 0))) (.cst (.str "paid"))) (.cons (.retM 0 (.cons (.var 1) (.cons (.var 2) (.nil)))) (.nil)) (.nil)) (.cons (.asgV 3 (.cst (.str "no deed"))) (.cons (.ifs (.or (.eq false (.ix (.var 1) (.cst (.int 0))) (.cst (.str "brought"))) (.eq false (.ix (.var 1) (.cst (.int 0))) (.cst (.str "fetched")))) (.cons (.callM (some 3) 0 1 (.cons (.var 1) (.nil))) (.nil)) (.nil)) (.cons (.ifs (.or (.eq false (.ix (.var 1) (.cst (.int 0))) (.cst (.str "in"))) (.eq false (.ix (.var 1) (.cst (.int 0))) (.cst (.str "out")))) (.cons (.callM (some 3) 0 2 (.cons (.var 1) (.nil))) (.nil)) (.nil)) (.cons (.retP (.eq false (.var 2) (.tup (.cons (.var 3) (.cons (.f (.lst (.nil))) (.nil)))))) (.nil))))))
abbrev n_l_right : List Str := ["_law_held", "_law_deed_here", "_law_answer", "_law_word"]
theorem dv_l_right {ph_l_paid : List D → Option Out} {ph_l_moved : List D → Option Out} {ph_l_kind : List D → Option Out} {ph_l_right : List D → Option Out} {f : Addr} {fd : FuncData} (F : Fun K "_law_right" "_law_right" s_l_right f fd) (gm : mg "_law_right" = some (.ref f)) (bd : Binds K fd ["_law_held", "_law_deed_here", "_law_answer"] []) (bi : Bi mg) (cl : Cls' K mg ca xsL ysL) (c_l_paid : CalM P w K mg base ca "_law_paid" ph_l_paid 4) (c_l_moved : CalM P w K mg base ca "_law_moved" ph_l_moved 1) (c_l_kind : CalM P w K mg base ca "_law_kind" ph_l_kind 1)
    (ar : ∀ ds o, ph_l_right ds = some o → ds.length = 3) (wp : ∀ c ds q c' x, ph_l_right (c.enc :: ds) = some (.mu q c' x) → ∀ p, wpSs ⟨[ph_l_paid, ph_l_moved, ph_l_kind], ca, xsL, none⟩ g_l_right (gdM p c' x) (startM n_l_right p c ds)) :
    CalM P w K mg base ca "_law_right" ph_l_right 5 :=
  fn_dataM (T := ⟨[ph_l_paid, ph_l_moved, ph_l_kind], ca, xsL, none⟩) (g := g_l_right) F gm bd sc_l_right ar (by decide) (fun cdv A outer s H E hr => by
    have hu := hr.units
    exact psx_cons (psx_if (PW.pt (pw_o (pt_n (pt_v (px_isTuple bi (px_var 2)))) (pw_o (pt_ne hu (px_len bi (px_var 2)) (px_int)) (pw_o1 (pt_n (pt_v (px_isList bi (px_ix (px_var 2) (px_int))))))))) (psx_cons (psx_retP (px_bl)) (psx_nil)) (psx_nil)) (psx_cons (psx_if (pt_eq hu (px_ix (px_var 1) (px_int)) (px_str)) (psx_cons (psx_retM (px_callM (i := 0) (c_l_paid.at hr) (takes_of rfl rfl rfl rfl) (pam (pv 0) (pax_cons (px_var 1) (pax_cons (px_var 2) (pax_nil)))))) (psx_nil)) (psx_nil)) (psx_cons (psx_asgV (ps_set (i := 3) sc_l_right.nd rfl (by first | exact Or.inl rfl | exact Or.inr rfl) (px_str))) (psx_cons (psx_if (PW.pt (pw_o (pt_eq hu (px_ix (px_var 1) (px_int)) (px_str)) (pw_o1 (pt_eq hu (px_ix (px_var 1) (px_int)) (px_str))))) (psx_cons (psx_asgM (t := 3) (ps_set (i := 3) sc_l_right.nd rfl (by first | exact Or.inl rfl | exact Or.inr rfl) (px_callM (i := 0) (c_l_moved.at hr) (takes_of rfl rfl rfl rfl) (pam (pv 0) (pax_cons (px_var 1) (pax_nil)))))) (psx_nil)) (psx_nil)) (psx_cons (psx_if (PW.pt (pw_o (pt_eq hu (px_ix (px_var 1) (px_int)) (px_str)) (pw_o1 (pt_eq hu (px_ix (px_var 1) (px_int)) (px_str))))) (psx_cons (psx_asgM (t := 3) (ps_set (i := 3) sc_l_right.nd rfl (by first | exact Or.inl rfl | exact Or.inr rfl) (px_callM (i := 0) (c_l_kind.at hr) (takes_of rfl rfl rfl rfl) (pam (pv 0) (pax_cons (px_var 1) (pax_nil)))))) (psx_nil)) (psx_nil)) (psx_cons (psx_retP (px_eq hu (px_var 2) (px_tup (pax_cons (px_var 3) (pax_cons (px_f (pf_lst (pax_nil))) (pax_nil)))))) (psx_nil))))))) wp

/-! ### law_copies -/
abbrev s_l_copies : Stmt := topS 59
theorem sc_l_copies : FnScope ["_law_deeds", "_law_found", "_law_deed_here"] ["_law_deeds"] (defScope s_l_copies) := ⟨rfl, rfl, rfl, by decide +kernel, rfl, by decide +kernel, by decide +kernel⟩
def g_l_copies : GSs := .cons (.asgR 1 (.lst .nil)) (.cons (.for_ [2] [2] (.il (.var 0)) (.cons (.ifs (.eq false (.ix (.var 2) (.cst (.int 0))) (.cst (.str "paid"))) (.cons (.appR 1 (.tup (.cons (.im (.ix (.var 2) (.cst (.int 0)))) (.cons (.im (.ix (.var 2) (.cst (.int 1)))) (.cons (.f (.lof (.ix (.var 2) (.cst (.int 2))))) (.nil)))))) (.nil)) (.cons (.appR 1 (.im (.var 2))) (.nil))) (.nil))) (.cons (.retMv 1) (.nil)))
abbrev n_l_copies : List Str := ["_law_deeds", "_law_found", "_law_deed_here"]
theorem dv_l_copies {ph_l_copies : List D → Option Out} {f : Addr} {fd : FuncData} (F : Fun K "_law_copies" "_law_copies" s_l_copies f fd) (gm : mg "_law_copies" = some (.ref f)) (bd : Binds K fd ["_law_deeds"] []) (bi : Bi mg) (cl : Cls' K mg ca xsL ysL)
    (ar : ∀ ds o, ph_l_copies ds = some o → ds.length = 1) (wp : ∀ ds o, ph_l_copies ds = some o → wpSs ⟨[], ca, xsL, none⟩ g_l_copies (gdOf o) (startE n_l_copies ds)) :
    Cal P w K mg base ca "_law_copies" ph_l_copies 1 :=
  fn_data (T := ⟨[], ca, xsL, none⟩) (g := g_l_copies) F gm bd sc_l_copies ar (fun cdv A outer s H E hr => by
    have hu := hr.units
    exact psx_cons (psx_asgR (ps_set (i := 1) sc_l_copies.nd rfl (by first | exact Or.inl rfl | exact Or.inr rfl) (px_rlst prs_nil))) (psx_cons (psx_for (ws := [2]) (ts := [2]) (gx := (gName 2)) (passes_of rfl) rfl (pix_list (px_var 0)) (pg_name (i := 2) sc_l_copies.nd rfl (by first | exact Or.inl rfl | exact Or.inr rfl)) (psx_cons (psx_if (pt_eq hu (px_ix (px_var 2) (px_int)) (px_str)) (psx_cons (psx_appR (ps_expr (pe_bm PySem.F.plainAttrs_list PySem.F.slot_list_append PySem.F.type_list_append mt_append (pv 1) (pa_cons (px_rtup (prs_cons (px_r (px_ix (px_var 2) (px_int))) (prs_cons (px_r (px_ix (px_var 2) (px_int))) (prs_cons (px_rf (pf_lof bi (px_ix (px_var 2) (px_int)))) (prs_nil))))) pa_nil)))) (psx_nil)) (psx_cons (psx_appR (ps_expr (pe_bm PySem.F.plainAttrs_list PySem.F.slot_list_append PySem.F.type_list_append mt_append (pv 1) (pa_cons (px_r (px_var 2)) pa_nil)))) (psx_nil))) (psx_nil))) (psx_cons (psx_retMv (pv 1)) (psx_nil)))) wp

/-! ### law_again -/
abbrev s_l_again : Stmt := topS 60
theorem sc_l_again : FnScope ["_law_first", "_law_handed", "_law_found", "_law_due", "_law_kept", "_law_answer", "_law_k", "_law_again_here"] ["_law_first", "_law_handed", "_law_found", "_law_due"] (defScope s_l_again) := ⟨rfl, rfl, rfl, by decide +kernel, rfl, by decide +kernel, by decide +kernel⟩
def g_l_again : GSs := .cons (.asgR 4 (.lcR [5] (.il (.ix (.var 2) (.cst (.int 1)))) (.tup (.cons (.im (.ix (.var 5) (.cst (.int 0)))) (.cons (.f (.lof (.ix (.var 5) (.cst (.int 1))))) (.nil)))))) (.cons (.forR [6] 6 (.len (.var 4)) (.cons (.mutA (.sub (.sub (.sub (.var 2) (.cst (.int 1))) (.var 6)) (.cst (.int 1))) (.tup (.cons (.cst (.int 7)) (.cons (.cst (.int 7)) (.nil))))) (.cons (.ifs (.eq true (.f (.lc [5] (.il (.f (.slFrom (.ix (.var 2) (.cst (.int 1))) (.bin .add (.var 6) (.cst (.int 1)))))) (.tup (.cons (.ix (.var 5) (.cst (.int 0))) (.cons (.f (.lof (.ix (.var 5) (.cst (.int 1))))) (.nil)))))) (.f (.slFrom (.var 4) (.bin .add (.var 6) (.cst (.int 1)))))) (.cons (.ret (.im (.cst (.bool false)))) (.nil)) (.nil)) (.nil)))) (.cons (.mutC (.sub (.var 2) (.cst (.int 0)))) (.cons (.asgS 7 (.call 0 (.cons (.var 0) (.cons (.var 1) (.nil))))) (.cons (.ret (.im (.and (.eq false (.ix (.var 7) (.cst (.int 0))) (.var 3)) (.eq false (.ix (.var 7) (.cst (.int 1))) (.var 4))))) (.nil)))))
abbrev n_l_again : List Str := ["_law_first", "_law_handed", "_law_found", "_law_due", "_law_kept", "_law_answer", "_law_k", "_law_again_here"]
theorem dv_l_again {ph_day : List D → Option Out} {ph_l_again : List D → Option Out} {f : Addr} {fd : FuncData} (F : Fun K "_law_again" "_law_again" s_l_again f fd) (gm : mg "_law_again" = some (.ref f)) (bd : Binds K fd ["_law_first", "_law_handed", "_law_found", "_law_due"] []) (bi : Bi mg) (cl : Cls' K mg ca xsL ysL) (c_day : Cal P w K mg base ca "day" ph_day 7)
    (ar : ∀ ds o, ph_l_again ds = some o → ds.length = 4) (wp : ∀ ds1 d ds2 o, ds1.length = 2 → ph_l_again (ds1 ++ d :: ds2) = some o → wpSs ⟨[ph_day], ca, xsL, none⟩ g_l_again (gdOf o) (startK n_l_again ds1 (shp d) ds2)) :
    CalK 2 P w K mg base ca "_law_again" ph_l_again 8 :=
  fn_dataK (T := ⟨[ph_day], ca, xsL, none⟩) (g := g_l_again) F gm bd sc_l_again ar (by decide) (fun cdv A outer s H E hr => by
    have hu := hr.units
    exact psx_cons (psx_asgR ((ps_setLc (i := 4) (own := [("_law_answer", 5)]) (g := (gName 5)) rfl sc_l_again.nd rfl rfl (sw_true rfl rfl rfl (by decide +kernel)) (pix_list (px_ix (px_var 2) (px_int))) (blkOk_by (own := [("_law_answer", 5)]) (N := ["_law_first", "_law_handed", "_law_found", "_law_due", "_law_kept", "_law_answer", "_law_k", "_law_again_here"]) (sc := defScope s_l_again) (by decide +kernel)) (fun _ _ _ _ _ => pg_name (i := 5) sc_l_again.nd rfl (by first | exact Or.inl rfl | exact Or.inr rfl)) (fun _ _ _ _ _ => pts_nil) (fun _ _ _ _ _ => px_rtup (prs_cons (px_r (px_ix (px_var 5) (px_int))) (prs_cons (px_rf (pf_lof bi (px_ix (px_var 5) (px_int)))) (prs_nil))))).imp fun De σ H q => lcR_imp (ts := [5]) σ H _ q)) (psx_cons (psx_forR (ws := [6]) (t := 6) (passes_of rfl) rfl (pir_range1 (W := W0) bi (px_len bi (px_var 4))) (pg_name (i := 6) sc_l_again.nd rfl (by first | exact Or.inl rfl | exact Or.inr rfl)) (psx_cons (psx_mutA (ps_expr (pe_bm PySem.F.plainAttrs_list PySem.F.slot_list_append PySem.F.type_list_append mt_append (pp_sub (pp_sub (pp_sub (pp_var (pv 2)) (px_int)) (px_var 6)) (px_int)) (pa_cons (px_tup (pax_cons (px_int) (pax_cons (px_int) (pax_nil)))) pa_nil)))) (psx_cons (psx_if (pt_ne hu (px_f (pf_lc (own := [("_law_answer", 5)]) (g := (gName 5)) (ts := [5]) rfl sc_l_again.nd (pix_list (px_f (pf_slFrom (px_ix (px_var 2) (px_int)) (px_add (px_var 6) (px_int))))) (blkOk_by (own := [("_law_answer", 5)]) (N := ["_law_first", "_law_handed", "_law_found", "_law_due", "_law_kept", "_law_answer", "_law_k", "_law_again_here"]) (sc := defScope s_l_again) (by decide +kernel)) rfl (fun _ _ _ _ _ => pg_name (i := 5) sc_l_again.nd rfl (by first | exact Or.inl rfl | exact Or.inr rfl)) (fun _ _ _ _ _ => px_tup (pax_cons (px_ix (px_var 5) (px_int)) (pax_cons (px_f (pf_lof bi (px_ix (px_var 5) (px_int)))) (pax_nil)))))) (px_f (pf_slFrom (px_var 4) (px_add (px_var 6) (px_int))))) (psx_cons (psx_ret (px_r (px_bl))) (psx_nil)) (psx_nil)) (psx_nil)))) (psx_cons (psx_mutC (ps_expr (pe_bm0 PySem.F.plainAttrs_list PySem.F.slot_list_clear PySem.F.type_list_clear mt_clear (pp_sub (pp_var (pv 2)) (px_int))))) (psx_cons (psx_asgS (ps_set (i := 7) sc_l_again.nd rfl (by first | exact Or.inl rfl | exact Or.inr rfl) (px_call (c_day.at hr) (takes_of rfl rfl rfl rfl) (pax_cons (px_var 0) (pax_cons (px_var 1) (pax_nil)))))) (psx_cons (psx_ret (px_r (px_and (px_eq hu (px_ix (px_var 7) (px_int)) (px_var 3)) (px_one (px_eq hu (px_ix (px_var 7) (px_int)) (px_var 4)))))) (psx_nil)))))) wp

/-! ### law -/
abbrev s_law : Stmt := topS 61
theorem sc_law : FnScope ["_law_script", "_law_till", "_law_held", "_law_pair", "_law_deeds", "_law_values", "_law_k", "_law_cell", "_law_handed", "_law_first", "_law_found", "_law_deed_here", "_law_answer", "_law_kept", "_law_half", "_law_begin", "_law_again_here", "_law_due", "_law_value_here"] ["_law_script"] (defScope s_law) := ⟨rfl, rfl, rfl, by decide +kernel, rfl, by decide +kernel, by decide +kernel⟩
def g_law : GSs := .cons (.asgS 1 (.f (.srt (.call 2 (.cons (.var 0) (.nil)))))) (.cons (.asgD 2) (.cons (.for_ [] [3] (.il (.var 1)) (.cons (.dset 2 (.ix (.var 3) (.cst (.int 0))) (.ix (.var 3) (.cst (.int 1)))) (.nil))) (.cons (.asgR 4 (.lst .nil)) (.cons (.asgF 5 (.lc [3] (.il (.var 1)) (.ix (.var 3) (.cst (.int 0))))) (.cons (.for_ [6, 7] [6, 7] (.ie (.f (.slBoth (.var 0) (.cst (.int 3)) (.cst (.int 27))))) (.cons (.appR 4 (.call 5 (.cons (.var 7) (.cons (.var 5) (.cons (.var 6) (.nil)))))) (.cons (.ifs (.eq false (.ix (.ix (.var 4) (.bin .sub (.len (.var 4)) (.cst (.int 1)))) (.cst (.int 0))) (.cst (.str "in"))) (.cons (.appV 5 (.ix (.ix (.var 4) (.bin .sub (.len (.var 4)) (.cst (.int 1)))) (.cst (.int 1)))) (.nil)) (.nil)) (.nil)))) (.cons (.frz 4 (.asgS 8 (.call 0 (.cons (.var 4) (.nil))))) (.cons (.asgS 9 (.f (.lof (.var 1)))) (.cons (.asgR 10 (.call 1 (.cons (.var 9) (.cons (.var 8) (.nil))))) (.cons (.ifs (.or (.eq true (.var 9) (.var 1)) (.or (.eq true (.var 8) (.var 4)) (.or (.not (.isi .tuple (.var 10))) (.eq true (.len (.var 10)) (.cst (.int 2)))))) (.cons (.ret (.im (.cst (.bool false)))) (.nil)) (.nil)) (.cons (.ifs (.or (.not (.isi .list (.ix (.var 10) (.cst (.int 1))))) (.eq true (.len (.ix (.var 10) (.cst (.int 1)))) (.len (.var 4)))) (.cons (.ret (.im (.cst (.bool false)))) (.nil)) (.nil)) (.cons (.held 10 [0, 1, 4, 8, 9] (.for_ [11] [11, 12] (.iz (.var 4) (.ix (.var 10) (.cst (.int 1)))) (.cons (.ifM true 2 6 (.cons (.var 11) (.cons (.var 12) (.nil))) (.cons (.ret (.im (.cst (.bool false)))) (.nil)) (.nil)) (.nil)))) (.cons (.asgR 13 (.lst (.cons (.f (.lof (.ix (.var 10) (.cst (.int 0))))) (.cons (.lcR [12] (.il (.ix (.var 10) (.cst (.int 1)))) (.tup (.cons (.im (.ix (.var 12) (.cst (.int 0)))) (.cons (.f (.lof (.ix (.var 12) (.cst (.int 1))))) (.nil))))) (.nil))))) (.cons (.ifs (.cmp .lt (.len (.var 4)) (.cst (.int 16))) (.cons (.asgV 14 (.bin .div (.len (.var 4)) (.cst (.int 2)))) (.cons (.asgS 15 (.call 1 (.cons (.f (.lof (.var 1))) (.cons (.call 0 (.cons (.f (.slTo (.var 4) (.var 14))) (.nil))) (.nil))))) (.cons (.asgS 16 (.call 1 (.cons (.ix (.var 15) (.cst (.int 0))) (.cons (.call 0 (.cons (.f (.slFrom (.var 4) (.var 14))) (.nil))) (.nil))))) (.cons (.ifs (.or (.eq true (.f (.cat (.ix (.var 15) (.cst (.int 1))) (.ix (.var 16) (.cst (.int 1))))) (.ix (.var 10) (.cst (.int 1)))) (.eq true (.ix (.var 16) (.cst (.int 0))) (.ix (.var 10) (.cst (.int 0))))) (.cons (.ret (.im (.cst (.bool false)))) (.nil)) (.nil)) (.nil))))) (.nil)) (.cons (.ifs (.eq true (.f (.lst (.cons (.ix (.var 10) (.cst (.int 0))) (.cons (.ix (.var 10) (.cst (.int 1))) (.nil))))) (.var 13)) (.cons (.ret (.im (.cst (.bool false)))) (.nil)) (.nil)) (.cons (.asgS 17 (.f (.srt (.f (.lock 2 (.lc [18] (.dk 2) (.tup (.cons (.var 18) (.cons (.dix 2 (.var 18)) (.nil)))))))))) (.cons (.ifs (.not (.call 3 (.cons (.ix (.var 10) (.cst (.int 0))) (.cons (.var 17) (.nil))))) (.cons (.ret (.im (.cst (.bool false)))) (.nil)) (.nil)) (.cons (.ifs (.cmp .gt (.len (.var 4)) (.cst (.int 7))) (.cons (.ret (.im (.cst (.bool true)))) (.nil)) (.nil)) (.cons (.retK 4 (.cons (.var 9) (.cons (.var 8) (.nil))) 10 (.cons (.var 17) (.nil)) (.eq false (.var 9) (.var 1))) (.nil)))))))))))))))))))
abbrev n_law : List Str := ["_law_script", "_law_till", "_law_held", "_law_pair", "_law_deeds", "_law_values", "_law_k", "_law_cell", "_law_handed", "_law_first", "_law_found", "_law_deed_here", "_law_answer", "_law_kept", "_law_half", "_law_begin", "_law_again_here", "_law_due", "_law_value_here"]
theorem dv_law {ph_l_copies : List D → Option Out} {ph_day : List D → Option Out} {ph_l_pairs : List D → Option Out} {ph_l_alike : List D → Option Out} {ph_l_again : List D → Option Out} {ph_l_deed : List D → Option Out} {ph_l_right : List D → Option Out} {ph_law : List D → Option Out} {f : Addr} {fd : FuncData} (F : Fun K "law" "law" s_law f fd) (bi : Bi mg) (cl : Cls' K mg ca xsL ysL) (c_l_copies : Cal P w K mg base ca "_law_copies" ph_l_copies 1) (c_day : Cal P w K mg base ca "day" ph_day 7) (c_l_pairs : Cal P w K mg base ca "_law_pairs" ph_l_pairs 3) (c_l_alike : Cal P w K mg base ca "_law_alike" ph_l_alike 2) (c_l_again : CalK 2 P w K mg base ca "_law_again" ph_l_again 8) (c_l_deed : Cal P w K mg base ca "_law_deed" ph_l_deed 2) (c_l_right : CalM P w K mg base ca "_law_right" ph_l_right 5)
    (ar : ∀ ds o, ph_law ds = some o → ds.length = 1) (wp : ∀ ds o, ph_law ds = some o → wpSs ⟨[ph_l_copies, ph_day, ph_l_pairs, ph_l_alike, ph_l_again, ph_l_deed, ph_l_right], ca, xsL, none⟩ g_law (gdOf o) (startE n_law ds)) :
    FnOk P w K mg base (L2.CX P w) 9 f fd ["_law_script"] (spOf ca ph_law) :=
  fn_dataF (T := ⟨[ph_l_copies, ph_day, ph_l_pairs, ph_l_alike, ph_l_again, ph_l_deed, ph_l_right], ca, xsL, none⟩) (g := g_law) F sc_law ar (fun cdv A outer s H E hr => by
    have hu := hr.units
    exact psx_cons (psx_asgS (ps_set (i := 1) sc_law.nd rfl (by first | exact Or.inl rfl | exact Or.inr rfl) (px_f (pf_srt bi (px_call (c_l_pairs.at hr) (takes_of rfl rfl rfl rfl) (pax_cons (px_var 0) (pax_nil))))))) (psx_cons (psx_asgD (ps_set (i := 2) sc_law.nd rfl (by first | exact Or.inl rfl | exact Or.inr rfl) (pe_dnewK))) (psx_cons (psx_for (ws := []) (ts := [3]) (gx := (gName 3)) (passes_of rfl) rfl (pix_list (px_var 1)) (pg_name (i := 3) sc_law.nd rfl (by first | exact Or.inl rfl | exact Or.inr rfl)) (psx_cons (psx_dset (ps_dput (Nat.lt_of_le_of_lt (Nat.add_le_add_left (by decide) _) hu) (pv 2) (px_ix (px_var 3) (px_int)) (px_ix (px_var 3) (px_int)) (by rfl))) (psx_nil))) (psx_cons (psx_asgR (ps_set (i := 4) sc_law.nd rfl (by first | exact Or.inl rfl | exact Or.inr rfl) (px_rlst prs_nil))) (psx_cons (psx_asgF ((ps_setLc (i := 5) (own := [("_law_pair", 3)]) (g := (gName 3)) rfl sc_law.nd rfl rfl (sw_true rfl rfl rfl (by decide +kernel)) (pix_list (px_var 1)) (blkOk_by (own := [("_law_pair", 3)]) (N := ["_law_script", "_law_till", "_law_held", "_law_pair", "_law_deeds", "_law_values", "_law_k", "_law_cell", "_law_handed", "_law_first", "_law_found", "_law_deed_here", "_law_answer", "_law_kept", "_law_half", "_law_begin", "_law_again_here", "_law_due", "_law_value_here"]) (sc := defScope s_law) (by decide +kernel)) (fun _ _ _ _ _ => pg_name (i := 3) sc_law.nd rfl (by first | exact Or.inl rfl | exact Or.inr rfl)) (fun _ _ _ _ _ => pts_nil) (fun _ _ _ _ _ => px_ix (px_var 3) (px_int))).imp fun De σ H q => lc_imp (ts := [3]) σ H _ q)) (psx_cons (psx_for (ws := [6, 7]) (ts := [6, 7]) (gx := (gTwo K 6 7)) (passes_of rfl) rfl (pix_enum bi (px_f (pf_slBoth (px_var 0) (px_int) (px_int)))) (pg_tup rfl (pgs_cons (pg_name (i := 6) sc_law.nd rfl (by first | exact Or.inl rfl | exact Or.inr rfl)) (pgs_cons (pg_name (i := 7) sc_law.nd rfl (by first | exact Or.inl rfl | exact Or.inr rfl)) pgs_nil))) (psx_cons (psx_appR (ps_expr (pe_bm PySem.F.plainAttrs_list PySem.F.slot_list_append PySem.F.type_list_append mt_append (pv 4) (pa_cons (px_rcall (c_l_deed.at hr) (takes_of rfl rfl rfl rfl) (pax_cons (px_var 7) (pax_cons (px_var 5) (pax_cons (px_var 6) (pax_nil))))) pa_nil)))) (psx_cons (psx_if (pt_eq hu (px_ix (px_ix (px_var 4) (px_sub (px_len bi (px_var 4)) (px_int))) (px_int)) (px_str)) (psx_cons (psx_appV (ps_expr (pe_bm PySem.F.plainAttrs_list PySem.F.slot_list_append PySem.F.type_list_append mt_append (pv 5) (pa_cons (px_ix (px_ix (px_var 4) (px_sub (px_len bi (px_var 4)) (px_int))) (px_int)) pa_nil)))) (psx_nil)) (psx_nil)) (psx_nil)))) (psx_cons (psx_frz (psx_asgS (ps_set (i := 8) sc_law.nd rfl (by first | exact Or.inl rfl | exact Or.inr rfl) (px_call (c_l_copies.at hr) (takes_of rfl rfl rfl rfl) (pax_cons (px_var 4) (pax_nil)))))) (psx_cons (psx_asgS (ps_set (i := 9) sc_law.nd rfl (by first | exact Or.inl rfl | exact Or.inr rfl) (px_f (pf_lof bi (px_var 1))))) (psx_cons (psx_asgR (ps_set (i := 10) sc_law.nd rfl (by first | exact Or.inl rfl | exact Or.inr rfl) (px_rcall (c_day.at hr) (takes_of rfl rfl rfl rfl) (pax_cons (px_var 9) (pax_cons (px_var 8) (pax_nil)))))) (psx_cons (psx_if (PW.pt (pw_o (pt_ne hu (px_var 9) (px_var 1)) (pw_o (pt_ne hu (px_var 8) (px_var 4)) (pw_o (pt_n (pt_v (px_isTuple bi (px_var 10)))) (pw_o1 (pt_ne hu (px_len bi (px_var 10)) (px_int))))))) (psx_cons (psx_ret (px_r (px_bl))) (psx_nil)) (psx_nil)) (psx_cons (psx_if (PW.pt (pw_o (pt_n (pt_v (px_isList bi (px_ix (px_var 10) (px_int))))) (pw_o1 (pt_ne hu (px_len bi (px_ix (px_var 10) (px_int))) (px_len bi (px_var 4)))))) (psx_cons (psx_ret (px_r (px_bl))) (psx_nil)) (psx_nil)) (psx_cons (psx_held (i := 10) (ks := [0, 1, 4, 8, 9]) (psx_for (ws := [11]) (ts := [11, 12]) (gx := (gTwo K 11 12)) (passes_of rfl) rfl (pix_zip bi (px_var 4) (px_ix (px_var 10) (px_int))) (pg_tup rfl (pgs_cons (pg_name (i := 11) sc_law.nd rfl (by first | exact Or.inl rfl | exact Or.inr rfl)) (pgs_cons (pg_name (i := 12) sc_law.nd rfl (by first | exact Or.inl rfl | exact Or.inr rfl)) pgs_nil))) (psx_cons (psx_ifNM (px_callM (i := 2) (c_l_right.at hr) (takes_of rfl rfl rfl rfl) (pam (pv 2) (pax_cons (px_var 11) (pax_cons (px_var 12) (pax_nil))))) (psx_cons (psx_ret (px_r (px_bl))) (psx_nil)) (psx_nil)) (psx_nil)))) (psx_cons (psx_asgR (ps_set (i := 13) sc_law.nd rfl (by first | exact Or.inl rfl | exact Or.inr rfl) (px_rlst (prs_cons (px_rf (pf_lof bi (px_ix (px_var 10) (px_int)))) (prs_cons (px_lcR (own := [("_law_answer", 12)]) (g := (gName 12)) (ts := [12]) rfl sc_law.nd (pix_list (px_ix (px_var 10) (px_int))) (blkOk_by (own := [("_law_answer", 12)]) (N := ["_law_script", "_law_till", "_law_held", "_law_pair", "_law_deeds", "_law_values", "_law_k", "_law_cell", "_law_handed", "_law_first", "_law_found", "_law_deed_here", "_law_answer", "_law_kept", "_law_half", "_law_begin", "_law_again_here", "_law_due", "_law_value_here"]) (sc := defScope s_law) (by decide +kernel)) rfl (fun _ _ _ _ _ => pg_name (i := 12) sc_law.nd rfl (by first | exact Or.inl rfl | exact Or.inr rfl)) (fun _ _ _ _ _ => px_rtup (prs_cons (px_r (px_ix (px_var 12) (px_int))) (prs_cons (px_rf (pf_lof bi (px_ix (px_var 12) (px_int)))) (prs_nil))))) (prs_nil)))))) (psx_cons (psx_if (pt_lt (px_len bi (px_var 4)) (px_int)) (psx_cons (psx_asgV (ps_set (i := 14) sc_law.nd rfl (by first | exact Or.inl rfl | exact Or.inr rfl) (px_div (px_len bi (px_var 4)) (px_int)))) (psx_cons (psx_asgS (ps_set (i := 15) sc_law.nd rfl (by first | exact Or.inl rfl | exact Or.inr rfl) (px_call (c_day.at hr) (takes_of rfl rfl rfl rfl) (pax_cons (px_f (pf_lof bi (px_var 1))) (pax_cons (px_call (c_l_copies.at hr) (takes_of rfl rfl rfl rfl) (pax_cons (px_f (pf_slTo (px_var 4) (px_var 14))) (pax_nil))) (pax_nil)))))) (psx_cons (psx_asgS (ps_set (i := 16) sc_law.nd rfl (by first | exact Or.inl rfl | exact Or.inr rfl) (px_call (c_day.at hr) (takes_of rfl rfl rfl rfl) (pax_cons (px_ix (px_var 15) (px_int)) (pax_cons (px_call (c_l_copies.at hr) (takes_of rfl rfl rfl rfl) (pax_cons (px_f (pf_slFrom (px_var 4) (px_var 14))) (pax_nil))) (pax_nil)))))) (psx_cons (psx_if (PW.pt (pw_o (pt_ne hu (px_f (pf_cat (px_ix (px_var 15) (px_int)) (px_ix (px_var 16) (px_int)))) (px_ix (px_var 10) (px_int))) (pw_o1 (pt_ne hu (px_ix (px_var 16) (px_int)) (px_ix (px_var 10) (px_int)))))) (psx_cons (psx_ret (px_r (px_bl))) (psx_nil)) (psx_nil)) (psx_nil))))) (psx_nil)) (psx_cons (psx_if (pt_ne hu (px_f (pf_lst (pax_cons (px_ix (px_var 10) (px_int)) (pax_cons (px_ix (px_var 10) (px_int)) (pax_nil))))) (px_var 13)) (psx_cons (psx_ret (px_r (px_bl))) (psx_nil)) (psx_nil)) (psx_cons (psx_asgS (ps_set (i := 17) sc_law.nd rfl (by first | exact Or.inl rfl | exact Or.inr rfl) (px_f (pf_srt bi (px_f (pf_lock (i := 2) (pf_lc (own := [("_law_value_here", 18)]) (g := (gName 18)) (ts := [18]) rfl sc_law.nd (pix_keys (pv 2)) (blkOk_by (own := [("_law_value_here", 18)]) (N := ["_law_script", "_law_till", "_law_held", "_law_pair", "_law_deeds", "_law_values", "_law_k", "_law_cell", "_law_handed", "_law_first", "_law_found", "_law_deed_here", "_law_answer", "_law_kept", "_law_half", "_law_begin", "_law_again_here", "_law_due", "_law_value_here"]) (sc := defScope s_law) (by decide +kernel)) rfl (fun _ _ _ _ _ => pg_name (i := 18) sc_law.nd rfl (by first | exact Or.inl rfl | exact Or.inr rfl)) (fun _ _ _ _ _ => px_tup (pax_cons (px_var 18) (pax_cons (px_dix hu (px_var 18) (pv 2)) (pax_nil))))))))))) (psx_cons (psx_if (pt_n (pt_v (px_call (c_l_alike.at hr) (takes_of rfl rfl rfl rfl) (pax_cons (px_ix (px_var 10) (px_int)) (pax_cons (px_var 17) (pax_nil)))))) (psx_cons (psx_ret (px_r (px_bl))) (psx_nil)) (psx_nil)) (psx_cons (psx_if (pt_gt (px_len bi (px_var 4)) (px_int)) (psx_cons (psx_ret (px_r (px_bl))) (psx_nil)) (psx_nil)) (psx_cons (psx_retK (c_l_again.at hr) (takes_of rfl rfl rfl rfl) (pak_cons (px_var 9) (pak_cons (px_var 8) (pak_nil (pv 10) (pax_cons (px_var 17) (pax_nil))))) (fun Γ ds h => evs_len h) (px_eq hu (px_var 9) (px_var 1))) (psx_nil)))))))))))))))))))) wp

end
end TL

namespace TL
open PySem PySem.Spec PyProof.Rows L2 TD
def cell (ns : List Int) (k : Int) : Int := if k < ns.length then ns.getD k.toNat 0 else 0
def ph_l_cell_at : List D → Option Out
  | [.list ds, .int k] => if 0 ≤ k then (decI ds).map fun ns => oI (cell ns k) else none
  | _ => none
theorem v_cell_at {ns : List Int} {k : Int} (h : 0 ≤ k) : ph_l_cell_at [.list (ns.map .int), .int k] = some (oI (cell ns k)) := by
  simp only [ph_l_cell_at, h, if_true, decI_map, Option.map_some]
theorem ar_l_cell_at : ∀ ds o, ph_l_cell_at ds = some o → ds.length = 2 := by
  intro ds o h
  unfold ph_l_cell_at at h
  split at h
  · rfl
  · cases h
theorem wp_l_cell_at {ca : Nat → Addr} {xs : List Nat} : ∀ ds o, ph_l_cell_at ds = some o → wpSs ⟨[], ca, xs, none⟩ g_l_cell_at (gdOf o) (startE n_l_cell_at ds) := by
  intro ds o h
  unfold ph_l_cell_at at h
  split at h
  · rename_i ds k
    split at h
    · rename_i hk
      obtain ⟨ns, e, rfl⟩ := mapO h
      cases decI_sound e
      simp [g_l_cell_at, startE, n_l_cell_at, cell]
      refine ⟨fun h => ?_, fun h h2 => absurd h2 (by omega)⟩
      rw [ix_l (v := .int (ns.getD k.toNat 0)) hk (by rw [List.getElem?_map, List.getElem?_eq_getElem (by omega), List.getD_eq_getElem?_getD, List.getElem?_eq_getElem (by omega)]; rfl)]
      simp [h]
    · cases h
  · cases h
def ph_l_whole : List D → Option Out
  | [d] => some (oB (isiD .int d && !isiD .bool d))
  | _ => none
theorem ar_l_whole : ∀ ds o, ph_l_whole ds = some o → ds.length = 1 := by
  intro ds o h
  unfold ph_l_whole at h
  split at h
  · rfl
  · cases h
theorem wp_l_whole {ca : Nat → Addr} {xs : List Nat} : ∀ ds o, ph_l_whole ds = some o → wpSs ⟨[], ca, xs, none⟩ g_l_whole (gdOf o) (startE n_l_whole ds) := by
  intro ds o h
  unfold ph_l_whole at h
  split at h
  · cases h
    simp [g_l_whole, startE, n_l_whole]
  · cases h
def mixed (c k : Int) : Int := (c + 7919 * k) * 48271 % 2147483647
def ph_l_mixed : List D → Option Out
  | [.int c, .int k] => some (oI (mixed c k))
  | _ => none
theorem ar_l_mixed : ∀ ds o, ph_l_mixed ds = some o → ds.length = 2 := by
  intro ds o h
  unfold ph_l_mixed at h
  split at h
  · rfl
  · cases h
theorem wp_l_mixed {ca : Nat → Addr} {xs : List Nat} : ∀ ds o, ph_l_mixed ds = some o → wpSs ⟨[], ca, xs, none⟩ g_l_mixed (gdOf o) (startE n_l_mixed ds) := by
  intro ds o h
  unfold ph_l_mixed at h
  split at h
  · cases h
    simp [g_l_mixed, startE, n_l_mixed, bop_mul, bop_mod, mulOk_l, mulOk_r, mixed]
  · cases h
theorem mixed_nn (c k : Int) : 0 ≤ mixed c k := Int.emod_nonneg _ (by decide)
def coins : List Int := [1, 2, 5, 10, 20, 50, 100, 200, 500, 1000]
theorem coins_at (m : Int) : ∃ v, coins[(m % 10).toNat]? = some v ∧ coins.getD (m % 10).toNat 0 = v ∧ 1 ≤ v ∧ v ≤ 1000 := by
  have h1 : 0 ≤ m % 10 := Int.emod_nonneg _ (by decide)
  have h2 : m % 10 < 10 := Int.emod_lt_of_pos _ (by decide)
  have h3 : (m % 10).toNat < 10 := by omega
  generalize (m % 10).toNat = j at h3
  match j, h3 with
  | 0, _ | 1, _ | 2, _ | 3, _ | 4, _ | 5, _ | 6, _ | 7, _ | 8, _ | 9, _ => exact ⟨_, rfl, rfl, by decide, by decide⟩
def valueOf (c k : Int) : Int := if c % 3 = 0 then coins.getD (mixed c k % 10).toNat 0 else if c % 3 = 1 then 1 + mixed c k % 30 else 1 + mixed c k % 1000
theorem value_in (c k : Int) : 1 ≤ valueOf c k ∧ valueOf c k ≤ 1000 := by
  unfold valueOf
  split
  · obtain ⟨v, _, e, h1, h2⟩ := coins_at (mixed c k)
    rw [e]
    exact ⟨h1, h2⟩
  · split
    · have h1 : 0 ≤ mixed c k % 30 := Int.emod_nonneg _ (by decide)
      have h2 : mixed c k % 30 < 30 := Int.emod_lt_of_pos _ (by decide)
      omega
    · have h1 : 0 ≤ mixed c k % 1000 := Int.emod_nonneg _ (by decide)
      have h2 : mixed c k % 1000 < 1000 := Int.emod_lt_of_pos _ (by decide)
      omega
theorem value_inK (c : Int) (k : Nat) (_ : k ≤ 10) : 1 ≤ valueOf c (k + 1) ∧ valueOf c (k + 1) ≤ 1000 := value_in c (k + 1)
def ph_l_value : List D → Option Out
  | [.int c, .int k] => some (oI (valueOf c k))
  | _ => none
theorem ar_l_value : ∀ ds o, ph_l_value ds = some o → ds.length = 2 := by
  intro ds o h
  unfold ph_l_value at h
  split at h
  · rfl
  · cases h
theorem wp_l_value {ca : Nat → Addr} {xs : List Nat} : ∀ ds o, ph_l_value ds = some o → wpSs ⟨[ph_l_mixed], ca, xs, none⟩ g_l_value (gdOf o) (startE n_l_value ds) := by
  intro ds o h
  unfold ph_l_value at h
  split at h
  · cases h
    rename_i c k
    simp [g_l_value, startE, n_l_value, ph_l_mixed, bop_mul, bop_mod, mulOk_l, mulOk_r]
    refine ⟨fun h => ?_, fun h => ⟨fun h2 => ?_, fun h2 => ?_⟩⟩
    · obtain ⟨v, e, e2, _⟩ := coins_at (mixed c k)
      rw [ix_l (v := .int v) (Int.emod_nonneg _ (by decide)) (by
        have := congrArg (Option.map PyData.int) e
        rw [← List.getElem?_map] at this
        exact this)]
      unfold valueOf
      rw [if_pos h, e2]
      simp
    · unfold valueOf
      rw [if_neg h, if_pos h2]
    · unfold valueOf
      rw [if_neg h, if_neg h2]
  · cases h
def countOf (c k : Int) : Int := if c / 3 % 4 = 1 then mixed c k % 61 else if c / 3 % 12 = 6 then mixed c k / 7 % 2 * (1000000000 - mixed c k % 50) else mixed c k % 5
theorem count_in (c k : Int) : 0 ≤ countOf c k ∧ countOf c k ≤ 1000000000 := by
  unfold countOf
  split
  · omega
  · split
    · have h1 : mixed c k / 7 % 2 = 0 ∨ mixed c k / 7 % 2 = 1 := by omega
      rcases h1 with h | h <;> rw [h] <;> omega
    · omega
def ph_l_count : List D → Option Out
  | [.int c, .int k] => some (oI (countOf c k))
  | _ => none
theorem ar_l_count : ∀ ds o, ph_l_count ds = some o → ds.length = 2 := by
  intro ds o h
  unfold ph_l_count at h
  split at h
  · rfl
  · cases h
theorem wp_l_count {ca : Nat → Addr} {xs : List Nat} : ∀ ds o, ph_l_count ds = some o → wpSs ⟨[ph_l_mixed], ca, xs, none⟩ g_l_count (gdOf o) (startE n_l_count ds) := by
  intro ds o h
  unfold ph_l_count at h
  split at h
  · cases h
    rename_i c k
    have hm : mulOk (mixed c k / 7 % 2) (1000000000 - mixed c k % 50) = true := mulOk_l (by omega) (by omega)
    simp [g_l_count, startE, n_l_count, ph_l_mixed, bop_mul, bop_mod, bop_div, mulOk_l, mulOk_r, hm, countOf]
    refine ⟨fun h h2 => absurd h h2, fun h => ⟨fun h2 => ?_, fun h2 => ?_⟩⟩ <;> simp [h, h2]
  · cases h
/-! ### pairs -/
def bump : Nat → List Int → Int → Int
  | 0, _, v => v
  | n + 1, seen, v => if v ∈ seen then bump n seen (v % 1000 + 1) else v
def hop (v : Int) (j : Nat) : Int := (v - 1 + j) % 1000 + 1
theorem hop_0 {v : Int} (h1 : 1 ≤ v) (h2 : v ≤ 1000) : hop v 0 = v := by unfold hop; omega
theorem hop_s {v : Int} (j : Nat) (h1 : 1 ≤ v) (h2 : v ≤ 1000) : hop (v % 1000 + 1) j = hop v (j + 1) := by unfold hop; omega
theorem bump_bad {seen : List Int} : ∀ (n : Nat) {v : Int}, 1 ≤ v → v ≤ 1000 → bump n seen v ∈ seen → ∀ j, j ≤ n → hop v j ∈ seen
  | 0, v, h1, h2, h, j, hj => by
    have : j = 0 := by omega
    subst this
    rw [hop_0 h1 h2]
    exact h
  | n + 1, v, h1, h2, h, j, hj => by
    by_cases q : v ∈ seen
    · have e : bump (n + 1) seen v = bump n seen (v % 1000 + 1) := if_pos q
      rw [e] at h
      cases j with
      | zero => rw [hop_0 h1 h2]; exact q
      | succ j =>
        rw [← hop_s j h1 h2]
        exact bump_bad n (by omega) (by omega) h j (by omega)
    · have e : bump (n + 1) seen v = v := if_neg q
      rw [e] at h
      exact absurd h q
theorem bump_new {seen : List Int} {v : Int} (n : Nat) (h1 : 1 ≤ v) (h2 : v ≤ 1000) (hn : seen.length ≤ n) (h3 : n < 1000) : bump n seen v ∉ seen := fun h => by
  have hb := bump_bad n h1 h2 h
  have nd : ((List.range (n + 1)).map (hop v)).Nodup := by
    refine List.Pairwise.map _ ?_ (List.Pairwise.and_mem.mp List.nodup_range)
    intro a b ⟨ha, hb, hne⟩ e
    have ha := List.mem_range.mp ha
    have hb := List.mem_range.mp hb
    unfold hop at e
    omega
  have := List.Nodup.length_le_of_subset nd (l₂ := seen) (fun x hx => by
    obtain ⟨j, hj, rfl⟩ := List.mem_map.mp hx
    exact hb j (by have := List.mem_range.mp hj; omega))
  simp at this
  omega
theorem bump_in {seen : List Int} : ∀ (n : Nat) {v : Int}, 1 ≤ v → v ≤ 1000 → 1 ≤ bump n seen v ∧ bump n seen v ≤ 1000
  | 0, v, h1, h2 => ⟨h1, h2⟩
  | n + 1, v, h1, h2 => by
    by_cases q : v ∈ seen
    · have e : bump (n + 1) seen v = bump n seen (v % 1000 + 1) := if_pos q
      rw [e]
      exact bump_in n (by omega) (by omega)
    · have e : bump (n + 1) seen v = v := if_neg q
      rw [e]
      exact ⟨h1, h2⟩
/-- what a drawn till is -/
structure Drawn (ps : List (Int × Int)) : Prop where
  nd : (ps.map fun p => p.1).Nodup
  vals : ∀ p ∈ ps, 1 ≤ p.1 ∧ p.1 ≤ 1000 ∧ 0 ≤ p.2 ∧ p.2 ≤ 1000000000
  few : ps.length ≤ 10
theorem Drawn.perm {ps qs : List (Int × Int)} (d : Drawn ps) (p : qs.Perm ps) : Drawn qs :=
  ⟨(p.map _).nodup_iff.mpr d.nd, fun x hx => d.vals x (p.mem_iff.mp hx), by rw [p.length_eq]; exact d.few⟩
def seenD (ps : List (Int × Int)) : List (Int × D) := ps.map fun p => (p.1, .bool true)
theorem seen_get {k : Int} : ∀ ps : List (Int × Int), (dget (seenD ps) k).isSome = decide (k ∈ ps.map (·.1))
  | [] => rfl
  | p :: r => by
    have ih := seen_get (k := k) r
    unfold dget seenD at ih ⊢
    rw [List.map_cons, List.find?_cons]
    by_cases q : p.1 = k
    · simp [q]
    · simp only [q, decide_false]
      rw [ih]
      simp [List.mem_cons, Ne.symm q, eq_comm (a := k)]
theorem seen_put {k c : Int} {ps : List (Int × Int)} (h : k ∉ ps.map (·.1)) : dput (seenD ps) k (.bool true) = seenD (ps ++ [(k, c)]) := by
  unfold dput
  rw [if_neg]
  · simp [seenD]
  · intro z
    obtain ⟨kv, hkv, e⟩ := List.any_eq_true.mp z
    obtain ⟨p, hp, rfl⟩ := List.mem_map.mp hkv
    exact h (List.mem_map.mpr ⟨p, hp, of_decide_eq_true e⟩)
theorem ix_mod {ps : List (Int × Int)} {m : Int} (hl : ¬ps.length = 0) : ixD (.list (ps.map eP)) (.int (m % ps.length)) = .ok (eP (ps.getD (m % ps.length).toNat (0, 0))) := by
  have h0 : 0 ≤ m % (ps.length : Int) := Int.emod_nonneg _ (by omega)
  have h1 : m % (ps.length : Int) < ps.length := Int.emod_lt_of_pos _ (by omega)
  refine ix_l h0 ?_
  rw [List.getElem?_map, List.getD_eq_getElem?_getD, List.getElem?_eq_getElem (by omega)]
  rfl
theorem rising_of {ps : List (Int × Int)} (nd : (ps.map fun p => p.1).Nodup) : (pSort ps).Pairwise fun a b => a.1 < b.1 := by
  have h1 := pSort_sorted ps
  have h2 : (pSort ps).Pairwise fun a b => a.1 ≠ b.1 := by
    have := ((pSort_perm ps).map (fun p => p.1)).nodup_iff.mpr nd
    exact List.pairwise_map.mp this
  refine (h1.and h2).imp fun {a b} h => ?_
  have := pLe_iff.mp h.1
  have h3 := h.2
  omega
def pairsTo (cv cc : Int) : Nat → List (Int × Int)
  | 0 => []
  | k + 1 => pairsTo cv cc k ++ [(bump 10 ((pairsTo cv cc k).map (·.1)) (valueOf cv (k + 1)), countOf cc (k + 1))]
def manyOf (c : Int) : Int := if c / 5 % 8 = 1 then 6 + c / 40 % 5 else 1 + c % 5
theorem many_in (c : Int) : 1 ≤ manyOf c ∧ manyOf c ≤ 10 := by
  unfold manyOf
  split <;> omega
def pairsOf (ns : List Int) : List (Int × Int) := pairsTo (cell ns 1) (cell ns 2) (manyOf (cell ns 0)).toNat
theorem pairsTo_len (cv cc : Int) : ∀ k, (pairsTo cv cc k).length = k
  | 0 => rfl
  | k + 1 => by simp [pairsTo, pairsTo_len cv cc k]
theorem pairsTo_val (cv cc : Int) : ∀ (k : Nat) (p : Int × Int), p ∈ pairsTo cv cc k → 1 ≤ p.1 ∧ p.1 ≤ 1000 ∧ 0 ≤ p.2 ∧ p.2 ≤ 1000000000
  | 0, p, h => by cases h
  | k + 1, p, h => by
    rcases List.mem_append.mp h with h | h
    · exact pairsTo_val cv cc k p h
    · cases List.mem_singleton.mp h
      have h1 := bump_in (seen := (pairsTo cv cc k).map (·.1)) 10 (value_in cv (k + 1)).1 (value_in cv (k + 1)).2
      have h2 := count_in cc (k + 1)
      exact ⟨h1.1, h1.2, h2.1, h2.2⟩
theorem pairsTo_nd (cv cc : Int) : ∀ k, k ≤ 10 → ((pairsTo cv cc k).map fun p => p.1).Nodup
  | 0, _ => List.nodup_nil
  | k + 1, h => by
    rw [pairsTo, List.map_append]
    refine List.nodup_append.mpr ⟨pairsTo_nd cv cc k (by omega), (by simp), fun a ha b hb e => ?_⟩
    cases List.mem_singleton.mp hb
    subst e
    exact bump_new 10 (value_in cv (k + 1)).1 (value_in cv (k + 1)).2 (by rw [List.length_map, pairsTo_len]; omega) (by decide) ha
theorem pairsOf_drawn (ns : List Int) : Drawn (pairsOf ns) := by
  have h := many_in (cell ns 0)
  exact ⟨pairsTo_nd _ _ _ (by omega), pairsTo_val _ _ _, by unfold pairsOf; rw [pairsTo_len]; omega⟩
/-- the till handed: drawn pairs, sorted -/
theorem sorted_drawn (ns : List Int) : Drawn (pSort (pairsOf ns)) := (pairsOf_drawn ns).perm (pSort_perm _)
def ph_l_pairs : List D → Option Out
  | [.list ds] => (decI ds).map fun ns => .ret (.ol ((pairsOf ns).map eP))
  | _ => none
theorem v_pairs {ns : List Int} : ph_l_pairs [.list (ns.map .int)] = some (.ret (.ol ((pairsOf ns).map eP))) := by
  simp only [ph_l_pairs, decI_map, Option.map_some]
theorem ar_l_pairs : ∀ ds o, ph_l_pairs ds = some o → ds.length = 1 := by
  intro ds o h
  unfold ph_l_pairs at h
  split at h
  · rfl
  · cases h
theorem wp_l_pairs {ca : Nat → Addr} {xs : List Nat} : ∀ ds o, ph_l_pairs ds = some o → wpSs ⟨[ph_l_cell_at, ph_l_value, ph_l_count], ca, xs, none⟩ g_l_pairs (gdOf o) (startE n_l_pairs ds) := by
  intro ds o h
  unfold ph_l_pairs at h
  split at h
  · rename_i ds
    obtain ⟨ns, e, rfl⟩ := mapO h
    cases decI_sound e
    unfold g_l_pairs
    refine wp_cut (fun Γ => Γ = [some (.fz (.list (ns.map .int))), some (.fz (.int (cell ns 0))), none, none, none, none, none]) (by simp [startE, n_l_pairs, v_cell_at]) ?_
    rintro _ rfl
    refine wp_cut (fun Γ => Γ = [some (.fz (.list (ns.map .int))), some (.fz (.int (cell ns 0))), some (.fz (.int (1 + cell ns 0 % 5))), none, none, none, none]) (by simp [bop_mod]) ?_
    rintro _ rfl
    refine wp_cut (fun Γ => Γ = [some (.fz (.list (ns.map .int))), some (.fz (.int (cell ns 0))), some (.fz (.int (manyOf (cell ns 0)))), none, none, none, none]) (by
      simp [bop_mod, bop_div, manyOf]
      exact ⟨fun h h2 => absurd h h2, fun h h2 => absurd h2 h⟩) ?_
    rintro _ rfl
    have hm := many_in (cell ns 0)
    simp only [w_cons, w_asgF, w_asgD, e_lst, e_nil, bind_ok, size_lit (show 0 ≤ 16777216 by decide), if_true, on_ok, List.length_nil, List.set_cons_succ, List.set_cons_zero]
    refine ⟨rfl, ?_⟩
    refine wp_rng (n := manyOf (cell ns 0)) (fun k Γ => Γ = [some (.fz (.list (ns.map .int))), some (.fz (.int (cell ns 0))), some (.fz (.int (manyOf (cell ns 0)))), some (.own (.ol ((pairsTo (cell ns 1) (cell ns 2) k).map eP))), some (.dc true (seenD (pairsTo (cell ns 1) (cell ns 2) k))), none, none]) (by simp) (by omega) (by omega) (by simp [pairsTo, seenD]) ?_ ?_
    · rintro k _ hk rfl
      generalize hp : pairsTo (cell ns 1) (cell ns 2) k = ps
      have hlen : ps.length = k := by rw [← hp, pairsTo_len]
      have hv := value_in (cell ns 1) (k + 1)
      have hnew : bump 10 (ps.map (·.1)) (valueOf (cell ns 1) (k + 1)) ∉ ps.map (·.1) := bump_new 10 hv.1 hv.2 (by rw [List.length_map]; omega) (by decide)
      refine wp_cut (fun Γ => Γ = [some (.fz (.list (ns.map .int))), some (.fz (.int (cell ns 0))), some (.fz (.int (manyOf (cell ns 0)))), some (.own (.ol (ps.map eP))), some (.dc true (seenD ps)), some (.fz (.int k)), some (.fz (.int (valueOf (cell ns 1) (k + 1))))]) (by simp [v_cell_at, ph_l_value]) ?_
      rintro _ rfl
      refine wp_cut (fun Γ => Γ = [some (.fz (.list (ns.map .int))), some (.fz (.int (cell ns 0))), some (.fz (.int (manyOf (cell ns 0)))), some (.own (.ol (ps.map eP))), some (.dc true (seenD ps)), some (.fz (.int k)), some (.fz (.int (bump 10 (ps.map (·.1)) (valueOf (cell ns 1) (k + 1)))))]) ?_ ?_
      · refine wp_whl (fun n Γ => ∃ v, Γ = [some (.fz (.list (ns.map .int))), some (.fz (.int (cell ns 0))), some (.fz (.int (manyOf (cell ns 0)))), some (.own (.ol (ps.map eP))), some (.dc true (seenD ps)), some (.fz (.int k)), some (.fz (.int v))] ∧ bump n (ps.map (·.1)) v = bump 10 (ps.map (·.1)) (valueOf (cell ns 1) (k + 1))) 10 ⟨_, rfl, rfl⟩ ?_
        rintro n _ ⟨v, rfl, hb⟩
        by_cases q : v ∈ ps.map (·.1)
        · cases n with
          | zero => exact absurd (hb ▸ q : bump 10 (ps.map (·.1)) (valueOf (cell ns 1) (k + 1)) ∈ ps.map (·.1)) hnew
          | succ m =>
            refine .inl ⟨m, rfl, ?_, ?_⟩
            · simp [dslot, seen_get]
              simpa using q
            · simp [bop_mod]
              rw [← hb]
              simp only [bump, q, if_true]
        · refine .inr ⟨?_, ?_⟩
          · simp [dslot, seen_get]
            simpa using q
          · rw [← hb]
            cases n with
            | zero => rfl
            | succ m => simp only [bump, q, if_false]
      · rintro _ rfl
        simp [ownD, ownL, v_cell_at, ph_l_count]
        refine ⟨by unfold seenD; rw [List.length_map]; omega, rfl, by omega, ?_⟩
        rw [pairsTo, hp]
        refine ⟨?_, ?_⟩
        · simp [eP]
        · exact seen_put hnew
    · rintro _ rfl
      simp [ownR, pairsOf]
  · cases h
theorem pairsOf_pos (ns : List Int) : 1 ≤ (pairsOf ns).length := by
  have h := many_in (cell ns 0)
  unfold pairsOf
  rw [pairsTo_len]
  omega
theorem sorted_pos (ns : List Int) : 1 ≤ (pSort (pairsOf ns)).length := by
  rw [(pSort_perm _).length_eq]
  exact pairsOf_pos ns
/-! ### loops -/
theorem wp_dn {T : Tb} {ws : List Nat} {t : Nat} {a : GE} {body : GSs} {d : GD} {Γ : TD.Env} {n : Int} (I : Nat → TD.Env → Prop) (he : ev T (stab Γ) a = .ok (.int n)) (hn : n < 2 ^ 62) (h0' : 0 ≤ n) (h0 : I n.toNat (wipeE Γ ws))
    (hs : ∀ (k : Nat) (Γ : TD.Env), (k : Int) + 1 ≤ n → I (k + 1) Γ → wpSs T body { d with nx := fun Γ' => I k (wipeE Γ' ws) } (Γ.set t (some (.fz (.int (k + 1)))))) (h1 : ∀ Γ, I 0 Γ → d.nx Γ) : TD.wpS T (.for_ ws [t] (.idn a) body) d Γ := by
  have e2 : evI T (stab Γ) (.idn a) = .ok (dnL n) := by
    show (ev T (stab Γ) a).bind _ = _
    rw [he]
    show (if rngOk n = true then Rs.ok (dnL n) else .bad) = _
    rw [if_pos (by unfold rngOk; exact decide_eq_true (by omega))]
  have hl : (dnL n).length = n.toNat := by unfold dnL; simp
  refine wp_for (fun r Γ' => ∃ i : Nat, r = (dnL n).drop i ∧ i ≤ n.toNat ∧ I (n.toNat - i) Γ') e2 ⟨0, rfl, Nat.zero_le _, h0⟩ (fun it r Γ1 z => ?_) (fun Γ1 z => ?_)
  · obtain ⟨i, e, hi, hI⟩ := z
    have hlt : i < n.toNat := by
      by_cases q : i < n.toNat
      · exact q
      · rw [List.drop_of_length_le (by omega)] at e
        cases e
    rw [List.drop_eq_getElem_cons (by omega)] at e
    have e3 : (dnL n)[i]'(by omega) = [PyData.int (n - i)] := by
      unfold dnL
      simp
    rw [e3] at e
    cases e
    obtain ⟨k, hk⟩ : ∃ k, n.toNat - i = k + 1 := ⟨n.toNat - i - 1, by omega⟩
    rw [hk] at hI
    have e4 : n - (i : Int) = k + 1 := by omega
    rw [e4]
    exact wpSs_mono body (hs k Γ1 (by omega) hI) ⟨fun Γ2 y => ⟨i + 1, rfl, by omega, by rw [show n.toNat - (i + 1) = k by omega]; exact y⟩, fun _ y => y, fun _ _ y => y⟩
  · obtain ⟨i, e, hi, hI⟩ := z
    have : i = n.toNat := by
      have := congrArg List.length e
      simp [hl] at this
      omega
    subst this
    rw [Nat.sub_self] at hI
    exact h1 _ hI
/-- a loop over a list, each told as something else -/
theorem wp_map {α : Type} {f : α → D} {T : Tb} {ws : List Nat} {t : Nat} {a : GE} {body : GSs} {d : GD} {Γ : TD.Env} {xs : List α} (I : List α → TD.Env → Prop) (he : ev T (stab Γ) a = .ok (.list (xs.map f))) (h0 : I xs (wipeE Γ ws))
    (hs : ∀ p r Γ, I (p :: r) Γ → wpSs T body { d with nx := fun Γ' => I r (wipeE Γ' ws) } (Γ.set t (some (.fz (f p))))) (h1 : ∀ Γ, I [] Γ → d.nx Γ) : TD.wpS T (.for_ ws [t] (.il a) body) d Γ := by
  have e2 : evI T (stab Γ) (.il a) = .ok (xs.map fun p => [f p]) := by
    show (ev T (stab Γ) a).bind _ = _
    rw [he]
    show Rs.ok ((xs.map f).map fun d => [d]) = _
    rw [List.map_map]
    rfl
  refine wp_for (fun r Γ' => ∃ qs : List α, r = qs.map (fun p => [f p]) ∧ I qs Γ') e2 ⟨xs, rfl, h0⟩ (fun it r Γ1 z => ?_) (fun Γ1 z => ?_)
  · obtain ⟨qs, e, hI⟩ := z
    cases qs with
    | nil => cases e
    | cons p qs =>
      cases e
      exact wpSs_mono body (hs p qs Γ1 hI) ⟨fun Γ2 y => ⟨qs, rfl, y⟩, fun _ y => y, fun _ _ y => y⟩
  · obtain ⟨qs, e, hI⟩ := z
    cases qs with
    | nil => exact h1 _ hI
    | cons p qs => cases e
/-- a loop over two lists side by side -/
theorem wp_zip {α β : Type} {f : α → D} {g : β → D} {T : Tb} {ws : List Nat} {t u : Nat} {a b : GE} {body : GSs} {d : GD} {Γ : TD.Env} {xs : List α} {ys : List β} (I : List (α × β) → TD.Env → Prop) (he : ev T (stab Γ) a = .ok (.list (xs.map f))) (he2 : ev T (stab Γ) b = .ok (.list (ys.map g))) (h0 : I (xs.zip ys) (wipeE Γ ws))
    (hs : ∀ p r Γ, I (p :: r) Γ → wpSs T body { d with nx := fun Γ' => I r (wipeE Γ' ws) } ((Γ.set t (some (.fz (f p.1)))).set u (some (.fz (g p.2))))) (h1 : ∀ Γ, I [] Γ → d.nx Γ) : TD.wpS T (.for_ ws [t, u] (.iz a b) body) d Γ := by
  have e2 : evI T (stab Γ) (.iz a b) = .ok ((xs.zip ys).map fun p => [f p.1, g p.2]) := by
    show (ev T (stab Γ) a).bind _ = _
    rw [he]
    show (ev T (stab Γ) b).bind _ = _
    rw [he2]
    show Rs.ok (((xs.map f).zip (ys.map g)).map fun p => [p.1, p.2]) = _
    rw [List.zip_map, List.map_map]
    rfl
  refine wp_for (fun r Γ' => ∃ qs : List (α × β), r = qs.map (fun p => [f p.1, g p.2]) ∧ I qs Γ') e2 ⟨_, rfl, h0⟩ (fun it r Γ1 z => ?_) (fun Γ1 z => ?_)
  · obtain ⟨qs, e, hI⟩ := z
    cases qs with
    | nil => cases e
    | cons p qs =>
      cases e
      exact wpSs_mono body (hs p qs Γ1 hI) ⟨fun Γ2 y => ⟨qs, rfl, y⟩, fun _ y => y, fun _ _ y => y⟩
  · obtain ⟨qs, e, hI⟩ := z
    cases qs with
    | nil => exact h1 _ hI
    | cons p qs => cases e
theorem lcM_flt {α β : Type} {F : β → Rs (Option D)} {m : α → β} {q : α → Bool} {h : α → D} : ∀ {l : List α}, (∀ p ∈ l, F (m p) = .ok (if q p = true then some (h p) else none)) → lcM F (l.map m) = .ok ((l.filter q).map h)
  | [], _ => rfl
  | p :: r, k => by
    have ih := lcM_flt fun x hx => k x (List.mem_cons_of_mem _ hx)
    rw [List.map_cons]
    unfold lcM
    rw [k p List.mem_cons_self, List.filter_cons]
    cases z : q p with
    | true =>
      show (lcM F (r.map m)).map _ = _
      rw [ih]
      rfl
    | false =>
      show lcM F (r.map m) = _
      rw [ih]
      rfl
/-- a list of what is wanted of two lists side by side -/
theorem e_lcfz {α β : Type} {f : α → D} {g : β → D} {T : Tb} {Γ : TD.Env} {t u : Nat} {a b c e : GE} {xs : List α} {ys : List β} {q : α × β → Bool} {h : α × β → D} (he : ev T Γ a = .ok (.list (xs.map f))) (he2 : ev T Γ b = .ok (.list (ys.map g))) (hl : (xs.zip ys).length ≤ 16777216)
    (hg : ∀ p ∈ xs.zip ys, ev T (((wipeE Γ [t, u]).set t (some (.fz (f p.1)))).set u (some (.fz (g p.2)))) c = .ok (.bool (q p)) ∧ (q p = true → ev T (((wipeE Γ [t, u]).set t (some (.fz (f p.1)))).set u (some (.fz (g p.2)))) e = .ok (h p))) :
    evF T Γ (.lcf [t, u] (.iz a b) c e) = .ok (((xs.zip ys).filter q).map h) := by
  have e2 : evI T Γ (.iz a b) = .ok ((xs.zip ys).map fun p => [f p.1, g p.2]) := by
    show (ev T Γ a).bind _ = _
    rw [he]
    show (ev T Γ b).bind _ = _
    rw [he2]
    show Rs.ok (((xs.map f).zip (ys.map g)).map fun p => [p.1, p.2]) = _
    rw [List.zip_map, List.map_map]
    rfl
  show (evI T Γ (.iz a b)).bind _ = _
  rw [e2]
  show (if TD.sizeOk ((xs.zip ys).map fun p => [f p.1, g p.2]).length = true then lcM _ ((xs.zip ys).map fun p => [f p.1, g p.2]) else Rs.bad) = _
  rw [if_pos (size_lit (by rw [List.length_map]; exact hl))]
  refine lcM_flt fun p hp => ?_
  obtain ⟨h1, h2⟩ := hg p hp
  show ((ev T (((wipeE Γ [t, u]).set t (some (.fz (f p.1)))).set u (some (.fz (g p.2)))) c).bind fun b => _) = _
  rw [h1]
  cases z : q p with
  | true =>
    show (ev T (((wipeE Γ [t, u]).set t (some (.fz (f p.1)))).set u (some (.fz (g p.2)))) e).map some = _
    rw [h2 z]
    rfl
  | false => rfl
/-- a loop over the numbers from lo to hi -/
theorem wp_rng2 {T : Tb} {ws : List Nat} {t : Nat} {a b : GE} {body : GSs} {d : GD} {Γ : TD.Env} {lo hi : Int} (I : Nat → TD.Env → Prop) (he : ev T (stab Γ) a = .ok (.int lo)) (he2 : ev T (stab Γ) b = .ok (.int hi)) (h1l : lo.natAbs < 2 ^ 62) (h2l : hi.natAbs < 2 ^ 62) (h0 : I 0 (wipeE Γ ws))
    (hs : ∀ (i : Nat) (Γ : TD.Env), i < (hi - lo).toNat → I i Γ → wpSs T body { d with nx := fun Γ' => I (i + 1) (wipeE Γ' ws) } (Γ.set t (some (.fz (.int (lo + i)))))) (h1 : ∀ Γ, I (hi - lo).toNat Γ → d.nx Γ) : TD.wpS T (.for_ ws [t] (.i2 a b) body) d Γ := by
  have e2 : evI T (stab Γ) (.i2 a b) = .ok (rngL lo hi) := by
    show (ev T (stab Γ) a).bind _ = _
    rw [he]
    show (ev T (stab Γ) b).bind _ = _
    rw [he2]
    show (if (rngOk lo && rngOk hi) = true then Rs.ok (rngL lo hi) else .bad) = _
    have r1 : rngOk lo = true := by unfold rngOk; exact decide_eq_true (by omega)
    have r2 : rngOk hi = true := by unfold rngOk; exact decide_eq_true (by omega)
    rw [r1, r2]
    rfl
  have hl : (rngL lo hi).length = (hi - lo).toNat := by unfold rngL; simp
  refine wp_for (fun r Γ' => ∃ i : Nat, r = (rngL lo hi).drop i ∧ i ≤ (hi - lo).toNat ∧ I i Γ') e2 ⟨0, rfl, Nat.zero_le _, h0⟩ (fun it r Γ1 z => ?_) (fun Γ1 z => ?_)
  · obtain ⟨i, e, hle, hI⟩ := z
    have hlt : i < (hi - lo).toNat := by
      refine Nat.lt_of_not_le fun q => ?_
      rw [List.drop_of_length_le (by omega)] at e
      cases e
    rw [List.drop_eq_getElem_cons (by omega)] at e
    have e3 : (rngL lo hi)[i]'(by omega) = [PyData.int (lo + i)] := by
      unfold rngL
      simp
    rw [e3] at e
    cases e
    exact wpSs_mono body (hs i Γ1 hlt hI) ⟨fun Γ2 y => ⟨i + 1, rfl, by omega, y⟩, fun _ y => y, fun _ _ y => y⟩
  · obtain ⟨i, e, hle, hI⟩ := z
    have : i = (hi - lo).toNat := by
      have := congrArg List.length e
      simp [hl] at this
      omega
    subst this
    exact h1 _ hI
theorem lcM_each {α β : Type} {F : β → Rs (Option D)} {m : α → β} {h : α → D} : ∀ {l : List α}, (∀ p ∈ l, F (m p) = .ok (some (h p))) → lcM F (l.map m) = .ok (l.map h)
  | [], _ => rfl
  | p :: r, k => by
    have ih := lcM_each fun x hx => k x (List.mem_cons_of_mem _ hx)
    rw [List.map_cons]
    unfold lcM
    rw [k p List.mem_cons_self]
    show (lcM F (r.map m)).map _ = _
    rw [ih]
    rfl
/-- a list by each of a list, each told as something else -/
theorem e_lcm {α : Type} {f : α → D} {T : Tb} {Γ : TD.Env} {t : Nat} {a e : GE} {xs : List α} {g : α → D} (he : ev T Γ a = .ok (.list (xs.map f))) (hl : xs.length ≤ 16777216) (hg : ∀ p ∈ xs, ev T ((wipeE Γ [t]).set t (some (.fz (f p)))) e = .ok (g p)) :
    evF T Γ (.lc [t] (.il a) e) = .ok (xs.map g) := by
  have e2 : evI T Γ (.il a) = .ok (xs.map fun p => [f p]) := by
    show (ev T Γ a).bind _ = _
    rw [he]
    show Rs.ok ((xs.map f).map fun d => [d]) = _
    rw [List.map_map]
    rfl
  show (evI T Γ (.il a)).bind _ = _
  rw [e2]
  show (if TD.sizeOk (xs.map fun p => [f p]).length = true then lcM _ (xs.map fun p => [f p]) else Rs.bad) = _
  rw [if_pos (size_lit (by rw [List.length_map]; exact hl))]
  refine lcM_each fun p hp => ?_
  show (ev T ((wipeE Γ [t]).set t (some (.fz (f p)))) e).map some = _
  rw [hg p hp]
  rfl
def oD : Option Int → D
  | none => .none
  | some n => .int n
def rowD (r : List (Option Int)) : D := .list (r.map oD)
def decO : List D → Option (List (Option Int))
  | [] => some []
  | .none :: r => (decO r).map (none :: ·)
  | .int i :: r => (decO r).map (some i :: ·)
  | _ :: _ => none
theorem decO_map : ∀ r : List (Option Int), decO (r.map oD) = some r
  | [] => rfl
  | none :: r => by
    show (decO (r.map oD)).map (none :: ·) = _
    rw [decO_map r]
    rfl
  | some i :: r => by
    show (decO (r.map oD)).map (some i :: ·) = _
    rw [decO_map r]
    rfl
theorem decO_sound : ∀ {ds : List D} {r : List (Option Int)}, decO ds = some r → ds = r.map oD
  | [], _, h => by cases h; rfl
  | d :: ds, r, h => by
    cases d with
    | none =>
      obtain ⟨l, e, rfl⟩ := mapO (show (decO ds).map (none :: ·) = some r from h)
      rw [decO_sound e]
      rfl
    | int i =>
      obtain ⟨l, e, rfl⟩ := mapO (show (decO ds).map (some i :: ·) = some r from h)
      rw [decO_sound e]
      rfl
    | _ => cases h
def decR : List D → Option (List (List (Option Int)))
  | [] => some []
  | .list ds :: r => (decO ds).bind fun x => (decR r).map (x :: ·)
  | _ :: _ => none
theorem decR_map : ∀ r : List (List (Option Int)), decR (r.map rowD) = some r
  | [] => rfl
  | x :: r => by
    show (decO (x.map oD)).bind (fun x => (decR (r.map rowD)).map (x :: ·)) = _
    rw [decO_map, decR_map r]
    rfl
theorem decR_sound : ∀ {ds : List D} {r : List (List (Option Int))}, decR ds = some r → ds = r.map rowD
  | [], _, h => by cases h; rfl
  | d :: ds, r, h => by
    cases d with
    | list xs =>
      obtain ⟨x, e, h2⟩ := bindO (show (decO xs).bind (fun x => (decR ds).map (x :: ·)) = some r from h)
      obtain ⟨l, e2, rfl⟩ := mapO h2
      rw [decR_sound e2, decO_sound e]
      rfl
    | _ => cases h
@[simp] theorem eq_o {n : Bool} {a b : Option Int} : eqD n (oD a) (oD b) = .ok (.bool (n ^^ decide (a = b))) := by
  cases a with
  | none => cases b with
    | none => rfl
    | some j => rfl
  | some i => cases b with
    | none => rfl
    | some j =>
      show Rs.ok (PyData.bool (n ^^ decide (i = j))) = _
      simp
@[simp] theorem imm_o {a : Option Int} : TD.imm (oD a) = true := by cases a <;> rfl
@[simp] theorem immA_o : ∀ {r : List (Option Int)}, immA (r.map oD) = true
  | [] => rfl
  | a :: r => by simp [immA_o (r := r)]
theorem okD_o (r : List (Option Int)) : okD 1 (.list (r.map oD)) = true := List.all_eq_true.mpr fun d hd => by
  obtain ⟨n, _, rfl⟩ := List.mem_map.mp hd
  cases n <;> rfl
theorem okD_rows (rs : List (List (Option Int))) : okD 2 (.list (rs.map rowD)) = true := List.all_eq_true.mpr fun d hd => by
  obtain ⟨r, _, rfl⟩ := List.mem_map.mp hd
  exact okD_o r
theorem o_inj {a b : List (Option Int)} : a.map oD = b.map oD ↔ a = b := by
  refine ⟨fun h => ?_, fun h => h ▸ rfl⟩
  have := congrArg decO h
  rw [decO_map, decO_map] at this
  exact Option.some.inj this
theorem rows_inj {a b : List (List (Option Int))} : a.map rowD = b.map rowD ↔ a = b := by
  refine ⟨fun h => ?_, fun h => h ▸ rfl⟩
  have := congrArg decR h
  rw [decR_map, decR_map] at this
  exact Option.some.inj this
@[simp] theorem eq_row {n : Bool} {a b : List (Option Int)} : eqD n (.list (a.map oD)) (.list (b.map oD)) = .ok (.bool (n ^^ decide (a = b))) := eq_list (okD_o _) (okD_o _) (by decide) (by decide) (by rw [decide_eq_true_iff, o_inj])
@[simp] theorem eq_rowD {n : Bool} {a b : List (Option Int)} : eqD n (rowD a) (rowD b) = .ok (.bool (n ^^ decide (a = b))) := eq_row
@[simp] theorem eq_rows {n : Bool} {a b : List (List (Option Int))} : eqD n (.list (a.map rowD)) (.list (b.map rowD)) = .ok (.bool (n ^^ decide (a = b))) := eq_list (okD_rows _) (okD_rows _) (by decide) (by decide) (by rw [decide_eq_true_iff, rows_inj])
theorem e_lcr {T : Tb} {Γ : TD.Env} {t : Nat} {a e : GE} {n : Int} {g : Nat → D} (he : ev T Γ a = .ok (.int n)) (h0 : 0 ≤ n) (hl : n ≤ 16777216) (hg : ∀ i : Nat, (i : Int) < n → ev T ((wipeE Γ [t]).set t (some (.fz (.int i)))) e = .ok (g i)) :
    evF T Γ (.lc [t] (.i1 a) e) = .ok ((List.range n.toNat).map g) := by
  show (evI T Γ (.i1 a)).bind _ = _
  have e2 : evI T Γ (.i1 a) = .ok ((List.range n.toNat).map fun i => [PyData.int (i : Nat)]) := by
    show (ev T Γ a).bind _ = _
    rw [he]
    show (if rngOk n = true then Rs.ok (rngL 0 n) else .bad) = _
    rw [if_pos (by unfold rngOk; exact decide_eq_true (by omega))]
    unfold rngL
    simp
  rw [e2]
  show (if TD.sizeOk ((List.range n.toNat).map fun i => [PyData.int (i : Nat)]).length = true then lcM _ ((List.range n.toNat).map fun i => [PyData.int (i : Nat)]) else Rs.bad) = _
  rw [if_pos (size_lit (by rw [List.length_map, List.length_range]; omega))]
  have := lcM_all (f := fun it => (ev T (setTs (wipeE Γ [t]) [t] it) e).map some) (l := (List.range n.toNat).map fun i => [PyData.int (i : Nat)]) (g := fun it => match it with | [.int x] => g x.toNat | _ => .none) (fun it hit => by
    obtain ⟨i, hi, rfl⟩ := List.mem_map.mp hit
    have hi := List.mem_range.mp hi
    show (ev T ((wipeE Γ [t]).set t (some (.fz (.int i)))) e).map some = _
    rw [hg i (by omega)]
    rfl)
  rw [this, List.map_map]
  rfl
/-! ### tills as they are handed -/
abbrev Row := List (Option Int)
def okP (p : Int × Int) : Prop := 1 ≤ p.1 ∧ p.1 ≤ 1000 ∧ 0 ≤ p.2
instance (p : Int × Int) : Decidable (okP p) := inferInstanceAs (Decidable (_ ∧ _ ∧ _))
theorem ix_row {row : Row} {i : Int} (h0 : 0 ≤ i) (h1 : i < row.length) : ixD (.list (row.map oD)) (.int i) = .ok (oD (row.getD i.toNat none)) := by
  refine ix_l h0 ?_
  rw [List.getElem?_map, List.getD_eq_getElem?_getD, List.getElem?_eq_getElem (by omega)]
  rfl
def okTill (ps : List (Int × Int)) : Bool := decide (ps.length ≤ 1000) && ps.all fun p => decide (okP p)
theorem okTill_of {ps : List (Int × Int)} (h : okTill ps = true) : ps.length ≤ 1000 ∧ ∀ p ∈ ps, okP p := by
  unfold okTill at h
  obtain ⟨a, b⟩ := Bool.and_eq_true_iff.mp h
  exact ⟨of_decide_eq_true a, fun p hp => of_decide_eq_true (List.all_eq_true.mp b p hp)⟩
theorem okTill_mk {ps : List (Int × Int)} (h : ps.length ≤ 1000) (h2 : ∀ p ∈ ps, okP p) : okTill ps = true := by
  unfold okTill
  rw [decide_eq_true h]
  exact List.all_eq_true.mpr fun p hp => decide_eq_true (h2 p hp)
/-! ### rows of numbers and None -/
def tabR (rs : List Row) : R := .on (rs.map fun r => .ol (r.map oD))
theorem tabR_imm (rs : List Row) : (tabR rs).imm = true := by
  show R.imms (rs.map fun r => .ol (r.map oD)) = true
  induction rs with
  | nil => rfl
  | cons r rs ih =>
    show (immA (r.map oD) && R.imms (rs.map fun r => .ol (r.map oD))) = true
    rw [immA_o, ih]
    rfl
theorem tabR_toD (rs : List Row) : (tabR rs).toD = .list (rs.map rowD) := by
  show PyData.list (R.toDs (rs.map fun r => .ol (r.map oD))) = _
  congr 1
  induction rs with
  | nil => rfl
  | cons r rs ih =>
    show PyData.list (r.map oD) :: R.toDs (rs.map fun r => .ol (r.map oD)) = _
    rw [ih]
    rfl
def rowAt (rs : List Row) (k : Nat) : Row := rs.getD k []
def cellR (rs : List Row) (k a : Nat) : Option Int := (rowAt rs k).getD a none
theorem rowAt_some {rs : List Row} {k : Nat} {r : Row} (h : rs[k]? = some r) : rowAt rs k = r := by
  unfold rowAt
  rw [List.getD_eq_getElem?_getD, h]
  rfl
section
variable {rs : List Row} {ps : List (Int × Int)} {M k a : Nat} {p : Int × Int} {few : Int}
theorem ix_rows {i : Int} (h0 : 0 ≤ i) (h : i < rs.length) : ixD (.list (rs.map rowD)) (.int i) = .ok (.list ((rowAt rs i.toNat).map oD)) := by
  have e : rs[i.toNat]? = some rs[i.toNat] := List.getElem?_eq_getElem (by omega)
  refine ix_l h0 ?_
  rw [List.getElem?_map, e, rowAt_some e]
  rfl
theorem ix_rowsN (h : k < rs.length) : ixD (.list (rs.map rowD)) (.int k) = .ok (.list ((rowAt rs k).map oD)) := ix_rows (i := k) (by omega) (by omega)
theorem ix_rowsS (h : k + 1 < rs.length) : ixD (.list (rs.map rowD)) (.int (k + 1)) = .ok (.list ((rowAt rs (k + 1)).map oD)) := ix_rows (i := k + 1) (by omega) (by omega)
theorem ix_ps (h : ps[k]? = some p) : ixD (.list (ps.map eP)) (.int k) = .ok (eP p) := ix_l (by omega) (by rw [Int.toNat_natCast, List.getElem?_map, h]; rfl)
theorem ix_cell (h : a < (rowAt rs k).length) : ixD (.list ((rowAt rs k).map oD)) (.int a) = .ok (oD (cellR rs k a)) := ix_row (i := a) (by omega) (by omega)
end
theorem ix_rowD {rs : List Row} {k : Nat} {r : Row} (h : rs[k]? = some r) : ixD (.list (rs.map rowD)) (.int k) = .ok (.list (r.map oD)) := ix_l (by omega) (by rw [Int.toNat_natCast, List.getElem?_map, h]; rfl)
def ph_need_sum : List D → Option Out
  | [.int v] => some (if v < 0 ∨ v > 1000 then .exc 5 else .ret (.im .none))
  | _ => none
theorem ar_need_sum : ∀ ds o, ph_need_sum ds = some o → ds.length = 1 := by
  intro ds o h
  unfold ph_need_sum at h
  split at h
  · rfl
  · cases h
theorem wp_need_sum {ca : Nat → Addr} {xs : List Nat} : ∀ ds o, ph_need_sum ds = some o → wpSs ⟨[], ca, xs, none⟩ g_need_sum (gdOf o) (startE n_need_sum ds) := by
  intro ds o h
  unfold ph_need_sum at h
  split at h
  · rename_i v
    cases h
    simp [g_need_sum, startE, n_need_sum]
    first | omega | (refine ⟨?_, ?_⟩ <;> omega)
  · cases h
def lstep (row : Row) (at' : Nat) (v : Int) (found : Option Int) (k : Nat) : Option Int :=
  match row.getD ((at' : Int) - k * v).toNat none with
  | none => found
  | some few => match found with
    | none => some (few + k)
    | some f => if few + k < f then some (few + k) else some f
def leastN (row : Row) (at' : Nat) (v : Int) : Nat → Option Int
  | 0 => none
  | k + 1 => lstep row at' v (leastN row at' v k) k
def limOf (at' : Nat) (v c : Int) : Int := (if (at' : Int) / v < c then (at' : Int) / v else c) + 1
def leastOf (row : Row) (at' : Nat) (v c : Int) : Option Int := leastN row at' v (limOf at' v c).toNat
theorem lim_in {at' : Nat} {v c : Int} (h1 : 1 ≤ v) (h2 : 0 ≤ c) : 1 ≤ limOf at' v c ∧ limOf at' v c ≤ (at' : Int) + 1 ∧ ∀ k : Nat, (k : Int) < limOf at' v c → (k : Int) * v ≤ at' := by
  unfold limOf
  have hd0 : 0 ≤ (at' : Int) / v := Int.ediv_nonneg (by omega) (by omega)
  have hd1 : (at' : Int) / v ≤ at' := Int.ediv_le_self _ (by omega)
  have hd2 : v * ((at' : Int) / v) ≤ at' := Int.mul_ediv_self_le (by omega)
  refine ⟨?_, ?_, fun k hk => ?_⟩
  · split <;> omega
  · split <;> omega
  · have hk' : (k : Int) ≤ (at' : Int) / v := by split at hk <;> omega
    calc (k : Int) * v ≤ ((at' : Int) / v) * v := Int.mul_le_mul_of_nonneg_right hk' (by omega)
      _ = v * ((at' : Int) / v) := Int.mul_comm _ _
      _ ≤ at' := hd2
def ph_least : List D → Option Out
  | [.list ds, .int a, .tuple [.int v, .int c]] => (decO ds).bind fun row => if (0 ≤ a ∧ a < row.length) ∧ row.length ≤ 2000 ∧ okP (v, c) then some (.ret (.im (oD (leastOf row a.toNat v c)))) else none
  | _ => none
theorem ar_least : ∀ ds o, ph_least ds = some o → ds.length = 3 := by
  intro ds o h
  unfold ph_least at h
  split at h
  · rfl
  · cases h
theorem wp_least {ca : Nat → Addr} {xs : List Nat} : ∀ ds o, ph_least ds = some o → wpSs ⟨[], ca, xs, none⟩ g_least (gdOf o) (startE n_least ds) := by
  intro ds o h
  unfold ph_least at h
  split at h
  · rename_i ds a v c
    obtain ⟨row, e, h2⟩ := bindO h
    clear h
    cases decO_sound e
    split at h2
    · rename_i hg
      obtain ⟨⟨h0, h1⟩, hlen, g1, g2, g3⟩ := hg
      have g1 : 1 ≤ v := g1
      have g2 : v ≤ 1000 := g2
      have g3 : 0 ≤ c := g3
      cases h2
      obtain ⟨at', rfl⟩ := Int.eq_ofNat_of_zero_le h0
      have hlim := @lim_in at' v c g1 g3
      have ep : PyData.tuple [.int v, .int c] = eP (v, c) := rfl
      rw [ep, Int.toNat_natCast]
      unfold g_least
      refine wp_cut (fun Γ => Γ = [some (.fz (.list (row.map oD))), some (.fz (.int at')), some (.fz (eP (v, c))), some (.fz .none), none, none]) (by simp [startE, n_least]) ?_
      rintro _ rfl
      refine wp_cut (fun Γ => Γ = [some (.fz (.list (row.map oD))), some (.fz (.int at')), some (.fz (eP (v, c))), some (.fz (oD (leastOf row at' v c))), none, none]) ?_ ?_
      · refine wp_rng (n := limOf at' v c) (fun k Γ => Γ = [some (.fz (.list (row.map oD))), some (.fz (.int at')), some (.fz (eP (v, c))), some (.fz (oD (leastN row at' v k))), none, none]) (by simp [bop_div (show 0 < v by omega) (show v < 1073741824 by omega), limOf]) (by omega) (by omega) (by simp [leastN, oD]) ?_ ?_
        · rintro k _ hk rfl
          have hkv := hlim.2.2 k hk
          have hkn : 0 ≤ (k : Int) * v := Int.mul_nonneg (by omega) (by omega)
          have hmul : bop .mul (k : Int) v = .ok (.int (k * v)) := bop_mul (mulOk_r (by omega) (by omega))
          have hix := @ix_row row ((at' : Int) - k * v) (by omega) (by omega)
          have hs : leastN row at' v (k + 1) = lstep row at' v (leastN row at' v k) k := rfl
          rw [hs]
          unfold lstep
          generalize leastN row at' v k = found
          generalize row.getD ((at' : Int) - k * v).toNat none = few at hix
          cases few with
          | none => simp [hmul, hix, oD]
          | some w => cases found with
            | none => simp [hmul, hix, oD]
            | some f =>
              by_cases q : w + k < f
              · simp [hmul, hix, oD, q]
              · simp [hmul, hix, oD, q]
        · rintro _ rfl
          rfl
      · rintro _ rfl
        simp
    · cases h2
  · cases h
/-! ### the table -/
def nextRow (row : Row) (p : Int × Int) (m : Nat) : Row := (List.range (m + 1)).map fun at' => leastOf row at' p.1 p.2
def row0 (m : Nat) : Row := some 0 :: List.replicate m none
def tabGo (m : Nat) (row : Row) : List (Int × Int) → List Row
  | [] => [row]
  | p :: r => row :: tabGo m (nextRow row p m) r
def tableOf (ps : List (Int × Int)) (m : Nat) : List Row := tabGo m (row0 m) ps
theorem nextRow_len (row : Row) (p : Int × Int) (m : Nat) : (nextRow row p m).length = m + 1 := by simp [nextRow]
theorem row0_len (m : Nat) : (row0 m).length = m + 1 := by simp [row0]
theorem tabGo_len (m : Nat) : ∀ (ps : List (Int × Int)) (row : Row), (tabGo m row ps).length = ps.length + 1
  | [], _ => rfl
  | p :: r, row => by simp [tabGo, tabGo_len m r]
theorem tabGo_rows (m : Nat) : ∀ (ps : List (Int × Int)) (row : Row), row.length = m + 1 → ∀ r ∈ tabGo m row ps, r.length = m + 1
  | [], row, h, r, hr => by
    cases List.mem_singleton.mp hr
    exact h
  | p :: ps, row, h, r, hr => by
    rcases List.mem_cons.mp hr with z | z
    · rw [z]; exact h
    · exact tabGo_rows m ps _ (nextRow_len _ _ _) r z
theorem okTill_drawn {ps : List (Int × Int)} (d : Drawn ps) : okTill ps = true := by
  unfold okTill
  rw [decide_eq_true (by have := d.few; omega)]
  refine List.all_eq_true.mpr fun p hp => decide_eq_true ?_
  have := d.vals p hp
  exact ⟨this.1, this.2.1, this.2.2.1⟩
theorem v_least {row : Row} {a : Nat} {p : Int × Int} (h1 : a < row.length) (h2 : row.length ≤ 2000) (h3 : okP p) : ph_least [.list (row.map oD), .int a, eP p] = some (.ret (.im (oD (leastOf row a p.1 p.2)))) := by
  show (decO (row.map oD)).bind _ = _
  rw [decO_map]
  show (if (0 ≤ (a : Int) ∧ (a : Int) < row.length) ∧ row.length ≤ 2000 ∧ okP (p.1, p.2) then some (Out.ret (.im (oD (leastOf row (a : Int).toNat p.1 p.2)))) else none) = _
  rw [if_pos ⟨⟨by omega, by omega⟩, h2, h3⟩, Int.toNat_natCast]
def ph_table : List D → Option Out
  | [.list ds, .int m] => (decP ds).bind fun ps => if m < 0 ∨ m > 1000 then some (.exc 5) else if okTill ps then some (.ret (tabR (tableOf ps m.toNat))) else none
  | _ => none
theorem ar_table : ∀ ds o, ph_table ds = some o → ds.length = 2 := by
  intro ds o h
  unfold ph_table at h
  split at h
  · rfl
  · cases h
theorem wp_table {ca : Nat → Addr} {xs : List Nat} : ∀ ds o, ph_table ds = some o → wpSs ⟨[ph_need_sum, ph_least], ca, xs, none⟩ g_table (gdOf o) (startE n_table ds) := by
  intro ds o h
  unfold ph_table at h
  split at h
  · rename_i ds m
    obtain ⟨ps, e, h2⟩ := bindO h
    clear h
    cases decP_sound e
    split at h2
    · rename_i hm
      cases h2
      simp [g_table, startE, n_table, ph_need_sum, hm]
    · rename_i hm
      split at h2
      · rename_i hok
        cases h2
        obtain ⟨hlen, hall⟩ := okTill_of hok
        obtain ⟨M, rfl⟩ := Int.eq_ofNat_of_zero_le (show 0 ≤ m by omega)
        rw [Int.toNat_natCast]
        have hM : M ≤ 1000 := by omega
        unfold g_table
        refine wp_cut (fun Γ => Γ = [some (.fz (.list (ps.map eP))), some (.fz (.int M)), none, none, none, none]) (by simp [startE, n_table, ph_need_sum, hm]) ?_
        rintro _ rfl
        refine wp_cut (fun Γ => Γ = [some (.fz (.list (ps.map eP))), some (.fz (.int M)), some (.own (tabR [row0 M])), none, none, none]) ?_ ?_
        · have hrep : repR .none (.int M) = .ok (List.replicate M .none) := by
            rw [repR_i (by omega) (by omega), Int.toNat_natCast]
          have hcat : catR (.list [.int 0]) (.list (List.replicate M .none)) = .ok ((row0 M).map oD) := by
            rw [catR_l (by simp; omega)]
            simp [row0, oD]
          simp [hrep, hcat]
          rfl
        rintro _ rfl
        refine wp_cut (fun Γ => Γ = [some (.fz (.list (ps.map eP))), some (.fz (.int M)), some (.own (tabR (tableOf ps M))), none, none, none]) ?_ ?_
        · refine wp_prs (ps := ps) (fun r Γ => ∃ (done : List Row) (last : Row), Γ = [some (.fz (.list (ps.map eP))), some (.fz (.int M)), some (.own (tabR (done ++ [last]))), none, none, none] ∧ done ++ tabGo M last r = tableOf ps M ∧ last.length = M + 1 ∧ done.length + r.length ≤ 1000 ∧ ∀ p ∈ r, okP p) (by simp) ⟨[], row0 M, by simp, rfl, row0_len M, by simpa using hlen, hall⟩ ?_ ?_
          · rintro p r _ ⟨done, last, rfl, ht, hl, hn, hp⟩
            have hp0 := hp p List.mem_cons_self
            have hn' : done.length + (r.length + 1) ≤ 1000 := hn
            rw [w_brw]
            refine ⟨by decide, (done ++ [last]).map (fun r => .ol (r.map oD)), done.length, last.map oD, (nextRow last p M).map oD, rfl, ?_, by omega, ?_, ?_, immA_o, ?_, ?_⟩
            · simp [tabR_toD]
            · rw [Int.toNat_natCast, List.getElem?_map, List.getElem?_append_right (by omega)]
              simp
            · have := e_lcr (T := ⟨[ph_need_sum, ph_least], ca, xs, none⟩) (Γ := (view [some (.fz (.list (ps.map eP))), some (.fz (.int M)), some (.own (tabR (done ++ [last]))), some (.fz (eP p)), none, none]).set 4 (some (.fz (.list (last.map oD))))) (t := 5) (a := .bin .add (.var 1) (.cst (.int 1))) (e := .call 1 (.cons (.var 4) (.cons (.var 5) (.cons (.var 3) (.nil))))) (n := M + 1) (g := fun a => oD (leastOf last a p.1 p.2)) (by simp) (by omega) (by omega) (fun a ha => by
                  have := @v_least last a p (by omega) (by omega) hp0
                  simp [this])
              rw [show ((M : Int) + 1).toNat = M + 1 by omega] at this
              rw [nextRow, List.map_map]
              exact this
            · rw [List.length_map, List.length_append, List.length_singleton]
              omega
            · simp only [w_nil]
              refine ⟨done ++ [last], nextRow last p M, ?_, ?_, nextRow_len _ _ _, ?_, fun q hq => hp q (List.mem_cons_of_mem _ hq)⟩
              · simp [tabR]
              · rw [← ht]
                simp [tabGo]
              · simp
                omega
          · rintro _ ⟨done, last, rfl, ht, _, _, _⟩
            rw [← ht]
            rfl
        · rintro _ rfl
          rw [w_cons, w_retMv]
          exact ⟨_, rfl, tabR_imm _, rfl⟩
      · cases h2
  · cases h
def badSum (m : Int) : Prop := m < 0 ∨ m > 1000
instance (m : Int) : Decidable (badSum m) := inferInstanceAs (Decidable (_ ∨ _))
theorem v_table_bad {ps : List (Int × Int)} {m : Int} (h : badSum m) : ph_table [.list (ps.map eP), .int m] = some (.exc 5) := by
  have h' : m < 0 ∨ m > 1000 := h
  simp only [ph_table, decP_map, Option.bind_some, if_pos h']
theorem v_table {ps : List (Int × Int)} {m : Nat} (h : m ≤ 1000) (hk : okTill ps = true) : ph_table [.list (ps.map eP), .int m] = some (.ret (tabR (tableOf ps m))) := by
  have h' : ¬((m : Int) < 0 ∨ (m : Int) > 1000) := by omega
  simp only [ph_table, decP_map, Option.bind_some, if_neg h', if_pos hk, Int.toNat_natCast]
/-! ### the greatest count that fits -/
/-- the place in a row for k pieces of v less -/
def cut (row : Row) (a : Nat) (v : Int) (k : Nat) : Option Int := row.getD ((a : Int) - k * v).toNat none
theorem leastN_s {row : Row} {a : Nat} {v : Int} {k : Nat} : leastN row a v (k + 1) = match cut row a v k with
  | none => leastN row a v k
  | some few => match leastN row a v k with
    | none => some (few + k)
    | some f => if few + k < f then some (few + k) else some f := rfl
theorem leastN_hit {row : Row} {a : Nat} {v : Int} : ∀ {n : Nat} {f : Int}, leastN row a v n = some f → ∃ k, k < n ∧ cut row a v k = some (f - k)
  | 0, f, h => by cases h
  | n + 1, f, h => by
    rw [leastN_s] at h
    cases hc : cut row a v n with
    | none =>
      rw [hc] at h
      obtain ⟨k, h1, h2⟩ := leastN_hit h
      exact ⟨k, by omega, h2⟩
    | some w =>
      rw [hc] at h
      cases hl : leastN row a v n with
      | none =>
        rw [hl] at h
        cases h
        exact ⟨n, by omega, by rw [hc]; congr 1; omega⟩
      | some g =>
        rw [hl] at h
        dsimp only at h
        split at h
        · cases h
          exact ⟨n, by omega, by rw [hc]; congr 1; omega⟩
        · cases h
          obtain ⟨k, h1, h2⟩ := leastN_hit hl
          exact ⟨k, by omega, h2⟩
theorem leastN_le {row : Row} {a : Nat} {v : Int} : ∀ {n k : Nat} {w : Int}, k < n → cut row a v k = some w → ∃ f, leastN row a v n = some f ∧ f ≤ w + k
  | 0, k, w, h, _ => by omega
  | n + 1, k, w, h, hc => by
    rw [leastN_s]
    by_cases q : k = n
    · subst q
      rw [hc]
      dsimp only
      cases hl : leastN row a v k with
      | none => exact ⟨_, rfl, Int.le_refl _⟩
      | some g =>
        dsimp only
        split
        · exact ⟨_, rfl, Int.le_refl _⟩
        · exact ⟨g, rfl, by omega⟩
    · obtain ⟨f, h1, h2⟩ := leastN_le (n := n) (k := k) (by omega) hc
      rw [h1]
      cases hc2 : cut row a v n with
      | none => exact ⟨f, rfl, h2⟩
      | some u =>
        dsimp only
        split
        · exact ⟨_, rfl, by omega⟩
        · exact ⟨f, rfl, h2⟩
/-- the greatest count up to n that leaves so few -/
def fitN (row : Row) (a : Nat) (v few : Int) : Nat → Nat
  | 0 => 0
  | n + 1 => if cut row a v (n + 1) = some (few - (n + 1 : Nat)) then n + 1 else fitN row a v few n
theorem fitN_le {row : Row} {a : Nat} {v few : Int} : ∀ n, fitN row a v few n ≤ n
  | 0 => Nat.le_refl _
  | n + 1 => by
    unfold fitN
    split
    · exact Nat.le_refl _
    · exact Nat.le_succ_of_le (fitN_le n)
theorem fitN_hit {row : Row} {a : Nat} {v few : Int} : ∀ {n k : Nat}, k ≤ n → cut row a v k = some (few - k) → cut row a v (fitN row a v few n) = some (few - (fitN row a v few n : Nat))
  | 0, k, h, hc => by
    have : k = 0 := by omega
    subst this
    exact hc
  | n + 1, k, h, hc => by
    unfold fitN
    split
    · assumption
    · rename_i q
      by_cases z : k = n + 1
      · subst z
        exact absurd hc q
      · exact fitN_hit (by omega) hc
theorem fitN_max {row : Row} {a : Nat} {v few : Int} : ∀ {n k : Nat}, k ≤ n → cut row a v k = some (few - k) → k ≤ fitN row a v few n
  | 0, k, h, hc => h
  | n + 1, k, h, hc => by
    unfold fitN
    split
    · exact h
    · rename_i q
      by_cases z : k = n + 1
      · subst z
        exact absurd hc q
      · exact fitN_max (by omega) hc
def limN (a : Nat) (v c : Int) : Nat := (limOf a v c).toNat - 1
theorem limN_i {a : Nat} {v c : Int} (h1 : 1 ≤ v) (h2 : 0 ≤ c) : (if (a : Int) / v < c then (a : Int) / v else c) = limN a v c := by
  have := (@lim_in a v c h1 h2).1
  unfold limN
  unfold limOf at this ⊢
  omega
theorem limN_in {a : Nat} {v c : Int} (h1 : 1 ≤ v) (h2 : 0 ≤ c) : (limOf a v c).toNat = limN a v c + 1 ∧ ∀ k : Nat, k ≤ limN a v c → (k : Int) * v ≤ a ∧ (k : Int) ≤ c := by
  have := @lim_in a v c h1 h2
  unfold limN
  refine ⟨by omega, fun k hk => ⟨this.2.2 k (by omega), ?_⟩⟩
  have h3 : limOf a v c ≤ c + 1 := by unfold limOf; split <;> omega
  omega
theorem lim_all {a : Nat} {v c : Int} (h1 : 1 ≤ v) {k : Nat} (h2 : (k : Int) * v ≤ a) (h3 : (k : Int) ≤ c) : k ≤ limN a v c := by
  have : (k : Int) ≤ (a : Int) / v := (Int.le_ediv_iff_mul_le (by omega)).mpr h2
  unfold limN limOf
  split <;> omega
/-- the place one row on -/
def stepN (row : Row) (a : Nat) (p : Int × Int) (few : Int) : Nat := fitN row a p.1 few (limN a p.1 p.2)
theorem least_hit {row : Row} {a : Nat} {v c few : Int} (h1 : 1 ≤ v) (h2 : 0 ≤ c) (h : leastOf row a v c = some few) : ∃ k, k ≤ limN a v c ∧ cut row a v k = some (few - k) := by
  obtain ⟨k, hk, hc⟩ := leastN_hit h
  rw [(@limN_in a v c h1 h2).1] at hk
  exact ⟨k, by omega, hc⟩
def ph_as_many : List D → Option Out
  | [.list ds, .int a, .tuple [.int v, .int c], .int few] => (decO ds).bind fun row => if (0 ≤ a ∧ a < row.length) ∧ row.length ≤ 2000 ∧ okP (v, c) ∧ leastOf row a.toNat v c = some few then some (oI (stepN row a.toNat (v, c) few : Nat)) else none
  | _ => none
theorem ar_as_many : ∀ ds o, ph_as_many ds = some o → ds.length = 4 := by
  intro ds o h
  unfold ph_as_many at h
  split at h
  · rfl
  · cases h
theorem v_as_many {row : Row} {a : Nat} {p : Int × Int} {few : Int} (h1 : a < row.length) (h2 : row.length ≤ 2000) (h3 : okP p) (h4 : leastOf row a p.1 p.2 = some few) : ph_as_many [.list (row.map oD), .int a, eP p, .int few] = some (oI (stepN row a p few : Nat)) := by
  show (decO (row.map oD)).bind _ = _
  rw [decO_map]
  show (if (0 ≤ (a : Int) ∧ (a : Int) < row.length) ∧ row.length ≤ 2000 ∧ okP (p.1, p.2) ∧ leastOf row (a : Int).toNat p.1 p.2 = some few then some (oI (stepN row (a : Int).toNat (p.1, p.2) few : Nat)) else none) = _
  rw [Int.toNat_natCast, if_pos ⟨⟨by omega, by omega⟩, h2, h3, h4⟩]
theorem wp_as_many {ca : Nat → Addr} {xs : List Nat} : ∀ ds o, ph_as_many ds = some o → wpSs ⟨[], ca, xs, none⟩ g_as_many (gdOf o) (startE n_as_many ds) := by
  intro ds o h
  unfold ph_as_many at h
  split at h
  · rename_i ds a v c few
    obtain ⟨row, e, h2⟩ := bindO h
    clear h
    cases decO_sound e
    split at h2
    · rename_i hg
      obtain ⟨⟨h0, h1⟩, hlen, ⟨g1, g2, g3⟩, hl⟩ := hg
      have g1 : 1 ≤ v := g1
      have g2 : v ≤ 1000 := g2
      have g3 : 0 ≤ c := g3
      cases h2
      obtain ⟨at', rfl⟩ := Int.eq_ofNat_of_zero_le h0
      rw [Int.toNat_natCast] at hl ⊢
      have hhit := least_hit g1 g3 hl
      have hlim := @limN_in at' v c g1 g3
      have ep : PyData.tuple [.int v, .int c] = eP (v, c) := rfl
      rw [ep]
      unfold g_as_many
      refine wp_cut (fun Γ => Γ = [some (.fz (.list (row.map oD))), some (.fz (.int at')), some (.fz (eP (v, c))), some (.fz (.int few)), some (.fz (.int (limN at' v c : Nat)))]) (by simp [startE, n_as_many, bop_div (show 0 < v by omega) (show v < 1073741824 by omega), limN_i g1 g3]) ?_
      rintro _ rfl
      refine wp_cut (fun Γ => Γ = [some (.fz (.list (row.map oD))), some (.fz (.int at')), some (.fz (eP (v, c))), some (.fz (.int few)), some (.fz (.int (stepN row at' (v, c) few : Nat)))]) ?_ ?_
      · refine wp_whl (fun n Γ => n ≤ limN at' v c ∧ Γ = [some (.fz (.list (row.map oD))), some (.fz (.int at')), some (.fz (eP (v, c))), some (.fz (.int few)), some (.fz (.int n))] ∧ fitN row at' v few n = stepN row at' (v, c) few ∧ ∃ k, k ≤ n ∧ cut row at' v k = some (few - k)) (limN at' v c) ⟨Nat.le_refl _, rfl, rfl, hhit⟩ ?_
        rintro n _ ⟨hn, rfl, hf, hk⟩
        have hnv := (hlim.2 n hn).1
        have hnn : 0 ≤ (n : Int) * v := Int.mul_nonneg (by omega) (by omega)
        have hmul : bop .mul (n : Int) v = .ok (.int (n * v)) := bop_mul (mulOk_r (by omega) (by omega))
        have hix : ixD (.list (row.map oD)) (.int ((at' : Int) - n * v)) = .ok (oD (cut row at' v n)) := @ix_row row ((at' : Int) - n * v) (by omega) (by omega)
        by_cases q : cut row at' v n = some (few - n)
        · refine .inr ⟨?_, ?_⟩
          · simp [hmul, hix, q, oD]
          · have : stepN row at' (v, c) few = n := by
              rw [← hf]
              cases n with
              | zero => rfl
              | succ n =>
                unfold fitN
                rw [if_pos q]
            rw [this]
        · have h1n : 1 ≤ n := by
            rcases Nat.eq_zero_or_pos n with z | z
            · subst z
              obtain ⟨k, hk1, hk2⟩ := hk
              have : k = 0 := by omega
              subst this
              exact absurd hk2 q
            · exact z
          refine .inl ⟨n - 1, by omega, ?_, ?_⟩
          · cases hc : cut row at' v n with
            | none =>
              rw [hc] at hix
              simp [hmul, hix, oD]
            | some w =>
              rw [hc] at hix q
              have q' : ¬(w + (n : Int) = few) := fun z => q (by congr 1; omega)
              simp [hmul, hix, oD, q']
          · simp
            refine ⟨by omega, by omega, ?_, ?_⟩
            · rw [← hf]
              obtain ⟨m, rfl⟩ : ∃ m, n = m + 1 := ⟨n - 1, by omega⟩
              conv => rhs; unfold fitN
              rw [if_neg q]
              rfl
            · obtain ⟨k, hk1, hk2⟩ := hk
              refine ⟨k, ?_, hk2⟩
              by_cases z : k = n
              · subst z
                exact absurd hk2 q
              · omega
      · rintro _ rfl
        simp
    · cases h2
  · cases h
theorem tabGo_step (m : Nat) : ∀ (ps : List (Int × Int)) (row : Row) (k : Nat) (p : Int × Int), ps[k]? = some p → ∃ a b, (tabGo m row ps)[k]? = some a ∧ (tabGo m row ps)[k + 1]? = some b ∧ b = nextRow a p m
  | [], _, _, _, h => by cases h
  | q :: r, row, 0, p, h => by
    cases h
    refine ⟨row, nextRow row q m, rfl, ?_, rfl⟩
    cases r <;> rfl
  | q :: r, row, k + 1, p, h => tabGo_step m r (nextRow row q m) k p h
theorem tab_0 (ps : List (Int × Int)) (m : Nat) : (tableOf ps m)[0]? = some (row0 m) := by
  cases ps <;> rfl
/-! ### the change -/
structure Tabled (rs : List Row) (ps : List (Int × Int)) (M : Nat) : Prop where
  len : rs.length = ps.length + 1
  r0 : rowAt rs 0 = row0 M
  step : ∀ (k : Nat) (p : Int × Int), ps[k]? = some p → rowAt rs (k + 1) = nextRow (rowAt rs k) p M
  rows : ∀ k : Nat, k < rs.length → (rowAt rs k).length = M + 1
theorem tabled (ps : List (Int × Int)) (M : Nat) : Tabled (tableOf ps M) ps M := by
  refine ⟨tabGo_len M ps _, rowAt_some (tab_0 ps M), fun k p h => ?_, fun k h => ?_⟩
  · obtain ⟨a, b, h1, h2, h3⟩ := tabGo_step M ps (row0 M) k p h
    rw [rowAt_some (rs := tableOf ps M) h1, rowAt_some (rs := tableOf ps M) h2, h3]
  · have e : (tableOf ps M)[k]? = some (tableOf ps M)[k] := List.getElem?_eq_getElem h
    rw [rowAt_some e]
    exact tabGo_rows M ps _ (row0_len M) _ (List.mem_of_getElem? e)
theorem nextRow_at {row : Row} {p : Int × Int} {M a : Nat} (h : a ≤ M) : (nextRow row p M).getD a none = leastOf row a p.1 p.2 := by
  unfold nextRow
  rw [List.getD_eq_getElem?_getD, List.getElem?_map, List.getElem?_range (by omega)]
  rfl
theorem row0_at {M a : Nat} : (row0 M).getD a none = if a = 0 then some 0 else none := by
  unfold row0
  cases a with
  | zero => rfl
  | succ a =>
    rw [if_neg (by omega), List.getD_eq_getElem?_getD, List.getElem?_cons_succ, List.getElem?_replicate]
    split <;> rfl
section
variable {rs : List Row} {ps : List (Int × Int)} {M k a : Nat} {p : Int × Int} {few : Int}
theorem Tabled.cell (T : Tabled rs ps M) (hp : ps[k]? = some p) (ha : a ≤ M) : cellR rs (k + 1) a = leastOf (rowAt rs k) a p.1 p.2 := by
  unfold cellR
  rw [T.step k p hp, nextRow_at ha]
theorem Tabled.go (T : Tabled rs ps M) (hp : ps[k]? = some p) (ok : okP p) (ha : a ≤ M) (hc : cellR rs (k + 1) a = some few) : ∀ n, n = stepN (rowAt rs k) a p few → (n : Int) * p.1 ≤ a ∧ (n : Int) ≤ p.2 ∧ ∃ b : Nat, (b : Int) = a - n * p.1 ∧ b ≤ M ∧ cellR rs k b = some (few - n) := by
  rintro n rfl
  rw [T.cell hp ha] at hc
  obtain ⟨j, hj, hcut⟩ := least_hit ok.1 ok.2.2 hc
  have h1 := (limN_in (a := a) ok.1 ok.2.2).2 _ (fitN_le (row := rowAt rs k) (a := a) (v := p.1) (few := few) (limN a p.1 p.2))
  have h2 := fitN_hit hj hcut
  change ((stepN (rowAt rs k) a p few : Nat) : Int) * p.1 ≤ a ∧ ((stepN (rowAt rs k) a p few : Nat) : Int) ≤ p.2 at h1
  change cut (rowAt rs k) a p.1 (stepN (rowAt rs k) a p few) = some (few - (stepN (rowAt rs k) a p few : Nat)) at h2
  generalize stepN (rowAt rs k) a p few = n at h1 h2 ⊢
  have h0 : 0 ≤ (n : Int) * p.1 := Int.mul_nonneg (by omega) (by have := ok.1; omega)
  exact ⟨h1.1, h1.2, ((a : Int) - n * p.1).toNat, by omega, by omega, h2⟩
theorem Tabled.cell0 (T : Tabled rs ps M) {a : Nat} {f : Int} (h : cellR rs 0 a = some f) : a = 0 ∧ f = 0 := by
  unfold cellR at h
  rw [T.r0, row0_at] at h
  split at h
  · cases h
    exact ⟨by assumption, rfl⟩
  · cases h
/-- the way told by a table, the greatest kinds first -/
def wayN (rs : List Row) (ps : List (Int × Int)) : Nat → Nat → List (Int × Int)
  | 0, _ => []
  | k + 1, a => let p := ps.getD k (0, 0); let n := stepN (rowAt rs k) a p ((cellR rs (k + 1) a).getD 0)
    if 0 < n then (p.1, (n : Int)) :: wayN rs ps k ((a : Int) - n * p.1).toNat else wayN rs ps k ((a : Int) - n * p.1).toNat
theorem wayN_s (hp : ps[k]? = some p) (hc : cellR rs (k + 1) a = some few) {n b : Nat} (hn : n = stepN (rowAt rs k) a p few) (hb : (b : Int) = a - n * p.1) : wayN rs ps (k + 1) a = (if 0 < n then [(p.1, (n : Int))] else []) ++ wayN rs ps k b := by
  have e : ps.getD k (0, 0) = p := by rw [List.getD_eq_getElem?_getD, hp]; rfl
  show (if 0 < stepN (rowAt rs k) a (ps.getD k (0, 0)) ((cellR rs (k + 1) a).getD 0) then _ else _) = _
  rw [e, hc, Option.getD_some, ← hn, ← hb, Int.toNat_natCast]
  split <;> rfl
end
def fewestOf (ps : List (Int × Int)) (M : Nat) : Option (List (Int × Int)) := (cellR (tableOf ps M) ps.length M).map fun _ => (wayN (tableOf ps M) ps ps.length M).reverse
def ph_fewest : List D → Option Out
  | [.list ds, .int m] => (decP ds).bind fun ps => if badSum m then some (.exc 5) else if okTill ps then some (match fewestOf ps m.toNat with
    | none => .exc 7
    | some qs => .ret (.ol (qs.map eP))) else none
  | _ => none
theorem ar_fewest : ∀ ds o, ph_fewest ds = some o → ds.length = 2 := by
  intro ds o h
  unfold ph_fewest at h
  split at h
  · rfl
  · cases h
theorem v_fewest_bad {ps : List (Int × Int)} {m : Int} (h : badSum m) : ph_fewest [.list (ps.map eP), .int m] = some (.exc 5) := by
  simp only [ph_fewest, decP_map, Option.bind_some, if_pos h]
theorem v_fewest {ps : List (Int × Int)} {m : Nat} (h : m ≤ 1000) (hk : okTill ps = true) : ph_fewest [.list (ps.map eP), .int m] = some (match fewestOf ps m with
    | none => .exc 7
    | some qs => .ret (.ol (qs.map eP))) := by
  have h' : ¬badSum m := by unfold badSum; omega
  simp only [ph_fewest, decP_map, Option.bind_some, if_neg h', if_pos hk, Int.toNat_natCast]
theorem wp_fewest {ca : Nat → Addr} {xs : List Nat} : ∀ ds o, ph_fewest ds = some o → wpSs ⟨[ph_table, ph_as_many], ca, xs, none⟩ g_fewest (gdOf o) (startE n_fewest ds) := by
  intro ds o h
  unfold ph_fewest at h
  split at h
  · rename_i ds m
    obtain ⟨ps, e, h2⟩ := bindO h
    clear h
    cases decP_sound e
    split at h2
    · rename_i hb
      cases h2
      simp [g_fewest, startE, n_fewest, v_table_bad hb]
    · rename_i hb
      split at h2
      · rename_i hok
        cases h2
        obtain ⟨hlen, hall⟩ := okTill_of hok
        unfold badSum at hb
        obtain ⟨M, rfl⟩ := Int.eq_ofNat_of_zero_le (show 0 ≤ m by omega)
        have hM : M ≤ 1000 := by omega
        rw [Int.toNat_natCast]
        have vt := @v_table ps M hM hok
        have T := tabled ps M
        unfold fewestOf
        generalize tableOf ps M = rs at vt T
        unfold g_fewest
        refine wp_cut (fun Γ => Γ = [some (.fz (.list (ps.map eP))), some (.fz (.int M)), some (.fz (.list (rs.map rowD))), none, none, none, none]) (by simp [startE, n_fewest, vt, tabR_toD]) ?_
        rintro _ rfl
        have ixn : ixD (.list (rs.map rowD)) (.int ps.length) = .ok (.list ((rowAt rs ps.length).map oD)) := ix_rowsN (by rw [T.len]; omega)
        have ixm := @ix_cell rs ps.length M (by rw [T.rows _ (by rw [T.len]; omega)]; omega)
        cases hc : cellR rs ps.length M with
        | none =>
          rw [hc] at ixm
          simp [ixn, ixm, oD]
        | some f =>
          rw [hc] at ixm
          refine wp_cut (fun Γ => Γ = [some (.fz (.list (ps.map eP))), some (.fz (.int M)), some (.fz (.list (rs.map rowD))), none, none, none, none]) (by simp [ixn, ixm, oD]) ?_
          rintro _ rfl
          refine wp_cut (fun Γ => Γ = [some (.fz (.list (ps.map eP))), some (.fz (.int M)), some (.fz (.list (rs.map rowD))), some (.own (.ol [])), none, none, none]) (by simp) ?_
          rintro _ rfl
          refine wp_cut (fun Γ => Γ = [some (.fz (.list (ps.map eP))), some (.fz (.int M)), some (.fz (.list (rs.map rowD))), some (.own (.ol [])), some (.fz (.int M)), none, none]) (by simp) ?_
          rintro _ rfl
          refine wp_cut (fun Γ => ∃ x, Γ = [some (.fz (.list (ps.map eP))), some (.fz (.int M)), some (.fz (.list (rs.map rowD))), some (.own (.ol ((wayN rs ps ps.length M).map eP))), x, none, none]) ?_ ?_
          · refine wp_dn (n := ps.length) (fun k Γ => ∃ (a : Nat) (acc : List (Int × Int)) (g : Int), Γ = [some (.fz (.list (ps.map eP))), some (.fz (.int M)), some (.fz (.list (rs.map rowD))), some (.own (.ol (acc.map eP))), some (.fz (.int a)), none, none] ∧ a ≤ M ∧ acc ++ wayN rs ps k a = wayN rs ps ps.length M ∧ cellR rs k a = some g ∧ acc.length + k ≤ 1000) (by simp) (by omega) (by omega) ⟨M, [], f, by simp, Nat.le_refl _, by simp, by simpa using hc, by simpa using hlen⟩ ?_ ?_
            · rintro k _ hk ⟨a, acc, g, rfl, ha, hw, hg, hn⟩
              have hkp : ps[k]? = some ps[k] := List.getElem?_eq_getElem (by omega)
              have hpk := hall ps[k] (List.getElem_mem _)
              generalize ps[k] = p at hkp hpk
              have hkl : k + 1 < rs.length := by rw [T.len]; omega
              have i1 := @ix_rowsN rs k (by omega)
              have i2 := @ix_rowsS rs k hkl
              have i3 := ix_ps hkp
              have i4 := @ix_cell rs (k + 1) a (by rw [T.rows _ hkl]; omega)
              rw [hg] at i4
              have hcl := T.cell hkp ha
              rw [hg] at hcl
              have va := v_as_many (row := rowAt rs k) (a := a) (p := p) (few := g) (by rw [T.rows _ (by omega)]; omega) (by rw [T.rows _ (by omega)]; omega) hpk hcl.symm
              obtain ⟨q1, q2, b, q3, q4, q5⟩ := T.go hkp hpk ha hg _ rfl
              have hws := wayN_s hkp hg (b := b) rfl q3
              generalize stepN (rowAt rs k) a p g = n at va q1 q2 q3 q5 hws
              refine wp_cut (fun Γ => Γ = [some (.fz (.list (ps.map eP))), some (.fz (.int M)), some (.fz (.list (rs.map rowD))), some (.own (.ol (acc.map eP))), some (.fz (.int a)), some (.fz (.int (k + 1))), some (.fz (.int n))]) (by simp [i1, i2, i3, i4, oD, va]) ?_
              rintro _ rfl
              refine wp_cut (fun Γ => Γ = [some (.fz (.list (ps.map eP))), some (.fz (.int M)), some (.fz (.list (rs.map rowD))), some (.own (.ol ((acc ++ if 0 < n then [(p.1, (n : Int))] else []).map eP))), some (.fz (.int a)), some (.fz (.int (k + 1))), some (.fz (.int n))]) ?_ ?_
              · by_cases z : 0 < n
                · simp [z, i3, ownL]
                  exact ⟨rfl, by omega, rfl⟩
                · simp [z]
              rintro _ rfl
              have hmul : bop .mul (n : Int) p.1 = .ok (.int (n * p.1)) := bop_mul (mulOk_r (by have := hpk.1; have := hpk.2.1; omega) (by have := hpk.1; have := hpk.2.1; omega))
              simp [i3, hmul]
              refine ⟨b, acc ++ (if 0 < n then [(p.1, (n : Int))] else []), ?_, q4, ?_, ⟨_, q5⟩, ?_⟩
              · rw [← q3]
                simp
              · rw [List.append_assoc, ← hws, hw]
              · rw [List.length_append]
                have : (if 0 < n then [(p.1, (n : Int))] else []).length ≤ 1 := by split <;> simp
                omega
            · rintro _ ⟨a, acc, g, rfl, ha, hw, hg, hn⟩
              rw [← hw]
              simp [wayN]
          rintro _ ⟨x, rfl⟩
          simp [ownR, ownL]
          rw [← List.map_reverse]
          exact immA_pair
      · cases h2
  · cases h
/-! ### what the way told is -/
section
variable {rs : List Row} {ps : List (Int × Int)} {M : Nat}
/-- the way told: its worth, its pieces, its kinds -/
theorem wayN_is (T : Tabled rs ps M) (hok : ∀ p ∈ ps, okP p) : ∀ {k a : Nat} {f : Int}, k ≤ ps.length → a ≤ M → cellR rs k a = some f →
    ((wayN rs ps k a).map fun p => p.1 * p.2).sum = a ∧ ((wayN rs ps k a).map fun p => p.2).sum = f ∧ ∀ q ∈ wayN rs ps k a, 1 ≤ q.2 ∧ ∃ c, (q.1, c) ∈ ps.take k ∧ q.2 ≤ c
  | 0, a, f, _, _, h => by
    obtain ⟨rfl, rfl⟩ := T.cell0 h
    exact ⟨rfl, rfl, fun q hq => by cases hq⟩
  | k + 1, a, f, hk, ha, h => by
    have hkp : ps[k]? = some ps[k] := List.getElem?_eq_getElem (by omega)
    have hpk := hok ps[k] (List.getElem_mem _)
    have htk : ps.take (k + 1) = ps.take k ++ [ps[k]] := by rw [List.take_add_one, hkp]; rfl
    generalize ps[k] = p at hkp hpk htk
    obtain ⟨q1, q2, b, q3, q4, q5⟩ := T.go hkp hpk ha h _ rfl
    have hws := wayN_s hkp h (b := b) rfl q3
    generalize stepN (rowAt rs k) a p f = n at q1 q2 q3 q5 hws
    obtain ⟨i1, i2, i3⟩ := wayN_is T hok (k := k) (by omega) q4 q5
    rw [hws, List.map_append, List.map_append, List.sum_append, List.sum_append, i1, i2, htk]
    by_cases z : 0 < n
    · rw [if_pos z]
      refine ⟨?_, ?_, fun q hq => ?_⟩
      · have : (p.1 * (n : Int)) = n * p.1 := Int.mul_comm _ _
        show p.1 * (n : Int) + 0 + b = a
        omega
      · show (n : Int) + 0 + (f - n) = f
        omega
      · rcases List.mem_append.mp hq with hq | hq
        · cases List.mem_singleton.mp hq
          exact ⟨by show 1 ≤ (n : Int); omega, p.2, List.mem_append_right _ List.mem_cons_self, q2⟩
        · obtain ⟨j1, c, j2, j3⟩ := i3 q hq
          exact ⟨j1, c, List.mem_append_left _ j2, j3⟩
    · rw [if_neg z]
      have z' : n = 0 := by omega
      subst z'
      refine ⟨?_, ?_, fun q hq => ?_⟩
      · show (0 : Int) + b = a
        simp at q3
        omega
      · show (0 : Int) + (f - 0) = f
        omega
      · obtain ⟨j1, c, j2, j3⟩ := i3 q (by simpa using hq)
        exact ⟨j1, c, List.mem_append_left _ j2, j3⟩
theorem wayN_down (T : Tabled rs ps M) (hok : ∀ p ∈ ps, okP p) (hs : ps.Pairwise fun a b => a.1 < b.1) : ∀ {k a : Nat} {f : Int}, k ≤ ps.length → a ≤ M → cellR rs k a = some f → (wayN rs ps k a).Pairwise fun a b => b.1 < a.1
  | 0, a, f, _, _, _ => .nil
  | k + 1, a, f, hk, ha, h => by
    have hkp : ps[k]? = some ps[k] := List.getElem?_eq_getElem (by omega)
    have hpk := hok ps[k] (List.getElem_mem _)
    have hlt : ∀ q ∈ ps.take k, q.1 < (ps[k]).1 := by
      have htk : ps.take (k + 1) = ps.take k ++ [ps[k]] := by rw [List.take_add_one, hkp]; rfl
      have := List.Pairwise.sublist (List.take_sublist (k + 1) ps) hs
      rw [htk, List.pairwise_append] at this
      exact fun q hq => this.2.2 q hq _ List.mem_cons_self
    generalize ps[k] = p at hkp hpk hlt
    obtain ⟨q1, q2, b, q3, q4, q5⟩ := T.go hkp hpk ha h _ rfl
    have hws := wayN_s hkp h (b := b) rfl q3
    have i1 := wayN_down T hok hs (k := k) (by omega) q4 q5
    have i2 := (wayN_is T hok (k := k) (by omega) q4 q5).2.2
    rw [hws]
    split
    · refine List.pairwise_cons.mpr ⟨fun q hq => ?_, i1⟩
      obtain ⟨_, c, j2, _⟩ := i2 q hq
      exact hlt (q.1, c) j2
    · exact i1
end
/-- .. and a till itself, as far as its pairs go -/
theorem way_ok {ps : List (Int × Int)} {M : Nat} {f : Int} (hl : ps.length ≤ 1000) (hok : ∀ p ∈ ps, okP p) (hs : ps.Pairwise fun a b => a.1 < b.1) (hc : cellR (tableOf ps M) ps.length M = some f) : okTill (wayN (tableOf ps M) ps ps.length M).reverse = true := by
  have T := tabled ps M
  have i1 := wayN_is T hok (Nat.le_refl _) (Nat.le_refl _) hc
  unfold okTill
  have hlen : ∀ k a, (wayN (tableOf ps M) ps k a).length ≤ k := by
    intro k
    induction k with
    | zero => exact fun _ => Nat.le_refl _
    | succ k ih =>
      intro a
      unfold wayN
      dsimp only
      split
      · exact Nat.succ_le_succ (ih _)
      · exact Nat.le_succ_of_le (ih _)
  have h2 := hlen ps.length M
  rw [decide_eq_true (by rw [List.length_reverse]; omega)]
  refine List.all_eq_true.mpr fun p hp => decide_eq_true ?_
  obtain ⟨j1, c, j2, j3⟩ := i1.2.2 p (List.mem_reverse.mp hp)
  have h4 := hok _ (List.mem_of_mem_take j2)
  exact ⟨h4.1, h4.2.1, by omega⟩
/-! ### a change looked at -/
def lastIn : List (Int × Int) → Int → Int → Int
  | [], _, t => t
  | p :: r, v, t => lastIn r v (if p.1 = v then p.2 else t)
theorem lastIn_not {v : Int} : ∀ {ps : List (Int × Int)} {t : Int}, v ∉ ps.map (fun p => p.1) → lastIn ps v t = t
  | [], _, _ => rfl
  | p :: r, t, h => by
    rw [List.map_cons, List.mem_cons, not_or] at h
    show lastIn r v (if p.1 = v then p.2 else t) = t
    rw [if_neg (fun z => h.1 z.symm)]
    exact lastIn_not h.2
theorem lastIn_mem {v c : Int} : ∀ {ps : List (Int × Int)} {t : Int}, (ps.map fun p => p.1).Nodup → (v, c) ∈ ps → lastIn ps v t = c
  | [], _, _, h => by cases h
  | p :: r, t, nd, h => by
    rw [List.map_cons, List.nodup_cons] at nd
    rcases List.mem_cons.mp h with rfl | h
    · show lastIn r v (if v = v then c else t) = c
      rw [if_pos rfl]
      exact lastIn_not nd.1
    · show lastIn r v (if p.1 = v then p.2 else t) = c
      exact lastIn_mem nd.2 h
def changeGo (till : List (Int × Int)) : List (Int × Int) → Int → Int → Int → Int
  | [], _, left, many => if left = 0 then many else -1
  | p :: r, last, left, many => if p.1 ≤ last ∨ p.2 < 1 then -1 else if lastIn till p.1 0 < p.2 then -1 else changeGo till r p.1 (left - p.1 * p.2) (many + p.2)
def changeOf (found till : List (Int × Int)) (due : Int) : Int := changeGo till found 0 due 0
def ph_l_change : List D → Option Out
  | [.list ds, .list es, .int m] => (decP ds).bind fun qs => (decP es).bind fun ps => if okTill qs then some (oI (changeOf qs ps m)) else none
  | _ => none
theorem ar_l_change : ∀ ds o, ph_l_change ds = some o → ds.length = 3 := by
  intro ds o h
  unfold ph_l_change at h
  split at h
  · rfl
  · cases h
theorem v_l_change {qs ps : List (Int × Int)} {m : Int} (h : okTill qs = true) : ph_l_change [.list (qs.map eP), .list (ps.map eP), .int m] = some (oI (changeOf qs ps m)) := by
  simp only [ph_l_change, decP_map, Option.bind_some, if_pos h]
theorem wp_l_change {ca : Nat → Addr} {xs : List Nat} : ∀ ds o, ph_l_change ds = some o → wpSs ⟨[ph_l_whole], ca, xs, none⟩ g_l_change (gdOf o) (startE n_l_change ds) := by
  intro ds o h
  unfold ph_l_change at h
  split at h
  · rename_i ds es m
    obtain ⟨qs, e, h2⟩ := bindO h
    clear h
    obtain ⟨ps, e2, h3⟩ := bindO h2
    clear h2
    cases decP_sound e
    cases decP_sound e2
    split at h3
    · rename_i hok
      cases h3
      obtain ⟨hlen, hall⟩ := okTill_of hok
      have ht : ∀ l : List D, isiD .list (.list l) = true := fun _ => rfl
      have htt : ∀ p, isiD .tuple (eP p) = true := fun _ => rfl
      have h1 : ∀ n : Int, isiD .int (.int n) = true := fun _ => rfl
      have h2 : ∀ n : Int, isiD .bool (.int n) = false := fun _ => rfl
      have hl2 : ∀ p : Int × Int, lenD (eP p) = .ok (.int 2) := fun _ => rfl
      unfold g_l_change
      refine wp_cut (fun Γ => Γ = [some (.fz (.list (qs.map eP))), some (.fz (.list (ps.map eP))), some (.fz (.int m)), none, none, none, none, none, none]) (by simp [startE, n_l_change, ht]) ?_
      rintro _ rfl
      refine wp_cut (fun Γ => Γ = [some (.fz (.list (qs.map eP))), some (.fz (.list (ps.map eP))), some (.fz (.int m)), some (.fz (.int m)), none, none, none, none, none]) (by simp) ?_
      rintro _ rfl
      refine wp_cut (fun Γ => Γ = [some (.fz (.list (qs.map eP))), some (.fz (.list (ps.map eP))), some (.fz (.int m)), some (.fz (.int m)), some (.fz (.int 0)), none, none, none, none]) (by simp) ?_
      rintro _ rfl
      refine wp_cut (fun Γ => Γ = [some (.fz (.list (qs.map eP))), some (.fz (.list (ps.map eP))), some (.fz (.int m)), some (.fz (.int m)), some (.fz (.int 0)), some (.fz (.int 0)), none, none, none]) (by simp) ?_
      rintro _ rfl
      refine wp_cut (fun Γ => ∃ (x : Option Sl) (left many : Int), Γ = [some (.fz (.list (qs.map eP))), some (.fz (.list (ps.map eP))), some (.fz (.int m)), some (.fz (.int left)), some (.fz (.int many)), x, none, none, none] ∧ (if left = 0 then many else -1) = changeOf qs ps m) ?_ ?_
      · refine wp_prs (ps := qs) (fun r Γ => ∃ last left many : Int, Γ = [some (.fz (.list (qs.map eP))), some (.fz (.list (ps.map eP))), some (.fz (.int m)), some (.fz (.int left)), some (.fz (.int many)), some (.fz (.int last)), none, none, none] ∧ changeGo ps r last left many = changeOf qs ps m ∧ ∀ p ∈ r, okP p) (by simp) ⟨0, m, 0, by simp, rfl, hall⟩ ?_ ?_
        · rintro p r _ ⟨last, left, many, rfl, hg, hp⟩
          have hp0 := hp p List.mem_cons_self
          have hpr : ∀ q ∈ r, okP q := fun q hq => hp q (List.mem_cons_of_mem _ hq)
          refine wp_cut (fun Γ => Γ = [some (.fz (.list (qs.map eP))), some (.fz (.list (ps.map eP))), some (.fz (.int m)), some (.fz (.int left)), some (.fz (.int many)), some (.fz (.int last)), some (.fz (eP p)), none, none]) (by simp [htt, h1, h2, hl2, ph_l_whole]) ?_
          rintro _ rfl
          unfold changeGo at hg
          by_cases q1 : p.1 ≤ last ∨ p.2 < 1
          · rw [if_pos q1] at hg
            simp [← hg]
            omega
          · rw [if_neg q1] at hg
            refine wp_cut (fun Γ => Γ = [some (.fz (.list (qs.map eP))), some (.fz (.list (ps.map eP))), some (.fz (.int m)), some (.fz (.int left)), some (.fz (.int many)), some (.fz (.int last)), some (.fz (eP p)), none, none]) (by simp; omega) ?_
            rintro _ rfl
            refine wp_cut (fun Γ => Γ = [some (.fz (.list (qs.map eP))), some (.fz (.list (ps.map eP))), some (.fz (.int m)), some (.fz (.int left)), some (.fz (.int many)), some (.fz (.int last)), some (.fz (eP p)), some (.fz (.int 0)), none]) (by simp) ?_
            rintro _ rfl
            refine wp_cut (fun Γ => Γ = [some (.fz (.list (qs.map eP))), some (.fz (.list (ps.map eP))), some (.fz (.int m)), some (.fz (.int left)), some (.fz (.int many)), some (.fz (.int last)), some (.fz (eP p)), some (.fz (.int (lastIn ps p.1 0))), none]) ?_ ?_
            · refine wp_prs (ps := ps) (fun r Γ => ∃ t : Int, Γ = [some (.fz (.list (qs.map eP))), some (.fz (.list (ps.map eP))), some (.fz (.int m)), some (.fz (.int left)), some (.fz (.int many)), some (.fz (.int last)), some (.fz (eP p)), some (.fz (.int t)), none] ∧ lastIn r p.1 t = lastIn ps p.1 0) (by simp) ⟨0, by simp, rfl⟩ ?_ ?_
              · rintro o s _ ⟨t, rfl, ht⟩
                by_cases q2 : o.1 = p.1
                · simp [q2]
                  rw [← ht, lastIn, if_pos q2]
                · simp [q2]
                  rw [← ht, lastIn, if_neg q2]
              · rintro _ ⟨t, rfl, ht⟩
                have ht' : t = lastIn ps p.1 0 := ht
                rw [ht']
            rintro _ rfl
            by_cases q3 : lastIn ps p.1 0 < p.2
            · rw [if_pos q3] at hg
              simp [← hg, q3]
            · rw [if_neg q3] at hg
              have hmul : bop .mul p.1 p.2 = .ok (.int (p.1 * p.2)) := bop_mul (mulOk_l (by have := hp0.1; omega) (by have := hp0.2.1; omega))
              simp [q3, hmul]
              exact ⟨p.1, left - p.1 * p.2, many + p.2, ⟨rfl, rfl, rfl⟩, hg, fun a b hab => hpr (a, b) hab⟩
        · rintro _ ⟨last, left, many, rfl, hg, _⟩
          exact ⟨_, left, many, rfl, hg⟩
      rintro _ ⟨x, left, many, rfl, hg⟩
      by_cases q : left = 0
      · rw [if_pos q] at hg
        simp [q, hg]
      · rw [if_neg q] at hg
        simp [q, ← hg]
    · cases h3
  · cases h
/-! what a change is worth -/
theorem changeGo_ok {till : List (Int × Int)} : ∀ {l : List (Int × Int)} {last left many : Int}, l.Pairwise (fun a b => a.1 < b.1) → (∀ p ∈ l, last < p.1 ∧ 1 ≤ p.2 ∧ p.2 ≤ lastIn till p.1 0) → left = (l.map fun p => p.1 * p.2).sum → changeGo till l last left many = many + (l.map fun p => p.2).sum
  | [], last, left, many, _, _, h => by
    show (if left = 0 then many else -1) = many + 0
    rw [if_pos (by simpa using h)]
    omega
  | p :: r, last, left, many, hp, hv, h => by
    obtain ⟨h1, h2⟩ := List.pairwise_cons.mp hp
    obtain ⟨v1, v2, v3⟩ := hv p List.mem_cons_self
    rw [List.map_cons, List.sum_cons] at h
    unfold changeGo
    rw [if_neg (by omega), if_neg (by omega), changeGo_ok h2 (fun q hq => ⟨h1 q hq, (hv q (List.mem_cons_of_mem _ hq)).2⟩) (by omega), List.map_cons, List.sum_cons]
    omega
/-- the change told is right -/
theorem change_told {ps : List (Int × Int)} {M : Nat} {f : Int} (hok : ∀ p ∈ ps, okP p) (hs : ps.Pairwise fun a b => a.1 < b.1) (hc : cellR (tableOf ps M) ps.length M = some f) :
    changeOf (wayN (tableOf ps M) ps ps.length M).reverse ps M = f := by
  have T := tabled ps M
  have i1 := wayN_is T hok (Nat.le_refl _) (Nat.le_refl _) hc
  have i2 := wayN_down T hok hs (Nat.le_refl _) (Nat.le_refl _) hc
  have nd : (ps.map fun p => p.1).Nodup := List.pairwise_map.mpr (hs.imp fun h => by omega)
  generalize wayN (tableOf ps M) ps ps.length M = w at i1 i2
  unfold changeOf
  rw [changeGo_ok (List.pairwise_reverse.mpr i2)]
  · rw [List.map_reverse, List.sum_reverse, i1.2.1]
    omega
  · intro p hp
    obtain ⟨h1, c, h2, h3⟩ := i1.2.2 p (List.mem_reverse.mp hp)
    have h2' := List.mem_of_mem_take h2
    have h4 := hok _ h2'
    refine ⟨?_, h1, by rw [lastIn_mem nd h2']; exact h3⟩
    have : 1 ≤ p.1 := h4.1
    omega
  · rw [List.map_reverse, List.sum_reverse, i1.1]
def countIn : List (Int × Int) → Int → Option Int
  | [], _ => none
  | p :: r, v => if p.1 = v then some p.2 else countIn r v
def ph_count_of : List D → Option Out
  | [.list ds, .int v] => (decP ds).map fun ps => match countIn ps v with
    | some c => oI c
    | none => .exc 2
  | _ => none
theorem ar_count_of : ∀ ds o, ph_count_of ds = some o → ds.length = 2 := by
  intro ds o h
  unfold ph_count_of at h
  split at h
  · rfl
  · cases h
theorem wp_count_of {ca : Nat → Addr} {xs : List Nat} : ∀ ds o, ph_count_of ds = some o → wpSs ⟨[], ca, xs, none⟩ g_count_of (gdOf o) (startE n_count_of ds) := by
  intro ds o h
  unfold ph_count_of at h
  split at h
  · rename_i ds v
    obtain ⟨ps, e, h2⟩ := mapO h
    clear h
    cases decP_sound e
    subst h2
    unfold g_count_of
    rw [w_cons]
    refine wp_prs (ps := ps) (fun r Γ => Γ = [some (.fz (.list (ps.map eP))), some (.fz (.int v)), none] ∧ countIn r v = countIn ps v) (by simp [startE, n_count_of]) ⟨by simp [startE, n_count_of], rfl⟩ ?_ ?_
    · rintro p r _ ⟨rfl, hr⟩
      rw [← hr]
      simp
      refine ⟨fun h => ?_, fun h => ?_⟩
      · simp [countIn, h]
      · simp [countIn, h]
    · rintro _ ⟨rfl, hr⟩
      rw [← hr]
      simp [countIn]
  · cases h
theorem v_count {ps : List (Int × Int)} {v : Int} : ph_count_of [.list (ps.map eP), .int v] = some (match countIn ps v with | some c => oI c | none => .exc 2) := by
  simp only [ph_count_of, decP_map, Option.map_some]
def ph_need_value : List D → Option Out
  | [.int v] => some (if v < 1 ∨ v > 1000 then .exc 2 else .ret (.im .none))
  | _ => none
theorem ar_need_value : ∀ ds o, ph_need_value ds = some o → ds.length = 1 := by
  intro ds o h
  unfold ph_need_value at h
  split at h
  · rfl
  · cases h
theorem wp_need_value {ca : Nat → Addr} {xs : List Nat} : ∀ ds o, ph_need_value ds = some o → wpSs ⟨[], ca, xs, none⟩ g_need_value (gdOf o) (startE n_need_value ds) := by
  intro ds o h
  unfold ph_need_value at h
  split at h
  · rename_i v
    cases h
    simp [g_need_value, startE, n_need_value]
    first | omega | (refine ⟨?_, ?_⟩ <;> omega)
  · cases h
def ph_need_count : List D → Option Out
  | [.int v] => some (if v < 0 ∨ v > 1000000000 then .exc 4 else .ret (.im .none))
  | _ => none
theorem ar_need_count : ∀ ds o, ph_need_count ds = some o → ds.length = 1 := by
  intro ds o h
  unfold ph_need_count at h
  split at h
  · rfl
  · cases h
theorem wp_need_count {ca : Nat → Addr} {xs : List Nat} : ∀ ds o, ph_need_count ds = some o → wpSs ⟨[], ca, xs, none⟩ g_need_count (gdOf o) (startE n_need_count ds) := by
  intro ds o h
  unfold ph_need_count at h
  split at h
  · rename_i v
    cases h
    simp [g_need_count, startE, n_need_count]
    first | omega | (refine ⟨?_, ?_⟩ <;> omega)
  · cases h
/-! ### another count -/
def withCount (ps : List (Int × Int)) (v c : Int) : List (Int × Int) := ps.map fun p => if p.1 = v then (p.1, c) else p
inductive Dd where | er (x : Nat) | ok (ps : List (Int × Int))
def Dd.out : Dd → Out
  | .er x => .exc x
  | .ok qs => .ret (.ol (qs.map eP))
def noCount (c : Int) : Prop := c < 0 ∨ c > 1000000000
instance (c : Int) : Decidable (noCount c) := inferInstanceAs (Decidable (c < 0 ∨ c > 1000000000))
def noValue (v : Int) : Prop := v < 1 ∨ v > 1000
instance (c : Int) : Decidable (noValue c) := inferInstanceAs (Decidable (c < 1 ∨ c > 1000))
def ph_with_count : List D → Option Out
  | [.list ds, .int v, .int c] => (decP ds).bind fun ps => if ps.length ≤ 1000 then some (.ret (.ol ((withCount ps v c).map eP))) else none
  | _ => none
theorem ar_with_count : ∀ ds o, ph_with_count ds = some o → ds.length = 3 := by
  intro ds o h
  unfold ph_with_count at h
  split at h
  · rfl
  · cases h
theorem wp_with_count {ca : Nat → Addr} {xs : List Nat} : ∀ ds o, ph_with_count ds = some o → wpSs ⟨[], ca, xs, none⟩ g_with_count (gdOf o) (startE n_with_count ds) := by
  intro ds o h
  unfold ph_with_count at h
  split at h
  · rename_i ds v c
    obtain ⟨ps, e, h2⟩ := bindO h
    clear h
    cases decP_sound e
    split at h2
    · rename_i hl
      cases h2
      simp only [g_with_count, w_cons, w_nil, w_ret, r_f, startE, n_with_count]
      rw [e_lc (ps := ps) (g := fun p => eP (if p.1 = v then (p.1, c) else p)) (by simp) (by omega) (fun p hp => by
        by_cases q : p.1 = v
        · simp [q]
          rfl
        · simp [q])]
      have : (ps.map fun p => eP (if p.1 = v then (p.1, c) else p)) = (withCount ps v c).map eP := by
        unfold withCount
        rw [List.map_map]
        rfl
      simp [this]
    · cases h2
  · cases h
/-! ### what a purse has of each kind -/
def ownOf (purse : List (Int × Int)) (v : Int) : Int := ((purse.filter fun q => decide (q.1 = v)).map fun q => q.2).sum
def hasAll (till purse : List (Int × Int)) : Bool := purse.all fun q => (countIn till q.1).isSome
theorem count_key {v : Int} : ∀ ps : List (Int × Int), (countIn ps v).isSome = decide (v ∈ ps.map fun p => p.1)
  | [] => rfl
  | p :: r => by
    unfold countIn
    by_cases z : p.1 = v
    · rw [if_pos z]
      simp [z]
    · rw [if_neg z, count_key r]
      have : ¬(v = p.1) := fun q => z q.symm
      simp [this]
theorem e_lcf1 {T : Tb} {Γ : TD.Env} {t : Nat} {a c e : GE} {ps : List (Int × Int)} {q : Int × Int → Bool} {h : Int × Int → D} (he : ev T Γ a = .ok (.list (ps.map eP))) (hl : ps.length ≤ 16777216)
    (hg : ∀ p ∈ ps, ev T ((wipeE Γ [t]).set t (some (.fz (eP p)))) c = .ok (.bool (q p)) ∧ (q p = true → ev T ((wipeE Γ [t]).set t (some (.fz (eP p)))) e = .ok (h p))) :
    evF T Γ (.lcf [t] (.il a) c e) = .ok ((ps.filter q).map h) := by
  have e2 : evI T Γ (.il a) = .ok (ps.map fun p => [eP p]) := by
    show (ev T Γ a).bind _ = _
    rw [he]
    show Rs.ok ((ps.map eP).map fun d => [d]) = _
    rw [List.map_map]
    rfl
  show (evI T Γ (.il a)).bind _ = _
  rw [e2]
  show (if TD.sizeOk (ps.map fun p => [eP p]).length = true then lcM _ (ps.map fun p => [eP p]) else Rs.bad) = _
  rw [if_pos (size_lit (by rw [List.length_map]; exact hl))]
  refine lcM_flt fun p hp => ?_
  obtain ⟨h1, h2⟩ := hg p hp
  show ((ev T ((wipeE Γ [t]).set t (some (.fz (eP p)))) c).bind fun b => _) = _
  rw [h1]
  cases z : q p with
  | true =>
    show (ev T ((wipeE Γ [t]).set t (some (.fz (eP p)))) e).map some = _
    rw [h2 z]
    rfl
  | false => rfl
/-! ### a price paid -/
def putAll : List (Int × Int) → List Int → Dd
  | ps, [] => .ok ps
  | ps, v :: r => match countIn ps v with
    | none => .er 2
    | some t => if noCount (t + 1) then .er 4 else putAll (withCount ps v (t + 1)) r
theorem putAll_cons {ps : List (Int × Int)} {v : Int} {r : List Int} : putAll ps (v :: r) = match countIn ps v with
    | none => .er 2
    | some t => if noCount (t + 1) then .er 4 else putAll (withCount ps v (t + 1)) r := rfl
def withAllD (ps : List (Int × Int)) (vs : List Int) : Dd := if 60 < vs.length then .er 4 else putAll ps vs
def takeAll : List (Int × Int) → List (Int × Int) → List (Int × Int)
  | ps, [] => ps
  | ps, c :: r => takeAll (withCount ps c.1 ((countIn ps c.1).getD 0 - c.2)) r
inductive Pd where
  | er (x : Nat) | ok (a b : List (Int × Int))
def Pd.out : Pd → Out
  | .er x => .exc x
  | .ok a b => .ret (.ot [.ol (a.map eP), .ol (b.map eP)])
def payRest (full : List (Int × Int)) (due : Int) : Pd := if due < 0 then .er 6 else if badSum due then .er 5 else match fewestOf full due.toNat with
  | none => .er 7
  | some ch => .ok (takeAll full ch) ch
def paidD (ps : List (Int × Int)) (price : Int) (vs : List Int) : Pd := if badSum price then .er 5 else match withAllD ps vs with
  | .er x => .er x
  | .ok full => payRest full (vs.sum - price)
/-! what lies there with so many put in -/
def addAll (ps : List (Int × Int)) (vs : List Int) : List (Int × Int) := ps.map fun p => (p.1, p.2 + (vs.count p.1 : Nat))
theorem addAll_keys (ps : List (Int × Int)) (vs : List Int) : (addAll ps vs).map (fun p => p.1) = ps.map fun p => p.1 := by
  unfold addAll
  rw [List.map_map]
  rfl
theorem addAll_nil (ps : List (Int × Int)) : addAll ps [] = ps := by
  unfold addAll
  simp
theorem countIn_add {vs : List Int} {v : Int} : ∀ {ps : List (Int × Int)}, countIn (addAll ps vs) v = (countIn ps v).map fun t => t + ((vs.count v : Nat) : Int)
  | [] => rfl
  | p :: r => by
    show (if p.1 = v then some (p.2 + (vs.count p.1 : Nat)) else countIn (addAll r vs) v) = (if p.1 = v then some p.2 else countIn r v).map _
    by_cases z : p.1 = v
    · rw [if_pos z, if_pos z, ← z]
      rfl
    · rw [if_neg z, if_neg z]
      exact countIn_add
theorem countIn_in {v c : Int} : ∀ {ps : List (Int × Int)}, (ps.map fun p => p.1).Nodup → (v, c) ∈ ps → countIn ps v = some c
  | [], _, h => by cases h
  | p :: r, nd, h => by
    rw [List.map_cons, List.nodup_cons] at nd
    show (if p.1 = v then some p.2 else countIn r v) = some c
    rcases List.mem_cons.mp h with rfl | h
    · rw [if_pos rfl]
    · have hv : v ∈ r.map fun p => p.1 := List.mem_map.mpr ⟨_, h, rfl⟩
      rw [if_neg fun z => nd.1 (by rw [z]; exact hv)]
      exact countIn_in nd.2 h
theorem with_add {ps : List (Int × Int)} {vs : List Int} {v t : Int} (nd : (ps.map fun p => p.1).Nodup) (h : countIn (addAll ps vs) v = some t) : withCount (addAll ps vs) v (t + 1) = addAll ps (vs ++ [v]) := by
  unfold withCount addAll
  rw [List.map_map]
  refine List.map_congr_left fun p hp => ?_
  show (if p.1 = v then (p.1, t + 1) else (p.1, p.2 + (vs.count p.1 : Nat))) = (p.1, p.2 + ((vs ++ [v]).count p.1 : Nat))
  rw [List.count_append]
  by_cases z : p.1 = v
  · rw [if_pos z]
    have h1 := countIn_in nd (v := p.1) (c := p.2) hp
    rw [z] at h1
    rw [countIn_add, h1] at h
    have h2 : p.2 + (vs.count v : Nat) = t := Option.some.inj h
    rw [z, List.count_singleton_self]
    congr 1
    omega
  · rw [if_neg z]
    have : [v].count p.1 = 0 := by
      rw [List.count_cons_of_ne (fun q => z q.symm)]
      rfl
    rw [this]
    rfl
/-- what is taken out -/
def subAll (ps ch : List (Int × Int)) : List (Int × Int) := ps.map fun p => (p.1, p.2 - ownOf ch p.1)
theorem takeAll_sub : ∀ {ch ps : List (Int × Int)}, (ps.map fun p => p.1).Nodup → takeAll ps ch = subAll ps ch
  | [], ps, _ => by
    unfold subAll ownOf
    simp [takeAll]
  | c :: r, ps, nd => by
    have hk : (withCount ps c.1 ((countIn ps c.1).getD 0 - c.2)).map (fun p => p.1) = ps.map fun p => p.1 := by
      unfold withCount
      rw [List.map_map]
      refine List.map_congr_left fun p _ => ?_
      show (if p.1 = c.1 then (p.1, (countIn ps c.1).getD 0 - c.2) else p).1 = p.1
      split <;> rfl
    show takeAll (withCount ps c.1 ((countIn ps c.1).getD 0 - c.2)) r = _
    rw [takeAll_sub (by rw [hk]; exact nd)]
    unfold subAll withCount
    rw [List.map_map]
    refine List.map_congr_left fun p hp => ?_
    have e2 : ownOf (c :: r) p.1 = (if c.1 = p.1 then c.2 else 0) + ownOf r p.1 := by
      unfold ownOf
      rw [List.filter_cons]
      by_cases z : c.1 = p.1
      · rw [if_pos (by rw [decide_eq_true z]), if_pos z, List.map_cons, List.sum_cons]
      · rw [if_neg (by simp [z]), if_neg z]
        omega
    by_cases z : p.1 = c.1
    · have h1 := countIn_in nd (v := p.1) (c := p.2) hp
      rw [z] at h1
      rw [e2, if_pos z.symm]
      show ((if p.1 = c.1 then (p.1, (countIn ps c.1).getD 0 - c.2) else p).1, (if p.1 = c.1 then (p.1, (countIn ps c.1).getD 0 - c.2) else p).2 - ownOf r (if p.1 = c.1 then (p.1, (countIn ps c.1).getD 0 - c.2) else p).1) = _
      rw [if_pos z, h1]
      show (p.1, p.2 - c.2 - ownOf r p.1) = _
      congr 1
      omega
    · rw [e2, if_neg fun q => z q.symm]
      show ((if p.1 = c.1 then (p.1, (countIn ps c.1).getD 0 - c.2) else p).1, (if p.1 = c.1 then (p.1, (countIn ps c.1).getD 0 - c.2) else p).2 - ownOf r (if p.1 = c.1 then (p.1, (countIn ps c.1).getD 0 - c.2) else p).1) = _
      rw [if_neg z]
      congr 1
      omega
theorem countIn_no {v : Int} : ∀ {ps : List (Int × Int)}, countIn ps v = none → v ∉ ps.map fun p => p.1
  | [], _ => by simp
  | p :: r, h => by
    unfold countIn at h
    split at h
    · cases h
    · rename_i q
      have ih := countIn_no h
      rw [List.map_cons, List.mem_cons]
      rintro (z | z)
      · exact q z.symm
      · exact ih z
theorem withCount_len (ps : List (Int × Int)) (v c : Int) : (withCount ps v c).length = ps.length := by
  unfold withCount
  rw [List.length_map]
theorem v_withc {ps : List (Int × Int)} {v c : Int} (h : ps.length ≤ 1000) : ph_with_count [.list (ps.map eP), .int v, .int c] = some (.ret (.ol ((withCount ps v c).map eP))) := by
  simp only [ph_with_count, decP_map, Option.bind_some, if_pos h]
def ph_with_all : List D → Option Out
  | [.list ds, .list es] => (decP ds).bind fun ps => (decI es).bind fun vs => if ps.length ≤ 1000 then some (withAllD ps vs).out else none
  | _ => none
theorem ar_with_all : ∀ ds o, ph_with_all ds = some o → ds.length = 2 := by
  intro ds o h
  unfold ph_with_all at h
  split at h
  · rfl
  · cases h
theorem v_with_all {ps : List (Int × Int)} {vs : List Int} (h : ps.length ≤ 1000) : ph_with_all [.list (ps.map eP), .list (vs.map .int)] = some (withAllD ps vs).out := by
  simp only [ph_with_all, decP_map, decI_map, Option.bind_some, if_pos h]
theorem wp_with_all {ca : Nat → Addr} {xs : List Nat} : ∀ ds o, ph_with_all ds = some o → wpSs ⟨[ph_count_of, ph_need_count, ph_with_count], ca, xs, none⟩ g_with_all (gdOf o) (startE n_with_all ds) := by
  intro ds o h
  unfold ph_with_all at h
  split at h
  · rename_i ds es
    obtain ⟨ps, e, h2⟩ := bindO h
    clear h
    obtain ⟨vs, e2, h3⟩ := bindO h2
    clear h2
    cases decP_sound e
    cases decI_sound e2
    split at h3
    · rename_i hl
      cases h3
      generalize hV : (some (Sl.fz (.list (vs.map .int)))) = V
      generalize hT : (⟨[ph_count_of, ph_need_count, ph_with_count], ca, xs, none⟩ : Tb) = T
      unfold g_with_all withAllD
      by_cases h60 : 60 < vs.length
      · rw [if_pos h60]
        have h60' : (60 : Int) < vs.length := by omega
        simp only [startE, n_with_all]
        simp [h60', Dd.out]
      · rw [if_neg h60]
        refine wp_cut (fun Γ => Γ = [some (.fz (.list (ps.map eP))), V, none, none]) (by
          have h60' : ¬((60 : Int) < vs.length) := by omega
          simp only [startE, n_with_all]
          simp [h60', ← hV]) ?_
        rintro _ rfl
        refine wp_cut (fun Γ => Γ = [some (.own (.ol (ps.map eP))), V, none, none]) (by simp) ?_
        rintro _ rfl
        refine wp_cut (fun Γ => ∃ full, putAll ps vs = .ok full ∧ Γ = [some (.own (.ol (full.map eP))), V, none, none]) ?_ ?_
        · refine wp_map (f := PyData.int) (xs := vs) (fun r Γ => ∃ qs : List (Int × Int), Γ = [some (.own (.ol (qs.map eP))), V, none, none] ∧ putAll ps vs = putAll qs r ∧ qs.length ≤ 1000) (by simp [← hV]) ⟨ps, by simp, rfl, hl⟩ ?_ ?_
          · rintro v r _ ⟨qs, rfl, hq, hn⟩
            have hv := @v_count qs v
            rw [putAll_cons] at hq
            cases hc : countIn qs v with
            | none =>
              rw [hc] at hv hq
              have hq' : putAll ps vs = .er 2 := hq
              simp [← hT, hv, hq', Dd.out]
            | some t =>
              rw [hc] at hv hq
              refine wp_cut (fun Γ => Γ = [some (.own (.ol (qs.map eP))), V, some (.fz (.int v)), some (.fz (.int t))]) (by simp [← hT, hv]) ?_
              rintro _ rfl
              dsimp only at hq
              by_cases z : noCount (t + 1)
              · rw [if_pos z] at hq
                have z' : t + 1 < 0 ∨ t + 1 > 1000000000 := z
                rw [hq]
                simp [← hT, ph_need_count, z', Dd.out]
              · rw [if_neg z] at hq
                have z' : ¬(t + 1 < 0 ∨ t + 1 > 1000000000) := z
                refine wp_cut (fun Γ => Γ = [some (.own (.ol (qs.map eP))), V, some (.fz (.int v)), some (.fz (.int t))]) (by simp [← hT, ph_need_count, z']) ?_
                rintro _ rfl
                have hw := @v_withc qs v (t + 1) hn
                refine wp_cut (fun Γ => Γ = [some (.own (.ol ((withCount qs v (t + 1)).map eP))), V, some (.fz (.int v)), some (.fz (.int t))]) (by simp [← hT, hw]) ?_
                rintro _ rfl
                rw [w_nil]
                exact ⟨_, rfl, hq, by rw [withCount_len]; exact hn⟩
          · rintro _ ⟨qs, rfl, hq, _⟩
            exact ⟨qs, hq, rfl⟩
        rintro _ ⟨full, hf, rfl⟩
        rw [hf]
        simp [ownR, ownL, Dd.out]
    · cases h3
  · cases h
/-- what has been put in keeps a till's form -/
theorem putAll_add {ps : List (Int × Int)} (nd : (ps.map fun p => p.1).Nodup) : ∀ {vs pre : List Int} {full : List (Int × Int)}, putAll (addAll ps pre) vs = .ok full → full = addAll ps (pre ++ vs)
  | [], pre, full, h => by
    cases h
    rw [List.append_nil]
  | v :: r, pre, full, h => by
    rw [putAll_cons] at h
    cases hc : countIn (addAll ps pre) v with
    | none => rw [hc] at h; cases h
    | some t =>
      rw [hc] at h
      dsimp only at h
      split at h
      · cases h
      · rw [with_add nd hc] at h
        rw [putAll_add nd h, List.append_assoc]
        rfl
theorem putAll_er : ∀ {vs : List Int} {ps : List (Int × Int)} {x : Nat}, putAll ps vs = .er x → x = 2 ∨ x = 4
  | [], _, _, h => by cases h
  | v :: r, ps, x, h => by
    rw [putAll_cons] at h
    cases hc : countIn ps v with
    | none => rw [hc] at h; cases h; exact .inl rfl
    | some t =>
      rw [hc] at h
      dsimp only at h
      split at h
      · cases h; exact .inr rfl
      · exact putAll_er h
theorem addAll_ok {ps : List (Int × Int)} (h : okTill ps = true) (vs : List Int) : okTill (addAll ps vs) = true := by
  obtain ⟨a, b⟩ := okTill_of h
  refine okTill_mk (by unfold addAll; rw [List.length_map]; exact a) fun p hp => ?_
  obtain ⟨q, hq, rfl⟩ := List.mem_map.mp hp
  have := b q hq
  exact ⟨this.1, this.2.1, by show 0 ≤ q.2 + (vs.count q.1 : Nat); have := this.2.2; omega⟩
theorem addAll_rise {ps : List (Int × Int)} {vs : List Int} (h : ps.Pairwise fun a b => a.1 < b.1) : (addAll ps vs).Pairwise fun a b => a.1 < b.1 := by
  unfold addAll
  exact List.pairwise_map.mpr h
def ph_paid : List D → Option Out
  | [.list ds, .int price, .list es] => (decP ds).bind fun ps => (decI es).bind fun vs => if okTill ps = true ∧ (ps.map fun p => p.1).Nodup then some (paidD ps price vs).out else none
  | _ => none
theorem ar_paid : ∀ ds o, ph_paid ds = some o → ds.length = 3 := by
  intro ds o h
  unfold ph_paid at h
  split at h
  · rfl
  · cases h
theorem v_paid {ps : List (Int × Int)} {price : Int} {vs : List Int} (h : okTill ps = true) (h2 : (ps.map fun p => p.1).Nodup) : ph_paid [.list (ps.map eP), .int price, .list (vs.map .int)] = some (paidD ps price vs).out := by
  simp only [ph_paid, decP_map, decI_map, Option.bind_some, if_pos (And.intro h h2)]
theorem withAll_full {ps : List (Int × Int)} {vs : List Int} {full : List (Int × Int)} (nd : (ps.map fun p => p.1).Nodup) (h : withAllD ps vs = .ok full) : full = addAll ps vs := by
  unfold withAllD at h
  split at h
  · cases h
  · have := putAll_add nd (pre := []) (vs := vs) (full := full) (by rw [addAll_nil]; exact h)
    simpa using this
theorem few_len {ps : List (Int × Int)} {M : Nat} {ch : List (Int × Int)} (h : okTill ps = true) (hf : fewestOf ps M = some ch) : ch.length ≤ 1000 ∧ ∀ c ∈ ch, ∃ t, (c.1, t) ∈ ps ∧ c.2 ≤ t := by
  obtain ⟨hl, hall⟩ := okTill_of h
  unfold fewestOf at hf
  cases hc : cellR (tableOf ps M) ps.length M with
  | none => rw [hc] at hf; cases hf
  | some f =>
    rw [hc] at hf
    cases hf
    have i1 := wayN_is (tabled ps M) hall (Nat.le_refl _) (Nat.le_refl _) hc
    refine ⟨?_, fun c hcm => ?_⟩
    · rw [List.length_reverse]
      have : ∀ k a, (wayN (tableOf ps M) ps k a).length ≤ k := by
        intro k
        induction k with
        | zero => exact fun _ => Nat.le_refl _
        | succ k ih =>
          intro a
          unfold wayN
          dsimp only
          split
          · exact Nat.succ_le_succ (ih _)
          · exact Nat.le_succ_of_le (ih _)
      have := this ps.length M
      omega
    · obtain ⟨_, t, h2, h3⟩ := i1.2.2 c (List.mem_reverse.mp hcm)
      exact ⟨t, List.mem_of_mem_take h2, h3⟩
theorem wp_paid {ca : Nat → Addr} {xs : List Nat} : ∀ ds o, ph_paid ds = some o → wpSs ⟨[ph_need_sum, ph_with_all, ph_fewest, ph_with_count, ph_count_of], ca, xs, none⟩ g_paid (gdOf o) (startE n_paid ds) := by
  intro ds o h
  unfold ph_paid at h
  split at h
  · rename_i ds price es
    obtain ⟨ps, e, h2⟩ := bindO h
    clear h
    obtain ⟨vs, e2, h3⟩ := bindO h2
    clear h2
    cases decP_sound e
    cases decI_sound e2
    split at h3
    · rename_i hg
      obtain ⟨hok, hnd⟩ := hg
      cases h3
      obtain ⟨hlen, hall⟩ := okTill_of hok
      have vwa := @v_with_all ps vs hlen
      generalize hP : (some (Sl.fz (.list (ps.map eP)))) = P
      generalize hV : (some (Sl.fz (.list (vs.map .int)))) = V
      generalize hPr : (some (Sl.fz (.int price))) = PR
      generalize hT : (⟨[ph_need_sum, ph_with_all, ph_fewest, ph_with_count, ph_count_of], ca, xs, none⟩ : Tb) = T
      unfold g_paid paidD
      by_cases hb : badSum price
      · rw [if_pos hb]
        have hb' : price < 0 ∨ price > 1000 := hb
        simp only [startE, n_paid]
        simp [← hT, ph_need_sum, hb', Pd.out]
      rw [if_neg hb]
      have hb' : ¬(price < 0 ∨ price > 1000) := hb
      refine wp_cut (fun Γ => Γ = [P, PR, V, none, none, none, none]) (by
        simp only [startE, n_paid]
        simp [← hT, ph_need_sum, hb', ← hP, ← hV, ← hPr]) ?_
      rintro _ rfl
      cases hwa : withAllD ps vs with
      | er x =>
        rw [hwa] at vwa
        simp [← hT, ← hP, ← hV, vwa, Dd.out, Pd.out]
      | ok full =>
        rw [hwa] at vwa
        have hfull := withAll_full hnd hwa
        have hokf : okTill full = true := by rw [hfull]; exact addAll_ok hok vs
        have hndf : (full.map fun p => p.1).Nodup := by rw [hfull, addAll_keys]; exact hnd
        obtain ⟨hlf, _⟩ := okTill_of hokf
        clear hfull hwa
        refine wp_cut (fun Γ => Γ = [P, PR, V, some (.own (.ol (full.map eP))), none, none, none]) (by simp [← hT, ← hP, ← hV, vwa, Dd.out]) ?_
        rintro _ rfl
        refine wp_cut (fun Γ => Γ = [P, PR, V, some (.own (.ol (full.map eP))), some (.fz (.int (vs.sum - price))), none, none]) (by simp [← hV, ← hPr]) ?_
        rintro _ rfl
        show wpSs T _ (gdOf (payRest full (vs.sum - price)).out) _
        generalize vs.sum - price = due
        unfold payRest
        by_cases h0 : due < 0
        · rw [if_pos h0]
          simp [h0, Pd.out]
        rw [if_neg h0]
        refine wp_cut (fun Γ => Γ = [P, PR, V, some (.own (.ol (full.map eP))), some (.fz (.int due)), none, none]) (by simp; omega) ?_
        rintro _ rfl
        by_cases hbd : badSum due
        · rw [if_pos hbd]
          simp [← hT, v_fewest_bad hbd, Pd.out]
        rw [if_neg hbd]
        have hbd' : ¬(due < 0 ∨ due > 1000) := hbd
        obtain ⟨M, rfl⟩ := Int.eq_ofNat_of_zero_le (show 0 ≤ due by omega)
        rw [Int.toNat_natCast]
        have hvf := @v_fewest full M (by omega) hokf
        cases hf : fewestOf full M with
        | none =>
          rw [hf] at hvf
          simp [← hT, hvf, Pd.out]
        | some ch =>
          rw [hf] at hvf
          obtain ⟨hcl, hck⟩ := few_len hokf hf
          generalize hD : (some (Sl.fz (.int M))) = DU
          refine wp_cut (fun Γ => Γ = [P, PR, V, some (.own (.ol (full.map eP))), DU, some (.own (.ol (ch.map eP))), none]) (by simp [← hT, ← hD, hvf]) ?_
          rintro _ rfl
          refine wp_cut (fun Γ => Γ = [P, PR, V, some (.own (.ol ((takeAll full ch).map eP))), DU, some (.own (.ol (ch.map eP))), none]) ?_ ?_
          · refine wp_forO (f := eP) (xs := ch) (fun p r Γ => ∃ qs : List (Int × Int), Γ = [P, PR, V, some (.own (.ol (qs.map eP))), DU, some (.pin p (ch.map eP)), none] ∧ takeAll qs r = takeAll full ch ∧ qs.map (fun p => p.1) = full.map (fun p => p.1) ∧ ∀ c ∈ r, c.1 ∈ full.map fun p => p.1) rfl (fun p => ⟨rfl, full, rfl, rfl, rfl, fun c hc => by
              obtain ⟨t, ht, _⟩ := hck c hc
              exact List.mem_map.mpr ⟨_, ht, rfl⟩⟩) ?_ ?_
            · rintro p c r _ ⟨qs, rfl, hq, hk, hcr⟩
              have hqn : qs.length ≤ 1000 := by
                have := congrArg List.length hk
                rw [List.length_map, List.length_map] at this
                omega
              have hcin := hcr c List.mem_cons_self
              rw [← hk] at hcin
              have hv := @v_count qs c.1
              cases hc : countIn qs c.1 with
              | none => exact absurd hcin (countIn_no hc)
              | some t =>
                rw [hc] at hv
                have hw := @v_withc qs c.1 (t - c.2) hqn
                refine wp_cut (fun Γ => Γ = [P, PR, V, some (.own (.ol ((withCount qs c.1 (t - c.2)).map eP))), DU, some (.pin p (ch.map eP)), some (.fz (eP c))]) (by simp [← hT, hv, hw]) ?_
                rintro _ rfl
                rw [w_nil]
                refine ⟨rfl, rfl, withCount qs c.1 (t - c.2), rfl, ?_, ?_, fun x hx => hcr x (List.mem_cons_of_mem _ hx)⟩
                · rw [← hq]
                  show _ = takeAll (withCount qs c.1 ((countIn qs c.1).getD 0 - c.2)) r
                  rw [hc]
                  rfl
                · rw [← hk]
                  unfold withCount
                  rw [List.map_map]
                  refine List.map_congr_left fun q _ => ?_
                  show (if q.1 = c.1 then (q.1, t - c.2) else q).1 = q.1
                  split <;> rfl
            · rintro p _ ⟨qs, rfl, hq, _, _⟩
              have : qs = takeAll full ch := hq
              rw [this]
              rfl
          rintro _ rfl
          rw [w_cons]
          exact ⟨_, _, by decide, rfl, rfl, immA_pair, immA_pair, rfl⟩
    · cases h3
  · cases h
def ph_l_least : List D → Option Out
  | [.list ds, .int a, .int v, .int c] => (decO ds).bind fun row => if (0 ≤ a ∧ a < row.length) ∧ row.length ≤ 2000 ∧ okP (v, c) then some (.ret (.im (oD (leastOf row a.toNat v c)))) else none
  | _ => none
theorem ar_l_least : ∀ ds o, ph_l_least ds = some o → ds.length = 4 := by
  intro ds o h
  unfold ph_l_least at h
  split at h
  · rfl
  · cases h
theorem vl_least {row : Row} {a : Nat} {p : Int × Int} (h1 : a < row.length) (h2 : row.length ≤ 2000) (h3 : okP p) : ph_l_least [.list (row.map oD), .int a, .int p.1, .int p.2] = some (.ret (.im (oD (leastOf row a p.1 p.2)))) := by
  show (decO (row.map oD)).bind _ = _
  rw [decO_map]
  show (if (0 ≤ (a : Int) ∧ (a : Int) < row.length) ∧ row.length ≤ 2000 ∧ okP (p.1, p.2) then some (Out.ret (.im (oD (leastOf row (a : Int).toNat p.1 p.2)))) else none) = _
  rw [if_pos ⟨⟨by omega, by omega⟩, h2, h3⟩, Int.toNat_natCast]
theorem wp_l_least {ca : Nat → Addr} {xs : List Nat} : ∀ ds o, ph_l_least ds = some o → wpSs ⟨[], ca, xs, none⟩ g_l_least (gdOf o) (startE n_l_least ds) := by
  intro ds o h
  unfold ph_l_least at h
  split at h
  · rename_i ds a v c
    obtain ⟨row, e, h2⟩ := bindO h
    clear h
    cases decO_sound e
    split at h2
    · rename_i hg
      obtain ⟨⟨h0, h1⟩, hlen, g1, g2, g3⟩ := hg
      have g1 : 1 ≤ v := g1
      have g2 : v ≤ 1000 := g2
      have g3 : 0 ≤ c := g3
      cases h2
      obtain ⟨at', rfl⟩ := Int.eq_ofNat_of_zero_le h0
      have hlim := @lim_in at' v c g1 g3
      rw [Int.toNat_natCast]
      unfold g_l_least
      refine wp_cut (fun Γ => Γ = [some (.fz (.list (row.map oD))), some (.fz (.int at')), some (.fz (.int v)), some (.fz (.int c)), some (.fz .none), none, none]) (by simp [startE, n_l_least]) ?_
      rintro _ rfl
      refine wp_cut (fun Γ => Γ = [some (.fz (.list (row.map oD))), some (.fz (.int at')), some (.fz (.int v)), some (.fz (.int c)), some (.fz (oD (leastOf row at' v c))), none, none]) ?_ ?_
      · refine wp_rng (n := limOf at' v c) (fun k Γ => Γ = [some (.fz (.list (row.map oD))), some (.fz (.int at')), some (.fz (.int v)), some (.fz (.int c)), some (.fz (oD (leastN row at' v k))), none, none]) (by simp [bop_div (show 0 < v by omega) (show v < 1073741824 by omega), limOf]) (by omega) (by omega) (by simp [leastN, oD]) ?_ ?_
        · rintro k _ hk rfl
          have hkv := hlim.2.2 k hk
          have hkn : 0 ≤ (k : Int) * v := Int.mul_nonneg (by omega) (by omega)
          have hmul : bop .mul (k : Int) v = .ok (.int (k * v)) := bop_mul (mulOk_r (by omega) (by omega))
          have hix := @ix_row row ((at' : Int) - k * v) (by omega) (by omega)
          have hs : leastN row at' v (k + 1) = lstep row at' v (leastN row at' v k) k := rfl
          rw [hs]
          unfold lstep
          generalize leastN row at' v k = found
          generalize row.getD ((at' : Int) - k * v).toNat none = few at hix
          cases few with
          | none => simp [hmul, hix, oD]
          | some w => cases found with
            | none => simp [hmul, hix, oD]
            | some f =>
              by_cases q : w + k < f
              · simp [hmul, hix, oD, q]
              · simp [hmul, hix, oD, q]
        · rintro _ rfl
          rfl
      · rintro _ rfl
        simp
    · cases h2
  · cases h
def ph_l_row : List D → Option Out
  | [.list ds, .int n] => (decO ds).map fun r => oB (decide ((r.length : Int) = n))
  | _ => none
theorem ar_l_row : ∀ ds o, ph_l_row ds = some o → ds.length = 2 := by
  intro ds o h
  unfold ph_l_row at h
  split at h
  · rfl
  · cases h
theorem wp_l_row {ca : Nat → Addr} {xs : List Nat} : ∀ ds o, ph_l_row ds = some o → wpSs ⟨[ph_l_whole], ca, xs, none⟩ g_l_row (gdOf o) (startE n_l_row ds) := by
  intro ds o h
  unfold ph_l_row at h
  split at h
  · rename_i ds n
    obtain ⟨r, e, h2⟩ := mapO h
    clear h
    cases decO_sound e
    subst h2
    have ht : ∀ l : List D, isiD .list (.list l) = true := fun _ => rfl
    have h1 : ∀ n : Int, isiD .int (.int n) = true := fun _ => rfl
    have h2 : ∀ n : Int, isiD .bool (.int n) = false := fun _ => rfl
    unfold g_l_row
    by_cases hn : (r.length : Int) = n
    · refine wp_cut (fun Γ => Γ = [some (.fz (.list (r.map oD))), some (.fz (.int n)), none]) (by simp [startE, n_l_row, ht, hn]) ?_
      rintro _ rfl
      refine wp_cut (fun Γ => True) ?_ ?_
      · refine wp_for (items := r.map fun a => [oD a]) (fun q Γ => Γ = [some (.fz (.list (r.map oD))), some (.fz (.int n)), none] ∧ ∀ it ∈ q, ∃ a, it = [oD a]) ?_ ⟨by simp, fun it hit => ?_⟩ ?_ ?_
        · have e1 : ev ⟨[ph_l_whole], ca, xs, none⟩ (stab [some (.fz (.list (r.map oD))), some (.fz (.int n)), none]) (.var 0) = .ok (.list (r.map oD)) := by simp
          simp only [evI, e1, bind_ok, List.map_map]
          rfl
        · obtain ⟨a, _, rfl⟩ := List.mem_map.mp hit
          exact ⟨a, rfl⟩
        · rintro it q _ ⟨rfl, hq⟩
          obtain ⟨a, rfl⟩ := hq it List.mem_cons_self
          have hq' : ∀ it ∈ q, ∃ a, it = [oD a] := fun x hx => hq x (List.mem_cons_of_mem _ hx)
          cases a with
          | none =>
            simp [oD]
            exact hq'
          | some i =>
            simp [oD, ph_l_whole, h1, h2]
            exact hq'
        · exact fun _ _ => trivial
      · intro Γ _
        simp [hn]
    · simp [startE, n_l_row, ht, hn]
  · cases h
def ph_l_walked : List D → Option Out
  | [.list ds, .list es, .int m] => (decR ds).bind fun rs => (decP es).bind fun ps => if (0 ≤ m ∧ m ≤ 1000) ∧ okTill ps = true ∧ rs = tableOf ps m.toNat then some (oB true) else none
  | _ => none
theorem ar_l_walked : ∀ ds o, ph_l_walked ds = some o → ds.length = 3 := by
  intro ds o h
  unfold ph_l_walked at h
  split at h
  · rfl
  · cases h
theorem wp_l_walked {ca : Nat → Addr} {xs : List Nat} : ∀ ds o, ph_l_walked ds = some o → wpSs ⟨[ph_l_row, ph_l_least], ca, xs, none⟩ g_l_walked (gdOf o) (startE n_l_walked ds) := by
  intro ds o h
  unfold ph_l_walked at h
  split at h
  · rename_i ds es m
    obtain ⟨rs, e, h2⟩ := bindO h
    clear h
    obtain ⟨ps, e2, h3⟩ := bindO h2
    clear h2
    cases decR_sound e
    cases decP_sound e2
    split at h3
    · rename_i hg
      obtain ⟨⟨hm0, hm1⟩, hok, hrs⟩ := hg
      cases h3
      obtain ⟨hlen, hall⟩ := okTill_of hok
      obtain ⟨M, rfl⟩ := Int.eq_ofNat_of_zero_le hm0
      rw [Int.toNat_natCast] at hrs
      have hl : rs.length = ps.length + 1 := by rw [hrs]; exact tabGo_len M ps _
      have hr0 : rs[0]? = some (row0 M) := by rw [hrs]; exact tab_0 ps M
      have hrl : ∀ r ∈ rs, r.length = M + 1 := by rw [hrs]; exact tabGo_rows M ps _ (row0_len M)
      have hst : ∀ (k : Nat) (p : Int × Int), ps[k]? = some p → ∃ a b, rs[k]? = some a ∧ rs[k + 1]? = some b ∧ b = nextRow a p M := by rw [hrs]; exact tabGo_step M ps _
      clear hrs e e2
      have ht : ∀ l : List D, isiD .list (.list l) = true := fun _ => rfl
      have vrow : ∀ (r : Row) (n : Int), ph_l_row [.list (r.map oD), .int n] = some (oB (decide ((r.length : Int) = n))) := fun r n => by simp [ph_l_row, decO_map]
      have ix00 := ix_rowD hr0
      unfold g_l_walked
      refine wp_cut (fun Γ => Γ = [some (.fz (.list (rs.map rowD))), some (.fz (.list (ps.map eP))), some (.fz (.int M)), none, none]) ?_ ?_
      · have hl' : (rs.length : Int) = ps.length + 1 := by omega
        have ix00' : ixD (.list (rs.map rowD)) (.int 0) = .ok (.list ((row0 M).map oD)) := ix00
        simp [startE, n_l_walked, ht, hl', ix00', vrow, row0_len]
      rintro _ rfl
      refine wp_cut (fun Γ => Γ = [some (.fz (.list (rs.map rowD))), some (.fz (.list (ps.map eP))), some (.fz (.int M)), none, none]) ?_ ?_
      · have ix00' : ixD (.list (rs.map rowD)) (.int 0) = .ok (.list ((row0 M).map oD)) := ix00
        have hrep : repR .none (.int M) = .ok (List.replicate M .none) := by
          rw [repR_i (by omega) (by omega), Int.toNat_natCast]
        have hcat : catR (.list [.int 0]) (.list (List.replicate M .none)) = .ok ((row0 M).map oD) := by
          rw [catR_l (by simp; omega)]
          simp [row0, oD]
        simp [ix00', hrep, hcat]
      rintro _ rfl
      refine wp_cut (fun Γ => ∃ a b, Γ = [some (.fz (.list (rs.map rowD))), some (.fz (.list (ps.map eP))), some (.fz (.int M)), a, b]) ?_ ?_
      · refine wp_rng (n := ps.length) (fun k Γ => Γ = [some (.fz (.list (rs.map rowD))), some (.fz (.list (ps.map eP))), some (.fz (.int M)), none, none]) (by simp) (by omega) (by omega) (by simp) ?_ ?_
        · rintro k _ hk rfl
          have hkl : k < ps.length := by omega
          have hp : ps[k]? = some ps[k] := List.getElem?_eq_getElem hkl
          have hokp := hall ps[k] (List.getElem_mem hkl)
          generalize ps[k] = p at hp hokp
          obtain ⟨a, b, ha, hb, hab⟩ := hst k p hp
          have hla := hrl a (List.mem_of_getElem? ha)
          have hlb := hrl b (List.mem_of_getElem? hb)
          have ixa := ix_rowD ha
          have ixb : ixD (.list (rs.map rowD)) (.int (k + 1)) = .ok (.list (b.map oD)) := ix_rowD hb
          have ixp : ixD (.list (ps.map eP)) (.int k) = .ok (eP p) := ix_l (by omega) (by rw [Int.toNat_natCast, List.getElem?_map, hp]; rfl)
          refine wp_cut (fun Γ => Γ = [some (.fz (.list (rs.map rowD))), some (.fz (.list (ps.map eP))), some (.fz (.int M)), some (.fz (.int k)), none]) (by simp [ixb, vrow, hlb]) ?_
          rintro _ rfl
          rw [w_cons]
          refine wp_rng (n := M + 1) (fun j Γ => Γ = [some (.fz (.list (rs.map rowD))), some (.fz (.list (ps.map eP))), some (.fz (.int M)), some (.fz (.int k)), none]) (by simp) (by omega) (by omega) (by simp) ?_ ?_
          · rintro j _ hj rfl
            have hjb : ixD (.list (b.map oD)) (.int j) = .ok (oD (leastOf a j p.1 p.2)) := by
              rw [ix_row (by omega) (by omega), Int.toNat_natCast, hab, nextRow, List.getD_eq_getElem?_getD, List.getElem?_map, List.getElem?_range (by omega)]
              rfl
            have vl := @vl_least a j p (by omega) (by omega) hokp
            simp [ixa, ixb, ixp, hjb, vl]
          · rintro _ rfl
            simp
        · rintro _ rfl
          exact ⟨_, _, rfl⟩
      · rintro _ ⟨a, b, rfl⟩
        simp
    · cases h3
  · cases h
/-! ### the way told, walked once more -/
def ph_l_exact : List D → Option Out
  | [.list ds, .list es, .int m] => (decR ds).bind fun rs => (decP es).bind fun ps => if (0 ≤ m ∧ m ≤ 1000) ∧ okTill ps = true ∧ rs = tableOf ps m.toNat ∧ cellR rs ps.length m.toNat ≠ none then some (.ret (.ol ((wayN rs ps ps.length m.toNat).reverse.map eP))) else none
  | _ => none
theorem ar_l_exact : ∀ ds o, ph_l_exact ds = some o → ds.length = 3 := by
  intro ds o h
  unfold ph_l_exact at h
  split at h
  · rfl
  · cases h
theorem v_l_exact {ps : List (Int × Int)} {M : Nat} (h : M ≤ 1000) (hk : okTill ps = true) (hc : cellR (tableOf ps M) ps.length M ≠ none) : ph_l_exact [.list ((tableOf ps M).map rowD), .list (ps.map eP), .int M] = some (.ret (.ol ((wayN (tableOf ps M) ps ps.length M).reverse.map eP))) := by
  have h' : 0 ≤ (M : Int) ∧ (M : Int) ≤ 1000 := by omega
  simp only [ph_l_exact, decP_map, decR_map, Option.bind_some, Int.toNat_natCast]
  rw [if_pos ⟨h', hk, trivial, hc⟩]
theorem wp_l_exact {ca : Nat → Addr} {xs : List Nat} : ∀ ds o, ph_l_exact ds = some o → wpSs ⟨[], ca, xs, none⟩ g_l_exact (gdOf o) (startE n_l_exact ds) := by
  intro ds o h
  unfold ph_l_exact at h
  split at h
  · rename_i ds es m
    obtain ⟨rs, e, h2⟩ := bindO h
    clear h
    obtain ⟨ps, e2, h3⟩ := bindO h2
    clear h2
    cases decR_sound e
    cases decP_sound e2
    split at h3
    · rename_i hg
      obtain ⟨⟨hm0, hm1⟩, hok, hrs, hc⟩ := hg
      cases h3
      obtain ⟨hlen, hall⟩ := okTill_of hok
      obtain ⟨M, rfl⟩ := Int.eq_ofNat_of_zero_le hm0
      rw [Int.toNat_natCast] at hrs hc ⊢
      have T : Tabled rs ps M := hrs ▸ tabled ps M
      clear hrs e e2
      obtain ⟨f, hc⟩ : ∃ f, cellR rs ps.length M = some f := by
        cases z : cellR rs ps.length M with
        | none => exact absurd z hc
        | some f => exact ⟨f, rfl⟩
      unfold g_l_exact
      refine wp_cut (fun Γ => Γ = [some (.fz (.list (rs.map rowD))), some (.fz (.list (ps.map eP))), some (.fz (.int M)), some (.own (.ol [])), none, none, none, none, none]) (by simp [startE, n_l_exact]) ?_
      rintro _ rfl
      refine wp_cut (fun Γ => Γ = [some (.fz (.list (rs.map rowD))), some (.fz (.list (ps.map eP))), some (.fz (.int M)), some (.own (.ol [])), some (.fz (.int M)), none, none, none, none]) (by simp) ?_
      rintro _ rfl
      refine wp_cut (fun Γ => ∃ x, Γ = [some (.fz (.list (rs.map rowD))), some (.fz (.list (ps.map eP))), some (.fz (.int M)), some (.own (.ol ((wayN rs ps ps.length M).map eP))), x, none, none, none, none]) ?_ ?_
      · refine wp_dn (n := ps.length) (fun k Γ => ∃ (a : Nat) (acc : List (Int × Int)) (g : Int), Γ = [some (.fz (.list (rs.map rowD))), some (.fz (.list (ps.map eP))), some (.fz (.int M)), some (.own (.ol (acc.map eP))), some (.fz (.int a)), none, none, none, none] ∧ a ≤ M ∧ acc ++ wayN rs ps k a = wayN rs ps ps.length M ∧ cellR rs k a = some g ∧ acc.length + k ≤ 1000) (by simp) (by omega) (by omega) ⟨M, [], f, by simp, Nat.le_refl _, by simp, by simpa using hc, by simpa using hlen⟩ ?_ ?_
        · rintro k _ hk ⟨a, acc, g, rfl, ha, hw, hg, hn⟩
          have hkp : ps[k]? = some ps[k] := List.getElem?_eq_getElem (by omega)
          have hpk := hall ps[k] (List.getElem_mem _)
          generalize ps[k] = p at hkp hpk
          have hkl : k + 1 < rs.length := by rw [T.len]; omega
          have i1 := @ix_rowsN rs k (by omega)
          have i2 := @ix_rowsS rs k hkl
          have i3 := ix_ps hkp
          have i4 := @ix_cell rs (k + 1) a (by rw [T.rows _ hkl]; omega)
          rw [hg] at i4
          have hcl := T.cell hkp ha
          rw [hg] at hcl
          have hp1 : 0 < p.1 := by have := hpk.1; omega
          have hp2 : p.1 < 1073741824 := by have := hpk.2.1; omega
          have hpm : p.1.natAbs < 18446744073709551616 := by omega
          have hhit := least_hit hpk.1 hpk.2.2 hcl.symm
          have hlim := @limN_in a p.1 p.2 hpk.1 hpk.2.2
          have hli := @limN_i a p.1 p.2 hpk.1 hpk.2.2
          have hrk : (rowAt rs k).length = M + 1 := T.rows _ (by omega)
          obtain ⟨q1, q2, b, q3, q4, q5⟩ := T.go hkp hpk ha hg _ rfl
          have hws := wayN_s hkp hg (b := b) rfl q3
          generalize hn' : stepN (rowAt rs k) a p g = n at q1 q2 q3 q5 hws
          refine wp_cut (fun Γ => Γ = [some (.fz (.list (rs.map rowD))), some (.fz (.list (ps.map eP))), some (.fz (.int M)), some (.own (.ol (acc.map eP))), some (.fz (.int a)), some (.fz (.int (k + 1))), some (.fz (.int p.1)), none, none]) (by simp [i3]) ?_
          rintro _ rfl
          refine wp_cut (fun Γ => Γ = [some (.fz (.list (rs.map rowD))), some (.fz (.list (ps.map eP))), some (.fz (.int M)), some (.own (.ol (acc.map eP))), some (.fz (.int a)), some (.fz (.int (k + 1))), some (.fz (.int p.1)), some (.fz (.int g)), none]) (by simp [i2, i4, oD]) ?_
          rintro _ rfl
          refine wp_cut (fun Γ => Γ = [some (.fz (.list (rs.map rowD))), some (.fz (.list (ps.map eP))), some (.fz (.int M)), some (.own (.ol (acc.map eP))), some (.fz (.int a)), some (.fz (.int (k + 1))), some (.fz (.int p.1)), some (.fz (.int g)), some (.fz (.int (limN a p.1 p.2 : Nat)))]) (by simp [i3, bop_div hp1 hp2, hli]) ?_
          rintro _ rfl
          refine wp_cut (fun Γ => Γ = [some (.fz (.list (rs.map rowD))), some (.fz (.list (ps.map eP))), some (.fz (.int M)), some (.own (.ol (acc.map eP))), some (.fz (.int a)), some (.fz (.int (k + 1))), some (.fz (.int p.1)), some (.fz (.int g)), some (.fz (.int n))]) ?_ ?_
          · refine wp_whl (fun j Γ => j ≤ limN a p.1 p.2 ∧ Γ = [some (.fz (.list (rs.map rowD))), some (.fz (.list (ps.map eP))), some (.fz (.int M)), some (.own (.ol (acc.map eP))), some (.fz (.int a)), some (.fz (.int (k + 1))), some (.fz (.int p.1)), some (.fz (.int g)), some (.fz (.int j))] ∧ fitN (rowAt rs k) a p.1 g j = n ∧ ∃ i, i ≤ j ∧ cut (rowAt rs k) a p.1 i = some (g - i)) (limN a p.1 p.2) ⟨Nat.le_refl _, rfl, hn', hhit⟩ ?_
            rintro j _ ⟨hj, rfl, hf, hi⟩
            have hnv := (hlim.2 j hj).1
            have hnn : 0 ≤ (j : Int) * p.1 := Int.mul_nonneg (by omega) (by omega)
            have hmul : bop .mul (j : Int) p.1 = .ok (.int (j * p.1)) := bop_mul (mulOk_r (by omega) (by omega))
            have hix : ixD (.list ((rowAt rs k).map oD)) (.int ((a : Int) - j * p.1)) = .ok (oD (cut (rowAt rs k) a p.1 j)) := @ix_row (rowAt rs k) ((a : Int) - j * p.1) (by omega) (by omega)
            by_cases q : cut (rowAt rs k) a p.1 j = some (g - j)
            · refine .inr ⟨?_, ?_⟩
              · rw [q] at hix
                simp [i1, hmul, hix, oD]
              · have : n = j := by
                  rw [← hf]
                  cases j with
                  | zero => rfl
                  | succ j =>
                    unfold fitN
                    rw [if_pos q]
                rw [this]
            · have h1n : 1 ≤ j := by
                rcases Nat.eq_zero_or_pos j with z | z
                · subst z
                  obtain ⟨i, hk1, hk2⟩ := hi
                  have : i = 0 := by omega
                  subst this
                  exact absurd hk2 q
                · exact z
              refine .inl ⟨j - 1, by omega, ?_, ?_⟩
              · cases hcu : cut (rowAt rs k) a p.1 j with
                | none =>
                  rw [hcu] at hix
                  simp [i1, hmul, hix, oD, eqD, eqF]
                | some w =>
                  rw [hcu] at hix q
                  have q' : ¬(w = g - (j : Int)) := fun z => q (by rw [z])
                  simp [i1, hmul, hix, oD, q']
              · simp
                refine ⟨by omega, by omega, ?_, ?_⟩
                · rw [← hf]
                  obtain ⟨m, rfl⟩ : ∃ m, j = m + 1 := ⟨j - 1, by omega⟩
                  conv => rhs; unfold fitN
                  rw [if_neg q]
                  rfl
                · obtain ⟨i, hk1, hk2⟩ := hi
                  refine ⟨i, ?_, hk2⟩
                  by_cases z : i = j
                  · subst z
                    exact absurd hk2 q
                  · omega
          rintro _ rfl
          refine wp_cut (fun Γ => Γ = [some (.fz (.list (rs.map rowD))), some (.fz (.list (ps.map eP))), some (.fz (.int M)), some (.own (.ol ((acc ++ if 0 < n then [(p.1, (n : Int))] else []).map eP))), some (.fz (.int a)), some (.fz (.int (k + 1))), some (.fz (.int p.1)), some (.fz (.int g)), some (.fz (.int n))]) ?_ ?_
          · by_cases z : 0 < n
            · simp [z, ownL, eP]
              exact ⟨rfl, by omega⟩
            · simp [z]
          rintro _ rfl
          have hmul : bop .mul (n : Int) p.1 = .ok (.int (n * p.1)) := bop_mul (mulOk_r (by omega) (by omega))
          simp [hmul]
          refine ⟨b, acc ++ (if 0 < n then [(p.1, (n : Int))] else []), ?_, q4, ?_, ⟨_, q5⟩, ?_⟩
          · rw [← q3]
            simp
          · rw [List.append_assoc, ← hws, hw]
          · rw [List.length_append]
            have : (if 0 < n then [(p.1, (n : Int))] else []).length ≤ 1 := by split <;> simp
            omega
        · rintro _ ⟨a, acc, g, rfl, ha, hw, hg, hn⟩
          rw [← hw]
          simp [wayN]
      rintro _ ⟨x, rfl⟩
      simp [ownR, ownL]
      rw [← List.map_reverse]
      exact immA_pair
    · cases h3
  · cases h
@[simp] theorem eq_s {n : Bool} {a b : Str} : eqD n (.str a) (.str b) = .ok (.bool (n ^^ decide (a = b))) := rfl
def ph_l_alike : List D → Option Out
  | [.list ds, .list es] => (decP ds).bind fun ps => (decP es).map fun qs => oB (decide (ps = qs))
  | _ => none
theorem ar_l_alike : ∀ ds o, ph_l_alike ds = some o → ds.length = 2 := by
  intro ds o h
  unfold ph_l_alike at h
  split at h
  · rfl
  · cases h
theorem v_alike {ps qs : List (Int × Int)} : ph_l_alike [.list (ps.map eP), .list (qs.map eP)] = some (oB (decide (ps = qs))) := by simp [ph_l_alike, decP_map]
theorem wp_l_alike {ca : Nat → Addr} {xs : List Nat} : ∀ ds o, ph_l_alike ds = some o → wpSs ⟨[ph_l_whole], ca, xs, none⟩ g_l_alike (gdOf o) (startE n_l_alike ds) := by
  intro ds o h
  unfold ph_l_alike at h
  split at h
  · obtain ⟨ps, e, h2⟩ := bindO h
    clear h
    obtain ⟨qs, e2, h3⟩ := mapO h2
    clear h2
    cases decP_sound e
    cases decP_sound e2
    subst h3
    unfold g_l_alike
    by_cases hq : ps = qs
    · subst hq
      refine wp_cut (fun Γ => Γ = [some (.fz (.list (ps.map eP))), some (.fz (.list (ps.map eP))), none]) (by simp [startE, n_l_alike, isiD]) ?_
      rintro _ rfl
      refine wp_cut (fun Γ => True) ?_ ?_
      · refine wp_prs (ps := ps) (fun r Γ => Γ = [some (.fz (.list (ps.map eP))), some (.fz (.list (ps.map eP))), none]) (by simp) (by simp) ?_ ?_
        · rintro p r _ rfl
          have ht : isiD .tuple (eP p) = true := rfl
          have h1 : ∀ n : Int, isiD .int (.int n) = true := fun _ => rfl
          have h2 : ∀ n : Int, isiD .bool (.int n) = false := fun _ => rfl
          simp [ht, h1, h2, ph_l_whole]
        · rintro _ rfl
          trivial
      · rintro _ _
        simp
    · simp [startE, n_l_alike, isiD, hq]
  · cases h
/-! ### deeds -/
def broughtD (ps : List (Int × Int)) (v c : Int) : Dd := match countIn ps v with
  | none => .er 2
  | some t => if noCount c then .er 4 else if noCount (t + c) then .er 4 else .ok (withCount ps v (t + c))
def fetchedD (ps : List (Int × Int)) (v c : Int) : Dd := match countIn ps v with
  | none => .er 2
  | some t => if noCount c then .er 4 else if c > t then .er 8 else .ok (withCount ps v (t - c))
def kindInD (ps : List (Int × Int)) (v : Int) : Dd := if noValue v then .er 2 else if v ∈ ps.map (fun p => p.1) then .er 3 else if ps.length = 10 then .er 1 else .ok (pSort (ps ++ [(v, 0)]))
def kindOutD (ps : List (Int × Int)) (v : Int) : Dd := match countIn ps v with
  | none => .er 2
  | some t => if t > 0 then .er 9 else if ps.length = 1 then .er 1 else .ok (ps.filter fun p => decide (p.1 ≠ v))
def ph_brought : List D → Option Out
  | [.list ds, .int v, .int c] => (decP ds).bind fun ps => if ps.length ≤ 1000 then some (broughtD ps v c).out else none
  | _ => none
theorem ar_brought : ∀ ds o, ph_brought ds = some o → ds.length = 3 := by
  intro ds o h
  unfold ph_brought at h
  split at h
  · rfl
  · cases h
theorem wp_brought {ca : Nat → Addr} {xs : List Nat} : ∀ ds o, ph_brought ds = some o → wpSs ⟨[ph_count_of, ph_need_count, ph_with_count], ca, xs, none⟩ g_brought (gdOf o) (startE n_brought ds) := by
  intro ds o h
  unfold ph_brought at h
  split at h
  · rename_i ds v c
    obtain ⟨ps, e, h2⟩ := bindO h
    clear h
    cases decP_sound e
    split at h2
    · rename_i hl
      cases h2
      simp [g_brought, startE, n_brought, ph_count_of, decP_map, broughtD]
      cases countIn ps v with
      | none => simp [Dd.out]
      | some t =>
        by_cases h1 : c < 0 ∨ c > 1000000000
        · simp [ph_need_count, h1, noCount, Dd.out]
        · by_cases h2 : t + c < 0 ∨ t + c > 1000000000
          · simp [ph_need_count, h1, h2, noCount, Dd.out]
          · simp [ph_need_count, h1, h2, noCount, Dd.out, ph_with_count, decP_map, hl]
    · cases h2
  · cases h
def ph_fetched : List D → Option Out
  | [.list ds, .int v, .int c] => (decP ds).bind fun ps => if ps.length ≤ 1000 then some (fetchedD ps v c).out else none
  | _ => none
theorem ar_fetched : ∀ ds o, ph_fetched ds = some o → ds.length = 3 := by
  intro ds o h
  unfold ph_fetched at h
  split at h
  · rfl
  · cases h
theorem wp_fetched {ca : Nat → Addr} {xs : List Nat} : ∀ ds o, ph_fetched ds = some o → wpSs ⟨[ph_count_of, ph_need_count, ph_with_count], ca, xs, none⟩ g_fetched (gdOf o) (startE n_fetched ds) := by
  intro ds o h
  unfold ph_fetched at h
  split at h
  · rename_i ds v c
    obtain ⟨ps, e, h2⟩ := bindO h
    clear h
    cases decP_sound e
    split at h2
    · rename_i hl
      cases h2
      simp [g_fetched, startE, n_fetched, ph_count_of, decP_map, fetchedD]
      cases countIn ps v with
      | none => simp [Dd.out]
      | some t =>
        by_cases h1 : c < 0 ∨ c > 1000000000
        · simp [ph_need_count, h1, noCount, Dd.out]
        · by_cases h2 : c > t
          · simp [ph_need_count, h1, h2, noCount, Dd.out]
          · simp [ph_need_count, h1, h2, noCount, Dd.out, ph_with_count, decP_map, hl]
    · cases h2
  · cases h
def ph_kind_in : List D → Option Out
  | [.list ds, .int v] => (decP ds).bind fun ps => if ps.length ≤ 1000 then some (kindInD ps v).out else none
  | _ => none
theorem ar_kind_in : ∀ ds o, ph_kind_in ds = some o → ds.length = 2 := by
  intro ds o h
  unfold ph_kind_in at h
  split at h
  · rfl
  · cases h
theorem wp_kind_in {ca : Nat → Addr} {xs : List Nat} : ∀ ds o, ph_kind_in ds = some o → wpSs ⟨[ph_need_value], ca, xs, none⟩ g_kind_in (gdOf o) (startE n_kind_in ds) := by
  intro ds o h
  unfold ph_kind_in at h
  split at h
  · rename_i ds v
    obtain ⟨ps, e, h2⟩ := bindO h
    clear h
    cases decP_sound e
    split at h2
    · rename_i hl
      cases h2
      unfold g_kind_in kindInD
      by_cases h1 : v < 1 ∨ v > 1000
      · have h1' : noValue v := h1
        simp [startE, n_kind_in, ph_need_value, h1, h1', Dd.out]
      · have h1' : ¬noValue v := h1
        rw [if_neg h1']
        refine wp_cut (fun Γ => Γ = [some (.fz (.list (ps.map eP))), some (.fz (.int v)), none]) (by simp [startE, n_kind_in, ph_need_value, h1]) ?_
        rintro _ rfl
        have hlc : evF ⟨[ph_need_value], ca, xs, none⟩ (view [some (.fz (.list (ps.map eP))), some (.fz (.int v)), none]) (.lc [2] (.il (.var 0)) (.ix (.var 2) (.cst (.int 0)))) = .ok ((ps.map fun p => p.1).map .int) := by
          rw [e_lc (ps := ps) (g := fun p => .int p.1) (by simp) (by omega) (fun p hp => by simp), List.map_map]
          rfl
        generalize (ps.map fun p => p.1) = ks at hlc
        simp only [w_cons, w_nil, w_ifs, e_inl, e_f, hlc]
        have ep : PyData.tuple [.int v, .int 0] = eP (v, 0) := rfl
        by_cases h2' : v ∈ ks
        · simp [h2', Dd.out]
        · by_cases h3 : ps.length = 10
          · simp [h2', h3, Dd.out]
          · have hc : catR (.list (ps.map eP)) (.list [eP (v, 0)]) = .ok ((ps ++ [(v, 0)]).map eP) := by
              rw [catR_l (by simp; omega), List.map_append]
              rfl
            have h3' : ¬((ps.length : Int) = 10) := by omega
            simp only [h2', h3', h3, Dd.out]
            simp [h2', h3', ep, hc]
            rw [show ps.map eP ++ [eP (v, 0)] = (ps ++ [(v, 0)]).map eP by rw [List.map_append]; rfl, srtR_l]
            simp
    · cases h2
  · cases h
def ph_kind_out : List D → Option Out
  | [.list ds, .int v] => (decP ds).bind fun ps => if ps.length ≤ 1000 then some (kindOutD ps v).out else none
  | _ => none
theorem ar_kind_out : ∀ ds o, ph_kind_out ds = some o → ds.length = 2 := by
  intro ds o h
  unfold ph_kind_out at h
  split at h
  · rfl
  · cases h
theorem lcM_filter {f : List D → Rs (Option D)} {P : Int × Int → Bool} {g : Int × Int → D} : ∀ {l : List (Int × Int)}, (∀ p ∈ l, f [eP p] = .ok (if P p then some (g p) else none)) → lcM f (l.map fun p => [eP p]) = .ok ((l.filter P).map g)
  | [], _ => rfl
  | p :: r, h => by
    have ih := lcM_filter (f := f) (P := P) (g := g) (l := r) fun q hq => h q (List.mem_cons_of_mem _ hq)
    rw [List.map_cons]
    unfold lcM
    rw [h p List.mem_cons_self, List.filter_cons]
    by_cases q : P p = true
    · rw [if_pos q, if_pos q]
      show (lcM f (r.map fun p => [eP p])).map _ = _
      rw [ih]
      rfl
    · rw [if_neg q, if_neg q]
      exact ih
theorem e_lcf {T : Tb} {Γ : TD.Env} {t : Nat} {a c e : GE} {ps : List (Int × Int)} {P : Int × Int → Bool} {g : Int × Int → D} (he : ev T Γ a = .ok (.list (ps.map eP))) (hl : ps.length ≤ 16777216)
    (hc : ∀ p ∈ ps, ev T ((wipeE Γ [t]).set t (some (.fz (eP p)))) c = .ok (.bool (P p))) (hg : ∀ p ∈ ps, P p = true → ev T ((wipeE Γ [t]).set t (some (.fz (eP p)))) e = .ok (g p)) :
    evF T Γ (.lcf [t] (.il a) c e) = .ok ((ps.filter P).map g) := by
  show (evI T Γ (.il a)).bind _ = _
  have e2 : evI T Γ (.il a) = .ok (ps.map fun p => [eP p]) := by
    show (ev T Γ a).bind _ = _
    rw [he]
    show Rs.ok ((ps.map eP).map fun d => [d]) = _
    rw [List.map_map]
    rfl
  rw [e2]
  show (if TD.sizeOk (ps.map fun p => [eP p]).length = true then lcM _ (ps.map fun p => [eP p]) else Rs.bad) = _
  rw [if_pos (size_lit (by rw [List.length_map]; exact hl))]
  refine lcM_filter fun p hp => ?_
  show (ev T ((wipeE Γ [t]).set t (some (.fz (eP p)))) c).bind _ = _
  rw [hc p hp]
  show (match PyData.bool (P p) with
    | .bool true => (ev T ((wipeE Γ [t]).set t (some (.fz (eP p)))) e).map some
    | .bool false => Rs.ok none
    | _ => .bad) = _
  cases q : P p with
  | true =>
    show (ev T ((wipeE Γ [t]).set t (some (.fz (eP p)))) e).map some = _
    rw [hg p hp q]
    rfl
  | false => rfl
theorem wp_kind_out {ca : Nat → Addr} {xs : List Nat} : ∀ ds o, ph_kind_out ds = some o → wpSs ⟨[ph_count_of], ca, xs, none⟩ g_kind_out (gdOf o) (startE n_kind_out ds) := by
  intro ds o h
  unfold ph_kind_out at h
  split at h
  · rename_i ds v
    obtain ⟨ps, e, h2⟩ := bindO h
    clear h
    cases decP_sound e
    split at h2
    · rename_i hl
      cases h2
      unfold g_kind_out kindOutD
      have hlc : evF ⟨[ph_count_of], ca, xs, none⟩ (view [some (.fz (.list (ps.map eP))), some (.fz (.int v)), none]) (.lcf [2] (.il (.var 0)) (.eq true (.ix (.var 2) (.cst (.int 0))) (.var 1)) (.var 2)) = .ok ((ps.filter fun p => decide (p.1 ≠ v)).map eP) :=
        e_lcf (by simp) (by omega) (fun p hp => by simp) (fun p hp _ => by simp)
      simp only [startE, n_kind_out, List.map_cons, List.map_nil, List.length_cons, List.length_nil, List.cons_append, List.nil_append, show 0 + 1 + 1 + 1 - (0 + 1 + 1) = 1 from rfl, List.replicate_one, w_cons, w_nil, w_ifs, w_ret, r_f, hlc]
      cases hc : countIn ps v with
      | none => simp [ph_count_of, decP_map, hc, Dd.out]
      | some t =>
        by_cases h1 : t > 0
        · simp [ph_count_of, decP_map, hc, h1, Dd.out]
        · by_cases h2 : ps.length = 1
          · simp [ph_count_of, decP_map, hc, h1, h2, Dd.out]
          · simp [ph_count_of, decP_map, hc, h1, h2, Dd.out]
            omega
    · cases h2
  · cases h
/-! ### k09: the deeds of a day -/
inductive Deed where
  | paid (price : Int) (given : List Int) | brought (v c : Int) | fetched (v c : Int) | kin (v : Int) | kout (v : Int) | other (w : Str) (xs : List Int)
def Deed.enc : Deed → D
  | .paid p g => .tuple [.str "paid", .int p, .list (g.map .int)]
  | .brought v c => .tuple [.str "brought", .int v, .int c]
  | .fetched v c => .tuple [.str "fetched", .int v, .int c]
  | .kin v => .tuple [.str "in", .int v]
  | .kout v => .tuple [.str "out", .int v]
  | .other w xs => .tuple (.str w :: xs.map .int)
def Deed.good : Deed → Prop
  | .other w _ => w ≠ "paid" ∧ w ≠ "brought" ∧ w ≠ "fetched" ∧ w ≠ "in" ∧ w ≠ "out"
  | _ => True
def decPd : List D → Option Deed
  | [.int p, .list es] => (decI es).map (Deed.paid p)
  | _ => none
def dec2 (f : Int → Int → Deed) : List D → Option Deed
  | [.int v, .int c] => some (f v c)
  | _ => none
def dec1 (f : Int → Deed) : List D → Option Deed
  | [.int v] => some (f v)
  | _ => none
def decW (w : Str) (r : List D) : Option Deed :=
  if w = "paid" then decPd r else if w = "brought" then dec2 .brought r else if w = "fetched" then dec2 .fetched r else if w = "in" then dec1 .kin r else if w = "out" then dec1 .kout r else (decI r).map (Deed.other w)
def decDeed : D → Option Deed
  | .tuple (.str w :: r) => decW w r
  | _ => none
theorem decDeed_enc {e : Deed} (h : e.good) : decDeed e.enc = some e := by
  cases e with
  | paid p g =>
    show decPd [.int p, .list (g.map .int)] = _
    simp only [decPd, decI_map, Option.map_some]
  | brought v c => rfl
  | fetched v c => rfl
  | kin v => rfl
  | kout v => rfl
  | other w xs =>
    obtain ⟨h1, h2, h3, h4, h5⟩ := h
    show decW w (xs.map .int) = _
    unfold decW
    rw [if_neg h1, if_neg h2, if_neg h3, if_neg h4, if_neg h5, decI_map]
    rfl
theorem decDeed_sound {d : D} {e : Deed} (h : decDeed d = some e) : d = e.enc ∧ e.good := by
  unfold decDeed at h
  split at h
  · rename_i w r
    unfold decW at h
    split at h
    · rename_i z
      subst z
      unfold decPd at h
      split at h
      · obtain ⟨g, h1, rfl⟩ := mapO h
        cases decI_sound h1
        exact ⟨rfl, trivial⟩
      · cases h
    · split at h
      · rename_i z
        subst z
        unfold dec2 at h
        split at h
        · cases h
          exact ⟨rfl, trivial⟩
        · cases h
      · split at h
        · rename_i z
          subst z
          unfold dec2 at h
          split at h
          · cases h
            exact ⟨rfl, trivial⟩
          · cases h
        · split at h
          · rename_i z
            subst z
            unfold dec1 at h
            split at h
            · cases h
              exact ⟨rfl, trivial⟩
            · cases h
          · split at h
            · rename_i z
              subst z
              unfold dec1 at h
              split at h
              · cases h
                exact ⟨rfl, trivial⟩
              · cases h
            · rename_i h1 h2 h3 h4 h5
              obtain ⟨g, q, rfl⟩ := mapO h
              cases decI_sound q
              exact ⟨rfl, h1, h2, h3, h4, h5⟩
  · cases h
def decDs : List D → Option (List Deed)
  | [] => some []
  | d :: r => (decDeed d).bind fun e => (decDs r).map fun l => e :: l
theorem decDs_map : ∀ {l : List Deed}, (∀ e ∈ l, e.good) → decDs (l.map Deed.enc) = some l
  | [], _ => rfl
  | e :: r, h => by
    show (decDeed e.enc).bind _ = _
    rw [decDeed_enc (h e List.mem_cons_self)]
    show (decDs (r.map Deed.enc)).map _ = _
    rw [decDs_map fun x hx => h x (List.mem_cons_of_mem _ hx)]
    rfl
theorem decDs_sound : ∀ {ds : List D} {l : List Deed}, decDs ds = some l → ds = l.map Deed.enc ∧ ∀ e ∈ l, e.good
  | [], l, h => by
    cases h
    exact ⟨rfl, fun _ z => nomatch z⟩
  | d :: r, l, h => by
    obtain ⟨e, h1, h2⟩ := bindO (show (decDeed d).bind (fun e => (decDs r).map fun l => e :: l) = some l from h)
    obtain ⟨m, h3, rfl⟩ := mapO h2
    obtain ⟨rfl, g⟩ := decDeed_sound h1
    obtain ⟨rfl, gs⟩ := decDs_sound h3
    exact ⟨rfl, fun x hx => by
      rcases List.mem_cons.mp hx with rfl | hx
      · exact g
      · exact gs x hx⟩
@[simp] theorem it0 {x : D} {l : List D} : ixD (.tuple (x :: l)) (.int 0) = .ok x := rfl
@[simp] theorem it1 {x y : D} {l : List D} : ixD (.tuple (x :: y :: l)) (.int 1) = .ok y := rfl
@[simp] theorem it2 {x y z : D} {l : List D} : ixD (.tuple (x :: y :: z :: l)) (.int 2) = .ok z := rfl
/-! words -/
@[simp] theorem wd_paid_brought : (("paid" : Str) = "brought") = False := eq_false (by decide)
@[simp] theorem wd_paid_fetched : (("paid" : Str) = "fetched") = False := eq_false (by decide)
@[simp] theorem wd_paid_in : (("paid" : Str) = "in") = False := eq_false (by decide)
@[simp] theorem wd_paid_out : (("paid" : Str) = "out") = False := eq_false (by decide)
@[simp] theorem wd_brought_paid : (("brought" : Str) = "paid") = False := eq_false (by decide)
@[simp] theorem wd_brought_fetched : (("brought" : Str) = "fetched") = False := eq_false (by decide)
@[simp] theorem wd_brought_in : (("brought" : Str) = "in") = False := eq_false (by decide)
@[simp] theorem wd_brought_out : (("brought" : Str) = "out") = False := eq_false (by decide)
@[simp] theorem wd_fetched_paid : (("fetched" : Str) = "paid") = False := eq_false (by decide)
@[simp] theorem wd_fetched_brought : (("fetched" : Str) = "brought") = False := eq_false (by decide)
@[simp] theorem wd_fetched_in : (("fetched" : Str) = "in") = False := eq_false (by decide)
@[simp] theorem wd_fetched_out : (("fetched" : Str) = "out") = False := eq_false (by decide)
@[simp] theorem wd_in_paid : (("in" : Str) = "paid") = False := eq_false (by decide)
@[simp] theorem wd_in_brought : (("in" : Str) = "brought") = False := eq_false (by decide)
@[simp] theorem wd_in_fetched : (("in" : Str) = "fetched") = False := eq_false (by decide)
@[simp] theorem wd_in_out : (("in" : Str) = "out") = False := eq_false (by decide)
@[simp] theorem wd_out_paid : (("out" : Str) = "paid") = False := eq_false (by decide)
@[simp] theorem wd_out_brought : (("out" : Str) = "brought") = False := eq_false (by decide)
@[simp] theorem wd_out_fetched : (("out" : Str) = "fetched") = False := eq_false (by decide)
@[simp] theorem wd_out_in : (("out" : Str) = "in") = False := eq_false (by decide)
/-! ### what a deed comes to -/
def Dd.pd : Dd → Pd
  | .er x => .er x
  | .ok a => .ok a []
def doneD (ps : List (Int × Int)) : Deed → Pd
  | .paid p g => paidD ps p g
  | .brought v c => (broughtD ps v c).pd
  | .fetched v c => (fetchedD ps v c).pd
  | .kin v => (kindInD ps v).pd
  | .kout v => (kindOutD ps v).pd
  | .other _ _ => .er 10
def ph_done : List D → Option Out
  | [.list ds, d] => (decP ds).bind fun ps => (decDeed d).bind fun e => if okTill ps = true ∧ (ps.map fun p => p.1).Nodup then some (doneD ps e).out else none
  | _ => none
theorem ar_done : ∀ ds o, ph_done ds = some o → ds.length = 2 := by
  intro ds o h
  unfold ph_done at h
  split at h
  · rfl
  · cases h
theorem v_done {ps : List (Int × Int)} {e : Deed} (g : e.good) (h : okTill ps = true) (h2 : (ps.map fun p => p.1).Nodup) : ph_done [.list (ps.map eP), e.enc] = some (doneD ps e).out := by
  simp only [ph_done, decP_map, decDeed_enc g, Option.bind_some, if_pos (And.intro h h2)]
theorem outR_dd (d : Dd) : outR (some d.out) = match d with
    | .er x => .err x
    | .ok a => .ok (.ol (a.map eP)) := by cases d <;> rfl
theorem outR_pd (d : Pd) : outR (some d.out) = match d with
    | .er x => .err x
    | .ok a b => .ok (.ot [.ol (a.map eP), .ol (b.map eP)]) := by cases d <;> rfl
theorem wp_done {ca : Nat → Addr} {xs : List Nat} : ∀ ds o, ph_done ds = some o → wpSs ⟨[ph_paid, ph_brought, ph_fetched, ph_kind_in, ph_kind_out], ca, xs, none⟩ g_done (gdOf o) (startE n_done ds) := by
  intro ds o h
  unfold ph_done at h
  split at h
  · rename_i ds d
    obtain ⟨ps, e1, h2⟩ := bindO h
    clear h
    obtain ⟨e, e2, h3⟩ := bindO h2
    clear h2
    cases decP_sound e1
    obtain ⟨rfl, hg⟩ := decDeed_sound e2
    split at h3
    · rename_i hq
      cases h3
      obtain ⟨hlen, _⟩ := okTill_of hq.1
      cases e with
      | paid p g =>
        have v := @v_paid ps p g hq.1 hq.2
        simp [g_done, startE, n_done, Deed.enc, v, doneD, outR_pd]
        cases paidD ps p g <;> simp [Pd.out]
      | brought v c =>
        simp [g_done, startE, n_done, Deed.enc, ph_brought, decP_map, hlen, doneD, outR_dd]
        cases broughtD ps v c <;> simp [Dd.out, Dd.pd, Pd.out]
      | fetched v c =>
        simp [g_done, startE, n_done, Deed.enc, ph_fetched, decP_map, hlen, doneD, outR_dd]
        cases fetchedD ps v c <;> simp [Dd.out, Dd.pd, Pd.out]
      | kin v =>
        simp [g_done, startE, n_done, Deed.enc, ph_kind_in, decP_map, hlen, doneD, outR_dd]
        cases kindInD ps v <;> simp [Dd.out, Dd.pd, Pd.out]
      | kout v =>
        simp [g_done, startE, n_done, Deed.enc, ph_kind_out, decP_map, hlen, doneD, outR_dd]
        cases kindOutD ps v <;> simp [Dd.out, Dd.pd, Pd.out]
      | other w xs =>
        obtain ⟨h1, h2, h3, h4, h5⟩ := hg
        simp [g_done, startE, n_done, Deed.enc, h1, h2, h3, h4, h5, doneD, Pd.out]
    · cases h3
  · cases h
theorem paid_er {ps : List (Int × Int)} {price : Int} {vs : List Int} {x : Nat} (h : paidD ps price vs = .er x) : x = 2 ∨ x = 4 ∨ x = 5 ∨ x = 6 ∨ x = 7 := by
  unfold paidD at h
  split at h
  · cases h; omega
  · split at h
    · rename_i y hy
      cases h
      unfold withAllD at hy
      split at hy
      · cases hy; omega
      · have := putAll_er hy
        omega
    · unfold payRest at h
      split at h
      · cases h; omega
      · split at h
        · cases h; omega
        · split at h
          · cases h; omega
          · cases h
theorem pd_er {d : Dd} {x : Nat} (h : d.pd = .er x) : d = .er x := by
  cases d with
  | er y => cases h; rfl
  | ok a => cases h
theorem done_er {ps : List (Int × Int)} {e : Deed} {x : Nat} (h : doneD ps e = .er x) : x = 1 ∨ x = 2 ∨ x = 3 ∨ x = 4 ∨ x = 5 ∨ x = 6 ∨ x = 7 ∨ x = 8 ∨ x = 9 ∨ x = 10 := by
  cases e with
  | paid p g =>
    have := paid_er h
    omega
  | brought v c =>
    have h := pd_er h
    unfold broughtD at h
    split at h
    · cases h; omega
    · split at h
      · cases h; omega
      · split at h
        · cases h; omega
        · cases h
  | fetched v c =>
    have h := pd_er h
    unfold fetchedD at h
    split at h
    · cases h; omega
    · split at h
      · cases h; omega
      · split at h
        · cases h; omega
        · cases h
  | kin v =>
    have h := pd_er h
    unfold kindInD at h
    split at h
    · cases h; omega
    · split at h
      · cases h; omega
      · split at h
        · cases h; omega
        · cases h
  | kout v =>
    have h := pd_er h
    unfold kindOutD at h
    split at h
    · cases h; omega
    · split at h
      · cases h; omega
      · split at h
        · cases h; omega
        · cases h
  | other w xs =>
    cases h
    omega
def nmW : Nat → Str
  | 1 => "no till" | 2 => "no kind" | 3 => "twice" | 4 => "no count" | 5 => "no sum" | 6 => "too little" | 7 => "no change" | 8 => "too few" | 9 => "still held" | _ => "no deed"
def Pd.word : Pd → Str
  | .er x => nmW x
  | .ok _ _ => "done"
def Pd.till (ps : List (Int × Int)) : Pd → List (Int × Int)
  | .er _ => ps
  | .ok a _ => a
def Pd.chg : Pd → List (Int × Int)
  | .er _ => []
  | .ok _ b => b
def Pd.q (ps : List (Int × Int)) : Pd → R
  | .er _ => .im (.list (ps.map eP))
  | .ok a _ => .ol (a.map eP)
theorem Pd.q_toD {ps : List (Int × Int)} {d : Pd} : (d.q ps).toD = .list ((d.till ps).map eP) := by cases d <;> rfl
def Pd.mxR (ps : List (Int × Int)) (d : Pd) : R := .ot [.im (.str d.word), .ot [d.q ps, .ol (d.chg.map eP)]]
def ph_tried : List D → Option Out
  | [.list ds, d] => (decP ds).bind fun ps => (decDeed d).bind fun e => if okTill ps = true ∧ (ps.map fun p => p.1).Nodup then some (.mx ((doneD ps e).mxR ps)) else none
  | _ => none
theorem ar_tried : ∀ ds o, ph_tried ds = some o → ds.length = 2 := by
  intro ds o h
  unfold ph_tried at h
  split at h
  · rfl
  · cases h
theorem v_tried {ps : List (Int × Int)} {e : Deed} (g : e.good) (h : okTill ps = true) (h2 : (ps.map fun p => p.1).Nodup) : ph_tried [.list (ps.map eP), e.enc] = some (.mx ((doneD ps e).mxR ps)) := by
  simp only [ph_tried, decP_map, decDeed_enc g, Option.bind_some, if_pos (And.intro h h2)]
theorem wp_tried {ca : Nat → Addr} {xs : List Nat} (hx : ∀ x ∈ [1, 2, 3, 4, 5, 6, 7, 8, 9, 10], x ∈ xs) : ∀ ds o, ph_tried ds = some o → wpSs ⟨[ph_done], ca, xs, none⟩ g_tried (gdOf o) (startE n_tried ds) := by
  intro ds o h
  unfold ph_tried at h
  split at h
  · rename_i ds d
    obtain ⟨ps, e1, h2⟩ := bindO h
    clear h
    obtain ⟨e, e2, h3⟩ := bindO h2
    clear h2
    cases decP_sound e1
    obtain ⟨rfl, hg⟩ := decDeed_sound e2
    split at h3
    · rename_i hq
      cases h3
      have hv := v_done hg hq.1 hq.2
      generalize e.enc = E at hv
      cases hs : doneD ps e with
      | er x =>
        rw [hs] at hv
        have hr := done_er hs
        have hxx : x ∈ xs := hx x (by rcases hr with rfl | rfl | rfl | rfl | rfl | rfl | rfl | rfl | rfl | rfl <;> decide)
        rcases hr with rfl | rfl | rfl | rfl | rfl | rfl | rfl | rfl | rfl | rfl <;> simp [g_tried, startE, n_tried, hv, Pd.out, hxx, subX, w_retX, Pd.mxR, Pd.word, Pd.q, Pd.chg, nmW]
      | ok a b =>
        rw [hs] at hv
        simp [g_tried, startE, n_tried, hv, Pd.out, w_retY, ownR, Pd.mxR, Pd.word, Pd.q, Pd.chg]
    · cases h3
  · cases h
/-! ### k09: a till through a day -/
def Tl (ps : List (Int × Int)) : Prop := okTill ps = true ∧ (ps.Pairwise fun a b => a.1 < b.1) ∧ (∀ p ∈ ps, p.2 ≤ 1000000000) ∧ 1 ≤ ps.length ∧ ps.length ≤ 10
instance (ps : List (Int × Int)) : Decidable (Tl ps) := inferInstanceAs (Decidable (_ ∧ _ ∧ _ ∧ _ ∧ _))
theorem nd_of {ps : List (Int × Int)} (h : ps.Pairwise fun a b => a.1 < b.1) : (ps.map fun p => p.1).Nodup := List.pairwise_map.mpr (h.imp fun h => by omega)
theorem Tl.nd {ps : List (Int × Int)} (h : Tl ps) : (ps.map fun p => p.1).Nodup := nd_of h.2.1
theorem rise_keys {l m : List (Int × Int)} (e : l.map (fun p => p.1) = m.map fun p => p.1) (h : m.Pairwise fun a b => a.1 < b.1) : l.Pairwise fun a b => a.1 < b.1 := by
  have h1 : (m.map fun p => p.1).Pairwise (· < ·) := List.pairwise_map.mpr h
  rw [← e] at h1
  exact List.pairwise_map.mp h1
theorem withCount_keys (ps : List (Int × Int)) (v c : Int) : (withCount ps v c).map (fun p => p.1) = ps.map fun p => p.1 := by
  unfold withCount
  rw [List.map_map]
  refine List.map_congr_left fun p _ => ?_
  show (if p.1 = v then (p.1, c) else p).1 = p.1
  split <;> rfl
theorem withCount_mem {ps : List (Int × Int)} {v c : Int} {p : Int × Int} (h : p ∈ withCount ps v c) : ∃ q ∈ ps, p.1 = q.1 ∧ (p.2 = q.2 ∨ p.2 = c) := by
  obtain ⟨q, hq, rfl⟩ := List.mem_map.mp h
  refine ⟨q, hq, ?_⟩
  split
  · exact ⟨rfl, .inr rfl⟩
  · exact ⟨rfl, .inl rfl⟩
theorem withCount_tl {ps : List (Int × Int)} {v c : Int} (h : Tl ps) (h0 : 0 ≤ c) (h1 : c ≤ 1000000000) : Tl (withCount ps v c) := by
  obtain ⟨a, b, t, l1, l2⟩ := h
  obtain ⟨a1, a2⟩ := okTill_of a
  refine ⟨okTill_mk (by rw [withCount_len]; exact a1) fun p hp => ?_, rise_keys (withCount_keys _ _ _) b, fun p hp => ?_, by rw [withCount_len]; exact l1, by rw [withCount_len]; exact l2⟩
  · obtain ⟨q, hq, e1, e2⟩ := withCount_mem hp
    have := a2 q hq
    unfold okP at this ⊢
    omega
  · obtain ⟨q, hq, e1, e2⟩ := withCount_mem hp
    have := t q hq
    omega
theorem countIn_is {v c : Int} : ∀ {ps : List (Int × Int)}, countIn ps v = some c → (v, c) ∈ ps
  | [], h => by cases h
  | p :: r, h => by
    have h' : (if p.1 = v then some p.2 else countIn r v) = some c := h
    split at h'
    · rename_i q
      cases h'
      rw [← q]
      exact List.mem_cons_self
    · exact List.mem_cons_of_mem _ (countIn_is h')
theorem putAll_top : ∀ {vs : List Int} {ps full : List (Int × Int)}, (∀ p ∈ ps, p.2 ≤ 1000000000) → putAll ps vs = .ok full → ∀ p ∈ full, p.2 ≤ 1000000000
  | [], _, _, h, e => by
    cases e
    exact h
  | v :: r, ps, full, h, e => by
    rw [putAll_cons] at e
    cases hc : countIn ps v with
    | none => rw [hc] at e; cases e
    | some t =>
      rw [hc] at e
      dsimp only at e
      split at e
      · cases e
      · rename_i hn
        refine putAll_top (fun p hp => ?_) e
        obtain ⟨q, hq, _, e2⟩ := withCount_mem hp
        have := h q hq
        unfold noCount at hn
        omega
/-- a price that is paid -/
theorem paid_ok {ps : List (Int × Int)} {p : Int} {g : List Int} {a b : List (Int × Int)} (h : Tl ps) (e : paidD ps p g = .ok a b) :
    ∃ M : Nat, M ≤ 1000 ∧ g.sum - p = M ∧ (∀ q ∈ addAll ps g, q.2 ≤ 1000000000) ∧ fewestOf (addAll ps g) M = some b ∧ a = subAll (addAll ps g) b := by
  unfold paidD at e
  split at e
  · cases e
  · cases hw : withAllD ps g with
    | er x => rw [hw] at e; cases e
    | ok full =>
      rw [hw] at e
      have hf := withAll_full h.nd hw
      have ht : ∀ q ∈ full, q.2 ≤ 1000000000 := by
        unfold withAllD at hw
        split at hw
        · cases hw
        · exact putAll_top h.2.2.1 hw
      subst hf
      have e' : payRest (addAll ps g) (g.sum - p) = .ok a b := e
      unfold payRest at e'
      split at e'
      · cases e'
      · split at e'
        · cases e'
        · rename_i h1 h2
          have hb : ¬(g.sum - p < 0 ∨ g.sum - p > 1000) := h2
          cases hq : fewestOf (addAll ps g) (g.sum - p).toNat with
          | none => rw [hq] at e'; cases e'
          | some ch =>
            rw [hq] at e'
            cases e'
            exact ⟨(g.sum - p).toNat, by omega, by omega, ht, hq, takeAll_sub (by rw [addAll_keys]; exact h.nd)⟩
theorem few_some {ps : List (Int × Int)} {M : Nat} {ch : List (Int × Int)} (h : fewestOf ps M = some ch) : ∃ f, cellR (tableOf ps M) ps.length M = some f ∧ ch = (wayN (tableOf ps M) ps ps.length M).reverse := by
  unfold fewestOf at h
  cases hc : cellR (tableOf ps M) ps.length M with
  | none => rw [hc] at h; cases h
  | some f => rw [hc] at h; cases h; exact ⟨f, rfl, rfl⟩
theorem ownOf_cases {b : List (Int × Int)} {v : Int} (nd : (b.map fun p => p.1).Nodup) : ownOf b v = 0 ∨ ∃ c, (v, c) ∈ b ∧ ownOf b v = c := by
  induction b with
  | nil => exact .inl rfl
  | cons q r ih =>
    rw [List.map_cons, List.nodup_cons] at nd
    unfold ownOf at ih ⊢
    by_cases z : q.1 = v
    · refine .inr ⟨q.2, by rw [← z]; exact List.mem_cons_self, ?_⟩
      rw [List.filter_cons, if_pos (by rw [decide_eq_true z]), List.map_cons, List.sum_cons]
      have : (r.filter fun q => decide (q.1 = v)) = [] := List.filter_eq_nil_iff.mpr fun p hp hd => nd.1 (by
        rw [z, ← of_decide_eq_true hd]
        exact List.mem_map_of_mem hp)
      rw [this]
      simp
    · rw [List.filter_cons, if_neg (by simp [z])]
      rcases ih nd.2 with h | ⟨c, h1, h2⟩
      · exact .inl h
      · exact .inr ⟨c, List.mem_cons_of_mem _ h1, h2⟩
theorem subAll_tl {full : List (Int × Int)} {M : Nat} {b : List (Int × Int)} (ho : okTill full = true) (hr : full.Pairwise fun a b => a.1 < b.1) (ht : ∀ q ∈ full, q.2 ≤ 1000000000) (l1 : 1 ≤ full.length) (l2 : full.length ≤ 10) (hf : fewestOf full M = some b) : Tl (subAll full b) := by
  obtain ⟨hl, hall⟩ := okTill_of ho
  obtain ⟨f, hc, hb⟩ := few_some hf
  have hd := wayN_down (tabled full M) hall hr (Nat.le_refl _) (Nat.le_refl _) hc
  have hbr : b.Pairwise fun a b => a.1 < b.1 := by rw [hb]; exact List.pairwise_reverse.mpr hd
  have hbo := way_ok hl hall hr hc
  rw [← hb] at hbo
  obtain ⟨_, hball⟩ := okTill_of hbo
  obtain ⟨_, hbk⟩ := few_len ho hf
  have hk : (subAll full b).map (fun p => p.1) = full.map fun p => p.1 := by
    unfold subAll
    rw [List.map_map]
    rfl
  have hm : ∀ p ∈ subAll full b, ∃ q ∈ full, p.1 = q.1 ∧ 0 ≤ p.2 ∧ p.2 ≤ q.2 := fun p hp => by
    obtain ⟨q, hq, rfl⟩ := List.mem_map.mp hp
    refine ⟨q, hq, rfl, ?_⟩
    have h2 : 0 ≤ q.2 := (hall q hq).2.2
    show 0 ≤ q.2 - ownOf b q.1 ∧ q.2 - ownOf b q.1 ≤ q.2
    rcases @ownOf_cases b q.1 (nd_of hbr) with e | ⟨c, hc1, e⟩
    · rw [e]
      omega
    · obtain ⟨t, h3, h4⟩ := hbk _ hc1
      have h5 : 0 ≤ c := (hball _ hc1).2.2
      have e1 := countIn_in (nd_of hr) (v := q.1) (c := t) h3
      have e2 := countIn_in (nd_of hr) (v := q.1) (c := q.2) hq
      rw [e1] at e2
      have e3 : t = q.2 := Option.some.inj e2
      have h6 : c ≤ t := h4
      rw [e]
      omega
  refine ⟨okTill_mk (by unfold subAll; rw [List.length_map]; exact hl) fun p hp => ?_, rise_keys hk hr, fun p hp => ?_, by unfold subAll; rw [List.length_map]; exact l1, by unfold subAll; rw [List.length_map]; exact l2⟩
  · obtain ⟨q, hq, e1, e2, e3⟩ := hm p hp
    have := hall q hq
    unfold okP at this ⊢
    omega
  · obtain ⟨q, hq, e1, e2, e3⟩ := hm p hp
    have := ht q hq
    omega
/-- a till stays a till -/
theorem done_tl {ps : List (Int × Int)} (h : Tl ps) (e : Deed) : Tl ((doneD ps e).till ps) := by
  obtain ⟨hlen, hall⟩ := okTill_of h.1
  cases hd : doneD ps e with
  | er x => exact h
  | ok a b =>
    show Tl a
    cases e with
    | paid p g =>
      obtain ⟨M, _, _, ht, hf, rfl⟩ := paid_ok h hd
      exact subAll_tl (addAll_ok h.1 g) (addAll_rise h.2.1) ht (by unfold addAll; rw [List.length_map]; exact h.2.2.2.1) (by unfold addAll; rw [List.length_map]; exact h.2.2.2.2) hf
    | brought v c =>
      have hd' : (broughtD ps v c).pd = .ok a b := hd
      unfold broughtD at hd'
      cases hc : countIn ps v with
      | none => rw [hc] at hd'; cases hd'
      | some t =>
        rw [hc] at hd'
        dsimp only at hd'
        split at hd'
        · cases hd'
        · split at hd'
          · cases hd'
          · rename_i h1 h2
            cases hd'
            unfold noCount at h1 h2
            exact withCount_tl h (by omega) (by omega)
    | fetched v c =>
      have hd' : (fetchedD ps v c).pd = .ok a b := hd
      unfold fetchedD at hd'
      cases hc : countIn ps v with
      | none => rw [hc] at hd'; cases hd'
      | some t =>
        rw [hc] at hd'
        dsimp only at hd'
        split at hd'
        · cases hd'
        · split at hd'
          · cases hd'
          · rename_i h1 h2
            cases hd'
            unfold noCount at h1
            have : t ≤ 1000000000 := h.2.2.1 _ (countIn_is hc)
            exact withCount_tl h (by omega) (by omega)
    | kin v =>
      have hd' : (kindInD ps v).pd = .ok a b := hd
      unfold kindInD at hd'
      split at hd'
      · cases hd'
      · split at hd'
        · cases hd'
        · split at hd'
          · cases hd'
          · rename_i h1 h2 h3
            cases hd'
            unfold noValue at h1
            obtain ⟨_, hr, ht, l1, l2⟩ := h
            have pm := pSort_perm (ps ++ [(v, 0)])
            have hnd : ((ps ++ [(v, (0 : Int))]).map fun p => p.1).Nodup := by
              rw [List.map_append]
              refine List.nodup_append.mpr ⟨nd_of hr, by simp, fun x hx y hy e => ?_⟩
              cases List.mem_singleton.mp hy
              subst e
              exact h2 hx
            have hln : (pSort (ps ++ [(v, (0 : Int))])).length = ps.length + 1 := by rw [pm.length_eq]; simp
            refine ⟨okTill_mk (by omega) fun p hp => ?_, rising_of hnd, fun p hp => ?_, by omega, by omega⟩
            · rcases List.mem_append.mp (pm.mem_iff.mp hp) with z | z
              · exact hall p z
              · cases List.mem_singleton.mp z
                exact ⟨by show 1 ≤ v; omega, by show v ≤ 1000; omega, Int.le_refl 0⟩
            · rcases List.mem_append.mp (pm.mem_iff.mp hp) with z | z
              · exact ht p z
              · cases List.mem_singleton.mp z
                exact (by decide : (0 : Int) ≤ 1000000000)
    | kout v =>
      have hd' : (kindOutD ps v).pd = .ok a b := hd
      unfold kindOutD at hd'
      cases hc : countIn ps v with
      | none => rw [hc] at hd'; cases hd'
      | some t =>
        rw [hc] at hd'
        dsimp only at hd'
        split at hd'
        · cases hd'
        · split at hd'
          · cases hd'
          · rename_i h1 h2
            cases hd'
            obtain ⟨_, hr, ht, l1, l2⟩ := h
            have hle := List.length_filter_le (fun p : Int × Int => decide (p.1 ≠ v)) ps
            refine ⟨okTill_mk (by omega) fun p hp => hall p (List.mem_filter.mp hp).1, hr.filter _, fun p hp => ht p (List.mem_filter.mp hp).1, ?_, by omega⟩
            match ps, hr, l1, h2 with
            | p :: q :: r, hr, _, _ =>
              have hpq : p.1 < q.1 := (List.pairwise_cons.mp hr).1 q List.mem_cons_self
              have : ∃ x ∈ p :: q :: r, x.1 ≠ v := by
                by_cases z : p.1 = v
                · exact ⟨q, List.mem_cons_of_mem _ List.mem_cons_self, by omega⟩
                · exact ⟨p, List.mem_cons_self, z⟩
              obtain ⟨x, hx, hv⟩ := this
              have hm : x ∈ (p :: q :: r).filter fun p : Int × Int => decide (p.1 ≠ v) := by
                rw [List.mem_filter]
                exact ⟨hx, decide_eq_true hv⟩
              exact List.length_pos_of_mem hm
            | [p], _, _, h2 => exact absurd rfl h2
    | other w xs => cases hd
/-! ### the day -/
def runD : List (Int × Int) → List Deed → List (Int × Int) × List (Str × List (Int × Int))
  | ps, [] => (ps, [])
  | ps, e :: r => ((runD ((doneD ps e).till ps) r).1, ((doneD ps e).word, (doneD ps e).chg) :: (runD ((doneD ps e).till ps) r).2)
theorem runD_app : ∀ {l m : List Deed} {ps : List (Int × Int)}, runD ps (l ++ m) = ((runD (runD ps l).1 m).1, (runD ps l).2 ++ (runD (runD ps l).1 m).2)
  | [], m, ps => rfl
  | e :: l, m, ps => by
    show ((runD ((doneD ps e).till ps) (l ++ m)).1, _ :: (runD ((doneD ps e).till ps) (l ++ m)).2) = _
    rw [runD_app]
    rfl
theorem runD_len : ∀ {l : List Deed} {ps : List (Int × Int)}, (runD ps l).2.length = l.length
  | [], _ => rfl
  | e :: l, ps => congrArg (· + 1) (runD_len (l := l))
theorem runD_tl : ∀ {l : List Deed} {ps : List (Int × Int)}, Tl ps → Tl (runD ps l).1
  | [], _, h => h
  | e :: l, ps, h => runD_tl (l := l) (done_tl h e)
def ansR (a : Str × List (Int × Int)) : R := .ot [.im (.str a.1), .ol (a.2.map eP)]
def ansD (a : Str × List (Int × Int)) : D := .tuple [.str a.1, .list (a.2.map eP)]
theorem ansR_toD (a : Str × List (Int × Int)) : (ansR a).toD = ansD a := rfl
theorem toDs_map {α : Type} {f : α → R} {g : α → D} (h : ∀ a, (f a).toD = g a) : ∀ l : List α, R.toDs (l.map f) = l.map g
  | [] => rfl
  | a :: l => by rw [List.map_cons, List.map_cons, toDs_cons, h a, toDs_map h l]
theorem toDs_ans (l : List (Str × List (Int × Int))) : R.toDs (l.map ansR) = l.map ansD := toDs_map ansR_toD l
theorem imms_map {α : Type} {f : α → R} (h : ∀ a, (f a).imm = true) : ∀ l : List α, R.imms (l.map f) = true
  | [] => rfl
  | a :: l => by rw [List.map_cons, imms_cons, h a, imms_map h l]; rfl
theorem ansR_imm (a : Str × List (Int × Int)) : (ansR a).imm = true := by simp [ansR]
theorem imms_ans (l : List (Str × List (Int × Int))) : R.imms (l.map ansR) = true := imms_map ansR_imm l
def dayR (ps : List (Int × Int)) (l : List Deed) : R := .ot [.ol ((runD ps l).1.map eP), (R.on ((runD ps l).2.map ansR)).nrm]
def ph_day : List D → Option Out
  | [.list ds, .list es] => (decP ds).bind fun ps => (decDs es).bind fun l => if Tl ps ∧ l.length ≤ 1000 then some (.ret (dayR ps l)) else none
  | _ => none
theorem ar_day : ∀ ds o, ph_day ds = some o → ds.length = 2 := by
  intro ds o h
  unfold ph_day at h
  split at h
  · rfl
  · cases h
theorem v_day {ps : List (Int × Int)} {l : List Deed} (h : Tl ps) (g : ∀ e ∈ l, e.good) (hl : l.length ≤ 1000) : ph_day [.list (ps.map eP), .list (l.map Deed.enc)] = some (.ret (dayR ps l)) := by
  simp only [ph_day, decP_map, decDs_map g, Option.bind_some, if_pos (And.intro h hl)]
theorem wp_day {ca : Nat → Addr} {xs : List Nat} : ∀ ds o, ph_day ds = some o → wpSs ⟨[ph_tried], ca, xs, none⟩ g_day (gdOf o) (startE n_day ds) := by
  intro ds o h
  unfold ph_day at h
  split at h
  · rename_i ds es
    obtain ⟨ps, e1, h2⟩ := bindO h
    clear h
    obtain ⟨l, e2, h3⟩ := bindO h2
    clear h2
    cases decP_sound e1
    obtain ⟨rfl, hg⟩ := decDs_sound e2
    split at h3
    · rename_i hq
      cases h3
      obtain ⟨ht, hl⟩ := hq
      generalize hL : (some (Sl.fz (.list (l.map Deed.enc)))) = L
      unfold g_day
      refine wp_cut (fun Γ => Γ = [some (.fz (.list (ps.map eP))), L, some (.own (.on [])), none, none, none]) (by
        simp only [startE, n_day]
        simp [← hL]) ?_
      rintro _ rfl
      refine wp_cut (fun Γ => Γ = [some (.fz (.list ((runD ps l).1.map eP))), L, some (.own (.on ((runD ps l).2.map ansR))), none, none, none]) ?_ ?_
      · refine wp_map (f := Deed.enc) (xs := l) (fun r Γ => ∃ (qs : List (Int × Int)) (as : List (Str × List (Int × Int))), Γ = [some (.fz (.list (qs.map eP))), L, some (.own (.on (as.map ansR))), none, none, none] ∧ Tl qs ∧ (∀ e ∈ r, e.good) ∧ runD ps l = ((runD qs r).1, as ++ (runD qs r).2) ∧ as.length + r.length ≤ 1000) (by simp [← hL]) ⟨ps, [], rfl, ht, hg, rfl, by simpa using hl⟩ ?_ ?_
        · rintro e r _ ⟨qs, as, rfl, hqs, hgr, hrun, hn⟩
          rw [List.length_cons] at hn
          have hv := v_tried (hgr e List.mem_cons_self) hqs.1 hqs.nd
          rw [w_dy]
          refine ⟨⟨by decide, by decide, by decide, by simp⟩, as.map ansR, [.list (qs.map eP), e.enc], (doneD qs e).word, (doneD qs e).q qs, (doneD qs e).chg.map eP, rfl, by simp, hv, by rw [List.length_map]; omega, ?_⟩
          rw [w_nil, Pd.q_toD]
          refine ⟨(doneD qs e).till qs, as ++ [((doneD qs e).word, (doneD qs e).chg)], ?_, done_tl hqs e, fun x hx => hgr x (List.mem_cons_of_mem _ hx), ?_, by rw [List.length_append]; simp; omega⟩
          · rw [List.map_append]
            rfl
          · rw [hrun, List.append_assoc]
            rfl
        · rintro _ ⟨qs, as, rfl, _, _, hrun, _⟩
          rw [hrun]
          show _ = [some (Sl.fz (.list (qs.map eP))), L, some (Sl.own (.on ((as ++ []).map ansR))), none, none, none]
          rw [List.append_nil]
      rintro _ rfl
      obtain ⟨hl3, _⟩ := okTill_of (runD_tl (l := l) ht).1
      rw [w_cons, w_retB]
      have hlc := e_lc (T := ⟨[ph_tried], ca, xs, none⟩) (Γ := view [some (Sl.fz (.list ((runD ps l).1.map eP))), L, some (.own (.on ((runD ps l).2.map ansR))), none, none, none]) (t := 5) (a := .var 0) (e := .var 5) (ps := (runD ps l).1) (g := eP) (by simp) (by omega) (fun p hp => by simp [← hL])
      refine ⟨_, rfl, imms_ans _, ?_⟩
      rw [hlc, on_ok]
      exact ⟨immA_pair, rfl⟩
    · cases h3
  · cases h
/-! ### k09: a deed drawn -/
@[simp] theorem e_intg {T : Tb} {Γ : TD.Env} {a : GE} : ev T Γ (.int a) = (ev T Γ a).bind TD.intD := rfl
@[simp] theorem intD_b {b : Bool} : TD.intD (.bool b) = .ok (.int (if b then 1 else 0)) := rfl
@[simp] theorem intD_i {i : Int} : TD.intD (.int i) = .ok (.int i) := rfl
@[simp] theorem mxD_i {i j : Int} : mxD (.int i) (.int j) = .ok (.int (if j > i then j else i)) := rfl
theorem ix_wrap {L : List Int} {m n : Int} (hn : n = L.length) (h : 0 < n) : ixD (.list (L.map .int)) (.int (m % n)) = .ok (.int (L.getD (m % n).toNat 0)) := by
  have h1 : 0 ≤ m % n := Int.emod_nonneg _ (by omega)
  have h2 : m % n < n := Int.emod_lt_of_pos _ h
  have h3 : (m % n).toNat < L.length := by omega
  refine ix_l h1 ?_
  rw [List.getElem?_map, List.getD_eq_getElem?_getD, List.getElem?_eq_getElem h3]
  rfl
theorem ix_wrapS {L : List Str} {m n : Int} (hn : n = L.length) (h : 0 < n) : ixD (.list (L.map .str)) (.int (m % n)) = .ok (.str (L.getD (m % n).toNat "")) := by
  have h1 : 0 ≤ m % n := Int.emod_nonneg _ (by omega)
  have h2 : m % n < n := Int.emod_lt_of_pos _ h
  have h3 : (m % n).toNat < L.length := by omega
  refine ix_l h1 ?_
  rw [List.getElem?_map, List.getD_eq_getElem?_getD, List.getElem?_eq_getElem h3]
  rfl
def strangeK (d : Int) : List Int := [0, 1001, 7 + d % 990, -3, 1000, 1 + d % 30]
def knownOf (vs : List Int) (d : Int) : Int := if d / 11 % 9 = 1 ∨ vs.length = 0 then (strangeK d).getD (d / 99 % 6).toNat 0 else vs.getD (d / 99 % (vs.length : Int)).toNat 0
def ph_l_known : List D → Option Out
  | [.list ds, .int d] => (decI ds).map fun vs => oI (knownOf vs d)
  | _ => none
theorem ar_l_known : ∀ ds o, ph_l_known ds = some o → ds.length = 2 := by
  intro ds o h
  unfold ph_l_known at h
  split at h
  · rfl
  · cases h
theorem v_known {vs : List Int} {d : Int} : ph_l_known [.list (vs.map .int), .int d] = some (oI (knownOf vs d)) := by
  simp only [ph_l_known, decI_map, Option.map_some]
theorem wp_l_known {ca : Nat → Addr} {xs : List Nat} : ∀ ds o, ph_l_known ds = some o → wpSs ⟨[], ca, xs, none⟩ g_l_known (gdOf o) (startE n_l_known ds) := by
  intro ds o h
  unfold ph_l_known at h
  split at h
  · rename_i ds d
    obtain ⟨vs, e, h2⟩ := mapO h
    clear h
    cases decI_sound e
    subst h2
    generalize hV : (some (Sl.fz (.list (vs.map .int)))) = V
    generalize hT : (⟨[], ca, xs, none⟩ : Tb) = T
    unfold g_l_known
    refine wp_cut (fun Γ => Γ = [V, some (.fz (.int d)), some (.fz (.list ((strangeK d).map .int)))]) (by
      simp only [startE, n_l_known]
      simp [← hV, bop_mod, strangeK]) ?_
    rintro _ rfl
    have h6 : ixD (.list ((strangeK d).map .int)) (.int (d / 99 % 6)) = .ok (.int ((strangeK d).getD (d / 99 % 6).toNat 0)) := ix_wrap (L := strangeK d) rfl (by decide)
    generalize hSK : (some (Sl.fz (.list ((strangeK d).map .int)))) = SK
    have hc : ev T (view [V, some (.fz (.int d)), SK]) (.or (.eq false (.bin .mod (.bin .div (.var 1) (.cst (.int 11))) (.cst (.int 9))) (.cst (.int 1))) (.eq false (.len (.var 0)) (.cst (.int 0)))) = .ok (.bool (decide (d / 11 % 9 = 1 ∨ vs.length = 0))) := by
      simp [← hV, bop_mod, bop_div, Bool.decide_or]
    unfold knownOf
    rw [w_cons, w_ifs, hc, on_ok, isT_b]
    refine ⟨fun z => ?_, fun z => ?_⟩
    · rw [if_pos (of_decide_eq_true z)]
      simp only [w_cons, w_nil, w_ret, r_im, e_ix, e_var, e_bin, e_cst, view_cons, view_nil, ← hSK, Option.bind_some, vw_fz, List.getElem?_cons_succ, List.getElem?_cons_zero, varD_ok, bind_ok, bin_i, bop_div (show (0 : Int) < 99 by decide) (show (99 : Int) < 1073741824 by decide), bop_mod (show (0 : Int) < 6 by decide), h6, imm_i, if_true, on_ok, gd_rt]
    · have z' := of_decide_eq_false z
      rw [if_neg z']
      have hp : 0 < (vs.length : Int) := by omega
      have hw := @ix_wrap vs (d / 99) vs.length rfl hp
      have hmd : bop .mod (d / 99) (vs.length : Int) = .ok (.int (d / 99 % vs.length)) := bop_mod hp
      simp [← hV, bop_div, hmd, hw]
  · cases h
def countsK (d : Int) : List Int := [d / 64 % 9, d / 64 % 60, 0, -1, 1000000000, 1000000000 + 1, d / 64 % 4, 1]
def wordsK : List Str := ["Paid", "", "take", "ins"]
def manyK (d : Int) : Int := if d / 56 % 12 = 1 then 7 + d / 672 % 56 else d / 8 % 7
def givenK (vs : List Int) (c : Int) (n : Nat) : List Int := (List.range n).map fun (t : Nat) => knownOf vs (mixed c (3 + t))
def priceK (d k s : Int) : Int := [if s - d / 64 % 40 > 0 then s - d / 64 % 40 else 0, if s > 1000 then s - 1001 else s + 1, if s - d / 64 % (if k % 12 = 5 then 120 else 40) > 0 then s - d / 64 % (if k % 12 = 5 then 120 else 40) else 0, -1, 1001, s].getD (d / 512 % 6).toNat 0
def deedOf (c : Int) (vs : List Int) (k : Int) : Deed :=
  if c % 12 < 6 then .paid (priceK (mixed c 1) k (givenK vs c (manyK (mixed c 1)).toNat).sum) (givenK vs c (manyK (mixed c 1)).toNat)
  else if c % 12 < 8 then .brought (knownOf vs (mixed c 2)) ((countsK (mixed c 1)).getD (mixed c 1 / 8 % 8).toNat 0)
  else if c % 12 < 10 then .fetched (knownOf vs (mixed c 2)) ((countsK (mixed c 1)).getD (mixed c 1 / 8 % 8).toNat 0)
  else if mixed c 1 % 16 = 1 then .other (wordsK.getD (mixed c 1 / 16 % 4).toNat "") ([knownOf vs (mixed c 2), (countsK (mixed c 1)).getD (mixed c 1 / 8 % 8).toNat 0, 1].take (mixed c 1 / 64 % 4).toNat)
  else if c % 12 = 10 then .kin ([knownOf vs (mixed c 2), 1 + mixed c 1 / 16 % 60].getD (mixed c 1 % 2).toNat 0)
  else .kout (knownOf vs (mixed c 2))
theorem deedOf_good (c : Int) (vs : List Int) (k : Int) : (deedOf c vs k).good := by
  unfold deedOf
  split
  · trivial
  · split
    · trivial
    · split
      · trivial
      · split
        · have h4 : mixed c 1 / 16 % 4 = 0 ∨ mixed c 1 / 16 % 4 = 1 ∨ mixed c 1 / 16 % 4 = 2 ∨ mixed c 1 / 16 % 4 = 3 := by omega
          rcases h4 with h | h | h | h <;> rw [h] <;> exact ⟨by decide, by decide, by decide, by decide, by decide⟩
        · split <;> trivial
def Deed.toR : Deed → R
  | .paid p g => .ot [.im (.str "paid"), .im (.int p), .ol (g.map .int)]
  | e => .im e.enc
theorem toR_toD (e : Deed) : e.toR.toD = e.enc := by cases e <;> rfl
theorem enc_imm {w : Str} {xs : List Int} : TD.imm (.tuple (.str w :: xs.map .int)) = true := by
  show immA (.str w :: xs.map .int) = true
  simp
theorem toR_imm (e : Deed) : e.toR.imm = true := by
  cases e with
  | paid p g => simp [Deed.toR]
  | brought v c => rfl
  | fetched v c => rfl
  | kin v => rfl
  | kout v => rfl
  | other w xs => exact enc_imm
def ph_l_deed : List D → Option Out
  | [.int c, .list ds, .int k] => (decI ds).map fun vs => .ret (deedOf c vs k).toR
  | _ => none
theorem ar_l_deed : ∀ ds o, ph_l_deed ds = some o → ds.length = 3 := by
  intro ds o h
  unfold ph_l_deed at h
  split at h
  · rfl
  · cases h
theorem v_deed {c k : Int} {vs : List Int} : ph_l_deed [.int c, .list (vs.map .int), .int k] = some (.ret (deedOf c vs k).toR) := by
  simp only [ph_l_deed, decI_map, Option.map_some]
theorem wp_l_deed {ca : Nat → Addr} {xs : List Nat} : ∀ ds o, ph_l_deed ds = some o → wpSs ⟨[ph_l_mixed, ph_l_known], ca, xs, none⟩ g_l_deed (gdOf o) (startE n_l_deed ds) := by
  intro ds o h
  unfold ph_l_deed at h
  split at h
  · rename_i c ds k
    obtain ⟨vs, e, h2⟩ := mapO h
    clear h
    cases decI_sound e
    subst h2
    have vk := @v_known vs
    generalize hC : (some (Sl.fz (.int c))) = C
    generalize hV : (some (Sl.fz (.list (vs.map .int)))) = V
    generalize hK : (some (Sl.fz (.int k))) = KK
    generalize hT : (⟨[ph_l_mixed, ph_l_known], ca, xs, none⟩ : Tb) = T
    unfold g_l_deed deedOf
    refine wp_cut (fun Γ => Γ = [C, V, KK, some (.fz (.int (mixed c 1))), none, none, none, none, none, none, none, none, none, none]) (by
      simp only [startE, n_l_deed]
      simp [← hC, ← hV, ← hK, ← hT, ph_l_mixed]) ?_
    rintro _ rfl
    refine wp_cut (fun Γ => Γ = [C, V, KK, some (.fz (.int (mixed c 1))), some (.fz (.int (knownOf vs (mixed c 2)))), none, none, none, none, none, none, none, none, none]) (by
      simp [← hC, ← hV, ← hT, ph_l_mixed, vk]) ?_
    rintro _ rfl
    have nk : ∀ t : Nat, knownOf vs (mixed c (3 + t)) = knownOf vs (mixed c (3 + t)) := fun _ => rfl
    generalize mixed c 1 = d
    generalize knownOf vs (mixed c 2) = v
    have h8 : ixD (.list ((countsK d).map .int)) (.int (d / 8 % 8)) = .ok (.int ((countsK d).getD (d / 8 % 8).toNat 0)) := ix_wrap (L := countsK d) rfl (by decide)
    refine wp_cut (fun Γ => Γ = [C, V, KK, some (.fz (.int d)), some (.fz (.int v)), some (.fz (.int ((countsK d).getD (d / 8 % 8).toNat 0))), none, none, none, none, none, none, none, none]) ?_ ?_
    · rw [w_asgV]
      have e1 : ev T (view [C, V, KK, some (.fz (.int d)), some (.fz (.int v)), none, none, none, none, none, none, none, none, none]) (.f (.lst (.cons (.bin .mod (.bin .div (.var 3) (.cst (.int 64))) (.cst (.int 9))) (.cons (.bin .mod (.bin .div (.var 3) (.cst (.int 64))) (.cst (.int 60))) (.cons (.cst (.int 0)) (.cons (.cst (.int (-1))) (.cons (.cst (.int 1000000000)) (.cons (.bin .add (.cst (.int 1000000000)) (.cst (.int 1))) (.cons (.bin .mod (.bin .div (.var 3) (.cst (.int 64))) (.cst (.int 4))) (.cons (.cst (.int 1)) (.nil))))))))))) = .ok (.list ((countsK d).map .int)) := by
        simp [bop_mod, bop_div, countsK]
      have e2 : ev T (view [C, V, KK, some (.fz (.int d)), some (.fz (.int v)), none, none, none, none, none, none, none, none, none]) (.bin .mod (.bin .div (.var 3) (.cst (.int 8))) (.cst (.int 8))) = .ok (.int (d / 8 % 8)) := by
        simp [bop_mod, bop_div]
      rw [e_ix, e1, bind_ok, e2, bind_ok, h8, on_ok]
      exact ⟨rfl, rfl⟩
    rintro _ rfl
    generalize (countsK d).getD (d / 8 % 8).toNat 0 = n
    refine wp_cut (fun Γ => Γ = [C, V, KK, some (.fz (.int d)), some (.fz (.int v)), some (.fz (.int n)), some (.fz (.int (c % 12))), none, none, none, none, none, none, none]) (by simp [← hC, bop_mod]) ?_
    rintro _ rfl
    generalize c % 12 = w
    rw [w_cons, w_ifs]
    have hc1 : ev T (view [C, V, KK, some (.fz (.int d)), some (.fz (.int v)), some (.fz (.int n)), some (.fz (.int w)), none, none, none, none, none, none, none]) (.cmp .lt (.var 6) (.cst (.int 6))) = .ok (.bool (decide (w < 6))) := by simp
    rw [hc1, on_ok, isT_b]
    refine ⟨fun z => ?_, fun z => ?_⟩
    · rw [if_pos (of_decide_eq_true z)]
      clear z hc1 h8
      refine wp_cut (fun Γ => Γ = [C, V, KK, some (.fz (.int d)), some (.fz (.int v)), some (.fz (.int n)), some (.fz (.int w)), some (.own (.ol [])), none, none, none, none, none, none]) (by simp) ?_
      rintro _ rfl
      refine wp_cut (fun Γ => Γ = [C, V, KK, some (.fz (.int d)), some (.fz (.int v)), some (.fz (.int n)), some (.fz (.int w)), some (.own (.ol [])), some (.fz (.int (d / 8 % 7))), none, none, none, none, none]) (by simp [bop_mod, bop_div]) ?_
      rintro _ rfl
      refine wp_cut (fun Γ => Γ = [C, V, KK, some (.fz (.int d)), some (.fz (.int v)), some (.fz (.int n)), some (.fz (.int w)), some (.own (.ol [])), some (.fz (.int (manyK d))), none, none, none, none, none]) (by
        unfold manyK
        by_cases q : d / 56 % 12 = 1
        · simp [bop_mod, bop_div, q]
        · simp [bop_mod, bop_div, q]) ?_
      rintro _ rfl
      have hm : 0 ≤ manyK d ∧ manyK d ≤ 62 := by
        unfold manyK
        split <;> omega
      refine wp_cut (fun Γ => Γ = [C, V, KK, some (.fz (.int d)), some (.fz (.int v)), some (.fz (.int n)), some (.fz (.int w)), some (.own (.ol ((givenK vs c (manyK d).toNat).map .int))), some (.fz (.int (manyK d))), none, none, none, none, none]) ?_ ?_
      · refine wp_rng (n := manyK d) (fun t Γ => Γ = [C, V, KK, some (.fz (.int d)), some (.fz (.int v)), some (.fz (.int n)), some (.fz (.int w)), some (.own (.ol ((givenK vs c t).map .int))), some (.fz (.int (manyK d))), none, none, none, none, none]) (by simp) (by omega) (by omega) (by simp [givenK]) ?_ ?_
        · rintro t _ ht rfl
          have hb : givenK vs c (t + 1) = givenK vs c t ++ [knownOf vs (mixed c (3 + t))] := by
            unfold givenK
            rw [List.range_succ, List.map_append]
            rfl
          have hbl : (givenK vs c t).length = t := by simp [givenK]
          rw [hb]
          generalize givenK vs c t = bs at hbl
          simp [← hC, ← hV, ← hT, ownL, ph_l_mixed, vk]
          omega
        · rintro _ rfl
          rfl
      rintro _ rfl
      have hgl : (givenK vs c (manyK d).toNat).length ≤ 62 := by simp [givenK]; omega
      generalize givenK vs c (manyK d).toNat = gs at hgl
      generalize manyK d = m at hm
      generalize hG : (some (Sl.own (.ol (gs.map .int)))) = G
      refine wp_cut (fun Γ => Γ = [C, V, KK, some (.fz (.int d)), some (.fz (.int v)), some (.fz (.int n)), some (.fz (.int w)), G, some (.fz (.int m)), none, some (.fz (.int (if gs.sum - d / 64 % 40 > 0 then gs.sum - d / 64 % 40 else 0))), none, none, none]) (by
        simp [← hG, bop_mod, bop_div]) ?_
      rintro _ rfl
      refine wp_cut (fun Γ => Γ = [C, V, KK, some (.fz (.int d)), some (.fz (.int v)), some (.fz (.int n)), some (.fz (.int w)), G, some (.fz (.int m)), none, some (.fz (.int (if gs.sum - d / 64 % 40 > 0 then gs.sum - d / 64 % 40 else 0))), some (.fz (.int (if gs.sum - d / 64 % (if k % 12 = 5 then 120 else 40) > 0 then gs.sum - d / 64 % (if k % 12 = 5 then 120 else 40) else 0))), none, none]) (by
        have i0 : ixD (.list [.int 40, .int 120]) (.int 0) = .ok (.int 40) := rfl
        have i1 : ixD (.list [.int 40, .int 120]) (.int 1) = .ok (.int 120) := rfl
        by_cases q : k % 12 = 5
        · simp [← hG, ← hK, bop_mod, bop_div, q, i1]
        · simp [← hG, ← hK, bop_mod, bop_div, q, i0]) ?_
      rintro _ rfl
      have hp6 : ∀ a b e f : Int, ixD (.list [.int a, .int b, .int e, .int (-1), .int 1001, .int f]) (.int (d / 512 % 6)) = .ok (.int ([a, b, e, -1, 1001, f].getD (d / 512 % 6).toNat 0)) := fun a b e f => ix_wrap (L := [a, b, e, -1, 1001, f]) rfl (by decide)
      unfold priceK
      generalize (if gs.sum - d / 64 % 40 > 0 then gs.sum - d / 64 % 40 else 0) = near
      generalize (if gs.sum - d / 64 % (if k % 12 = 5 then 120 else 40) > 0 then gs.sum - d / 64 % (if k % 12 = 5 then 120 else 40) else 0) = far
      refine wp_cut (fun Γ => Γ = [C, V, KK, some (.fz (.int d)), some (.fz (.int v)), some (.fz (.int n)), some (.fz (.int w)), G, some (.fz (.int m)), none, some (.fz (.int near)), some (.fz (.int far)), some (.fz (.int (gs.sum + 1))), none]) (by simp [← hG]) ?_
      rintro _ rfl
      refine wp_cut (fun Γ => Γ = [C, V, KK, some (.fz (.int d)), some (.fz (.int v)), some (.fz (.int n)), some (.fz (.int w)), G, some (.fz (.int m)), none, some (.fz (.int near)), some (.fz (.int far)), some (.fz (.int (if gs.sum > 1000 then gs.sum - 1001 else gs.sum + 1))), none]) (by
        by_cases q : 1000 < gs.sum
        · simp [← hG, q]
        · simp [← hG, q]) ?_
      rintro _ rfl
      generalize (if gs.sum > 1000 then gs.sum - 1001 else gs.sum + 1) = bey
      refine wp_cut (fun Γ => Γ = [C, V, KK, some (.fz (.int d)), some (.fz (.int v)), some (.fz (.int n)), some (.fz (.int w)), G, some (.fz (.int m)), none, some (.fz (.int near)), some (.fz (.int far)), some (.fz (.int bey)), some (.fz (.int ([near, bey, far, -1, 1001, gs.sum].getD (d / 512 % 6).toNat 0)))]) ?_ ?_
      · have e1 : ev T (view [C, V, KK, some (.fz (.int d)), some (.fz (.int v)), some (.fz (.int n)), some (.fz (.int w)), G, some (.fz (.int m)), none, some (.fz (.int near)), some (.fz (.int far)), some (.fz (.int bey)), none]) (.f (.lst (.cons (.var 10) (.cons (.var 12) (.cons (.var 11) (.cons (.cst (.int (-1))) (.cons (.cst (.int 1001)) (.cons (.sum (.var 7)) (.nil))))))))) = .ok (.list [.int near, .int bey, .int far, .int (-1), .int 1001, .int gs.sum]) := by
          simp [← hG]
        have e2 : ev T (view [C, V, KK, some (.fz (.int d)), some (.fz (.int v)), some (.fz (.int n)), some (.fz (.int w)), G, some (.fz (.int m)), none, some (.fz (.int near)), some (.fz (.int far)), some (.fz (.int bey)), none]) (.bin .mod (.bin .div (.var 3) (.cst (.int 512))) (.cst (.int 6))) = .ok (.int (d / 512 % 6)) := by
          simp [bop_mod, bop_div]
        rw [w_asgV, e_ix, e1, bind_ok, e2, bind_ok, hp6, on_ok]
        exact ⟨rfl, rfl⟩
      rintro _ rfl
      rw [w_cons, w_retA]
      refine ⟨.ol (gs.map .int), by rw [← hG]; rfl, immA_int, ?_⟩
      simp [Deed.toR]
    · rw [if_neg (of_decide_eq_false z), w_nil]
      clear z hc1 h8
      by_cases q1 : w < 8
      · simp [q1, Deed.toR, Deed.enc, TD.imm]
      · by_cases q2 : w < 10
        · simp [q1, q2, Deed.toR, Deed.enc, TD.imm]
        · by_cases q3 : d % 16 = 1
          · have hw4 : ixD (.list [.str "Paid", .str "", .str "take", .str "ins"]) (.int (d / 16 % 4)) = .ok (.str (wordsK.getD (d / 16 % 4).toNat "")) := ix_wrapS (L := wordsK) rfl (by decide)
            rw [if_neg q1, if_neg q2, if_pos q3]
            generalize wordsK.getD (d / 16 % 4).toNat "" = wd at hw4
            refine wp_cut (fun Γ => Γ = [C, V, KK, some (.fz (.int d)), some (.fz (.int v)), some (.fz (.int n)), some (.fz (.int w)), none, none, none, none, none, none, none]) (by simp [q1]) ?_
            rintro _ rfl
            refine wp_cut (fun Γ => Γ = [C, V, KK, some (.fz (.int d)), some (.fz (.int v)), some (.fz (.int n)), some (.fz (.int w)), none, none, none, none, none, none, none]) (by simp [q2]) ?_
            rintro _ rfl
            have hc2 : ev T (view [C, V, KK, some (.fz (.int d)), some (.fz (.int v)), some (.fz (.int n)), some (.fz (.int w)), none, none, none, none, none, none, none]) (.eq false (.bin .mod (.var 3) (.cst (.int 16))) (.cst (.int 1))) = .ok (.bool true) := by simp [bop_mod, q3]
            rw [w_cons, w_ifs, hc2, on_ok, isT_b]
            refine ⟨fun _ => ?_, fun z => by cases z⟩
            have ha : 0 ≤ d / 64 % 4 := Int.emod_nonneg _ (by decide)
            have ev1 : ev T (view [C, V, KK, some (.fz (.int d)), some (.fz (.int v)), some (.fz (.int n)), some (.fz (.int w)), none, none, none, none, none, none, none]) (.tcat (.tup (.cons (.ix (.f (.lst (.cons (.cst (.str "Paid")) (.cons (.cst (.str "")) (.cons (.cst (.str "take")) (.cons (.cst (.str "ins")) (.nil))))))) (.bin .mod (.bin .div (.var 3) (.cst (.int 16))) (.cst (.int 4)))) (.nil))) (.tslTo (.tup (.cons (.var 4) (.cons (.var 5) (.cons (.cst (.int 1)) (.nil))))) (.bin .mod (.bin .div (.var 3) (.cst (.int 64))) (.cst (.int 4))))) = .ok (.tuple (.str wd :: ([v, n, 1].take (d / 64 % 4).toNat).map .int)) := by
              have t1 : ev T (view [C, V, KK, some (.fz (.int d)), some (.fz (.int v)), some (.fz (.int n)), some (.fz (.int w)), none, none, none, none, none, none, none]) (.tup (.cons (.ix (.f (.lst (.cons (.cst (.str "Paid")) (.cons (.cst (.str "")) (.cons (.cst (.str "take")) (.cons (.cst (.str "ins")) (.nil))))))) (.bin .mod (.bin .div (.var 3) (.cst (.int 16))) (.cst (.int 4)))) (.nil))) = .ok (.tuple [.str wd]) := by
                simp [bop_mod, bop_div, hw4]
              have t2 : ev T (view [C, V, KK, some (.fz (.int d)), some (.fz (.int v)), some (.fz (.int n)), some (.fz (.int w)), none, none, none, none, none, none, none]) (.tup (.cons (.var 4) (.cons (.var 5) (.cons (.cst (.int 1)) (.nil))))) = .ok (.tuple ([v, n, 1].map .int)) := by
                simp
              have t3 : ev T (view [C, V, KK, some (.fz (.int d)), some (.fz (.int v)), some (.fz (.int n)), some (.fz (.int w)), none, none, none, none, none, none, none]) (.bin .mod (.bin .div (.var 3) (.cst (.int 64))) (.cst (.int 4))) = .ok (.int (d / 64 % 4)) := by
                simp [bop_mod, bop_div]
              generalize d / 64 % 4 = a at ha t3
              show (ev T _ _).bind _ = _
              rw [t1, bind_ok]
              show ((ev T _ _).bind fun x => (ev T _ _).bind _).bind _ = _
              rw [t2, bind_ok, t3, bind_ok]
              show (if decide (0 ≤ a) = true then (Rs.ok (.tuple (([v, n, 1].map .int).take a.toNat)) : Rs D) else .bad).bind _ = _
              rw [decide_eq_true ha, if_pos rfl, bind_ok]
              show (if TD.sizeOk ([PyData.str wd].length + (([v, n, 1].map PyData.int).take a.toNat).length) = true then (Rs.ok (.tuple ([.str wd] ++ ([v, n, 1].map .int).take a.toNat)) : Rs D) else .bad) = _
              rw [if_pos (size_lit (by simp; omega)), List.map_take]
              rfl
            rw [w_cons, w_ret, r_im, ev1, bind_ok, if_pos enc_imm, on_ok]
            rfl
          · by_cases q4 : w = 10
            · have h2 : ixD (.list [.int v, .int (1 + d / 16 % 60)]) (.int (d % 2)) = .ok (.int ([v, 1 + d / 16 % 60].getD (d % 2).toNat 0)) := ix_wrap (L := [v, 1 + d / 16 % 60]) rfl (by decide)
              rw [if_neg q1, if_neg q2, if_neg q3, if_pos q4]
              generalize hres : [v, 1 + d / 16 % 60].getD (d % 2).toNat 0 = res at h2
              subst q4
              simp [bop_mod, bop_div, q3, h2, Deed.toR, Deed.enc, TD.imm]
            · simp [bop_mod, q1, q2, q3, q4, Deed.toR, Deed.enc, TD.imm]
  · cases h
/-! ### k09: what is held, as a dict -/
@[simp] theorem ex2 {α β : Type} {x : α} {y : β} {P : α → β → Prop} : (∃ a b, (x = a ∧ y = b) ∧ P a b) ↔ P x y := ⟨fun ⟨_, _, ⟨rfl, rfl⟩, h⟩ => h, fun h => ⟨x, y, ⟨rfl, rfl⟩, h⟩⟩
def kvD (hs : List (Int × Int)) : List (Int × D) := hs.map fun p => (p.1, PyData.int p.2)
theorem kvD_len (hs : List (Int × Int)) : (kvD hs).length = hs.length := by unfold kvD; rw [List.length_map]
theorem enc_kv (hs : List (Int × Int)) : (Cn.d (kvD hs)).enc = .tuple (hs.map eP) := by
  show PyData.tuple ((kvD hs).map fun p => PyData.tuple [.int p.1, p.2]) = _
  unfold kvD
  rw [List.map_map]
  rfl
theorem kv_of : ∀ {kvs : List (Int × D)} {hs : List (Int × Int)}, (kvs.map fun p => PyData.tuple [.int p.1, p.2]) = hs.map eP → kvs = kvD hs
  | [], [], _ => rfl
  | [], _ :: _, h => by cases h
  | _ :: _, [], h => by cases h
  | (k, v) :: r, (a, b) :: t, h => by
    rw [List.map_cons, List.map_cons] at h
    injection h with h1 h2
    have ih := kv_of h2
    have h1' : PyData.tuple [.int k, v] = .tuple [.int a, .int b] := h1
    injection h1' with h3
    injection h3 with h4 h5
    injection h4 with h4
    injection h5 with h5 _
    rw [ih, h4, h5]
    rfl
/-- what such a def is handed -/
theorem cn_of {c : Cn} {es : List D} {hs : List (Int × Int)} (h : c.enc = .tuple es) (e : decP es = some hs) : c = .d (kvD hs) := by
  cases c with
  | l ds => cases h
  | d kvs =>
    have h' : PyData.tuple (kvs.map fun p => PyData.tuple [.int p.1, p.2]) = .tuple es := h
    injection h' with h'
    rw [decP_sound e] at h'
    rw [kv_of h']
theorem dget_kv (v : Int) : ∀ hs : List (Int × Int), dget (kvD hs) v = (countIn hs v).map .int
  | [] => rfl
  | p :: r => by
    have ih := dget_kv v r
    unfold dget kvD at ih ⊢
    rw [List.map_cons, List.find?_cons]
    unfold countIn
    by_cases z : p.1 = v
    · rw [if_pos z]
      simp [z]
    · rw [if_neg z, ← ih]
      simp [z]
theorem any_kv (v : Int) : ∀ hs : List (Int × Int), ((kvD hs).any fun kv => decide (kv.1 = v)) = (countIn hs v).isSome
  | [] => rfl
  | p :: r => by
    have ih := any_kv v r
    unfold kvD at ih ⊢
    rw [List.map_cons, List.any_cons, ih]
    show _ = (if p.1 = v then some p.2 else countIn r v).isSome
    by_cases z : p.1 = v
    · rw [if_pos z]
      simp [z]
    · rw [if_neg z]
      simp [z]
theorem dput_there {hs : List (Int × Int)} {v t c : Int} (h : countIn hs v = some t) : dput (kvD hs) v (.int c) = kvD (withCount hs v c) := by
  unfold dput
  rw [any_kv, h]
  show (kvD hs).map _ = _
  unfold kvD withCount
  rw [List.map_map, List.map_map]
  refine List.map_congr_left fun p _ => ?_
  show (if p.1 = v then (p.1, PyData.int c) else (p.1, PyData.int p.2)) = ((if p.1 = v then (p.1, c) else p).1, PyData.int (if p.1 = v then (p.1, c) else p).2)
  split <;> rfl
theorem dput_new {hs : List (Int × Int)} {v c : Int} (h : countIn hs v = none) : dput (kvD hs) v (.int c) = kvD (hs ++ [(v, c)]) := by
  unfold dput
  rw [any_kv, h]
  show kvD hs ++ [(v, PyData.int c)] = _
  unfold kvD
  rw [List.map_append]
  rfl
theorem ddrop_kv (hs : List (Int × Int)) (v : Int) : ddrop (kvD hs) v = kvD (hs.filter fun p => decide (p.1 ≠ v)) := by
  unfold ddrop kvD
  rw [List.filter_map]
  rfl
/-! ### pieces brought or fetched -/
def movedH (hs : List (Int × Int)) (b : Bool) (v c : Int) : List (Int × Int) × Str := match countIn hs v with
  | none => (hs, "no kind")
  | some t => if c < 0 ∨ (c > 1000000000 ∨ (b = true ∧ t + c > 1000000000)) then (hs, "no count") else if b = false ∧ c > t then (hs, "too few") else (withCount hs v (t + if b then c else 0 - c), "done")
def kindH (hs : List (Int × Int)) (b : Bool) (v : Int) : List (Int × Int) × Str :=
  if b = true then (if v < 1 ∨ v > 1000 then (hs, "no kind") else match countIn hs v with
    | some _ => (hs, "twice")
    | none => if hs.length = 10 then (hs, "no till") else (hs ++ [(v, 0)], "done"))
  else match countIn hs v with
    | none => (hs, "no kind")
    | some t => if t > 0 then (hs, "still held") else if hs.length = 1 then (hs, "no till") else (hs.filter fun p => decide (p.1 ≠ v), "done")
def muH (r : List (Int × Int) × Str) : Out := .mu 0 (.d (kvD r.1)) (.str r.2)
def movedO (hs : List (Int × Int)) : Deed → Option Out
  | .brought v c => some (muH (movedH hs true v c))
  | .fetched v c => some (muH (movedH hs false v c))
  | _ => none
def ph_l_moved : List D → Option Out
  | [.tuple ds, d] => (decP ds).bind fun hs => (decDeed d).bind fun e => if hs.length ≤ 1000 then movedO hs e else none
  | _ => none
theorem ar_l_moved : ∀ ds o, ph_l_moved ds = some o → ds.length = 2 := by
  intro ds o h
  unfold ph_l_moved at h
  split at h
  · rfl
  · cases h
theorem v_moved {hs : List (Int × Int)} {e : Deed} (g : e.good) (h : hs.length ≤ 1000) : ph_l_moved [.tuple (hs.map eP), e.enc] = movedO hs e := by
  simp only [ph_l_moved, decP_map, decDeed_enc g, Option.bind_some, if_pos h]
theorem wp_l_moved {ca : Nat → Addr} {xs : List Nat} : ∀ c ds q c' x, ph_l_moved (c.enc :: ds) = some (.mu q c' x) → ∀ p, wpSs ⟨[], ca, xs, none⟩ g_l_moved (gdM p c' x) (startM n_l_moved p c ds) := by
  intro c ds q c' x h p
  unfold ph_l_moved at h
  split at h
  · rename_i es d e0
    obtain ⟨h0, rfl⟩ := List.cons.inj e0
    obtain ⟨hs, e1, h2⟩ := bindO h
    clear h
    obtain ⟨e, e2, h3⟩ := bindO h2
    clear h2
    cases cn_of h0 e1
    obtain ⟨rfl, hg⟩ := decDeed_sound e2
    split at h3
    · rename_i hl
      have hst : ∀ e : Deed, startM n_l_moved p (.d (kvD hs)) [e.enc] = [some (.mp p (.d (kvD hs))), some (.fz e.enc), none, none] := fun _ => rfl
      rw [hst]
      have hkl := kvD_len hs
      cases e with
      | brought v c =>
        cases h3
        show wpSs _ _ (gdM p (.d (kvD (movedH hs true v c).1)) (.str (movedH hs true v c).2)) _
        have hdg := dget_kv v hs
        unfold g_l_moved movedH
        cases hc : countIn hs v with
        | none =>
          rw [hc] at hdg
          simp [Deed.enc, dslot, hdg, ownM]
        | some t =>
          rw [hc] at hdg
          have hdp := @dput_there hs v t (t + c) hc
          refine wp_cut (fun Γ => Γ = [some (.mp p (.d (kvD hs))), some (.fz (Deed.brought v c).enc), some (.fz (.int v)), none]) (by simp [Deed.enc]) ?_
          rintro _ rfl
          refine wp_cut (fun Γ => Γ = [some (.mp p (.d (kvD hs))), some (.fz (Deed.brought v c).enc), some (.fz (.int v)), none]) (by simp [dslot, hdg]) ?_
          rintro _ rfl
          refine wp_cut (fun Γ => Γ = [some (.mp p (.d (kvD hs))), some (.fz (Deed.brought v c).enc), some (.fz (.int v)), some (.fz (.int c))]) (by simp [Deed.enc]) ?_
          rintro _ rfl
          by_cases h1 : c < 0 ∨ (c > 1000000000 ∨ t + c > 1000000000)
          · have h1' : c < 0 ∨ (1000000000 < c ∨ 1000000000 < t + c) := h1
            simp [Deed.enc, dslot, hdg, ownM, h1']
            intro a b
            omega
          · have h1' : ¬(c < 0 ∨ (1000000000 < c ∨ 1000000000 < t + c)) := h1
            have n1 : ¬c < 0 := by omega
            have n2 : ¬(1000000000 < c) := by omega
            have n3 : ¬(1000000000 < t + c) := by omega
            have i0 : ixD (.list [.int c, .int (-c)]) (.int 0) = .ok (.int c) := rfl
            simp [Deed.enc, dslot, hdg, ownM, n1, n2, n3, i0, hdp, hkl]
            omega
      | fetched v c =>
        cases h3
        show wpSs _ _ (gdM p (.d (kvD (movedH hs false v c).1)) (.str (movedH hs false v c).2)) _
        have hdg := dget_kv v hs
        unfold g_l_moved movedH
        cases hc : countIn hs v with
        | none =>
          rw [hc] at hdg
          simp [Deed.enc, dslot, hdg, ownM]
        | some t =>
          rw [hc] at hdg
          have hdp := @dput_there hs v t (t + -c) hc
          refine wp_cut (fun Γ => Γ = [some (.mp p (.d (kvD hs))), some (.fz (Deed.fetched v c).enc), some (.fz (.int v)), none]) (by simp [Deed.enc]) ?_
          rintro _ rfl
          refine wp_cut (fun Γ => Γ = [some (.mp p (.d (kvD hs))), some (.fz (Deed.fetched v c).enc), some (.fz (.int v)), none]) (by simp [dslot, hdg]) ?_
          rintro _ rfl
          refine wp_cut (fun Γ => Γ = [some (.mp p (.d (kvD hs))), some (.fz (Deed.fetched v c).enc), some (.fz (.int v)), some (.fz (.int c))]) (by simp [Deed.enc]) ?_
          rintro _ rfl
          by_cases h1 : c < 0 ∨ c > 1000000000
          · have h1' : c < 0 ∨ 1000000000 < c := h1
            simp [Deed.enc, dslot, hdg, ownM, h1']
            intro a b
            omega
          · have n1 : ¬c < 0 := by omega
            have n2 : ¬(1000000000 < c) := by omega
            by_cases h3 : t < c
            · simp [Deed.enc, dslot, hdg, ownM, n1, n2, h3]
            · have i1 : ixD (.list [.int c, .int (-c)]) (.int 1) = .ok (.int (-c)) := rfl
              simp [Deed.enc, dslot, hdg, ownM, n1, n2, h3, i1, hdp, hkl]
              omega
      | paid p g => cases h3
      | kin v => cases h3
      | kout v => cases h3
      | other w xs => cases h3
    · cases h3
  · cases h
def kindO (hs : List (Int × Int)) : Deed → Option Out
  | .kin v => some (muH (kindH hs true v))
  | .kout v => some (muH (kindH hs false v))
  | _ => none
def ph_l_kind : List D → Option Out
  | [.tuple ds, d] => (decP ds).bind fun hs => (decDeed d).bind fun e => if hs.length ≤ 1000 then kindO hs e else none
  | _ => none
theorem ar_l_kind : ∀ ds o, ph_l_kind ds = some o → ds.length = 2 := by
  intro ds o h
  unfold ph_l_kind at h
  split at h
  · rfl
  · cases h
theorem v_kind {hs : List (Int × Int)} {e : Deed} (g : e.good) (h : hs.length ≤ 1000) : ph_l_kind [.tuple (hs.map eP), e.enc] = kindO hs e := by
  simp only [ph_l_kind, decP_map, decDeed_enc g, Option.bind_some, if_pos h]
theorem e_dlen {T : Tb} {Γ : TD.Env} {i : Nat} : ev T Γ (.dlen i) = (dslot Γ i).bind fun kvs => .ok (.int kvs.length) := rfl
theorem wp_l_kind {ca : Nat → Addr} {xs : List Nat} : ∀ c ds q c' x, ph_l_kind (c.enc :: ds) = some (.mu q c' x) → ∀ p, wpSs ⟨[], ca, xs, none⟩ g_l_kind (gdM p c' x) (startM n_l_kind p c ds) := by
  intro c ds q c' x h p
  unfold ph_l_kind at h
  split at h
  · rename_i es d e0
    obtain ⟨h0, rfl⟩ := List.cons.inj e0
    obtain ⟨hs, e1, h2⟩ := bindO h
    clear h
    obtain ⟨e, e2, h3⟩ := bindO h2
    clear h2
    cases cn_of h0 e1
    obtain ⟨rfl, hg⟩ := decDeed_sound e2
    split at h3
    · rename_i hl
      have hst : ∀ e : Deed, startM n_l_kind p (.d (kvD hs)) [e.enc] = [some (.mp p (.d (kvD hs))), some (.fz e.enc), none] := fun _ => rfl
      rw [hst]
      have hkl := kvD_len hs
      cases e with
      | kin v =>
        cases h3
        show wpSs _ _ (gdM p (.d (kvD (kindH hs true v).1)) (.str (kindH hs true v).2)) _
        have hdg := dget_kv v hs
        unfold g_l_kind kindH
        by_cases h1 : v < 1 ∨ 1000 < v
        · simp [Deed.enc, h1, ownM]
          intro a b
          exfalso
          omega
        · cases hc : countIn hs v with
          | some t =>
            rw [hc] at hdg
            simp [Deed.enc, h1, dslot, hdg, ownM]
          | none =>
            rw [hc] at hdg
            have hdp := @dput_new hs v 0 hc
            by_cases h2 : hs.length = 10
            · simp [Deed.enc, h1, dslot, hdg, ownM, e_dlen, hkl, h2]
            · have h2' : ¬((hs.length : Int) = 10) := by omega
              simp [Deed.enc, h1, dslot, hdg, ownM, e_dlen, hkl, h2, h2', hdp]
              omega
      | kout v =>
        cases h3
        show wpSs _ _ (gdM p (.d (kvD (kindH hs false v).1)) (.str (kindH hs false v).2)) _
        have hdg := dget_kv v hs
        unfold g_l_kind kindH
        cases hc : countIn hs v with
        | none =>
          rw [hc] at hdg
          simp [Deed.enc, dslot, hdg, ownM]
        | some t =>
          rw [hc] at hdg
          have hdp := ddrop_kv hs v
          by_cases h1 : 0 < t
          · simp [Deed.enc, h1, dslot, hdg, ownM]
          · by_cases h2 : hs.length = 1
            · simp [Deed.enc, h1, dslot, hdg, ownM, e_dlen, hkl, h2]
            · have h2' : ¬((hs.length : Int) = 1) := by omega
              simp [Deed.enc, h1, dslot, hdg, ownM, e_dlen, hkl, h2, h2', hdp]
      | paid p g => cases h3
      | brought v c => cases h3
      | fetched v c => cases h3
      | other w xs => cases h3
    · cases h3
  · cases h
/-! ### k09: what bars a payment -/
def goW (f : Int → Option Int) : List Int → List Int → Str
  | _, [] => ""
  | pre, v :: r => match f v with
    | none => "no kind"
    | some t => if t + ((pre.count v : Nat) : Int) = 1000000000 then "no count" else goW f (pre ++ [v]) r
theorem goW_cons {f : Int → Option Int} {pre r : List Int} {v : Int} : goW f pre (v :: r) = match f v with
    | none => ("no kind" : Str)
    | some t => if t + ((pre.count v : Nat) : Int) = 1000000000 then "no count" else goW f (pre ++ [v]) r := rfl
def unpaidW (f : Int → Option Int) (p : Int) (g : List Int) : Str := if p < 0 ∨ 1000 < p then "no sum" else if 60 < g.length then "no count" else if goW f [] g = "" then (if g.sum < p then "too little" else if 1000 < g.sum - p then "no sum" else "") else goW f [] g
def unpaidO (hs : List (Int × Int)) : Deed → Option Out
  | .paid p g => some (.mu 0 (.d (kvD hs)) (.str (unpaidW (countIn hs) p g)))
  | _ => none
def ph_l_unpaid : List D → Option Out
  | [.tuple ds, d] => (decP ds).bind fun hs => (decDeed d).bind fun e => unpaidO hs e
  | _ => none
theorem ar_l_unpaid : ∀ ds o, ph_l_unpaid ds = some o → ds.length = 2 := by
  intro ds o h
  unfold ph_l_unpaid at h
  split at h
  · rfl
  · cases h
theorem v_unpaid {hs : List (Int × Int)} {p : Int} {g : List Int} : ph_l_unpaid [.tuple (hs.map eP), (Deed.paid p g).enc] = some (.mu 0 (.d (kvD hs)) (.str (unpaidW (countIn hs) p g))) := by
  simp only [ph_l_unpaid, decP_map, decDeed_enc (e := .paid p g) trivial, Option.bind_some, unpaidO]
theorem wp_l_unpaid {ca : Nat → Addr} {xs : List Nat} : ∀ c ds q c' x, ph_l_unpaid (c.enc :: ds) = some (.mu q c' x) → ∀ p, wpSs ⟨[], ca, xs, none⟩ g_l_unpaid (gdM p c' x) (startM n_l_unpaid p c ds) := by
  intro c ds q c' x h p
  unfold ph_l_unpaid at h
  split at h
  · rename_i es d e0
    obtain ⟨h0, rfl⟩ := List.cons.inj e0
    obtain ⟨hs, e1, h2⟩ := bindO h
    clear h
    obtain ⟨e, e2, h3⟩ := bindO h2
    clear h2
    cases cn_of h0 e1
    obtain ⟨rfl, hg⟩ := decDeed_sound e2
    cases e with
    | paid price vs =>
      cases h3
      have i1 : ixD (Deed.paid price vs).enc (.int 1) = .ok (.int price) := rfl
      have i2 : ixD (Deed.paid price vs).enc (.int 2) = .ok (.list (vs.map .int)) := rfl
      have hst : startM n_l_unpaid p (.d (kvD hs)) [(Deed.paid price vs).enc] = [some (.mp p (.d (kvD hs))), some (.fz (Deed.paid price vs).enc), none, none] := rfl
      rw [hst]
      clear hst e2 hg e0 h0
      generalize (Deed.paid price vs).enc = E at i1 i2
      have hdg := fun v => dget_kv v hs
      generalize kvD hs = kvs at hdg
      generalize countIn hs = f at hdg
      generalize hT : (⟨[], ca, xs, none⟩ : Tb) = T
      generalize hH : (some (Sl.mp p (.d kvs))) = HH
      have own : ∀ l : TD.Env, ownM (HH :: l) 0 = some (p, .d kvs) := fun l => by rw [← hH]; rfl
      have ds0 : ∀ l : TD.Env, dslot (view (HH :: l)) 0 = .ok kvs := fun l => by rw [← hH]; rfl
      generalize hEE : (some (Sl.fz E)) = EE
      unfold g_l_unpaid unpaidW
      by_cases hb : price < 0 ∨ 1000 < price
      · rw [if_pos hb]
        simp [← hEE, i1, hb, own]
        try (intro a b; omega)
      rw [if_neg hb]
      refine wp_cut (fun Γ => Γ = [HH, EE, none, none]) (by
        simp [← hEE, i1, hb]
        try (intro a b; omega)) ?_
      rintro _ rfl
      by_cases h60 : 60 < vs.length
      · rw [if_pos h60]
        have h60' : (60 : Int) < vs.length := by omega
        simp [← hEE, i2, h60', own]
      rw [if_neg h60]
      refine wp_cut (fun Γ => Γ = [HH, EE, none, none]) (by
        have h60' : ¬((60 : Int) < vs.length) := by omega
        simp [← hEE, i2, h60']) ?_
      rintro _ rfl
      refine wp_cut (fun Γ => Γ = [HH, EE, none, none] ∧ goW f [] vs = "") ?_ ?_
      · refine wp_rng (n := vs.length) (fun k Γ => Γ = [HH, EE, none, none] ∧ goW f [] vs = goW f (vs.take k) (vs.drop k)) (by simp [← hEE, i2]) (by omega) (by omega) ⟨by simp, by simp⟩ ?_ ?_
        · rintro k _ hk ⟨rfl, hd⟩
          have hkl : k < vs.length := by omega
          have hkv : vs[k]? = some vs[k] := List.getElem?_eq_getElem hkl
          have hiv : ixD (.list (vs.map .int)) (.int k) = .ok (.int vs[k]) := ix_l (by omega) (by rw [Int.toNat_natCast, List.getElem?_map, hkv]; rfl)
          have hdr := List.drop_eq_getElem_cons hkl
          have htk : vs.take (k + 1) = vs.take k ++ [vs[k]] := by rw [List.take_add_one, hkv]; rfl
          generalize vs[k] = v at hiv hdr htk
          rw [hdr, goW_cons] at hd
          have hsl : slToR (.list (vs.map .int)) (.int k) = .ok ((vs.take k).map .int) := by rw [slToR_l (by omega), Int.toNat_natCast, List.map_take]
          have hcn : cntD (.list (List.take k (vs.map .int))) (.int v) = .ok (.int (List.count v (List.take k vs) : Nat)) := by rw [← List.map_take]; exact cnt_l
          refine wp_cut (fun Γ => Γ = [HH, EE, some (.fz (.int k)), some (.fz (.int v))]) (by simp [← hEE, i2, hiv]) ?_
          rintro _ rfl
          have hdv := hdg v
          have kn : ¬(("no kind" : Str) = "") := by decide
          have kc : ¬(("no count" : Str) = "") := by decide
          cases hf : f v with
          | none =>
            rw [hf] at hd hdv
            dsimp only at hd
            rw [hd]
            have hc : ev T (view [HH, EE, some (.fz (.int k)), some (.fz (.int v))]) (.ind true (.var 3) 0) = .ok (.bool true) := by
              rw [e_ind, ds0]
              simp [hdv]
            rw [w_cons, w_ifs, hc, on_ok, isT_b]
            refine ⟨fun _ => ?_, fun z => by cases z⟩
            simp [own, kn]
          | some t =>
            rw [hf] at hd hdv
            dsimp only at hd
            refine wp_cut (fun Γ => Γ = [HH, EE, some (.fz (.int k)), some (.fz (.int v))]) (by
              have hc : ev T (view [HH, EE, some (.fz (.int k)), some (.fz (.int v))]) (.ind true (.var 3) 0) = .ok (.bool false) := by
                rw [e_ind, ds0]
                simp [hdv]
              rw [w_ifs, hc, on_ok, isT_b]
              exact ⟨fun z => (by cases z), fun _ => rfl⟩) ?_
            rintro _ rfl
            have hc : ev T (view [HH, EE, some (.fz (.int k)), some (.fz (.int v))]) (.eq false (.bin .add (.dix 0 (.var 3)) (.cnt (.f (.slTo (.ix (.var 1) (.cst (.int 2))) (.var 2))) (.var 3))) (.cst (.int 1000000000))) = .ok (.bool (decide (t + ((List.count v (vs.take k) : Nat) : Int) = 1000000000))) := by
              rw [e_eq, e_bin, e_dix, ds0]
              simp [hdv, ← hEE, i2, hsl, hcn]
            rw [w_cons, w_ifs, hc, on_ok, isT_b]
            refine ⟨fun z => ?_, fun z => ?_⟩
            · rw [if_pos (of_decide_eq_true z)] at hd
              rw [hd]
              simp [own, kc]
            · rw [if_neg (of_decide_eq_false z)] at hd
              exact ⟨rfl, by rw [hd, htk]⟩
        · rintro _ ⟨rfl, hd⟩
          refine ⟨rfl, ?_⟩
          rw [hd, Int.toNat_natCast, List.drop_length]
          rfl
      rintro _ ⟨rfl, hd⟩
      rw [if_pos hd]
      by_cases h1 : vs.sum < price
      · rw [if_pos h1]
        simp [← hEE, i1, i2, h1, own]
      rw [if_neg h1]
      refine wp_cut (fun Γ => Γ = [HH, EE, none, none]) (by simp [← hEE, i1, i2, h1]) ?_
      rintro _ rfl
      by_cases h2 : 1000 < vs.sum - price
      · rw [if_pos h2]
        simp [← hEE, i1, i2, h2, own]
      · rw [if_neg h2]
        simp [← hEE, i1, i2, h2, own]
    | brought v c => cases h3
    | fetched v c => cases h3
    | kin v => cases h3
    | kout v => cases h3
    | other w xs => cases h3
  · cases h
/-! ### k09: what is held and the till stay alike -/
theorem sort_is {l m : List (Int × Int)} (hl : l.Pairwise fun a b => a.1 < b.1) (p : m.Perm l) : pSort m = l :=
  (pSort_uniq (l := l) (hl.imp fun {a b} h => pLe_iff.mpr (.inl h)) p.symm).symm
theorem nd_perm {hs ps : List (Int × Int)} (h : Tl ps) (p : hs.Perm ps) : (hs.map fun p => p.1).Nodup := (p.map _).nodup_iff.mpr h.nd
theorem count_perm {hs ps : List (Int × Int)} (h : Tl ps) (p : hs.Perm ps) : countIn hs = countIn ps := by
  funext v
  cases hc : countIn ps v with
  | some c => exact countIn_in (nd_perm h p) (p.mem_iff.mpr (countIn_is hc))
  | none =>
    have h1 := countIn_no hc
    have h2 : v ∉ hs.map fun p => p.1 := fun z => h1 ((p.map _).mem_iff.mp z)
    have h3 := @count_key v hs
    rw [decide_eq_false h2] at h3
    cases h4 : countIn hs v with
    | none => rfl
    | some c => rw [h4] at h3; cases h3
def setAll (ch : List (Int × Int)) : List (Int × Int) → List (Int × Int) → List (Int × Int)
  | [], hs => hs
  | p :: r, hs => setAll ch r (withCount hs p.1 (p.2 - ownOf ch p.1))
def setF (ch l : List (Int × Int)) (q : Int × Int) : Int × Int := (q.1, match countIn l q.1 with
  | some t => t - ownOf ch q.1
  | none => q.2)
theorem setAll_is {ch : List (Int × Int)} : ∀ {l hs : List (Int × Int)}, (l.map fun p => p.1).Nodup → setAll ch l hs = hs.map (setF ch l)
  | [], hs, _ => by
    show hs = hs.map fun q => (q.1, q.2)
    simp
  | p :: r, hs, nd => by
    rw [List.map_cons, List.nodup_cons] at nd
    show setAll ch r (withCount hs p.1 (p.2 - ownOf ch p.1)) = _
    rw [setAll_is nd.2]
    unfold withCount
    rw [List.map_map]
    refine List.map_congr_left fun q _ => ?_
    show setF ch r (if q.1 = p.1 then (q.1, p.2 - ownOf ch p.1) else q) = (q.1, match (if p.1 = q.1 then some p.2 else countIn r q.1) with | some t => t - ownOf ch q.1 | none => q.2)
    by_cases z : q.1 = p.1
    · have hn : countIn r q.1 = none := by
        have h3 := @count_key q.1 r
        rw [decide_eq_false (by rw [z]; exact nd.1)] at h3
        cases h4 : countIn r q.1 with
        | none => rfl
        | some c => rw [h4] at h3; cases h3
      rw [if_pos z, if_pos z.symm]
      show (q.1, match countIn r q.1 with | some t => t - ownOf ch q.1 | none => p.2 - ownOf ch p.1) = _
      rw [hn, z]
    · rw [if_neg z, if_neg fun y => z y.symm]
      rfl
theorem setAll_perm {hs ps ch : List (Int × Int)} {g : List Int} (h : Tl ps) (p : hs.Perm ps) : (setAll ch (addAll ps g) hs).Perm (subAll (addAll ps g) ch) := by
  have nd2 : ((addAll ps g).map fun p => p.1).Nodup := by rw [addAll_keys]; exact h.nd
  rw [setAll_is nd2]
  have e : subAll (addAll ps g) ch = ps.map (setF ch (addAll ps g)) := by
    unfold subAll addAll
    rw [List.map_map]
    refine List.map_congr_left fun q hq => ?_
    show (q.1, q.2 + ((g.count q.1 : Nat) : Int) - ownOf ch q.1) = (q.1, match countIn (addAll ps g) q.1 with | some t => t - ownOf ch q.1 | none => q.2)
    rw [countIn_add, countIn_in h.nd (v := q.1) (c := q.2) hq]
    rfl
  rw [e]
  exact p.map _
theorem sort_add {hs ps : List (Int × Int)} {g : List Int} (h : Tl ps) (p : hs.Perm ps) : pSort (addAll hs g) = addAll ps g :=
  sort_is (addAll_rise h.2.1) (p.map _)
theorem withCount_perm {hs ps : List (Int × Int)} {v c : Int} (p : hs.Perm ps) : (withCount hs v c).Perm (withCount ps v c) := p.map _
/-! what bars a payment -/
theorem goW_put {ps : List (Int × Int)} (nd : (ps.map fun p => p.1).Nodup) (h0 : ∀ p ∈ ps, 0 ≤ p.2) : ∀ {rest pre : List Int}, (∀ p ∈ addAll ps pre, p.2 ≤ 1000000000) → goW (countIn ps) pre rest = match putAll (addAll ps pre) rest with
    | .er x => nmW x
    | .ok _ => ""
  | [], pre, _ => rfl
  | v :: r, pre, hp => by
    rw [putAll_cons, goW_cons]
    have hca := @countIn_add pre v ps
    cases hc : countIn ps v with
    | none =>
      rw [hc] at hca
      have hca' : countIn (addAll ps pre) v = none := hca
      rw [hca']
      rfl
    | some t =>
      rw [hc] at hca
      have hca' : countIn (addAll ps pre) v = some (t + ((pre.count v : Nat) : Int)) := hca
      have ht := hp _ (countIn_is hca')
      have ht0 := h0 _ (countIn_is hc)
      have ht' : t + ((pre.count v : Nat) : Int) ≤ 1000000000 := ht
      have ht0' : 0 ≤ t := ht0
      rw [hca']
      dsimp only
      by_cases z : t + ((pre.count v : Nat) : Int) = 1000000000
      · have hn : noCount (t + ((pre.count v : Nat) : Int) + 1) := by unfold noCount; omega
        rw [if_pos z, if_pos hn]
        rfl
      · have hn : ¬noCount (t + ((pre.count v : Nat) : Int) + 1) := by unfold noCount; omega
        rw [if_neg z, if_neg hn, with_add nd hca']
        refine goW_put nd h0 fun p hp' => ?_
        obtain ⟨q, hq, rfl⟩ := List.mem_map.mp hp'
        show q.2 + (((pre ++ [v]).count q.1 : Nat) : Int) ≤ 1000000000
        rw [List.count_append]
        have hqp : q.2 + ((pre.count q.1 : Nat) : Int) ≤ 1000000000 := hp _ (List.mem_map.mpr ⟨q, hq, rfl⟩)
        by_cases y : q.1 = v
        · have h1 := countIn_in nd (v := q.1) (c := q.2) hq
          rw [y, hc] at h1
          have h2 : t = q.2 := Option.some.inj h1
          rw [y, List.count_singleton_self]
          rw [y] at hqp
          omega
        · have : [v].count q.1 = 0 := List.count_eq_zero.mpr fun z => y (List.mem_singleton.mp z)
          rw [this]
          omega
theorem nmW_ne {x : Nat} : ¬(nmW x = ("" : Str)) := by
  unfold nmW
  split <;> decide
theorem unpaid_due {ps : List (Int × Int)} {p : Int} {g : List Int} (h : Tl ps) :
    (∃ x, paidD ps p g = .er x ∧ unpaidW (countIn ps) p g = nmW x) ∨
    (unpaidW (countIn ps) p g = "" ∧ ∃ M : Nat, M ≤ 1000 ∧ g.sum - p = M ∧ paidD ps p g = match fewestOf (addAll ps g) M with
      | none => .er 7
      | some ch => .ok (subAll (addAll ps g) ch) ch) := by
  obtain ⟨hlen, hall⟩ := okTill_of h.1
  unfold paidD unpaidW withAllD
  by_cases hb : badSum p
  · have hb' : p < 0 ∨ 1000 < p := hb
    rw [if_pos hb, if_pos hb']
    exact .inl ⟨5, rfl, rfl⟩
  have hb' : ¬(p < 0 ∨ 1000 < p) := hb
  rw [if_neg hb, if_neg hb']
  by_cases h60 : 60 < g.length
  · rw [if_pos h60, if_pos h60]
    exact .inl ⟨4, rfl, rfl⟩
  rw [if_neg h60, if_neg h60]
  have hd := @goW_put ps h.nd (fun p hp => (hall p hp).2.2) g [] (by rw [addAll_nil]; exact h.2.2.1)
  rw [addAll_nil] at hd
  rw [hd]
  cases hp : putAll ps g with
  | er x =>
    refine .inl ⟨x, rfl, ?_⟩
    dsimp only
    rw [if_neg nmW_ne]
  | ok full =>
    have hf := putAll_add h.nd (pre := []) (vs := g) (full := full) (by rw [addAll_nil]; exact hp)
    rw [List.nil_append] at hf
    subst hf
    dsimp only
    rw [if_pos rfl]
    unfold payRest
    by_cases h1 : g.sum < p
    · rw [if_pos h1, if_pos (by omega)]
      exact .inl ⟨6, rfl, rfl⟩
    rw [if_neg h1, if_neg (by omega)]
    by_cases h2 : 1000 < g.sum - p
    · have hbd : badSum (g.sum - p) := by unfold badSum; omega
      rw [if_pos h2, if_pos hbd]
      exact .inl ⟨5, rfl, rfl⟩
    · have hbd : ¬badSum (g.sum - p) := by unfold badSum; omega
      rw [if_neg h2, if_neg hbd]
      refine .inr ⟨rfl, (g.sum - p).toNat, by omega, by omega, ?_⟩
      cases fewestOf (addAll ps g) (g.sum - p).toNat with
      | none => rfl
      | some ch =>
        show Pd.ok (takeAll (addAll ps g) ch) ch = _
        rw [takeAll_sub (by rw [addAll_keys]; exact h.nd)]
/-! after a deed -/
def afterH (hs : List (Int × Int)) : Deed → List (Int × Int)
  | .paid p g => match paidD (pSort hs) p g with
    | .er _ => hs
    | .ok _ ch => setAll ch (addAll (pSort hs) g) hs
  | .brought v c => (movedH hs true v c).1
  | .fetched v c => (movedH hs false v c).1
  | .kin v => (kindH hs true v).1
  | .kout v => (kindH hs false v).1
  | .other _ _ => hs
theorem after_perm {hs ps : List (Int × Int)} (h : Tl ps) (p : hs.Perm ps) (e : Deed) : (afterH hs e).Perm ((doneD ps e).till ps) := by
  have hc := count_perm h p
  cases e with
  | paid pr g =>
    show (match paidD (pSort hs) pr g with
      | .er _ => hs
      | .ok _ ch => setAll ch (addAll (pSort hs) g) hs).Perm ((paidD ps pr g).till ps)
    rw [sort_is h.2.1 p]
    cases hd : paidD ps pr g with
    | er x => exact p
    | ok a ch =>
      obtain ⟨M, _, _, _, _, rfl⟩ := paid_ok h hd
      exact setAll_perm h p
  | brought v c =>
    show (movedH hs true v c).1.Perm ((broughtD ps v c).pd.till ps)
    unfold movedH broughtD
    rw [hc]
    cases hv : countIn ps v with
    | none => exact p
    | some t =>
      have ht := (okTill_of h.1).2 _ (countIn_is hv)
      have ht0 : 0 ≤ t := ht.2.2
      dsimp only
      by_cases h1 : noCount c
      · have h1' : c < 0 ∨ c > 1000000000 := h1
        rw [if_pos h1, if_pos (show c < 0 ∨ (c > 1000000000 ∨ (true = true ∧ t + c > 1000000000)) by omega)]
        exact p
      · have h1' : ¬(c < 0 ∨ c > 1000000000) := h1
        rw [if_neg h1]
        by_cases h2 : noCount (t + c)
        · have h2' : t + c < 0 ∨ t + c > 1000000000 := h2
          have h3 : c < 0 ∨ (c > 1000000000 ∨ (true = true ∧ t + c > 1000000000)) := .inr (.inr ⟨rfl, by omega⟩)
          rw [if_pos h2, if_pos h3]
          exact p
        · have h2' : ¬(t + c < 0 ∨ t + c > 1000000000) := h2
          have h3 : ¬(c < 0 ∨ (c > 1000000000 ∨ (true = true ∧ t + c > 1000000000))) := by
            rintro (z | z | ⟨_, z⟩) <;> omega
          rw [if_neg h2, if_neg h3, if_neg (show ¬(true = false ∧ c > t) from fun z => nomatch z.1)]
          exact withCount_perm p
  | fetched v c =>
    show (movedH hs false v c).1.Perm ((fetchedD ps v c).pd.till ps)
    unfold movedH fetchedD
    rw [hc]
    cases hv : countIn ps v with
    | none => exact p
    | some t =>
      dsimp only
      by_cases h1 : noCount c
      · have h1' : c < 0 ∨ c > 1000000000 := h1
        rw [if_pos h1, if_pos (show c < 0 ∨ (c > 1000000000 ∨ (false = true ∧ t + c > 1000000000)) by omega)]
        exact p
      · have h1' : ¬(c < 0 ∨ c > 1000000000) := h1
        have h3 : ¬(c < 0 ∨ (c > 1000000000 ∨ (false = true ∧ t + c > 1000000000))) := by
          rintro (z | z | ⟨z, _⟩)
          · omega
          · omega
          · cases z
        rw [if_neg h1, if_neg h3]
        by_cases h2 : c > t
        · rw [if_pos h2, if_pos (show false = false ∧ c > t from ⟨rfl, h2⟩)]
          exact p
        · rw [if_neg h2, if_neg (show ¬(false = false ∧ c > t) from fun z => h2 z.2)]
          have : t + (if false = true then c else 0 - c) = t - c := by
            rw [if_neg (by decide)]
            omega
          rw [this]
          exact withCount_perm p
  | kin v =>
    show (kindH hs true v).1.Perm ((kindInD ps v).pd.till ps)
    unfold kindH kindInD
    rw [if_pos rfl, hc, p.length_eq]
    by_cases h1 : noValue v
    · rw [if_pos h1, if_pos (show v < 1 ∨ v > 1000 from h1)]
      exact p
    rw [if_neg h1, if_neg (show ¬(v < 1 ∨ v > 1000) from h1)]
    have hk := @count_key v ps
    cases hv : countIn ps v with
    | some t =>
      rw [hv] at hk
      rw [if_pos (of_decide_eq_true hk.symm)]
      exact p
    | none =>
      rw [hv] at hk
      rw [if_neg (of_decide_eq_false hk.symm)]
      dsimp only
      by_cases h2 : ps.length = 10
      · rw [if_pos h2, if_pos h2]
        exact p
      · rw [if_neg h2, if_neg h2]
        exact (p.append_right _).trans (pSort_perm _).symm
  | kout v =>
    show (kindH hs false v).1.Perm ((kindOutD ps v).pd.till ps)
    unfold kindH kindOutD
    rw [if_neg (by decide), hc, p.length_eq]
    cases hv : countIn ps v with
    | none => exact p
    | some t =>
      dsimp only
      by_cases h1 : t > 0
      · rw [if_pos h1, if_pos h1]
        exact p
      · rw [if_neg h1, if_neg h1]
        by_cases h2 : ps.length = 1
        · rw [if_pos h2, if_pos h2]
          exact p
        · rw [if_neg h2, if_neg h2]
          exact p.filter _
  | other w xs => exact p
/-- the word due -/
theorem moved_word {hs ps : List (Int × Int)} (h : Tl ps) (p : hs.Perm ps) {v c : Int} : (movedH hs true v c).2 = (doneD ps (.brought v c)).word ∧ (movedH hs false v c).2 = (doneD ps (.fetched v c)).word := by
  have hc := count_perm h p
  refine ⟨?_, ?_⟩
  · show _ = (broughtD ps v c).pd.word
    unfold movedH broughtD
    rw [hc]
    cases hv : countIn ps v with
    | none => rfl
    | some t =>
      have ht := (okTill_of h.1).2 _ (countIn_is hv)
      have ht0 : 0 ≤ t := ht.2.2
      dsimp only
      by_cases h1 : noCount c
      · have h1' : c < 0 ∨ c > 1000000000 := h1
        rw [if_pos h1, if_pos (show c < 0 ∨ (c > 1000000000 ∨ (true = true ∧ t + c > 1000000000)) by omega)]
        rfl
      · have h1' : ¬(c < 0 ∨ c > 1000000000) := h1
        rw [if_neg h1]
        by_cases h2 : noCount (t + c)
        · have h2' : t + c < 0 ∨ t + c > 1000000000 := h2
          have h3 : c < 0 ∨ (c > 1000000000 ∨ (true = true ∧ t + c > 1000000000)) := .inr (.inr ⟨rfl, by omega⟩)
          rw [if_pos h2, if_pos h3]
          rfl
        · have h2' : ¬(t + c < 0 ∨ t + c > 1000000000) := h2
          have h3 : ¬(c < 0 ∨ (c > 1000000000 ∨ (true = true ∧ t + c > 1000000000))) := by
            rintro (z | z | ⟨_, z⟩) <;> omega
          rw [if_neg h2, if_neg h3, if_neg (show ¬(true = false ∧ c > t) from fun z => nomatch z.1)]
          rfl
  · show _ = (fetchedD ps v c).pd.word
    unfold movedH fetchedD
    rw [hc]
    cases hv : countIn ps v with
    | none => rfl
    | some t =>
      dsimp only
      by_cases h1 : noCount c
      · have h1' : c < 0 ∨ c > 1000000000 := h1
        rw [if_pos h1, if_pos (show c < 0 ∨ (c > 1000000000 ∨ (false = true ∧ t + c > 1000000000)) by omega)]
        rfl
      · have h1' : ¬(c < 0 ∨ c > 1000000000) := h1
        have h3 : ¬(c < 0 ∨ (c > 1000000000 ∨ (false = true ∧ t + c > 1000000000))) := by
          rintro (z | z | ⟨z, _⟩)
          · omega
          · omega
          · cases z
        rw [if_neg h1, if_neg h3]
        by_cases h2 : c > t
        · rw [if_pos h2, if_pos (show false = false ∧ c > t from ⟨rfl, h2⟩)]
          rfl
        · rw [if_neg h2, if_neg (show ¬(false = false ∧ c > t) from fun z => h2 z.2)]
          rfl
theorem kind_word {hs ps : List (Int × Int)} (h : Tl ps) (p : hs.Perm ps) {v : Int} : (kindH hs true v).2 = (doneD ps (.kin v)).word ∧ (kindH hs false v).2 = (doneD ps (.kout v)).word := by
  have hc := count_perm h p
  refine ⟨?_, ?_⟩
  · show _ = (kindInD ps v).pd.word
    unfold kindH kindInD
    rw [if_pos rfl, hc, p.length_eq]
    by_cases h1 : noValue v
    · rw [if_pos h1, if_pos (show v < 1 ∨ v > 1000 from h1)]
      rfl
    rw [if_neg h1, if_neg (show ¬(v < 1 ∨ v > 1000) from h1)]
    have hk := @count_key v ps
    cases hv : countIn ps v with
    | some t =>
      rw [hv] at hk
      rw [if_pos (of_decide_eq_true hk.symm)]
      rfl
    | none =>
      rw [hv] at hk
      rw [if_neg (of_decide_eq_false hk.symm)]
      dsimp only
      by_cases h2 : ps.length = 10
      · rw [if_pos h2, if_pos h2]
        rfl
      · rw [if_neg h2, if_neg h2]
        rfl
  · show _ = (kindOutD ps v).pd.word
    unfold kindH kindOutD
    rw [if_neg (by decide), hc, p.length_eq]
    cases hv : countIn ps v with
    | none => rfl
    | some t =>
      dsimp only
      by_cases h1 : t > 0
      · rw [if_pos h1, if_pos h1]
        rfl
      · rw [if_neg h1, if_neg h1]
        by_cases h2 : ps.length = 1
        · rw [if_pos h2, if_pos h2]
          rfl
        · rw [if_neg h2, if_neg h2]
          rfl
theorem chg_nil {d : Dd} : d.pd.chg = [] := by cases d <;> rfl
/-! ### k09: a payment told right -/
def okW (w : Str) : Bool := PyData.strOk w
theorem okW_lay {w : Str} (h : okW w = true) : (PyData.str w).canLay0 = true := by
  rw [PyData.canLay0]
  exact h
/-- numbers, words and None, in lists and tuples, up to n deep -/
def okS : Nat → D → Bool
  | _, .none => true
  | _, .int _ => true
  | _, .str x => okW x
  | n + 1, .list ds => ds.all (okS n)
  | n + 1, .tuple ds => ds.all (okS n)
  | _, _ => false
theorem okS_lay : ∀ (n : Nat) (d : D), okS n d = true → d.canLay0 = true ∧ d.depth ≤ n
  | n, .none, _ => ⟨rfl, Nat.zero_le _⟩
  | n, .int _, _ => ⟨rfl, Nat.zero_le _⟩
  | n, .bool _, h => by cases n <;> cases h
  | n, .str x, h => ⟨okW_lay (by cases n <;> exact h), Nat.zero_le _⟩
  | n, .dict _, h => by cases n <;> cases h
  | 0, .list _, h => by cases h
  | 0, .tuple _, h => by cases h
  | n + 1, .list ds, h => by
    have h' := List.all_eq_true.mp (show ds.all (okS n) = true from h)
    exact ⟨layAll_of fun d hd => (okS_lay n d (h' d hd)).1, Nat.succ_le_succ (depAll_of fun d hd => (okS_lay n d (h' d hd)).2)⟩
  | n + 1, .tuple ds, h => by
    have h' := List.all_eq_true.mp (show ds.all (okS n) = true from h)
    exact ⟨layAll_of fun d hd => (okS_lay n d (h' d hd)).1, Nat.succ_le_succ (depAll_of fun d hd => (okS_lay n d (h' d hd)).2)⟩
theorem eqvAll_self {ds : List D} (h : ∀ d ∈ ds, PyData.eqv d d = true) : PyData.eqvAll ds ds = true := by
  induction ds with
  | nil => rfl
  | cons d r ih =>
    show (PyData.eqv d d && PyData.eqvAll r r) = true
    rw [h d List.mem_cons_self, ih fun x hx => h x (List.mem_cons_of_mem _ hx)]
    rfl
theorem eqv_self : ∀ (n : Nat) (d : D), okS n d = true → PyData.eqv d d = true
  | n, .none, _ => rfl
  | n, .int i, _ => by simp [PyData.eqv]
  | n, .bool _, h => by cases n <;> cases h
  | n, .str x, h => by simp [PyData.eqv]
  | n, .dict _, h => by cases n <;> cases h
  | 0, .list _, h => by cases h
  | 0, .tuple _, h => by cases h
  | n + 1, .list ds, h => by
    have h' := List.all_eq_true.mp (show ds.all (okS n) = true from h)
    rw [PyData.eqv]
    exact eqvAll_self fun d hd => eqv_self n d (h' d hd)
  | n + 1, .tuple ds, h => by
    have h' := List.all_eq_true.mp (show ds.all (okS n) = true from h)
    rw [PyData.eqv]
    exact eqvAll_self fun d hd => eqv_self n d (h' d hd)
theorem okS_shaped {n : Nat} {d : D} (h : okS n d = true) (hn : n ≤ 64) : SeqAt.shaped d = true := by
  obtain ⟨a, b⟩ := okS_lay n d h
  unfold SeqAt.shaped
  rw [a, decide_eq_true (Nat.le_trans b hn)]
  rfl
theorem self_list {n : Bool} {k : Nat} {xs : List D} (h : okS k (.list xs) = true) (hk : k ≤ 64) : eqD n (.list xs) (.list xs) = .ok (.bool (n ^^ true)) := by
  show (if (SeqAt.shaped (.list xs) && SeqAt.shaped (.list xs)) = true then Rs.ok (PyData.bool (n ^^ PyData.eqv (.list xs) (.list xs))) else .bad) = _
  rw [okS_shaped h hk, eqv_self k _ h]
  rfl
theorem self_tup {n : Bool} {k : Nat} {xs : List D} (h : okS k (.tuple xs) = true) (hk : k ≤ 64) : eqD n (.tuple xs) (.tuple xs) = .ok (.bool (n ^^ true)) := by
  show (if (SeqAt.shaped (.tuple xs) && SeqAt.shaped (.tuple xs)) = true then Rs.ok (PyData.bool (n ^^ PyData.eqv (.tuple xs) (.tuple xs))) else .bad) = _
  rw [okS_shaped h hk, eqv_self k _ h]
  rfl
theorem okS_pairs (ps : List (Int × Int)) : okS 2 (.list (ps.map eP)) = true := List.all_eq_true.mpr fun d hd => by
  obtain ⟨p, _, rfl⟩ := List.mem_map.mp hd
  rfl
theorem okW_nm (x : Nat) : okW (nmW x) = true := by
  unfold nmW
  split <;> decide +kernel
theorem okW_word (d : Pd) : okW d.word = true := by
  cases d with
  | er x => exact okW_nm x
  | ok a b => exact (by decide +kernel : okW "done" = true)
theorem okS_ans {a : Str × List (Int × Int)} (h : okW a.1 = true) : okS 3 (ansD a) = true := by
  refine List.all_eq_true.mpr fun d hd => ?_
  rcases List.mem_cons.mp hd with rfl | hd
  · exact h
  · cases List.mem_singleton.mp hd
    exact okS_pairs a.2
theorem ans_eq {n : Bool} {w : Str} {cs : List (Int × Int)} (h : okW w = true) : eqD n (ansD (w, cs)) (ansD (w, cs)) = .ok (.bool (n ^^ true)) := self_tup (okS_ans (a := (w, cs)) h) (by decide)
theorem lockE_head {b : Bool} {kvs : List (Int × D)} {l : TD.Env} : lockE (some (.dc b kvs) :: l) 0 = some (.dl kvs) :: l.map unD := rfl
/-- a list by each key of a dict -/
theorem e_lockc {T : Tb} {Γ : TD.Env} {i t : Nat} {e : GE} {hs : List (Int × Int)} {b : Bool} {h : Int × Int → D} (hi : Γ[i]? = some (some (.dc b (kvD hs)))) (hl : hs.length ≤ 16777216)
    (hg : ∀ p ∈ hs, ev T ((wipeE (lockE Γ i) [t]).set t (some (.fz (.int p.1)))) e = .ok (h p)) : evF T Γ (.lock i (.lc [t] (.dk i) e)) = .ok (hs.map h) := by
  have hin : i < Γ.length := (List.getElem?_eq_some_iff.mp hi).1
  have hk : lockE Γ i = (Γ.map unD).set i (some (.dl (kvD hs))) := by unfold lockE; rw [hi]
  have hls : lslot (lockE Γ i) i = .ok (kvD hs) := by
    unfold lslot
    rw [hk, List.getElem?_set_self (by rw [List.length_map]; exact hin)]
  have hcs : cslot Γ i = .ok (kvD hs) := by
    unfold cslot
    rw [hi]
  have h1 : evF T (lockE Γ i) (.lc [t] (.dk i) e) = .ok (hs.map h) := by
    show (evI T (lockE Γ i) (.dk i)).bind _ = _
    have e2 : evI T (lockE Γ i) (.dk i) = .ok (hs.map fun p => [PyData.int p.1]) := by
      show (lslot (lockE Γ i) i).bind _ = _
      rw [hls]
      show Rs.ok ((kvD hs).map fun kv => [PyData.int kv.1]) = _
      unfold kvD
      rw [List.map_map]
      rfl
    rw [e2]
    show (if TD.sizeOk (hs.map fun p => [PyData.int p.1]).length = true then lcM _ (hs.map fun p => [PyData.int p.1]) else Rs.bad) = _
    rw [if_pos (size_lit (by rw [List.length_map]; exact hl))]
    refine lcM_each fun p hp => ?_
    show (ev T ((wipeE (lockE Γ i) [t]).set t (some (.fz (.int p.1)))) e).map some = _
    rw [hg p hp]
    rfl
  show (match evF T (lockE Γ i) (.lc [t] (.dk i) e) with
    | .ok ds => (cslot Γ i).bind fun _ => .ok ds
    | _ => .bad) = _
  rw [h1, hcs]
  rfl
def rightO (hs : List (Int × Int)) (e : Deed) : Option Out := some (.mu 0 (.d (kvD (afterH hs e))) (.bool true))
def ansOk (hs : List (Int × Int)) (e : Deed) (w : Str) (ch : List (Int × Int)) : Prop := Tl (pSort hs) ∧ w = (doneD (pSort hs) e).word ∧ ch = (doneD (pSort hs) e).chg
instance (hs : List (Int × Int)) (e : Deed) (w : Str) (ch : List (Int × Int)) : Decidable (ansOk hs e w ch) := inferInstanceAs (Decidable (_ ∧ _ ∧ _))
def Deed.pays : Deed → Bool
  | .paid _ _ => true
  | _ => false
def ph_l_paid : List D → Option Out
  | [.tuple ds, d, .tuple [.str w, .list cs]] => (decP ds).bind fun hs => (decDeed d).bind fun e => (decP cs).bind fun ch => if ansOk hs e w ch ∧ e.pays = true then rightO hs e else none
  | _ => none
theorem ar_l_paid : ∀ ds o, ph_l_paid ds = some o → ds.length = 3 := by
  intro ds o h
  unfold ph_l_paid at h
  split at h
  · rfl
  · cases h
theorem v_l_paid {hs : List (Int × Int)} {e : Deed} (g : e.good) (hp : e.pays = true) (h : Tl (pSort hs)) : ph_l_paid [.tuple (hs.map eP), e.enc, ansD ((doneD (pSort hs) e).word, (doneD (pSort hs) e).chg)] = rightO hs e := by
  simp only [ph_l_paid, ansD, decP_map, decDeed_enc g, Option.bind_some]
  rw [if_pos ⟨⟨h, rfl, rfl⟩, hp⟩]
theorem wp_l_paid {ca : Nat → Addr} {xs : List Nat} : ∀ c ds q c' x, ph_l_paid (c.enc :: ds) = some (.mu q c' x) → ∀ p, wpSs ⟨[ph_l_unpaid, ph_table, ph_l_walked, ph_l_exact, ph_l_change], ca, xs, none⟩ g_l_paid (gdM p c' x) (startM n_l_paid p c ds) := by
  intro c ds q c' x h p
  unfold ph_l_paid at h
  split at h
  · rename_i es d w cs e0
    obtain ⟨h0, rfl⟩ := List.cons.inj e0
    obtain ⟨hs, e1, h2⟩ := bindO h
    clear h
    obtain ⟨e, e2, h3⟩ := bindO h2
    clear h2
    obtain ⟨ch, e3, h4⟩ := bindO h3
    clear h3
    cases cn_of h0 e1
    obtain ⟨rfl, hg⟩ := decDeed_sound e2
    cases decP_sound e3
    split at h4
    · rename_i hq
      obtain ⟨⟨htl, hw, hch⟩, hpay⟩ := hq
      cases e with
      | paid price vs =>
        cases h4
        clear e0 h0 e1 e2 e3 hg hpay
        have hpm : hs.Perm (pSort hs) := (pSort_perm hs).symm
        have haf : afterH hs (.paid price vs) = match paidD (pSort hs) price vs with
          | .er _ => hs
          | .ok _ ch => setAll ch (addAll (pSort hs) vs) hs := rfl
        rw [haf]
        clear haf
        have hw' : w = (paidD (pSort hs) price vs).word := hw
        have hch' : ch = (paidD (pSort hs) price vs).chg := hch
        clear hw hch
        have hcp := count_perm htl hpm
        have hnd := nd_perm htl hpm
        have hsl : hs.length ≤ 10 := by rw [hpm.length_eq]; exact htl.2.2.2.2
        have hsa := @sort_add hs (pSort hs) vs htl hpm
        have hdue := @unpaid_due (pSort hs) price vs htl
        rw [← hcp] at hdue
        have vu := @v_unpaid hs price vs
        generalize pSort hs = ps at *
        have i1 : ixD (Deed.paid price vs).enc (.int 1) = .ok (.int price) := rfl
        have i2 : ixD (Deed.paid price vs).enc (.int 2) = .ok (.list (vs.map .int)) := rfl
        show wpSs _ _ _ [some (.mp p (.d (kvD hs))), some (.fz (Deed.paid price vs).enc), some (.fz (ansD (w, ch))), none, none, none, none, none, none, none]
        generalize (Deed.paid price vs).enc = E at i1 i2 vu
        generalize hT : (⟨[ph_l_unpaid, ph_table, ph_l_walked, ph_l_exact, ph_l_change], ca, xs, none⟩ : Tb) = T
        have own : ∀ (kvs : List (Int × D)) (l : TD.Env), ownM (some (Sl.mp p (.d kvs)) :: l) 0 = some (p, .d kvs) := fun _ _ => rfl
        generalize hEE : (some (Sl.fz E)) = EE
        generalize hAA : (some (Sl.fz (ansD (w, ch)))) = AA
        have a0 : ixD (ansD (w, ch)) (.int 0) = .ok (.str w) := rfl
        have a1 : ixD (ansD (w, ch)) (.int 1) = .ok (.list (ch.map eP)) := rfl
        generalize hGD : gdM p (Cn.d (kvD (match paidD ps price vs with
          | .er _ => hs
          | .ok _ ch => setAll ch (addAll ps vs) hs))) (.bool true) = gd
        unfold g_l_paid
        generalize hW : unpaidW (countIn hs) price vs = uw at hdue vu
        refine wp_cut (fun Γ => Γ = [some (.mp p (.d (kvD hs))), EE, AA, some (.fz (.str uw)), none, none, none, none, none, none]) ?_ ?_
        · rw [w_callM]
          refine ⟨.d (kvD hs), [E], .d (kvD hs), .str uw, rfl, by simp [← hEE], ?_, trivial, rfl⟩
          refine callM_of (φ := ph_l_unpaid) (by rw [← hT]; rfl) (q := 0) ?_
          rw [enc_kv]
          exact vu
        rintro _ rfl
        rcases hdue with ⟨x, hd, rfl⟩ | ⟨rfl, M, hM, hsum, hd⟩
        · rw [hd] at hw' hch' hGD
          have hcn : ch = [] := hch'
          have hwn : w = nmW x := hw'
          subst hcn
          rw [w_cons, w_ifs]
          have hc : ev T (view [some (.mp p (.d (kvD hs))), EE, AA, some (.fz (.str (nmW x))), none, none, none, none, none, none]) (.eq true (.var 3) (.cst (.str ""))) = .ok (.bool true) := by
            have := @nmW_ne x
            simp [this]
          rw [hc, on_ok, isT_b]
          refine ⟨fun _ => ?_, fun z => by cases z⟩
          have hae := @ans_eq false w [] (by rw [hwn]; exact okW_nm x)
          have hev : ev T (view [some (.mp p (.d (kvD hs))), EE, AA, some (.fz (.str (nmW x))), none, none, none, none, none, none]) (.eq false (.var 2) (.tup (.cons (.var 3) (.cons (.f (.lst (.nil))) (.nil))))) = .ok (.bool true) := by
            have : ev T (view [some (.mp p (.d (kvD hs))), EE, AA, some (.fz (.str (nmW x))), none, none, none, none, none, none]) (.tup (.cons (.var 3) (.cons (.f (.lst (.nil))) (.nil)))) = .ok (ansD (w, [])) := by
              rw [hwn]
              simp [ansD]
            rw [e_eq, this]
            simp only [e_var, view_cons, ← hAA, Option.bind_some, vw_fz, List.getElem?_cons_succ, List.getElem?_cons_zero, varD_ok, bind_ok]
            rw [hae]
            rfl
          rw [w_cons, w_retP, hev, on_ok]
          refine ⟨rfl, p, _, own _ _, ?_⟩
          rw [← hGD]
          rfl
        · refine wp_cut (fun Γ => Γ = [some (.mp p (.d (kvD hs))), EE, AA, some (.fz (.str "")), none, none, none, none, none, none]) (by simp) ?_
          rintro _ rfl
          refine wp_cut (fun Γ => Γ = [some (.mp p (.d (kvD hs))), EE, AA, some (.fz (.str "")), some (.fz (.int M)), none, none, none, none, none]) (by simp [← hEE, i1, i2, hsum]) ?_
          rintro _ rfl
          generalize hMM : (some (Sl.fz (.int M))) = MM
          generalize hFu : addAll ps vs = full at *
          have hok2 : okTill full = true := by rw [← hFu]; exact addAll_ok htl.1 vs
          have hris2 : full.Pairwise fun a b => a.1 < b.1 := by rw [← hFu]; exact addAll_rise htl.2.1
          obtain ⟨hlen2, hall2⟩ := okTill_of hok2
          have hlk : evF T (stab [some (.mp p (.d (kvD hs))), EE, AA, some (.fz (.str "")), MM, none, none, none, none, none]) (.lock 0 (.lc [6] (.dk 0) (.tup (.cons (.var 6) (.cons (.bin .add (.dix 0 (.var 6)) (.cnt (.ix (.var 1) (.cst (.int 2))) (.var 6))) (.nil)))))) = .ok ((addAll hs vs).map eP) := by
            rw [e_lockc (hs := hs) (b := false) (h := fun p => eP (p.1, p.2 + ((vs.count p.1 : Nat) : Int))) rfl (by omega) (fun p hp => ?_)]
            · unfold addAll
              rw [List.map_map]
              rfl
            · have hci := countIn_in hnd (v := p.1) (c := p.2) hp
              have hdg := dget_kv p.1 hs
              rw [hci] at hdg
              simp [← hEE, ← hAA, ← hMM, lockE_head, unD, dslot, hdg, i2]
              rfl
          refine wp_cut (fun Γ => Γ = [some (.mp p (.d (kvD hs))), EE, AA, some (.fz (.str "")), MM, some (.fz (.list (full.map eP))), none, none, none, none]) ?_ ?_
          · rw [w_asgS, e_f, e_srt, e_f, hlk, map_ok, bind_ok, srtR_l, map_ok, on_ok, hsa]
            rfl
          rintro _ rfl
          have vt := @v_table full M hM hok2
          have vw : ph_l_walked [.list ((tableOf full M).map rowD), .list (full.map eP), .int M] = some (oB true) := by
            simp [ph_l_walked, decR_map, decP_map, hok2]
            omega
          have Tb := tabled full M
          have hnf : ∀ f, cellR (tableOf full M) full.length M = some f → fewestOf full M = some (wayN (tableOf full M) full full.length M).reverse := fun f hf => by
            unfold fewestOf
            rw [hf]
            rfl
          have hnn : cellR (tableOf full M) full.length M = none → fewestOf full M = none := fun hf => by
            unfold fewestOf
            rw [hf]
            rfl
          have hct := @change_told full M
          have hwo := @way_ok full M
          have hle := @v_l_exact full M hM hok2
          generalize tableOf full M = rs at *
          have ixn : ixD (.list (rs.map rowD)) (.int full.length) = .ok (.list ((rowAt rs full.length).map oD)) := ix_rowsN (by rw [Tb.len]; omega)
          have ixm := @ix_cell rs full.length M (by rw [Tb.rows _ (by rw [Tb.len]; omega)]; omega)
          generalize hFL : (some (Sl.fz (.list (full.map eP)))) = FL
          generalize hRs : (some (Sl.fz (.list (rs.map rowD)))) = RS
          refine wp_cut (fun Γ => Γ = [some (.mp p (.d (kvD hs))), EE, AA, some (.fz (.str "")), MM, FL, none, RS, none, none]) (by simp [← hMM, ← hFL, ← hRs, ← hT, vt, tabR_toD]) ?_
          rintro _ rfl
          refine wp_cut (fun Γ => Γ = [some (.mp p (.d (kvD hs))), EE, AA, some (.fz (.str "")), MM, FL, none, RS, none, none]) (by simp [← hMM, ← hFL, ← hRs, ← hT, vw]) ?_
          rintro _ rfl
          cases hcell : cellR rs full.length M with
          | none =>
            rw [hcell] at ixm
            rw [hnn hcell] at hd
            have hd' : paidD ps price vs = .er 7 := hd
            rw [hd'] at hw' hch' hGD
            have hcn : ch = [] := hch'
            have hwn : w = "no change" := hw'
            subst hcn hwn
            have hc : ev T (view [some (.mp p (.d (kvD hs))), EE, AA, some (.fz (.str "")), MM, FL, none, RS, none, none]) (.isn false (.ix (.ix (.var 7) (.len (.var 5))) (.var 4))) = .ok (.bool true) := by
              simp [← hMM, ← hFL, ← hRs, ixn, ixm, oD]
            rw [w_cons, w_ifs, hc, on_ok, isT_b]
            refine ⟨fun _ => ?_, fun z => by cases z⟩
            have hae := @ans_eq false "no change" [] (okW_nm 7)
            have hev : ev T (view [some (.mp p (.d (kvD hs))), EE, AA, some (.fz (.str "")), MM, FL, none, RS, none, none]) (.eq false (.var 2) (.tup (.cons (.cst (.str "no change")) (.cons (.f (.lst (.nil))) (.nil))))) = .ok (.bool true) := by
              have : ev T (view [some (.mp p (.d (kvD hs))), EE, AA, some (.fz (.str "")), MM, FL, none, RS, none, none]) (.tup (.cons (.cst (.str "no change")) (.cons (.f (.lst (.nil))) (.nil)))) = .ok (ansD ("no change", [])) := by
                simp [ansD]
              rw [e_eq, this]
              simp only [e_var, view_cons, ← hAA, Option.bind_some, vw_fz, List.getElem?_cons_succ, List.getElem?_cons_zero, varD_ok, bind_ok]
              rw [hae]
              rfl
            rw [w_cons, w_retP, hev, on_ok]
            refine ⟨rfl, p, _, own _ _, ?_⟩
            rw [← hGD]
            rfl
          | some f =>
            rw [hcell] at ixm
            rw [hnf f hcell] at hd
            have hd' : paidD ps price vs = .ok (subAll full (wayN rs full full.length M).reverse) (wayN rs full full.length M).reverse := hd
            rw [hd'] at hw' hch' hGD
            have hcn : ch = (wayN rs full full.length M).reverse := hch'
            have hwn : w = "done" := hw'
            have hct' := hct hall2 hris2 hcell
            have hwo' := hwo hlen2 hall2 hris2 hcell
            have hle' := hle (by rw [hcell]; exact fun z => nomatch z)
            rw [← hcn] at hct' hwo' hle' hGD
            have hlc := @v_l_change ch full M hwo'
            rw [hct'] at hlc
            obtain ⟨hlb, _⟩ := okTill_of hwo'
            subst hwn
            clear hcn hd hd' hct hwo hle hnf hnn
            refine wp_cut (fun Γ => Γ = [some (.mp p (.d (kvD hs))), EE, AA, some (.fz (.str "")), MM, FL, none, RS, none, none]) (by simp [← hMM, ← hFL, ← hRs, ixn, ixm, oD]) ?_
            rintro _ rfl
            refine wp_cut (fun Γ => Γ = [some (.mp p (.d (kvD hs))), EE, AA, some (.fz (.str "")), MM, FL, none, RS, none, none]) (by simp [← hAA, ← hMM, ← hFL, ← hRs, ← hT, a0, a1, hlc, ixn, ixm, oD]) ?_
            rintro _ rfl
            have heq := eq_same (n := true) (okD_pair ch) (by decide)
            refine wp_cut (fun Γ => Γ = [some (.mp p (.d (kvD hs))), EE, AA, some (.fz (.str "")), MM, FL, none, RS, none, none]) (by simp [← hAA, ← hMM, ← hFL, ← hRs, ← hT, a1, hle', heq]) ?_
            rintro _ rfl
            refine wp_cut (fun Γ => Γ = [some (.mp p (.d (kvD (setAll ch full hs)))), EE, AA, some (.fz (.str "")), MM, FL, none, RS, none, none]) ?_ ?_
            · refine wp_prs (ps := full) (fun r Γ => ∃ hs' : List (Int × Int), Γ = [some (.mp p (.d (kvD hs'))), EE, AA, some (.fz (.str "")), MM, FL, none, RS, none, none] ∧ setAll ch r hs' = setAll ch full hs ∧ hs'.map (fun p => p.1) = hs.map (fun p => p.1) ∧ (∀ p ∈ r, p ∈ full)) (by simp [← hFL]) ⟨hs, by simp, rfl, rfl, fun _ z => z⟩ ?_ ?_
              · rintro pr r _ ⟨hs', rfl, hse, hke, hin⟩
                have hpin := hin pr List.mem_cons_self
                have hkin : pr.1 ∈ hs'.map fun p => p.1 := by
                  rw [hke]
                  refine (hpm.map (fun p : Int × Int => p.1)).mem_iff.mpr ?_
                  have : pr.1 ∈ full.map fun p => p.1 := List.mem_map_of_mem hpin
                  rw [← hFu, addAll_keys] at this
                  exact this
                have hh := @count_key pr.1 hs'
                rw [decide_eq_true hkin] at hh
                obtain ⟨t, ht⟩ := Option.isSome_iff_exists.mp hh
                have hdp := @dput_there hs' pr.1 t (pr.2 - ownOf ch pr.1) ht
                have hlen' : hs'.length = hs.length := by
                  have := congrArg List.length hke
                  rw [List.length_map, List.length_map] at this
                  exact this
                have hlcf := e_lcf1 (T := T) (Γ := view [some (.mp p (.d (kvD hs'))), EE, AA, some (.fz (.str "")), MM, FL, none, RS, some (.fz (eP pr)), none]) (t := 9) (a := .ix (.var 2) (.cst (.int 1))) (c := .eq false (.ix (.var 9) (.cst (.int 0))) (.ix (.var 8) (.cst (.int 0)))) (e := .ix (.var 9) (.cst (.int 1))) (ps := ch) (q := fun x => decide (x.1 = pr.1)) (h := fun x => .int x.2) (by simp [← hAA, a1]) (by omega) (fun x hx => ⟨by simp, fun _ => by simp⟩)
                have hsu : sumD (.list ((ch.filter fun x => decide (x.1 = pr.1)).map fun x => PyData.int x.2)) = .ok (.int (ownOf ch pr.1)) := by
                  have : ((ch.filter fun x => decide (x.1 = pr.1)).map fun x => PyData.int x.2) = ((ch.filter fun x => decide (x.1 = pr.1)).map fun x => x.2).map PyData.int := by rw [List.map_map]; rfl
                  rw [this, sum_l]
                  rfl
                show wpSs T _ _ [some (.mp p (.d (kvD hs'))), EE, AA, some (.fz (.str "")), MM, FL, none, RS, some (.fz (eP pr)), none]
                have hval : ev T (view [some (.mp p (.d (kvD hs'))), EE, AA, some (.fz (.str "")), MM, FL, none, RS, some (.fz (eP pr)), none]) (.bin .sub (.ix (.var 8) (.cst (.int 1))) (.sum (.f (.lcf [9] (.il (.ix (.var 2) (.cst (.int 1)))) (.eq false (.ix (.var 9) (.cst (.int 0))) (.ix (.var 8) (.cst (.int 0)))) (.ix (.var 9) (.cst (.int 1))))))) = .ok (.int (pr.2 - ownOf ch pr.1)) := by
                  rw [e_bin, e_sum, e_f, hlcf, map_ok, bind_ok, hsu]
                  simp
                rw [w_cons, w_dsetP]
                refine ⟨p, kvD hs', own _ _, ?_⟩
                rw [hval, on_ok]
                refine ⟨rfl, ?_⟩
                have hkey : ev T (view [some (.mp p (.d (kvD hs'))), EE, AA, some (.fz (.str "")), MM, FL, none, RS, some (.fz (eP pr)), none]) (.ix (.var 8) (.cst (.int 0))) = .ok (.int pr.1) := by simp
                rw [hkey, on_ok]
                refine ⟨pr.1, rfl, by rw [kvD_len]; omega, ?_⟩
                rw [hdp]
                exact ⟨withCount hs' pr.1 (pr.2 - ownOf ch pr.1), rfl, hse, by rw [withCount_keys]; exact hke, fun q hq => hin q (List.mem_cons_of_mem _ hq)⟩
              · rintro _ ⟨hs', rfl, hse, _, _⟩
                have : hs' = setAll ch full hs := hse
                rw [this]
            rintro _ rfl
            rw [w_cons, w_retP]
            rw [e_cst, on_ok]
            refine ⟨rfl, p, _, own _ _, ?_⟩
            rw [← hGD]
            rfl
      | brought v c => cases hpay
      | fetched v c => cases hpay
      | kin v => cases hpay
      | kout v => cases hpay
      | other w xs => cases hpay
    · cases h4
  · cases h
/-! ### k09: an answer told right -/
def ph_l_right : List D → Option Out
  | [.tuple ds, d, .tuple [.str w, .list cs]] => (decP ds).bind fun hs => (decDeed d).bind fun e => (decP cs).bind fun ch => if ansOk hs e w ch then rightO hs e else none
  | _ => none
theorem ar_l_right : ∀ ds o, ph_l_right ds = some o → ds.length = 3 := by
  intro ds o h
  unfold ph_l_right at h
  split at h
  · rfl
  · cases h
theorem v_right {hs : List (Int × Int)} {e : Deed} (g : e.good) (h : Tl (pSort hs)) : ph_l_right [.tuple (hs.map eP), e.enc, ansD ((doneD (pSort hs) e).word, (doneD (pSort hs) e).chg)] = rightO hs e := by
  simp only [ph_l_right, ansD, decP_map, decDeed_enc g, Option.bind_some]
  rw [if_pos ⟨h, rfl, rfl⟩]
theorem wp_l_right {ca : Nat → Addr} {xs : List Nat} : ∀ c ds q c' x, ph_l_right (c.enc :: ds) = some (.mu q c' x) → ∀ p, wpSs ⟨[ph_l_paid, ph_l_moved, ph_l_kind], ca, xs, none⟩ g_l_right (gdM p c' x) (startM n_l_right p c ds) := by
  intro c ds q c' x h p
  unfold ph_l_right at h
  split at h
  · rename_i es d w cs e0
    obtain ⟨h0, rfl⟩ := List.cons.inj e0
    obtain ⟨hs, e1, h2⟩ := bindO h
    clear h
    obtain ⟨e, e2, h3⟩ := bindO h2
    clear h2
    obtain ⟨ch, e3, h4⟩ := bindO h3
    clear h3
    cases cn_of h0 e1
    obtain ⟨rfl, hg⟩ := decDeed_sound e2
    cases decP_sound e3
    split at h4
    · rename_i hq
      obtain ⟨htl, hw, hch⟩ := hq
      cases h4
      clear e0 h0 e1 e2 e3
      have hpm : hs.Perm (pSort hs) := (pSort_perm hs).symm
      have hsl : hs.length ≤ 1000 := by
        rw [hpm.length_eq]
        have := htl.2.2.2.2
        omega
      have hok : okW w = true := by rw [hw]; exact okW_word _
      have hvp := @v_l_paid hs e hg
      have hvm := @v_moved hs e hg hsl
      have hvk := @v_kind hs e hg hsl
      rw [← hw, ← hch] at hvp
      show wpSs _ _ _ [some (.mp p (.d (kvD hs))), some (.fz e.enc), some (.fz (ansD (w, ch))), none]
      have a1 : ixD (ansD (w, ch)) (.int 1) = .ok (.list (ch.map eP)) := rfl
      have at1 : isiD .tuple (ansD (w, ch)) = true := rfl
      have at2 : lenD (ansD (w, ch)) = .ok (.int 2) := rfl
      have at3 : isiD .list (.list (ch.map eP)) = true := rfl
      have own : ∀ (kvs : List (Int × D)) (l : TD.Env), ownM (some (Sl.mp p (.d kvs)) :: l) 0 = some (p, .d kvs) := fun _ _ => rfl
      generalize hT : (⟨[ph_l_paid, ph_l_moved, ph_l_kind], ca, xs, none⟩ : Tb) = T
      have hae := @ans_eq false w [] hok
      generalize hAA : (some (Sl.fz (ansD (w, ch)))) = AA
      have fin : ∀ (hs' : List (Int × Int)) (EE : Option Sl), ch = [] → wpSs T (.cons (.retP (.eq false (.var 2) (.tup (.cons (.var 3) (.cons (.f (.lst (.nil))) (.nil)))))) (.nil)) (gdM p (.d (kvD hs')) (.bool true)) [some (.mp p (.d (kvD hs'))), EE, AA, some (.fz (.str w))] := fun hs' EE hc => by
        subst hc
        have hev : ev T (view [some (.mp p (.d (kvD hs'))), EE, AA, some (.fz (.str w))]) (.eq false (.var 2) (.tup (.cons (.var 3) (.cons (.f (.lst (.nil))) (.nil))))) = .ok (.bool true) := by
          have : ev T (view [some (.mp p (.d (kvD hs'))), EE, AA, some (.fz (.str w))]) (.tup (.cons (.var 3) (.cons (.f (.lst (.nil))) (.nil)))) = .ok (ansD (w, [])) := by
            simp [ansD]
          rw [e_eq, this]
          simp only [e_var, view_cons, ← hAA, Option.bind_some, vw_fz, List.getElem?_cons_succ, List.getElem?_cons_zero, varD_ok, bind_ok]
          rw [hae]
          rfl
        rw [w_cons, w_retP, hev, on_ok]
        exact ⟨rfl, p, _, own _ _, rfl⟩
      unfold g_l_right
      refine wp_cut (fun Γ => Γ = [some (.mp p (.d (kvD hs))), some (.fz e.enc), AA, none]) (by simp [← hAA, at1, at2, at3, a1]) ?_
      rintro _ rfl
      cases e with
      | paid price vs =>
        have hc : ev T (view [some (.mp p (.d (kvD hs))), some (.fz (Deed.paid price vs).enc), AA, none]) (.eq false (.ix (.var 1) (.cst (.int 0))) (.cst (.str "paid"))) = .ok (.bool true) := by simp [Deed.enc]
        rw [w_cons, w_ifs, hc, on_ok, isT_b]
        refine ⟨fun _ => ?_, fun z => by cases z⟩
        rw [w_cons, w_retM]
        refine ⟨p, .d (kvD hs), [(Deed.paid price vs).enc, ansD (w, ch)], .d (kvD (afterH hs (.paid price vs))), .bool true, own _ _, by simp [← hAA], ?_, trivial, rfl⟩
        refine callM_of (φ := ph_l_paid) (by rw [← hT]; rfl) (q := 0) ?_
        rw [enc_kv]
        exact hvp rfl htl
      | brought v c =>
        have hcn : ch = [] := by rw [hch]; exact chg_nil
        have hwd : (movedH hs true v c).2 = w := by rw [hw]; exact (moved_word htl hpm).1
        refine wp_cut (fun Γ => Γ = [some (.mp p (.d (kvD hs))), some (.fz (Deed.brought v c).enc), AA, none]) (by simp [Deed.enc]) ?_
        rintro _ rfl
        refine wp_cut (fun Γ => Γ = [some (.mp p (.d (kvD hs))), some (.fz (Deed.brought v c).enc), AA, some (.fz (.str "no deed"))]) (by simp) ?_
        rintro _ rfl
        refine wp_cut (fun Γ => Γ = [some (.mp p (.d (kvD (movedH hs true v c).1))), some (.fz (Deed.brought v c).enc), AA, some (.fz (.str w))]) ?_ ?_
        · have hc : ev T (view [some (.mp p (.d (kvD hs))), some (.fz (Deed.brought v c).enc), AA, some (.fz (.str "no deed"))]) (.or (.eq false (.ix (.var 1) (.cst (.int 0))) (.cst (.str "brought"))) (.eq false (.ix (.var 1) (.cst (.int 0))) (.cst (.str "fetched")))) = .ok (.bool true) := by simp [Deed.enc]
          rw [w_ifs, hc, on_ok, isT_b]
          refine ⟨fun _ => ?_, fun z => by cases z⟩
          rw [w_cons, w_callM]
          refine ⟨.d (kvD hs), [(Deed.brought v c).enc], .d (kvD (movedH hs true v c).1), .str (movedH hs true v c).2, rfl, by simp, ?_, trivial, ?_⟩
          · refine callM_of (φ := ph_l_moved) (by rw [← hT]; rfl) (q := 0) ?_
            rw [enc_kv]
            exact hvm
          · rw [hwd]
            rfl
        rintro _ rfl
        refine wp_cut (fun Γ => Γ = [some (.mp p (.d (kvD (movedH hs true v c).1))), some (.fz (Deed.brought v c).enc), AA, some (.fz (.str w))]) (by simp [Deed.enc]) ?_
        rintro _ rfl
        exact fin _ _ hcn
      | fetched v c =>
        have hcn : ch = [] := by rw [hch]; exact chg_nil
        have hwd : (movedH hs false v c).2 = w := by rw [hw]; exact (moved_word htl hpm).2
        refine wp_cut (fun Γ => Γ = [some (.mp p (.d (kvD hs))), some (.fz (Deed.fetched v c).enc), AA, none]) (by simp [Deed.enc]) ?_
        rintro _ rfl
        refine wp_cut (fun Γ => Γ = [some (.mp p (.d (kvD hs))), some (.fz (Deed.fetched v c).enc), AA, some (.fz (.str "no deed"))]) (by simp) ?_
        rintro _ rfl
        refine wp_cut (fun Γ => Γ = [some (.mp p (.d (kvD (movedH hs false v c).1))), some (.fz (Deed.fetched v c).enc), AA, some (.fz (.str w))]) ?_ ?_
        · have hc : ev T (view [some (.mp p (.d (kvD hs))), some (.fz (Deed.fetched v c).enc), AA, some (.fz (.str "no deed"))]) (.or (.eq false (.ix (.var 1) (.cst (.int 0))) (.cst (.str "brought"))) (.eq false (.ix (.var 1) (.cst (.int 0))) (.cst (.str "fetched")))) = .ok (.bool true) := by simp [Deed.enc]
          rw [w_ifs, hc, on_ok, isT_b]
          refine ⟨fun _ => ?_, fun z => by cases z⟩
          rw [w_cons, w_callM]
          refine ⟨.d (kvD hs), [(Deed.fetched v c).enc], .d (kvD (movedH hs false v c).1), .str (movedH hs false v c).2, rfl, by simp, ?_, trivial, ?_⟩
          · refine callM_of (φ := ph_l_moved) (by rw [← hT]; rfl) (q := 0) ?_
            rw [enc_kv]
            exact hvm
          · rw [hwd]
            rfl
        rintro _ rfl
        refine wp_cut (fun Γ => Γ = [some (.mp p (.d (kvD (movedH hs false v c).1))), some (.fz (Deed.fetched v c).enc), AA, some (.fz (.str w))]) (by simp [Deed.enc]) ?_
        rintro _ rfl
        exact fin _ _ hcn
      | kin v =>
        have hcn : ch = [] := by rw [hch]; exact chg_nil
        have hwd : (kindH hs true v).2 = w := by rw [hw]; exact (kind_word htl hpm).1
        refine wp_cut (fun Γ => Γ = [some (.mp p (.d (kvD hs))), some (.fz (Deed.kin v).enc), AA, none]) (by simp [Deed.enc]) ?_
        rintro _ rfl
        refine wp_cut (fun Γ => Γ = [some (.mp p (.d (kvD hs))), some (.fz (Deed.kin v).enc), AA, some (.fz (.str "no deed"))]) (by simp) ?_
        rintro _ rfl
        refine wp_cut (fun Γ => Γ = [some (.mp p (.d (kvD hs))), some (.fz (Deed.kin v).enc), AA, some (.fz (.str "no deed"))]) (by simp [Deed.enc]) ?_
        rintro _ rfl
        refine wp_cut (fun Γ => Γ = [some (.mp p (.d (kvD (kindH hs true v).1))), some (.fz (Deed.kin v).enc), AA, some (.fz (.str w))]) ?_ ?_
        · have hc : ev T (view [some (.mp p (.d (kvD hs))), some (.fz (Deed.kin v).enc), AA, some (.fz (.str "no deed"))]) (.or (.eq false (.ix (.var 1) (.cst (.int 0))) (.cst (.str "in"))) (.eq false (.ix (.var 1) (.cst (.int 0))) (.cst (.str "out")))) = .ok (.bool true) := by simp [Deed.enc]
          rw [w_ifs, hc, on_ok, isT_b]
          refine ⟨fun _ => ?_, fun z => by cases z⟩
          rw [w_cons, w_callM]
          refine ⟨.d (kvD hs), [(Deed.kin v).enc], .d (kvD (kindH hs true v).1), .str (kindH hs true v).2, rfl, by simp, ?_, trivial, ?_⟩
          · refine callM_of (φ := ph_l_kind) (by rw [← hT]; rfl) (q := 0) ?_
            rw [enc_kv]
            exact hvk
          · rw [hwd]
            rfl
        rintro _ rfl
        exact fin _ _ hcn
      | kout v =>
        have hcn : ch = [] := by rw [hch]; exact chg_nil
        have hwd : (kindH hs false v).2 = w := by rw [hw]; exact (kind_word htl hpm).2
        refine wp_cut (fun Γ => Γ = [some (.mp p (.d (kvD hs))), some (.fz (Deed.kout v).enc), AA, none]) (by simp [Deed.enc]) ?_
        rintro _ rfl
        refine wp_cut (fun Γ => Γ = [some (.mp p (.d (kvD hs))), some (.fz (Deed.kout v).enc), AA, some (.fz (.str "no deed"))]) (by simp) ?_
        rintro _ rfl
        refine wp_cut (fun Γ => Γ = [some (.mp p (.d (kvD hs))), some (.fz (Deed.kout v).enc), AA, some (.fz (.str "no deed"))]) (by simp [Deed.enc]) ?_
        rintro _ rfl
        refine wp_cut (fun Γ => Γ = [some (.mp p (.d (kvD (kindH hs false v).1))), some (.fz (Deed.kout v).enc), AA, some (.fz (.str w))]) ?_ ?_
        · have hc : ev T (view [some (.mp p (.d (kvD hs))), some (.fz (Deed.kout v).enc), AA, some (.fz (.str "no deed"))]) (.or (.eq false (.ix (.var 1) (.cst (.int 0))) (.cst (.str "in"))) (.eq false (.ix (.var 1) (.cst (.int 0))) (.cst (.str "out")))) = .ok (.bool true) := by simp [Deed.enc]
          rw [w_ifs, hc, on_ok, isT_b]
          refine ⟨fun _ => ?_, fun z => by cases z⟩
          rw [w_cons, w_callM]
          refine ⟨.d (kvD hs), [(Deed.kout v).enc], .d (kvD (kindH hs false v).1), .str (kindH hs false v).2, rfl, by simp, ?_, trivial, ?_⟩
          · refine callM_of (φ := ph_l_kind) (by rw [← hT]; rfl) (q := 0) ?_
            rw [enc_kv]
            exact hvk
          · rw [hwd]
            rfl
        rintro _ rfl
        exact fin _ _ hcn
      | other w2 xs =>
        obtain ⟨n1, n2, n3, n4, n5⟩ := hg
        have hcn : ch = [] := hch
        have hwd : w = "no deed" := hw
        refine wp_cut (fun Γ => Γ = [some (.mp p (.d (kvD hs))), some (.fz (Deed.other w2 xs).enc), AA, none]) (by simp [Deed.enc, n1]) ?_
        rintro _ rfl
        refine wp_cut (fun Γ => Γ = [some (.mp p (.d (kvD hs))), some (.fz (Deed.other w2 xs).enc), AA, some (.fz (.str w))]) (by simp [hwd]) ?_
        rintro _ rfl
        refine wp_cut (fun Γ => Γ = [some (.mp p (.d (kvD hs))), some (.fz (Deed.other w2 xs).enc), AA, some (.fz (.str w))]) (by simp [Deed.enc, n2, n3]) ?_
        rintro _ rfl
        refine wp_cut (fun Γ => Γ = [some (.mp p (.d (kvD hs))), some (.fz (Deed.other w2 xs).enc), AA, some (.fz (.str w))]) (by simp [Deed.enc, n4, n5]) ?_
        rintro _ rfl
        exact fin _ _ hcn
    · cases h4
  · cases h
/-! ### copies of deeds -/
def ph_l_copies : List D → Option Out
  | [.list es] => (decDs es).bind fun l => if l.length ≤ 1000 then some (.ret (.on (l.map Deed.toR))) else none
  | _ => none
theorem ar_l_copies : ∀ ds o, ph_l_copies ds = some o → ds.length = 1 := by
  intro ds o h
  unfold ph_l_copies at h
  split at h
  · rfl
  · cases h
theorem v_copies {l : List Deed} (g : ∀ e ∈ l, e.good) (h : l.length ≤ 1000) : ph_l_copies [.list (l.map Deed.enc)] = some (.ret (.on (l.map Deed.toR))) := by
  simp only [ph_l_copies, decDs_map g, Option.bind_some, if_pos h]
theorem toDs_deeds (l : List Deed) : R.toDs (l.map Deed.toR) = l.map Deed.enc := toDs_map toR_toD l
theorem imms_deeds (l : List Deed) : R.imms (l.map Deed.toR) = true := imms_map toR_imm l
theorem wp_l_copies {ca : Nat → Addr} {xs : List Nat} : ∀ ds o, ph_l_copies ds = some o → wpSs ⟨[], ca, xs, none⟩ g_l_copies (gdOf o) (startE n_l_copies ds) := by
  intro ds o h
  unfold ph_l_copies at h
  split at h
  · rename_i es
    obtain ⟨l, e1, h2⟩ := bindO h
    clear h
    obtain ⟨rfl, hg⟩ := decDs_sound e1
    split at h2
    · rename_i hl
      cases h2
      generalize hL : (some (Sl.fz (.list (l.map Deed.enc)))) = L
      generalize hT : (⟨[], ca, xs, none⟩ : Tb) = T
      unfold g_l_copies
      refine wp_cut (fun Γ => Γ = [L, some (.own (.on [])), none]) (by
        simp only [startE, n_l_copies]
        simp [← hL]) ?_
      rintro _ rfl
      refine wp_cut (fun Γ => Γ = [L, some (.own (.on (l.map Deed.toR))), none]) ?_ ?_
      · refine wp_map (f := Deed.enc) (xs := l) (fun r Γ => ∃ m : List Deed, Γ = [L, some (.own (.on (m.map Deed.toR))), none] ∧ m ++ r = l ∧ ∀ e ∈ r, e.good) (by simp [← hL]) ⟨[], rfl, rfl, hg⟩ ?_ ?_
        · rintro e r _ ⟨m, rfl, hm, hgr⟩
          have hml : m.length ≤ 1000 := by
            have := congrArg List.length hm
            rw [List.length_append, List.length_cons] at this
            omega
          refine wp_cut (fun Γ => Γ = [L, some (.own (.on ((m ++ [e]).map Deed.toR))), some (.fz e.enc)]) ?_ ?_
          · rw [List.map_append]
            show TD.wpS T _ _ [L, some (.own (.on (m.map Deed.toR))), some (.fz e.enc)]
            cases e with
            | paid pr g =>
              have hc : ev T (view [L, some (.own (.on (m.map Deed.toR))), some (.fz (Deed.paid pr g).enc)]) (.eq false (.ix (.var 2) (.cst (.int 0))) (.cst (.str "paid"))) = .ok (.bool true) := by simp [Deed.enc]
              rw [w_ifs, hc, on_ok, isT_b]
              refine ⟨fun _ => ?_, fun z => by cases z⟩
              rw [w_cons, w_appR]
              refine ⟨m.map Deed.toR, rfl, by rw [List.length_map]; omega, ?_⟩
              simp [Deed.enc, Deed.toR]
            | other w xs =>
              obtain ⟨n1, n2, n3, n4, n5⟩ := hgr (.other w xs) List.mem_cons_self
              have hc : ev T (view [L, some (.own (.on (m.map Deed.toR))), some (.fz (Deed.other w xs).enc)]) (.eq false (.ix (.var 2) (.cst (.int 0))) (.cst (.str "paid"))) = .ok (.bool false) := by simp [Deed.enc, n1]
              rw [w_ifs, hc, on_ok, isT_b]
              refine ⟨fun z => (by cases z), fun _ => ?_⟩
              rw [w_cons, w_appR]
              refine ⟨m.map Deed.toR, rfl, by rw [List.length_map]; omega, ?_⟩
              have hi : TD.imm (Deed.other w xs).enc = true := enc_imm
              simp [hi, Deed.toR]
            | brought v c =>
              have hc : ev T (view [L, some (.own (.on (m.map Deed.toR))), some (.fz (Deed.brought v c).enc)]) (.eq false (.ix (.var 2) (.cst (.int 0))) (.cst (.str "paid"))) = .ok (.bool false) := by simp [Deed.enc]
              rw [w_ifs, hc, on_ok, isT_b]
              refine ⟨fun z => (by cases z), fun _ => ?_⟩
              rw [w_cons, w_appR]
              refine ⟨m.map Deed.toR, rfl, by rw [List.length_map]; omega, ?_⟩
              have hi : TD.imm (Deed.brought v c).enc = true := rfl
              simp [hi, Deed.toR]
            | fetched v c =>
              have hc : ev T (view [L, some (.own (.on (m.map Deed.toR))), some (.fz (Deed.fetched v c).enc)]) (.eq false (.ix (.var 2) (.cst (.int 0))) (.cst (.str "paid"))) = .ok (.bool false) := by simp [Deed.enc]
              rw [w_ifs, hc, on_ok, isT_b]
              refine ⟨fun z => (by cases z), fun _ => ?_⟩
              rw [w_cons, w_appR]
              refine ⟨m.map Deed.toR, rfl, by rw [List.length_map]; omega, ?_⟩
              have hi : TD.imm (Deed.fetched v c).enc = true := rfl
              simp [hi, Deed.toR]
            | kin v =>
              have hc : ev T (view [L, some (.own (.on (m.map Deed.toR))), some (.fz (Deed.kin v).enc)]) (.eq false (.ix (.var 2) (.cst (.int 0))) (.cst (.str "paid"))) = .ok (.bool false) := by simp [Deed.enc]
              rw [w_ifs, hc, on_ok, isT_b]
              refine ⟨fun z => (by cases z), fun _ => ?_⟩
              rw [w_cons, w_appR]
              refine ⟨m.map Deed.toR, rfl, by rw [List.length_map]; omega, ?_⟩
              have hi : TD.imm (Deed.kin v).enc = true := rfl
              simp [hi, Deed.toR]
            | kout v =>
              have hc : ev T (view [L, some (.own (.on (m.map Deed.toR))), some (.fz (Deed.kout v).enc)]) (.eq false (.ix (.var 2) (.cst (.int 0))) (.cst (.str "paid"))) = .ok (.bool false) := by simp [Deed.enc]
              rw [w_ifs, hc, on_ok, isT_b]
              refine ⟨fun z => (by cases z), fun _ => ?_⟩
              rw [w_cons, w_appR]
              refine ⟨m.map Deed.toR, rfl, by rw [List.length_map]; omega, ?_⟩
              have hi : TD.imm (Deed.kout v).enc = true := rfl
              simp [hi, Deed.toR]
          rintro _ rfl
          rw [w_nil]
          exact ⟨m ++ [e], rfl, by rw [List.append_assoc]; exact hm, fun x hx => hgr x (List.mem_cons_of_mem _ hx)⟩
        · rintro _ ⟨m, rfl, hm, _⟩
          rw [List.append_nil] at hm
          rw [hm]
      rintro _ rfl
      rw [w_cons, w_retMv]
      exact ⟨_, rfl, imms_deeds _, rfl⟩
    · cases h2
  · cases h
/-! ### k09: the lists given are each one of its own -/
theorem chg_len {ps : List (Int × Int)} (h : Tl ps) (e : Deed) : (doneD ps e).chg.length ≤ 1000 := by
  cases hd : doneD ps e with
  | er x => exact Nat.zero_le _
  | ok a b =>
    show b.length ≤ 1000
    have nil : ∀ d : Dd, d.pd = .ok a b → b.length ≤ 1000 := fun d hd => by
      cases d with
      | er x => cases hd
      | ok c => cases hd; exact Nat.zero_le _
    cases e with
    | paid p g =>
      obtain ⟨M, _, _, _, hf, _⟩ := paid_ok h hd
      exact (few_len (addAll_ok h.1 g) hf).1
    | brought v c => exact nil _ hd
    | fetched v c => exact nil _ hd
    | kin v => exact nil _ hd
    | kout v => exact nil _ hd
    | other w xs => cases hd
theorem runD_ans : ∀ {l : List Deed} {ps : List (Int × Int)}, Tl ps → ∀ a ∈ (runD ps l).2, okW a.1 = true ∧ a.2.length ≤ 1000
  | [], _, _, a, ha => by cases ha
  | e :: l, ps, h, a, ha => by
    rcases List.mem_cons.mp (show a ∈ ((doneD ps e).word, (doneD ps e).chg) :: (runD ((doneD ps e).till ps) l).2 from ha) with rfl | ha
    · exact ⟨okW_word _, chg_len h e⟩
    · exact runD_ans (done_tl h e) a ha
theorem okS_answers {as : List (Str × List (Int × Int))} (h : ∀ a ∈ as, okW a.1 = true) : okS 4 (.list (as.map ansD)) = true := List.all_eq_true.mpr fun d hd => by
  obtain ⟨a, ha, rfl⟩ := List.mem_map.mp hd
  exact okS_ans (h a ha)
theorem shp_pairs (qs : List (Int × Int)) : shp (.list (qs.map eP)) = .ol (qs.map eP) := by
  show (if immA (qs.map eP) = true then R.ol (qs.map eP) else .on (shps (qs.map eP))) = _
  rw [if_pos immA_pair]
theorem shp_ans (a : Str × List (Int × Int)) : shp (ansD a) = ansR a := by
  show (if immA [PyData.str a.1, .list (a.2.map eP)] = true then R.im (.tuple [PyData.str a.1, .list (a.2.map eP)]) else .ot (shps [PyData.str a.1, .list (a.2.map eP)])) = _
  rw [if_neg (by simp [TD.imm])]
  show R.ot [.im (.str a.1), shp (.list (a.2.map eP))] = _
  rw [shp_pairs]
  rfl
theorem shps_ans : ∀ as : List (Str × List (Int × Int)), shps (as.map ansD) = as.map ansR
  | [] => rfl
  | a :: r => by
    show shp (ansD a) :: shps (r.map ansD) = _
    rw [shp_ans, shps_ans r]
    rfl
theorem nrm_toD (as : List (Str × List (Int × Int))) : (R.on (as.map ansR)).nrm.toD = .list (as.map ansD) := by
  cases as with
  | nil => rfl
  | cons a r => exact congrArg PyData.list (toDs_ans (a :: r))
theorem shp_answers (as : List (Str × List (Int × Int))) : shp (.list (as.map ansD)) = (R.on (as.map ansR)).nrm := by
  cases as with
  | nil => rfl
  | cons a r =>
    show (if immA (ansD a :: r.map ansD) = true then R.ol ((a :: r).map ansD) else .on (shps ((a :: r).map ansD))) = _
    rw [if_neg (by simp [ansD, TD.imm]), shps_ans]
    rfl
theorem dayR_toD (ps : List (Int × Int)) (l : List Deed) : (dayR ps l).toD = .tuple [.list ((runD ps l).1.map eP), .list ((runD ps l).2.map ansD)] := by
  show PyData.tuple [.list ((runD ps l).1.map eP), (R.on ((runD ps l).2.map ansR)).nrm.toD] = _
  rw [nrm_toD]
theorem shp_two {qs : List (Int × Int)} {as : List (Str × List (Int × Int))} : shp (.tuple [.list (qs.map eP), .list (as.map ansD)]) = .ot [.ol (qs.map eP), (R.on (as.map ansR)).nrm] := by
  show (if immA [PyData.list (qs.map eP), .list (as.map ansD)] = true then R.im (.tuple [PyData.list (qs.map eP), .list (as.map ansD)]) else .ot (shps [PyData.list (qs.map eP), .list (as.map ansD)])) = _
  rw [if_neg (by simp [TD.imm])]
  show R.ot [shp (.list (qs.map eP)), shp (.list (as.map ansD))] = _
  rw [shp_pairs, shp_answers]
theorem shp_day (ps : List (Int × Int)) (l : List Deed) : shp (dayR ps l).toD = dayR ps l := by
  rw [dayR_toD, shp_two]
  rfl
theorem dayR_imm (ps : List (Int × Int)) (l : List Deed) : (dayR ps l).imm = true := by
  show (immA ((runD ps l).1.map eP) && ((R.on ((runD ps l).2.map ansR)).nrm.imm && true)) = true
  rw [immA_pair, R.nrm_imm (r := .on ((runD ps l).2.map ansR)) (imms_ans _)]
  rfl
theorem i_il {α : Type} {f : α → D} {T : Tb} {Γ : TD.Env} {a : GE} {xs : List α} (he : ev T Γ a = .ok (.list (xs.map f))) : evI T Γ (.il a) = .ok (xs.map fun p => [f p]) := by
  show (ev T Γ a).bind _ = _
  rw [he]
  show Rs.ok ((xs.map f).map fun d => [d]) = _
  rw [List.map_map]
  rfl
/-! the answers, some of them changed -/
def add7 (a : Str × List (Int × Int)) : Str × List (Int × Int) := (a.1, a.2 ++ [(7, 7)])
def someK (as : List (Str × List (Int × Int))) (k : Nat) : List (Str × List (Int × Int)) := (as.take k).map add7 ++ as.drop k
theorem someK_len {as : List (Str × List (Int × Int))} {k : Nat} : (someK as k).length = as.length := by
  unfold someK
  rw [List.length_append, List.length_map, List.length_take, List.length_drop]
  omega
theorem someK_at {as : List (Str × List (Int × Int))} {k : Nat} (h : k < as.length) : (someK as k)[k]? = some as[k] := by
  unfold someK
  have hl : ((as.take k).map add7).length = k := by rw [List.length_map, List.length_take]; omega
  rw [List.getElem?_append_right (by omega), hl, Nat.sub_self, List.getElem?_drop, Nat.add_zero, List.getElem?_eq_getElem h]
theorem someK_set {as : List (Str × List (Int × Int))} {k : Nat} (h : k < as.length) : (someK as k).set k (add7 as[k]) = someK as (k + 1) := by
  unfold someK
  have hl : ((as.take k).map add7).length = k := by rw [List.length_map, List.length_take]; omega
  have hk : as[k]? = some as[k] := List.getElem?_eq_getElem h
  rw [List.set_append_right _ _ (by omega), hl, Nat.sub_self, List.drop_eq_getElem_cons h, List.set_cons_zero, List.take_add_one, hk, List.map_append, List.append_assoc]
  rfl
theorem someK_drop {as : List (Str × List (Int × Int))} {k : Nat} (h : k ≤ as.length) : (someK as k).drop k = as.drop k := by
  unfold someK
  have hl : ((as.take k).map add7).length = k := by rw [List.length_map, List.length_take]; omega
  rw [List.drop_append, hl, Nat.sub_self, List.drop_zero, List.drop_eq_nil_of_le (by omega), List.nil_append]
open Classical in
noncomputable def ph_l_again : List D → Option Out
  | [.list ds, .list es, fd, .list us] => (decP ds).bind fun ps => (decDs es).bind fun l => if (Tl ps ∧ l.length ≤ 1000) ∧ fd = (dayR ps l).toD ∧ us = (runD ps l).1.map eP then some (oB true) else none
  | _ => none
theorem ar_l_again : ∀ ds o, ph_l_again ds = some o → ds.length = 4 := by
  intro ds o h
  unfold ph_l_again at h
  split at h
  · rfl
  · cases h
theorem v_again {ps : List (Int × Int)} {l : List Deed} (h : Tl ps) (g : ∀ e ∈ l, e.good) (hl : l.length ≤ 1000) : ph_l_again [.list (ps.map eP), .list (l.map Deed.enc), (dayR ps l).toD, .list ((runD ps l).1.map eP)] = some (oB true) := by
  simp only [ph_l_again, decP_map, decDs_map g, Option.bind_some]
  rw [if_pos ⟨⟨h, hl⟩, trivial, trivial⟩]
theorem wp_l_again {ca : Nat → Addr} {xs : List Nat} : ∀ ds1 d ds2 o, ds1.length = 2 → ph_l_again (ds1 ++ d :: ds2) = some o → wpSs ⟨[ph_day], ca, xs, none⟩ g_l_again (gdOf o) (startK n_l_again ds1 (shp d) ds2) := by
  intro ds1 d ds2 o hn h
  match ds1, hn with
  | [a, b], _ =>
  have h' : ph_l_again (a :: b :: d :: ds2) = some o := h
  clear h
  unfold ph_l_again at h'
  split at h'
  · rename_i ds es fd us e0
    injection e0 with q1 e0
    injection e0 with q2 e0
    injection e0 with q3 e0
    subst q1 q2 q3 e0
    obtain ⟨ps, e1, h2⟩ := bindO h'
    clear h'
    obtain ⟨l, e2, h3⟩ := bindO h2
    clear h2
    cases decP_sound e1
    obtain ⟨rfl, hg⟩ := decDs_sound e2
    split at h3
    · rename_i hq
      obtain ⟨⟨htl, hl⟩, rfl, rfl⟩ := hq
      cases h3
      have vd := v_day htl hg hl
      have hra := runD_ans (l := l) htl
      have hrl := runD_len (l := l) (ps := ps)
      have hdd := dayR_toD ps l
      have hsd := shp_day ps l
      rw [hdd] at hsd
      rw [hdd]
      generalize hDR : dayR ps l = DR at vd hdd hsd
      rw [hsd, ← hDR]
      unfold dayR
      generalize (runD ps l).1 = qs at *
      generalize (runD ps l).2 = as at *
      clear hsd e1 e2
      have hal : as.length ≤ 1000 := by omega
      have hso := okS_answers (as := as) fun a ha => (hra a ha).1
      have hsq : okS 2 (.list (qs.map eP)) = true := okS_pairs qs
      generalize hT : (⟨[ph_day], ca, xs, none⟩ : Tb) = T
      generalize hF : (some (Sl.fz (.list (ps.map eP)))) = F
      generalize hH : (some (Sl.fz (.list (l.map Deed.enc)))) = HH
      generalize hQ : (some (Sl.fz (.list (qs.map eP)))) = Q
      have hst : startK n_l_again [.list (ps.map eP), .list (l.map Deed.enc)] (.ot [.ol (qs.map eP), (R.on (as.map ansR)).nrm]) [.list (qs.map eP)] = [F, HH, some (.own (.ot [.ol (qs.map eP), (R.on (as.map ansR)).nrm])), Q, none, none, none, none] := by
        rw [← hF, ← hH, ← hQ]
        rfl
      rw [hst]
      clear hst
      have tD : ∀ bs : List (Str × List (Int × Int)), (R.ot [.ol (qs.map eP), (R.on (bs.map ansR)).nrm]).toD = .tuple [.list (qs.map eP), .list (bs.map ansD)] := fun bs => by
        show PyData.tuple [.list (qs.map eP), (R.on (bs.map ansR)).nrm.toD] = _
        rw [nrm_toD]
      unfold g_l_again
      generalize hKP : (some (Sl.own (.on (as.map ansR)))) = KP
      refine wp_cut (fun Γ => Γ = [F, HH, some (.own (.ot [.ol (qs.map eP), (R.on (as.map ansR)).nrm])), Q, KP, none, none, none]) ?_ ?_
      · rw [w_asgR, r_lcR]
        have hi : evI T (view [F, HH, some (.own (.ot [.ol (qs.map eP), (R.on (as.map ansR)).nrm])), Q, none, none, none, none]) (.il (.ix (.var 2) (.cst (.int 1)))) = .ok (as.map fun a => [ansD a]) := by
          have h1 : ev T (view [F, HH, some (.own (.ot [.ol (qs.map eP), (R.on (as.map ansR)).nrm])), Q, none, none, none, none]) (.ix (.var 2) (.cst (.int 1))) = .ok (.list (as.map ansD)) := by
            simp only [e_ix, e_var, e_cst, view_cons, Option.bind_some, vw_own, tD, List.getElem?_cons_succ, List.getElem?_cons_zero, varD_ok, bind_ok, it1]
          exact i_il h1
        rw [hi, bind_ok, if_pos (size_lit (by rw [List.length_map]; omega)), lcRs_all (m := fun a => [ansD a]) (g := ansR) (fun a ha => by
          simp [ansD, ansR]), map_ok, on_ok, ← hKP]
        rfl
      rintro _ rfl
      refine wp_cut (fun Γ => Γ = [F, HH, some (.own (.ot [.ol (qs.map eP), (R.on ((someK as as.length).map ansR)).nrm])), Q, KP, none, none, none]) ?_ ?_
      · refine wp_rngR (n := as.length) (fun k Γ => Γ = [F, HH, some (.own (.ot [.ol (qs.map eP), (R.on ((someK as k).map ansR)).nrm])), Q, KP, none, none, none]) (by simp [← hKP, toDs_ans]) (by omega) (by omega) (by simp [someK]) ?_ ?_
        · rintro k _ hk rfl
          have hkl : k < as.length := by omega
          have hat := someK_at hkl
          have hset := someK_set hkl
          have hdr := someK_drop (as := as) (k := k + 1) (by omega)
          have hln := @someK_len as (k + 1)
          have hbnd := (hra _ (List.getElem_mem hkl)).2
          have hne : ∀ j, (R.on ((someK as j).map ansR)).nrm = .on ((someK as j).map ansR) := fun j => by
            have := @someK_len as j
            cases hj : someK as j with
            | nil => rw [hj] at this; simp at this; omega
            | cons x y => rfl
          refine wp_cut (fun Γ => Γ = [F, HH, some (.own (.ot [.ol (qs.map eP), (R.on ((someK as (k + 1)).map ansR)).nrm])), Q, KP, none, some (.fz (.int k)), none]) ?_ ?_
          · rw [w_mutA]
            refine ⟨2, [1, k, 1], .ot [.ol (qs.map eP), .on ((someK as k).map ansR)], (as[k]).2.map eP, ⟨?_, by rw [hne k]; rfl, ?_⟩, ?_⟩
            · show evP T _ _ = _
              simp [evP, Rs.bind, varD]
            · show (R.on ((someK as k).map ansR)).at [k, 1] = _
              show ((someK as k).map ansR)[k]?.bind (fun q => q.at [1]) = _
              rw [List.getElem?_map, hat]
              rfl
            · have hv : ev T (view ([F, HH, some (.own (.ot [.ol (qs.map eP), (R.on ((someK as k).map ansR)).nrm])), Q, KP, none, none, none].set 6 (some (.fz (.int k))))) (.tup (.cons (.cst (.int 7)) (.cons (.cst (.int 7)) (.nil)))) = .ok (eP (7, 7)) := by
                simp [eP]
              rw [hv, on_ok]
              refine ⟨rfl, by rw [List.length_map]; omega, ?_⟩
              have hput : R.put (.ot [.ol (qs.map eP), .on ((someK as k).map ansR)]) [1, k, 1] (.ol ((as[k]).2.map eP ++ [eP (7, 7)])) = .ot [.ol (qs.map eP), .on ((someK as (k + 1)).map ansR)] := by
                have h1 : R.put (.on ((someK as k).map ansR)) [k, 1] (.ol ((as[k]).2.map eP ++ [eP (7, 7)])) = .on ((someK as (k + 1)).map ansR) := by
                  show R.on (match ((someK as k).map ansR)[k]? with | some r => ((someK as k).map ansR).set k (r.put [1] (.ol ((as[k]).2.map eP ++ [eP (7, 7)]))) | none => (someK as k).map ansR) = _
                  rw [List.getElem?_map, hat, ← hset, List.map_set]
                  show R.on (((someK as k).map ansR).set k (.ot [.im (.str (as[k]).1), .ol ((as[k]).2.map eP ++ [eP (7, 7)])])) = .on (((someK as k).map ansR).set k (.ot [.im (.str (as[k]).1), .ol (((as[k]).2 ++ [(7, 7)]).map eP)]))
                  rw [List.map_append]
                  rfl
                show R.ot [.ol (qs.map eP), R.put (.on ((someK as k).map ansR)) [k, 1] (.ol ((as[k]).2.map eP ++ [eP (7, 7)]))] = _
                rw [h1]
              rw [hput, hne (k + 1)]
              rfl
          rintro _ rfl
          refine wp_cut (fun Γ => Γ = [F, HH, some (.own (.ot [.ol (qs.map eP), (R.on ((someK as (k + 1)).map ansR)).nrm])), Q, KP, none, some (.fz (.int k)), none]) ?_ ?_
          · have hk1 : ev T (view [F, HH, some (.own (.ot [.ol (qs.map eP), (R.on ((someK as (k + 1)).map ansR)).nrm])), Q, KP, none, some (.fz (.int k)), none]) (.f (.slFrom (.ix (.var 2) (.cst (.int 1))) (.bin .add (.var 6) (.cst (.int 1))))) = .ok (.list ((as.drop (k + 1)).map ansD)) := by
              have h1 : ev T (view [F, HH, some (.own (.ot [.ol (qs.map eP), (R.on ((someK as (k + 1)).map ansR)).nrm])), Q, KP, none, some (.fz (.int k)), none]) (.ix (.var 2) (.cst (.int 1))) = .ok (.list ((someK as (k + 1)).map ansD)) := by
                simp only [e_ix, e_var, e_cst, view_cons, Option.bind_some, vw_own, tD, List.getElem?_cons_succ, List.getElem?_cons_zero, varD_ok, bind_ok, it1]
              have h2 : ev T (view [F, HH, some (.own (.ot [.ol (qs.map eP), (R.on ((someK as (k + 1)).map ansR)).nrm])), Q, KP, none, some (.fz (.int k)), none]) (.bin .add (.var 6) (.cst (.int 1))) = .ok (.int ((k : Int) + 1)) := by simp
              have h3 : slFromR (.list ((someK as (k + 1)).map ansD)) (.int ((k : Int) + 1)) = .ok ((as.drop (k + 1)).map ansD) := by
                rw [slFromR_l (by omega), ← List.map_drop, show ((k : Int) + 1).toNat = k + 1 by omega, hdr]
              rw [e_f, e_slFrom, h1, bind_ok, h2, bind_ok, h3]
              rfl
            have hk2 : ev T (view [F, HH, some (.own (.ot [.ol (qs.map eP), (R.on ((someK as (k + 1)).map ansR)).nrm])), Q, KP, none, some (.fz (.int k)), none]) (.f (.slFrom (.var 4) (.bin .add (.var 6) (.cst (.int 1))))) = .ok (.list ((as.drop (k + 1)).map ansD)) := by
              have h1 : ev T (view [F, HH, some (.own (.ot [.ol (qs.map eP), (R.on ((someK as (k + 1)).map ansR)).nrm])), Q, KP, none, some (.fz (.int k)), none]) (.var 4) = .ok (.list (as.map ansD)) := by
                simp [← hKP, toDs_ans]
              have h2 : ev T (view [F, HH, some (.own (.ot [.ol (qs.map eP), (R.on ((someK as (k + 1)).map ansR)).nrm])), Q, KP, none, some (.fz (.int k)), none]) (.bin .add (.var 6) (.cst (.int 1))) = .ok (.int ((k : Int) + 1)) := by simp
              have h3 : slFromR (.list (as.map ansD)) (.int ((k : Int) + 1)) = .ok ((as.drop (k + 1)).map ansD) := by
                rw [slFromR_l (by omega), ← List.map_drop, show ((k : Int) + 1).toNat = k + 1 by omega]
              rw [e_f, e_slFrom, h1, bind_ok, h2, bind_ok, h3]
              rfl
            have hlc := e_lcm (T := T) (Γ := view [F, HH, some (.own (.ot [.ol (qs.map eP), (R.on ((someK as (k + 1)).map ansR)).nrm])), Q, KP, none, some (.fz (.int k)), none]) (t := 5) (e := .tup (.cons (.ix (.var 5) (.cst (.int 0))) (.cons (.f (.lof (.ix (.var 5) (.cst (.int 1))))) (.nil)))) (f := ansD) (g := ansD) hk1 (by rw [List.length_drop]; omega) (fun a ha => by simp [ansD])
            have hsd : okS 4 (.list ((as.drop (k + 1)).map ansD)) = true := okS_answers fun a ha => (hra a (List.mem_of_mem_drop ha)).1
            have hse := self_list (n := true) hsd (by decide)
            rw [w_ifs, e_eq, e_f, hlc, map_ok, bind_ok, hk2, bind_ok, hse, on_ok]
            show isT (.bool false) _ _
            rw [isT_b]
            exact ⟨fun z => (by cases z), fun _ => rfl⟩
          rintro _ rfl
          rfl
        · rintro _ rfl
          rfl
      rintro _ rfl
      refine wp_cut (fun Γ => ∃ r : R, Γ = [F, HH, some (.own r), Q, KP, none, none, none]) ?_ ?_
      · rw [w_mutC]
        exact ⟨2, [0], _, qs.map eP, ⟨by simp [evP, Rs.bind], rfl, rfl⟩, _, rfl⟩
      rintro _ ⟨r, rfl⟩
      refine wp_cut (fun Γ => Γ = [F, HH, some (.own r), Q, KP, none, none, some (.fz (.tuple [.list (qs.map eP), .list (as.map ansD)]))]) ?_ ?_
      · simp [← hF, ← hH, ← hT, vd, hdd]
      rintro _ rfl
      have h1 := self_list (n := false) hsq (by decide)
      have h2 := self_list (n := false) hso (by decide)
      simp [← hQ, ← hKP, toDs_ans, h1, h2]
    · cases h3
  · cases h'
/-! ### k09: the law -/
def ph_law : List D → Option Out
  | [.list ds] => (decI ds).map fun _ => oB true
  | _ => none
theorem ar_law : ∀ ds o, ph_law ds = some o → ds.length = 1 := by
  intro ds o h
  unfold ph_law at h
  split at h
  · rfl
  · cases h
def Deed.plain : Deed → Bool
  | .other w _ => okW w
  | _ => true
theorem deedOf_plain (c : Int) (vs : List Int) (k : Int) : (deedOf c vs k).plain = true := by
  unfold deedOf
  split
  · rfl
  · split
    · rfl
    · split
      · rfl
      · split
        · have h4 : mixed c 1 / 16 % 4 = 0 ∨ mixed c 1 / 16 % 4 = 1 ∨ mixed c 1 / 16 % 4 = 2 ∨ mixed c 1 / 16 % 4 = 3 := by omega
          rcases h4 with h | h | h | h <;> rw [h]
          · exact (by decide +kernel : okW "Paid" = true)
          · exact (by decide +kernel : okW "" = true)
          · exact (by decide +kernel : okW "take" = true)
          · exact (by decide +kernel : okW "ins" = true)
        · split <;> rfl
theorem okS_ints {n : Nat} (xs : List Int) : ∀ d ∈ xs.map PyData.int, okS n d = true := fun d hd => by
  obtain ⟨x, _, rfl⟩ := List.mem_map.mp hd
  cases n <;> rfl
theorem okS_deed {e : Deed} (h : e.plain = true) : okS 3 e.enc = true := by
  have w1 : okW "paid" = true := by decide +kernel
  have w2 : okW "brought" = true := by decide +kernel
  have w3 : okW "fetched" = true := by decide +kernel
  have w4 : okW "in" = true := by decide +kernel
  have w5 : okW "out" = true := by decide +kernel
  cases e with
  | paid p g =>
    refine List.all_eq_true.mpr fun d hd => ?_
    rcases List.mem_cons.mp hd with rfl | hd
    · exact w1
    · rcases List.mem_cons.mp hd with rfl | hd
      · rfl
      · cases List.mem_singleton.mp hd
        exact List.all_eq_true.mpr (okS_ints g)
  | brought v c =>
    refine List.all_eq_true.mpr fun d hd => ?_
    rcases List.mem_cons.mp hd with rfl | hd
    · exact w2
    · exact okS_ints [v, c] d hd
  | fetched v c =>
    refine List.all_eq_true.mpr fun d hd => ?_
    rcases List.mem_cons.mp hd with rfl | hd
    · exact w3
    · exact okS_ints [v, c] d hd
  | kin v =>
    refine List.all_eq_true.mpr fun d hd => ?_
    rcases List.mem_cons.mp hd with rfl | hd
    · exact w4
    · exact okS_ints [v] d hd
  | kout v =>
    refine List.all_eq_true.mpr fun d hd => ?_
    rcases List.mem_cons.mp hd with rfl | hd
    · exact w5
    · exact okS_ints [v] d hd
  | other w xs =>
    refine List.all_eq_true.mpr fun d hd => ?_
    rcases List.mem_cons.mp hd with rfl | hd
    · exact h
    · exact okS_ints xs d hd
theorem okS_deeds {m : List Deed} (h : ∀ e ∈ m, e.plain = true) : okS 4 (.list (m.map Deed.enc)) = true := List.all_eq_true.mpr fun d hd => by
  obtain ⟨e, he, rfl⟩ := List.mem_map.mp hd
  exact okS_deed (h e he)
theorem okS_up : ∀ (n : Nat) (d : D), okS n d = true → okS (n + 1) d = true
  | n, .none, _ => rfl
  | n, .int _, _ => rfl
  | n, .bool _, h => by cases n <;> cases h
  | n, .str x, h => by cases n <;> exact h
  | n, .dict _, h => by cases n <;> cases h
  | 0, .list _, h => by cases h
  | 0, .tuple _, h => by cases h
  | n + 1, .list ds, h => by
    have h' := List.all_eq_true.mp (show ds.all (okS n) = true from h)
    exact List.all_eq_true.mpr fun d hd => okS_up n d (h' d hd)
  | n + 1, .tuple ds, h => by
    have h' := List.all_eq_true.mp (show ds.all (okS n) = true from h)
    exact List.all_eq_true.mpr fun d hd => okS_up n d (h' d hd)
theorem ix_last {l : List D} {x : D} : ixD (.list (l ++ [x])) (.int (((l ++ [x]).length : Nat) - 1)) = .ok x := by
  refine ix_l (by simp) ?_
  rw [List.length_append, List.length_singleton, show (((l.length + 1 : Nat) : Int) - 1).toNat = l.length by omega]
  simp
theorem countIn_new {ps : List (Int × Int)} {v : Int} (h : v ∉ ps.map fun p => p.1) : countIn ps v = none := by
  have h3 := @count_key v ps
  rw [decide_eq_false h] at h3
  cases h4 : countIn ps v with
  | none => rfl
  | some c => rw [h4] at h3; cases h3
theorem lockE_2 {a b : Option Sl} {q : Bool} {kvs : List (Int × D)} {l : TD.Env} : lockE (a :: b :: some (.dc q kvs) :: l) 2 = unD a :: unD b :: some (.dl kvs) :: l.map unD := rfl
theorem wp_law {ca : Nat → Addr} {xs : List Nat} : ∀ ds o, ph_law ds = some o → wpSs ⟨[ph_l_copies, ph_day, ph_l_pairs, ph_l_alike, ph_l_again, ph_l_deed, ph_l_right], ca, xs, none⟩ g_law (gdOf o) (startE n_law ds) := by
  intro ds o h
  unfold ph_law at h
  split at h
  · rename_i ds
    obtain ⟨ns, e, h2⟩ := mapO h
    clear h
    cases decI_sound e
    subst h2
    unfold g_law
    generalize hS : (some (Sl.fz (.list (ns.map .int)))) = S
    generalize hT : (⟨[ph_l_copies, ph_day, ph_l_pairs, ph_l_alike, ph_l_again, ph_l_deed, ph_l_right], ca, xs, none⟩ : Tb) = T
    refine wp_cut (fun Γ => ∃ ps, Tl ps ∧ Γ = [S, some (.fz (.list (ps.map eP))), none, none, none, none, none, none, none, none, none, none, none, none, none, none, none, none, none]) ?_ ?_
    · have hd := sorted_drawn ns
      have hp := sorted_pos ns
      have hr := rising_of (pairsOf_drawn ns).nd
      simp only [startE, n_law]
      simp [v_pairs, ← hS, ← hT]
      exact ⟨_, ⟨okTill_drawn hd, hr, fun p hp => (hd.vals p hp).2.2.2, hp, hd.few⟩, rfl⟩
    rintro _ ⟨ps, hTl, rfl⟩
    obtain ⟨hlen, hall⟩ := okTill_of hTl.1
    generalize hP : (some (Sl.fz (.list (ps.map eP)))) = P
    refine wp_cut (fun Γ => Γ = [S, P, some (.dc true (kvD [])), none, none, none, none, none, none, none, none, none, none, none, none, none, none, none, none]) (by simp [kvD]) ?_
    rintro _ rfl
    refine wp_cut (fun Γ => ∃ x3, Γ = [S, P, some (.dc true (kvD ps)), x3, none, none, none, none, none, none, none, none, none, none, none, none, none, none, none]) ?_ ?_
    · refine wp_prs (ps := ps) (fun r Γ => ∃ (acc : List (Int × Int)) (x3 : Option Sl), Γ = [S, P, some (.dc true (kvD acc)), x3, none, none, none, none, none, none, none, none, none, none, none, none, none, none, none] ∧ acc ++ r = ps) (by simp [← hP]) ⟨[], none, rfl, rfl⟩ ?_ ?_
      · rintro p r _ ⟨acc, x3, rfl, ha⟩
        have hnew : p.1 ∉ acc.map fun p => p.1 := by
          have := hTl.nd
          rw [← ha, List.map_append, List.map_cons] at this
          have h2 := (List.nodup_append.mp this).2.2
          exact fun z => h2 _ z _ List.mem_cons_self rfl
        have hdp := @dput_new acc p.1 p.2 (countIn_new hnew)
        have hal : acc.length ≤ 1000 := by
          have := congrArg List.length ha
          rw [List.length_append] at this
          omega
        refine wp_cut (fun Γ => Γ = [S, P, some (.dc true (kvD (acc ++ [p]))), some (.fz (eP p)), none, none, none, none, none, none, none, none, none, none, none, none, none, none, none]) ?_ ?_
        · rw [w_dset]
          refine ⟨kvD acc, rfl, ?_⟩
          simp [hdp, kvD_len]
          omega
        rintro _ rfl
        rw [w_nil]
        exact ⟨acc ++ [p], _, rfl, by rw [List.append_assoc]; exact ha⟩
      · rintro _ ⟨acc, x3, rfl, ha⟩
        rw [List.append_nil] at ha
        rw [ha]
        exact ⟨_, rfl⟩
    rintro _ ⟨x3, rfl⟩
    refine wp_cut (fun Γ => Γ = [S, P, some (.dc true (kvD ps)), x3, some (.own (.on (([] : List Deed).map Deed.toR))), none, none, none, none, none, none, none, none, none, none, none, none, none, none]) (by simp) ?_
    rintro _ rfl
    refine wp_cut (fun Γ => Γ = [S, P, some (.dc true (kvD ps)), x3, some (.own (.on (([] : List Deed).map Deed.toR))), some (.own (.ol ((ps.map fun p => p.1).map .int))), none, none, none, none, none, none, none, none, none, none, none, none, none]) ?_ ?_
    · have hlc := e_lc (T := T) (Γ := view [S, P, some (.dc true (kvD ps)), x3, some (.own (.on (([] : List Deed).map Deed.toR))), none, none, none, none, none, none, none, none, none, none, none, none, none, none]) (t := 3) (a := .var 1) (e := .ix (.var 3) (.cst (.int 0))) (ps := ps) (g := fun p => .int p.1) (by simp [← hP]) (by omega) (fun p hp => by simp)
      have : (ps.map fun p => PyData.int p.1) = (ps.map fun p => p.1).map .int := by rw [List.map_map]; rfl
      rw [this] at hlc
      rw [w_asgF, hlc, on_ok]
      exact ⟨immA_int, rfl⟩
    rintro _ rfl
    generalize hHd : (some (Sl.dc true (kvD ps))) = HD
    refine wp_cut (fun Γ => ∃ (m : List Deed) (vs : List Int), (∀ e ∈ m, e.good ∧ e.plain = true) ∧ m.length ≤ 24 ∧ Γ = [S, P, HD, x3, some (.own (.on (m.map Deed.toR))), some (.own (.ol (vs.map .int))), none, none, none, none, none, none, none, none, none, none, none, none, none]) ?_ ?_
    · have hsl : evF T (stab [S, P, HD, x3, some (.own (.on (([] : List Deed).map Deed.toR))), some (.own (.ol ((ps.map fun p => p.1).map .int))), none, none, none, none, none, none, none, none, none, none, none, none, none]) (.slBoth (.var 0) (.cst (.int 3)) (.cst (.int 27))) = .ok (((ns.drop 3).take 24).map .int) := by
        rw [← hS, List.map_take, List.map_drop]
        rfl
      have hi : evI T (stab [S, P, HD, x3, some (.own (.on (([] : List Deed).map Deed.toR))), some (.own (.ol ((ps.map fun p => p.1).map .int))), none, none, none, none, none, none, none, none, none, none, none, none, none]) (.ie (.f (.slBoth (.var 0) (.cst (.int 3)) (.cst (.int 27))))) = .ok (enumL 0 (((ns.drop 3).take 24).map .int)) := by
        show ((evF T _ _).map PyData.list).bind _ = _
        rw [hsl]
        rfl
      have hcl : ((ns.drop 3).take 24).length ≤ 24 := by rw [List.length_take]; omega
      refine wp_for (fun items Γ => ∃ (m : List Deed) (vs : List Int) (k : Nat) (cs : List Int), items = enumL k (cs.map .int) ∧ (∀ e ∈ m, e.good ∧ e.plain = true) ∧ m.length + cs.length ≤ 24 ∧ vs.length + cs.length ≤ 1000 ∧ Γ = [S, P, HD, x3, some (.own (.on (m.map Deed.toR))), some (.own (.ol (vs.map .int))), none, none, none, none, none, none, none, none, none, none, none, none, none]) hi ⟨[], ps.map fun p => p.1, 0, (ns.drop 3).take 24, rfl, fun _ z => (by cases z), by simpa using hcl, by
        rw [List.length_map]
        have := hTl.2.2.2.2
        omega, rfl⟩ ?_ ?_
      · rintro it r _ ⟨m, vs, k, cs, hit, hgm, hml, hvl, rfl⟩
        cases cs with
        | nil => cases hit
        | cons c cs =>
          have hit' : it :: r = [PyData.int k, .int c] :: enumL (k + 1) (cs.map .int) := hit
          injection hit' with i1 i2
          subst i1 i2
          rw [List.length_cons] at hml hvl
          show wpSs T _ _ [S, P, HD, x3, some (.own (.on (m.map Deed.toR))), some (.own (.ol (vs.map .int))), some (.fz (.int k)), some (.fz (.int c)), none, none, none, none, none, none, none, none, none, none, none]
          have hge := deedOf_good c vs k
          have hpe := deedOf_plain c vs k
          refine wp_cut (fun Γ => Γ = [S, P, HD, x3, some (.own (.on ((m ++ [deedOf c vs k]).map Deed.toR))), some (.own (.ol (vs.map .int))), some (.fz (.int k)), some (.fz (.int c)), none, none, none, none, none, none, none, none, none, none, none]) ?_ ?_
          · rw [w_appR]
            refine ⟨m.map Deed.toR, rfl, by rw [List.length_map]; omega, ?_⟩
            have hr : evR T [S, P, HD, x3, some (.own (.on (m.map Deed.toR))), some (.own (.ol (vs.map .int))), some (.fz (.int k)), some (.fz (.int c)), none, none, none, none, none, none, none, none, none, none, none] (.call 5 (.cons (.var 7) (.cons (.var 5) (.cons (.var 6) (.nil))))) = .ok (deedOf c vs k).toR := by
              simp [← hT, v_deed]
            rw [hr, on_ok, List.map_append]
            rfl
          rintro _ rfl
          generalize deedOf c vs k = e at hge hpe
          have hgm' : ∀ x ∈ m ++ [e], x.good ∧ x.plain = true := fun x hx => by
            rcases List.mem_append.mp hx with hx | hx
            · exact hgm x hx
            · cases List.mem_singleton.mp hx
              exact ⟨hge, hpe⟩
          have h4 : ev T (view [S, P, HD, x3, some (.own (.on ((m ++ [e]).map Deed.toR))), some (.own (.ol (vs.map .int))), some (.fz (.int k)), some (.fz (.int c)), none, none, none, none, none, none, none, none, none, none, none]) (.var 4) = .ok (.list (m.map Deed.enc ++ [e.enc])) := by
            have := toDs_deeds (m ++ [e])
            rw [e_var]
            show varD (some (some (Sl.fz (.list (R.toDs ((m ++ [e]).map Deed.toR)))))) = _
            rw [this, List.map_append]
            rfl
          have hl : ev T (view [S, P, HD, x3, some (.own (.on ((m ++ [e]).map Deed.toR))), some (.own (.ol (vs.map .int))), some (.fz (.int k)), some (.fz (.int c)), none, none, none, none, none, none, none, none, none, none, none]) (.ix (.var 4) (.bin .sub (.len (.var 4)) (.cst (.int 1)))) = .ok e.enc := by
            rw [e_ix, e_bin, e_len, h4]
            simp only [bind_ok, len_l, e_cst, bin_i, bop_sub]
            exact ix_last
          have fin : ∀ (vs' : List Int), vs'.length ≤ vs.length + 1 → ∃ (m' : List Deed) (us : List Int) (k' : Nat) (cs' : List Int), enumL (k + 1) (cs.map .int) = enumL k' (cs'.map .int) ∧ (∀ e ∈ m', e.good ∧ e.plain = true) ∧ m'.length + cs'.length ≤ 24 ∧ us.length + cs'.length ≤ 1000 ∧ [S, P, HD, x3, some (Sl.own (.on ((m ++ [e]).map Deed.toR))), some (.own (.ol (vs'.map .int))), none, none, none, none, none, none, none, none, none, none, none, none, none] = [S, P, HD, x3, some (.own (.on (m'.map Deed.toR))), some (.own (.ol (us.map .int))), none, none, none, none, none, none, none, none, none, none, none, none, none] := fun vs' hvs => ⟨m ++ [e], vs', k + 1, cs, rfl, hgm', by rw [List.length_append, List.length_singleton]; omega, by omega, rfl⟩
          rw [w_cons, w_ifs, e_eq, e_ix, hl]
          have skip : ∀ b : Bool, b = false → ixD e.enc (.int 0) = .ok (.str "in") ∨ True := fun _ _ => .inr trivial
          cases e with
          | kin v =>
            have hc : ((Rs.ok (Deed.kin v).enc : Rs D).bind fun x => (ev T (view [S, P, HD, x3, some (.own (.on ((m ++ [Deed.kin v]).map Deed.toR))), some (.own (.ol (vs.map .int))), some (.fz (.int k)), some (.fz (.int c)), none, none, none, none, none, none, none, none, none, none, none]) (.cst (.int 0))).bind fun y => ixD x y) = .ok (.str "in") := rfl
            rw [hc, bind_ok, e_cst, bind_ok, eq_s, on_ok, isT_b]
            refine ⟨fun _ => ?_, fun z => by simp at z⟩
            rw [w_cons, w_appV]
            refine ⟨vs.map .int, rfl, ?_⟩
            rw [e_ix, hl]
            show onR (.ok (PyData.int v)) _ _
            rw [on_ok]
            refine ⟨rfl, by rw [List.length_map]; omega, ?_⟩
            have := fin (vs ++ [v]) (by simp)
            rw [show (vs ++ [v]).map PyData.int = vs.map PyData.int ++ [PyData.int v] from List.map_append] at this
            exact this
          | paid p g =>
            have hc : ((Rs.ok (Deed.paid p g).enc : Rs D).bind fun x => (ev T (view [S, P, HD, x3, some (.own (.on ((m ++ [Deed.paid p g]).map Deed.toR))), some (.own (.ol (vs.map .int))), some (.fz (.int k)), some (.fz (.int c)), none, none, none, none, none, none, none, none, none, none, none]) (.cst (.int 0))).bind fun y => ixD x y) = .ok (.str "paid") := rfl
            rw [hc, bind_ok, e_cst, bind_ok, eq_s, on_ok, isT_b]
            exact ⟨fun z => by simp at z, fun _ => fin vs (by omega)⟩
          | brought v n =>
            have hc : ((Rs.ok (Deed.brought v n).enc : Rs D).bind fun x => (ev T (view [S, P, HD, x3, some (.own (.on ((m ++ [Deed.brought v n]).map Deed.toR))), some (.own (.ol (vs.map .int))), some (.fz (.int k)), some (.fz (.int c)), none, none, none, none, none, none, none, none, none, none, none]) (.cst (.int 0))).bind fun y => ixD x y) = .ok (.str "brought") := rfl
            rw [hc, bind_ok, e_cst, bind_ok, eq_s, on_ok, isT_b]
            exact ⟨fun z => by simp at z, fun _ => fin vs (by omega)⟩
          | fetched v n =>
            have hc : ((Rs.ok (Deed.fetched v n).enc : Rs D).bind fun x => (ev T (view [S, P, HD, x3, some (.own (.on ((m ++ [Deed.fetched v n]).map Deed.toR))), some (.own (.ol (vs.map .int))), some (.fz (.int k)), some (.fz (.int c)), none, none, none, none, none, none, none, none, none, none, none]) (.cst (.int 0))).bind fun y => ixD x y) = .ok (.str "fetched") := rfl
            rw [hc, bind_ok, e_cst, bind_ok, eq_s, on_ok, isT_b]
            exact ⟨fun z => by simp at z, fun _ => fin vs (by omega)⟩
          | kout v =>
            have hc : ((Rs.ok (Deed.kout v).enc : Rs D).bind fun x => (ev T (view [S, P, HD, x3, some (.own (.on ((m ++ [Deed.kout v]).map Deed.toR))), some (.own (.ol (vs.map .int))), some (.fz (.int k)), some (.fz (.int c)), none, none, none, none, none, none, none, none, none, none, none]) (.cst (.int 0))).bind fun y => ixD x y) = .ok (.str "out") := rfl
            rw [hc, bind_ok, e_cst, bind_ok, eq_s, on_ok, isT_b]
            exact ⟨fun z => by simp at z, fun _ => fin vs (by omega)⟩
          | other w us =>
            have hc : ((Rs.ok (Deed.other w us).enc : Rs D).bind fun x => (ev T (view [S, P, HD, x3, some (.own (.on ((m ++ [Deed.other w us]).map Deed.toR))), some (.own (.ol (vs.map .int))), some (.fz (.int k)), some (.fz (.int c)), none, none, none, none, none, none, none, none, none, none, none]) (.cst (.int 0))).bind fun y => ixD x y) = .ok (.str w) := rfl
            have hwi : ¬(w = "in") := hge.2.2.2.1
            rw [hc, bind_ok, e_cst, bind_ok, eq_s, on_ok, isT_b]
            exact ⟨fun z => by simp [hwi] at z, fun _ => fin vs (by omega)⟩
      · rintro _ ⟨m, vs, k, cs, hit, hgm, hml, hvl, rfl⟩
        cases cs with
        | cons c cs => cases hit
        | nil => exact ⟨m, vs, hgm, hml, rfl⟩
    rintro _ ⟨m, vs, hgp, hml, rfl⟩
    have hg : ∀ e ∈ m, e.good := fun e he => (hgp e he).1
    have hml' : m.length ≤ 1000 := by omega
    have hsm := okS_deeds (m := m) fun e he => (hgp e he).2
    have hsp := okS_pairs ps
    have vc := v_copies hg hml'
    have vd := v_day hTl hg hml'
    have hdd := dayR_toD ps m
    have hdi := dayR_imm ps m
    have hds := shp_day ps m
    have hra := runD_ans (l := m) hTl
    have hrl := runD_len (l := m) (ps := ps)
    have hso := okS_answers (as := (runD ps m).2) fun a ha => (hra a ha).1
    have hsq := okS_pairs (runD ps m).1
    generalize hL : (some (Sl.fz (.list (m.map Deed.enc)))) = L
    generalize hV5 : (some (Sl.own (.ol (vs.map PyData.int)))) = V5
    refine wp_cut (fun Γ => Γ = [S, P, HD, x3, L, V5, none, none, L, none, none, none, none, none, none, none, none, none, none]) ?_ ?_
    · rw [w_frz]
      refine ⟨.on (m.map Deed.toR), rfl, ?_⟩
      rw [toD_on, toDs_deeds]
      show TD.wpS T (.asgS 8 (.call 0 (.cons (.var 4) (.nil)))) _ [S, P, HD, x3, some (.fz (.list (m.map Deed.enc))), V5, none, none, none, none, none, none, none, none, none, none, none, none, none]
      rw [hL]
      simp [← hL, ← hT, vc, toDs_deeds]
    rintro _ rfl
    refine wp_cut (fun Γ => Γ = [S, P, HD, x3, L, V5, none, none, L, P, none, none, none, none, none, none, none, none, none]) (by simp [← hP]) ?_
    rintro _ rfl
    refine wp_cut (fun Γ => Γ = [S, P, HD, x3, L, V5, none, none, L, P, some (.own (dayR ps m)), none, none, none, none, none, none, none, none]) (by simp [← hP, ← hL, ← hT, vd]) ?_
    rintro _ rfl
    generalize hDR : dayR ps m = DR at vd hdd hdi hds
    have ep1 := self_list (n := true) hsp (by decide)
    have ep2 := self_list (n := false) hsp (by decide)
    have em1 := self_list (n := true) hsm (by decide)
    have tt1 : isiD .tuple DR.toD = true := by rw [hdd]; rfl
    have tt2 : lenD DR.toD = .ok (.int 2) := by rw [hdd]; rfl
    have d0 : ixD DR.toD (.int 0) = .ok (.list ((runD ps m).1.map eP)) := by rw [hdd]; rfl
    have d1 : ixD DR.toD (.int 1) = .ok (.list ((runD ps m).2.map ansD)) := by rw [hdd]; rfl
    refine wp_cut (fun Γ => Γ = [S, P, HD, x3, L, V5, none, none, L, P, some (.own DR), none, none, none, none, none, none, none, none]) (by simp [← hP, ← hL, ep1, em1, tt1, tt2]) ?_
    rintro _ rfl
    have til : ∀ l : List D, isiD .list (.list l) = true := fun _ => rfl
    refine wp_cut (fun Γ => Γ = [S, P, HD, x3, L, V5, none, none, L, P, some (.own DR), none, none, none, none, none, none, none, none]) (by simp [← hL, d1, til, hrl]) ?_
    rintro _ rfl
    refine wp_cut (fun Γ => ∃ hs : List (Int × Int), hs.Perm (runD ps m).1 ∧ Γ = [S, P, some (.dc true (kvD hs)), none, L, none, none, none, L, P, some (.own DR), none, none, none, none, none, none, none, none]) ?_ ?_
    · rw [w_held]
      refine ⟨DR, rfl, hdi, fun b b' v vs => ?_⟩
      have hΓ : (hvE b vs [S, P, HD, x3, L, V5, none, none, L, P, some (.own DR), none, none, none, none, none, none, none, none] [0, 1, 4, 8, 9]).set 10 (some (.hv b' v DR.toD)) = [some (.hv b (vs 0) (.list (ns.map .int))), some (.hv b (vs 1) (.list (ps.map eP))), HD, x3, some (.hv b (vs 4) (.list (m.map Deed.enc))), V5, none, none, some (.hv b (vs 8) (.list (m.map Deed.enc))), some (.hv b (vs 9) (.list (ps.map eP))), some (.hv b' v DR.toD), none, none, none, none, none, none, none, none] := by
        rw [← hS, ← hP, ← hL]
        rfl
      rw [hΓ]
      clear hΓ
      rw [← hHd]
      refine wp_zip (f := Deed.enc) (g := ansD) (xs := m) (ys := (runD ps m).2) (fun prs Γ => ∃ (hs qs : List (Int × Int)) (r : List Deed) (x12 : Option Sl), prs = r.zip (runD qs r).2 ∧ hs.Perm qs ∧ Tl qs ∧ (∀ e ∈ r, e.good) ∧ (runD qs r).1 = (runD ps m).1 ∧ Γ = [some (.hv b (vs 0) (.list (ns.map .int))), some (.hv b (vs 1) (.list (ps.map eP))), some (.dc true (kvD hs)), x3, some (.hv b (vs 4) (.list (m.map Deed.enc))), V5, none, none, some (.hv b (vs 8) (.list (m.map Deed.enc))), some (.hv b (vs 9) (.list (ps.map eP))), some (.hv b' v DR.toD), none, x12, none, none, none, none, none, none]) (by simp) (by simp [d1]) ⟨ps, ps, m, none, rfl, .refl _, hTl, hg, rfl, rfl⟩ ?_ ?_
      · rintro ⟨e, a⟩ rr _ ⟨hs, qs, r, x12, hz, hpm, htl, hgr, hfi, rfl⟩
        cases r with
        | nil => cases hz
        | cons e' r =>
          have hz' : (e, a) :: rr = (e', ((doneD qs e').word, (doneD qs e').chg)) :: r.zip (runD ((doneD qs e').till qs) r).2 := hz
          injection hz' with z1 z2
          injection z1 with z3 z4
          subst z3 z4 z2
          have hge := hgr e List.mem_cons_self
          have hps := sort_is htl.2.1 hpm
          have hvr := v_right (hs := hs) hge (by rw [hps]; exact htl)
          rw [hps] at hvr
          show wpSs T _ _ [some (.hv b (vs 0) (.list (ns.map .int))), some (.hv b (vs 1) (.list (ps.map eP))), some (.dc true (kvD hs)), x3, some (.hv b (vs 4) (.list (m.map Deed.enc))), V5, none, none, some (.hv b (vs 8) (.list (m.map Deed.enc))), some (.hv b (vs 9) (.list (ps.map eP))), some (.hv b' v DR.toD), some (.fz e.enc), some (.fz (ansD ((doneD qs e).word, (doneD qs e).chg))), none, none, none, none, none, none]
          rw [w_cons, w_ifM]
          refine ⟨.d (kvD hs), [e.enc, ansD ((doneD qs e).word, (doneD qs e).chg)], .d (kvD (afterH hs e)), true, rfl, by simp, ?_, trivial, fun z => (by cases z), fun _ => ?_⟩
          · refine callM_of (φ := ph_l_right) (by rw [← hT]; rfl) (q := 0) ?_
            rw [enc_kv]
            exact hvr
          · rw [w_nil]
            exact ⟨afterH hs e, (doneD qs e).till qs, r, _, rfl, after_perm htl hpm e, done_tl htl e, fun x hx => hgr x (List.mem_cons_of_mem _ hx), hfi, rfl⟩
      · rintro _ ⟨hs, qs, r, x12, hz, hpm, htl, hgr, hfi, rfl⟩
        have hr0 : r = [] := by
          cases r with
          | nil => rfl
          | cons e r => cases hz
        subst hr0
        have hq : qs = (runD ps m).1 := hfi
        refine ⟨rfl, [S, P, some (.dc true (kvD hs)), none, L, none, none, none, L, P, none, none, none, none, none, none, none, none, none], ⟨rfl, ?_⟩, hs, by rw [← hq]; exact hpm, rfl⟩
        rw [← hS, ← hP, ← hL]
        intro j s hj
        match j, hj with
        | 0, hj => cases hj; exact .inr (.inr (.inr ⟨_, _, rfl, rfl⟩))
        | 1, hj => cases hj; exact .inr (.inr (.inr ⟨_, _, rfl, rfl⟩))
        | 2, hj => cases hj; exact .inr (.inr (.inl ⟨hs, rfl, rfl⟩))
        | 3, hj => cases hj
        | 4, hj => cases hj; exact .inr (.inr (.inr ⟨_, _, rfl, rfl⟩))
        | 5, hj => cases hj
        | 6, hj => cases hj
        | 7, hj => cases hj
        | 8, hj => cases hj; exact .inr (.inr (.inr ⟨_, _, rfl, rfl⟩))
        | 9, hj => cases hj; exact .inr (.inr (.inr ⟨_, _, rfl, rfl⟩))
        | 10, hj => cases hj
        | 11, hj => cases hj
        | 12, hj => cases hj
        | 13, hj => cases hj
        | 14, hj => cases hj
        | 15, hj => cases hj
        | 16, hj => cases hj
        | 17, hj => cases hj
        | 18, hj => cases hj
        | n + 19, hj => simp at hj
    rintro _ ⟨hs, hpm, rfl⟩
    have hTe := runD_tl (l := m) hTl
    have hps := sort_is hTe.2.1 hpm
    have hnd := nd_perm hTe hpm
    have hhl : hs.length ≤ 10 := by rw [hpm.length_eq]; exact hTe.2.2.2.2
    have happ := fun h : Nat => @runD_app (m.take h) (m.drop h) ps
    have vag := v_again hTl hg hml'
    rw [hDR] at vag
    have vd1 := fun h : Nat => @v_day ps (m.take h) hTl (fun e he => hg e (List.mem_of_mem_take he)) (by rw [List.length_take]; omega)
    have vd2 := fun h : Nat => @v_day (runD ps (m.take h)).1 (m.drop h) (runD_tl hTl) (fun e he => hg e (List.mem_of_mem_drop he)) (by rw [List.length_drop]; omega)
    have vc1 := fun h : Nat => @v_copies (m.take h) (fun e he => hg e (List.mem_of_mem_take he)) (by rw [List.length_take]; omega)
    have vc2 := fun h : Nat => @v_copies (m.drop h) (fun e he => hg e (List.mem_of_mem_drop he)) (by rw [List.length_drop]; omega)
    have hal : (runD ps m).2.length ≤ 1000 := by omega
    generalize hHs : (some (Sl.dc true (kvD hs))) = HS
    generalize hF : (some (Sl.own DR)) = F
    generalize hK : (some (Sl.own (.on [.ol ((runD ps m).1.map eP), .on ((runD ps m).2.map ansR)]))) = K
    refine wp_cut (fun Γ => Γ = [S, P, HS, none, L, none, none, none, L, P, F, none, none, K, none, none, none, none, none]) ?_ ?_
    · have hi : evI T (view [S, P, HS, none, L, none, none, none, L, P, F, none, none, none, none, none, none, none, none]) (.il (.ix (.var 10) (.cst (.int 1)))) = .ok ((runD ps m).2.map fun a => [ansD a]) := by
        exact i_il (by simp [← hF, d1])
      have h2 : evR T [S, P, HS, none, L, none, none, none, L, P, F, none, none, none, none, none, none, none, none] (.lcR [12] (.il (.ix (.var 10) (.cst (.int 1)))) (.tup (.cons (.im (.ix (.var 12) (.cst (.int 0)))) (.cons (.f (.lof (.ix (.var 12) (.cst (.int 1))))) (.nil))))) = .ok (.on ((runD ps m).2.map ansR)) := by
        rw [r_lcR, hi, bind_ok, if_pos (size_lit (by rw [List.length_map]; omega)), lcRs_all (m := fun a => [ansD a]) (g := ansR) (fun a ha => by
          simp [ansD, ansR]), map_ok]
      have h1 : evR T [S, P, HS, none, L, none, none, none, L, P, F, none, none, none, none, none, none, none, none] (.f (.lof (.ix (.var 10) (.cst (.int 0))))) = .ok (.ol ((runD ps m).1.map eP)) := by
        simp [← hF, d0]
      rw [w_asgR, r_lst, r_cons, h1, bind_ok, r_cons, h2, bind_ok, r_nil, map_ok, map_ok, bind_ok, if_pos (size_lit (by show 2 ≤ 16777216; decide)), on_ok, ← hK]
      rfl
    rintro _ rfl
    refine wp_cut (fun Γ => ∃ x14 x15 x16 : Option Sl, Γ = [S, P, HS, none, L, none, none, none, L, P, F, none, none, K, x14, x15, x16, none, none]) ?_ ?_
    · rw [w_ifs]
      have hc : ev T (view [S, P, HS, none, L, none, none, none, L, P, F, none, none, K, none, none, none, none, none]) (.cmp .lt (.len (.var 4)) (.cst (.int 16))) = .ok (.bool (decide ((m.length : Int) < 16))) := by simp [← hL]
      rw [hc, on_ok, isT_b]
      refine ⟨fun _ => ?_, fun _ => ⟨none, none, none, rfl⟩⟩
      refine wp_cut (fun Γ => ∃ h : Nat, Γ = [S, P, HS, none, L, none, none, none, L, P, F, none, none, K, some (.fz (.int h)), none, none, none, none]) (by
        simp [← hL, bop_div]
        exact ⟨m.length / 2, by omega⟩) ?_
      rintro _ ⟨h, rfl⟩
      have v1 := vd1 h
      have v2 := vd2 h
      have c1 := vc1 h
      have c2 := vc2 h
      have s1 : slToR (.list (m.map Deed.enc)) (.int h) = .ok ((m.take h).map Deed.enc) := by rw [slToR_l (by omega), Int.toNat_natCast, List.map_take]
      have s2 : slFromR (.list (m.map Deed.enc)) (.int h) = .ok ((m.drop h).map Deed.enc) := by rw [slFromR_l (by omega), Int.toNat_natCast, List.map_drop]
      have hap := happ h
      rw [List.take_append_drop] at hap
      have t1 := toDs_deeds (m.take h)
      have t2 := toDs_deeds (m.drop h)
      have b1 := dayR_toD ps (m.take h)
      have b2 := dayR_toD (runD ps (m.take h)).1 (m.drop h)
      have hlt := @runD_len (m.take h) ps
      have hld := @runD_len (m.drop h) (runD ps (m.take h)).1
      have hlt' : (m.take h).length ≤ 1000 := by rw [List.length_take]; omega
      have hld' : (m.drop h).length ≤ 1000 := by rw [List.length_drop]; omega
      generalize m.take h = ma at *
      generalize m.drop h = mb at *
      refine wp_cut (fun Γ => Γ = [S, P, HS, none, L, none, none, none, L, P, F, none, none, K, some (.fz (.int h)), some (.fz (.tuple [.list ((runD ps ma).1.map eP), .list ((runD ps ma).2.map ansD)])), none, none, none]) (by
        simp [← hP, ← hL, ← hT, s1, c1, t1, v1, b1]) ?_
      rintro _ rfl
      refine wp_cut (fun Γ => Γ = [S, P, HS, none, L, none, none, none, L, P, F, none, none, K, some (.fz (.int h)), some (.fz (.tuple [.list ((runD ps ma).1.map eP), .list ((runD ps ma).2.map ansD)])), some (.fz (.tuple [.list ((runD (runD ps ma).1 mb).1.map eP), .list ((runD (runD ps ma).1 mb).2.map ansD)])), none, none]) (by
        simp [← hL, ← hT, s2, c2, t2, v2, b2]) ?_
      rintro _ rfl
      have hcat : catR (.list ((runD ps ma).2.map ansD)) (.list ((runD (runD ps ma).1 mb).2.map ansD)) = .ok ((runD ps m).2.map ansD) := by
        rw [catR_l (by rw [List.length_map, List.length_map]; omega), ← List.map_append, hap]
      have hq1 : (runD ps m).1 = (runD (runD ps ma).1 mb).1 := by rw [hap]
      have eq1 := self_list (n := true) hso (by decide)
      have eq2 := self_list (n := true) hsq (by decide)
      have hc : ev T (view [S, P, HS, none, L, none, none, none, L, P, F, none, none, K, some (.fz (.int h)), some (.fz (.tuple [.list ((runD ps ma).1.map eP), .list ((runD ps ma).2.map ansD)])), some (.fz (.tuple [.list ((runD (runD ps ma).1 mb).1.map eP), .list ((runD (runD ps ma).1 mb).2.map ansD)])), none, none]) (.or (.eq true (.f (.cat (.ix (.var 15) (.cst (.int 1))) (.ix (.var 16) (.cst (.int 1))))) (.ix (.var 10) (.cst (.int 1)))) (.eq true (.ix (.var 16) (.cst (.int 0))) (.ix (.var 10) (.cst (.int 0))))) = .ok (.bool false) := by
        rw [← hq1]
        simp [← hF, hcat, d0, d1, eq1, eq2]
      rw [w_cons, w_ifs, hc, on_ok, isT_b]
      refine ⟨fun z => (by cases z), fun _ => ?_⟩
      exact ⟨_, _, _, rfl⟩
    rintro _ ⟨x14, x15, x16, rfl⟩
    have hkk : okS 5 (.list [.list ((runD ps m).1.map eP), .list ((runD ps m).2.map ansD)]) = true := by
      refine List.all_eq_true.mpr fun d hd => ?_
      rcases List.mem_cons.mp hd with rfl | hd
      · exact okS_up 3 _ (okS_up 2 _ hsq)
      · cases List.mem_singleton.mp hd
        exact hso
    have eqk := self_list (n := true) hkk (by decide)
    refine wp_cut (fun Γ => Γ = [S, P, HS, none, L, none, none, none, L, P, F, none, none, K, x14, x15, x16, none, none]) (by
      simp [← hF, ← hK, d0, d1, toDs_ans, eqk]) ?_
    rintro _ rfl
    generalize hQ : (some (Sl.fz (.list ((runD ps m).1.map eP)))) = Q
    refine wp_cut (fun Γ => Γ = [S, P, HS, none, L, none, none, none, L, P, F, none, none, K, x14, x15, x16, Q, none]) ?_ ?_
    · have hlk : evF T (stab [S, P, HS, none, L, none, none, none, L, P, F, none, none, K, x14, x15, x16, none, none]) (.lock 2 (.lc [18] (.dk 2) (.tup (.cons (.var 18) (.cons (.dix 2 (.var 18)) (.nil)))))) = .ok (hs.map eP) := by
        refine e_lockc (hs := hs) (b := false) (h := eP) (by rw [← hHs]; rfl) (by omega) (fun p hp => ?_)
        have hci := countIn_in hnd (v := p.1) (c := p.2) hp
        have hdg := dget_kv p.1 hs
        rw [hci] at hdg
        simp [← hHs, lockE_2, unD, dslot, hdg]
        rfl
      rw [w_asgS, e_f, e_srt, e_f, hlk, map_ok, bind_ok, srtR_l, map_ok, on_ok, hps, ← hQ]
      rfl
    rintro _ rfl
    refine wp_cut (fun Γ => Γ = [S, P, HS, none, L, none, none, none, L, P, F, none, none, K, x14, x15, x16, Q, none]) (by
      simp [← hF, ← hQ, ← hT, d0, v_alike]) ?_
    rintro _ rfl
    rw [w_cons, w_ifs]
    have hc : ev T (view [S, P, HS, none, L, none, none, none, L, P, F, none, none, K, x14, x15, x16, Q, none]) (.cmp .gt (.len (.var 4)) (.cst (.int 7))) = .ok (.bool (decide (7 < (m.length : Int)))) := by simp [← hL]
    rw [hc, on_ok, isT_b]
    refine ⟨fun _ => by simp, fun _ => ?_⟩
    rw [w_nil]
    show wpSs T (.cons (.retK 4 (.cons (.var 9) (.cons (.var 8) (.nil))) 10 (.cons (.var 17) (.nil)) (.eq false (.var 9) (.var 1))) (.nil)) (gdOf (oB true)) [S, P, HS, none, L, none, none, none, L, P, F, none, none, K, x14, x15, x16, Q, none]
    rw [w_cons, w_retK]
    refine ⟨DR, by rw [← hF]; rfl, hds, hdi, [.list (ps.map eP), .list (m.map Deed.enc)], [.list ((runD ps m).1.map eP)], true, by simp [← hP, ← hL], by simp [← hQ], ?_, fun z => (by cases z), fun _ => ⟨true, by simp [← hP, ep2], rfl⟩⟩
    show callR T 4 [.list (ps.map eP), .list (m.map Deed.enc), DR.toD, .list ((runD ps m).1.map eP)] = _
    rw [callR_eq, ← hT]
    show outR (ph_l_again [.list (ps.map eP), .list (m.map Deed.enc), DR.toD, .list ((runD ps m).1.map eP)]) = _
    rw [vag]
    rfl
  · cases h
end TL

namespace TL
open PySem PySem.Spec PyProof.Rows L2 TD
set_option maxHeartbeats 0 in
theorem all_mk {P : Program} {w : World} {K : PySem.W.Frag} {h : Heap} {mg : Str → Option Value} {fa : Addr} (X : K.In h) (G : h.Ns mainGlobals mg) (hfa : mg "law" = some (.ref fa))
    {C1 : Addr}
    {C2 : Addr}
    {C3 : Addr}
    {C4 : Addr}
    {C5 : Addr}
    {C6 : Addr}
    {C7 : Addr}
    {C8 : Addr}
    {C9 : Addr}
    {C10 : Addr}
    {t_GREATEST : Nat}
    {t_GREATEST_SUM : Nat}
    {t_MOST_KINDS : Nat}
    {t_MOST_PAID : Nat}
    {t_MOST_PIECES : Nat}
    {f0 : Addr} {od0 an0 : Option Addr} {sl0 : Array (Option Value)} {oc0 kV0 dc0 pm0 cd0 ct0 : Value}
    {f1 : Addr} {od1 an1 : Option Addr} {sl1 : Array (Option Value)} {oc1 kV1 dc1 pm1 cd1 ct1 : Value}
    {f2 : Addr} {od2 an2 : Option Addr} {sl2 : Array (Option Value)} {oc2 kV2 dc2 pm2 cd2 ct2 : Value}
    {f3 : Addr} {od3 an3 : Option Addr} {sl3 : Array (Option Value)} {oc3 kV3 dc3 pm3 cd3 ct3 : Value}
    {f4 : Addr} {od4 an4 : Option Addr} {sl4 : Array (Option Value)} {oc4 kV4 dc4 pm4 cd4 ct4 : Value}
    {f5 : Addr} {od5 an5 : Option Addr} {sl5 : Array (Option Value)} {oc5 kV5 dc5 pm5 cd5 ct5 : Value}
    {f6 : Addr} {od6 an6 : Option Addr} {sl6 : Array (Option Value)} {oc6 kV6 dc6 pm6 cd6 ct6 : Value}
    {f7 : Addr} {od7 an7 : Option Addr} {sl7 : Array (Option Value)} {oc7 kV7 dc7 pm7 cd7 ct7 : Value}
    {f8 : Addr} {od8 an8 : Option Addr} {sl8 : Array (Option Value)} {oc8 kV8 dc8 pm8 cd8 ct8 : Value}
    {f9 : Addr} {od9 an9 : Option Addr} {sl9 : Array (Option Value)} {oc9 kV9 dc9 pm9 cd9 ct9 : Value}
    {f10 : Addr} {od10 an10 : Option Addr} {sl10 : Array (Option Value)} {oc10 kV10 dc10 pm10 cd10 ct10 : Value}
    {f11 : Addr} {od11 an11 : Option Addr} {sl11 : Array (Option Value)} {oc11 kV11 dc11 pm11 cd11 ct11 : Value}
    {f12 : Addr} {od12 an12 : Option Addr} {sl12 : Array (Option Value)} {oc12 kV12 dc12 pm12 cd12 ct12 : Value}
    {f13 : Addr} {od13 an13 : Option Addr} {sl13 : Array (Option Value)} {oc13 kV13 dc13 pm13 cd13 ct13 : Value}
    {f14 : Addr} {od14 an14 : Option Addr} {sl14 : Array (Option Value)} {oc14 kV14 dc14 pm14 cd14 ct14 : Value}
    {f15 : Addr} {od15 an15 : Option Addr} {sl15 : Array (Option Value)} {oc15 kV15 dc15 pm15 cd15 ct15 : Value}
    {f16 : Addr} {od16 an16 : Option Addr} {sl16 : Array (Option Value)} {oc16 kV16 dc16 pm16 cd16 ct16 : Value}
    {f17 : Addr} {od17 an17 : Option Addr} {sl17 : Array (Option Value)} {oc17 kV17 dc17 pm17 cd17 ct17 : Value}
    {f18 : Addr} {od18 an18 : Option Addr} {sl18 : Array (Option Value)} {oc18 kV18 dc18 pm18 cd18 ct18 : Value}
    {f19 : Addr} {od19 an19 : Option Addr} {sl19 : Array (Option Value)} {oc19 kV19 dc19 pm19 cd19 ct19 : Value}
    {f20 : Addr} {od20 an20 : Option Addr} {sl20 : Array (Option Value)} {oc20 kV20 dc20 pm20 cd20 ct20 : Value}
    {f21 : Addr} {od21 an21 : Option Addr} {sl21 : Array (Option Value)} {oc21 kV21 dc21 pm21 cd21 ct21 : Value}
    {f22 : Addr} {od22 an22 : Option Addr} {sl22 : Array (Option Value)} {oc22 kV22 dc22 pm22 cd22 ct22 : Value}
    {f23 : Addr} {od23 an23 : Option Addr} {sl23 : Array (Option Value)} {oc23 kV23 dc23 pm23 cd23 ct23 : Value}
    {f24 : Addr} {od24 an24 : Option Addr} {sl24 : Array (Option Value)} {oc24 kV24 dc24 pm24 cd24 ct24 : Value}
    {f25 : Addr} {od25 an25 : Option Addr} {sl25 : Array (Option Value)} {oc25 kV25 dc25 pm25 cd25 ct25 : Value}
    {f26 : Addr} {od26 an26 : Option Addr} {sl26 : Array (Option Value)} {oc26 kV26 dc26 pm26 cd26 ct26 : Value}
    {f27 : Addr} {od27 an27 : Option Addr} {sl27 : Array (Option Value)} {oc27 kV27 dc27 pm27 cd27 ct27 : Value}
    {f28 : Addr} {od28 an28 : Option Addr} {sl28 : Array (Option Value)} {oc28 kV28 dc28 pm28 cd28 ct28 : Value}
    {f29 : Addr} {od29 an29 : Option Addr} {sl29 : Array (Option Value)} {oc29 kV29 dc29 pm29 cd29 ct29 : Value}
    {f30 : Addr} {od30 an30 : Option Addr} {sl30 : Array (Option Value)} {oc30 kV30 dc30 pm30 cd30 ct30 : Value}
    {f31 : Addr} {od31 an31 : Option Addr} {sl31 : Array (Option Value)} {oc31 kV31 dc31 pm31 cd31 ct31 : Value}
    {f32 : Addr} {od32 an32 : Option Addr} {sl32 : Array (Option Value)} {oc32 kV32 dc32 pm32 cd32 ct32 : Value}
    {f33 : Addr} {od33 an33 : Option Addr} {sl33 : Array (Option Value)} {oc33 kV33 dc33 pm33 cd33 ct33 : Value}
    {f34 : Addr} {od34 an34 : Option Addr} {sl34 : Array (Option Value)} {oc34 kV34 dc34 pm34 cd34 ct34 : Value}
    {f35 : Addr} {od35 an35 : Option Addr} {sl35 : Array (Option Value)} {oc35 kV35 dc35 pm35 cd35 ct35 : Value}
    {f36 : Addr} {od36 an36 : Option Addr} {sl36 : Array (Option Value)} {oc36 kV36 dc36 pm36 cd36 ct36 : Value}
    {f37 : Addr} {od37 an37 : Option Addr} {sl37 : Array (Option Value)} {oc37 kV37 dc37 pm37 cd37 ct37 : Value}
    {f38 : Addr} {od38 an38 : Option Addr} {sl38 : Array (Option Value)} {oc38 kV38 dc38 pm38 cd38 ct38 : Value}
    {f39 : Addr} {od39 an39 : Option Addr} {sl39 : Array (Option Value)} {oc39 kV39 dc39 pm39 cd39 ct39 : Value}
    (g1 : PySem.W.nsIn K mainGlobals "NoTill" = some (some (.ref C1)))
    (kp1 : PySem.W.keepIn K (.ref C1) = true)
    (ex1 : PySem.W.excIn K C1 [.type "ValueError", .type "Exception", .type "BaseException", .type "object"] "ValueError.__new__" = true)
    (sb1 : PySem.W.subIn K (.ref C1) (.type "BaseException") = some true)
    (ty1 : PySem.W.typeIn K (.ref C1) = some (.type "type"))
    (ic1 : PySem.W.isClsIn K C1 = true)
    (sv1 : PySem.W.subIn K (.ref C1) (.type "ValueError") = some true)
    (hg1 : PySem.W.findIn K (.ref C1) "__getattribute__" = some (some (.builtin "BaseException.__getattribute__")))
    (hk1 : PySem.W.findIn K (.ref C1) "__getattr__" = some none)
    (hd1 : PySem.W.hasDictIn K C1 = true)
    (ha1 : PySem.W.findIn K (.ref C1) "__class__" = some (some (.builtin "object.__class__")))
    (hm1 : PySem.W.mroIn K C1 (.type "object") = some true)
    (g2 : PySem.W.nsIn K mainGlobals "NoKind" = some (some (.ref C2)))
    (kp2 : PySem.W.keepIn K (.ref C2) = true)
    (ex2 : PySem.W.excIn K C2 [.type "ValueError", .type "Exception", .type "BaseException", .type "object"] "ValueError.__new__" = true)
    (sb2 : PySem.W.subIn K (.ref C2) (.type "BaseException") = some true)
    (ty2 : PySem.W.typeIn K (.ref C2) = some (.type "type"))
    (ic2 : PySem.W.isClsIn K C2 = true)
    (sv2 : PySem.W.subIn K (.ref C2) (.type "ValueError") = some true)
    (hg2 : PySem.W.findIn K (.ref C2) "__getattribute__" = some (some (.builtin "BaseException.__getattribute__")))
    (hk2 : PySem.W.findIn K (.ref C2) "__getattr__" = some none)
    (hd2 : PySem.W.hasDictIn K C2 = true)
    (ha2 : PySem.W.findIn K (.ref C2) "__class__" = some (some (.builtin "object.__class__")))
    (hm2 : PySem.W.mroIn K C2 (.type "object") = some true)
    (g3 : PySem.W.nsIn K mainGlobals "Twice" = some (some (.ref C3)))
    (kp3 : PySem.W.keepIn K (.ref C3) = true)
    (ex3 : PySem.W.excIn K C3 [.type "ValueError", .type "Exception", .type "BaseException", .type "object"] "ValueError.__new__" = true)
    (sb3 : PySem.W.subIn K (.ref C3) (.type "BaseException") = some true)
    (ty3 : PySem.W.typeIn K (.ref C3) = some (.type "type"))
    (ic3 : PySem.W.isClsIn K C3 = true)
    (sv3 : PySem.W.subIn K (.ref C3) (.type "ValueError") = some true)
    (hg3 : PySem.W.findIn K (.ref C3) "__getattribute__" = some (some (.builtin "BaseException.__getattribute__")))
    (hk3 : PySem.W.findIn K (.ref C3) "__getattr__" = some none)
    (hd3 : PySem.W.hasDictIn K C3 = true)
    (ha3 : PySem.W.findIn K (.ref C3) "__class__" = some (some (.builtin "object.__class__")))
    (hm3 : PySem.W.mroIn K C3 (.type "object") = some true)
    (g4 : PySem.W.nsIn K mainGlobals "NoCount" = some (some (.ref C4)))
    (kp4 : PySem.W.keepIn K (.ref C4) = true)
    (ex4 : PySem.W.excIn K C4 [.type "ValueError", .type "Exception", .type "BaseException", .type "object"] "ValueError.__new__" = true)
    (sb4 : PySem.W.subIn K (.ref C4) (.type "BaseException") = some true)
    (ty4 : PySem.W.typeIn K (.ref C4) = some (.type "type"))
    (ic4 : PySem.W.isClsIn K C4 = true)
    (sv4 : PySem.W.subIn K (.ref C4) (.type "ValueError") = some true)
    (hg4 : PySem.W.findIn K (.ref C4) "__getattribute__" = some (some (.builtin "BaseException.__getattribute__")))
    (hk4 : PySem.W.findIn K (.ref C4) "__getattr__" = some none)
    (hd4 : PySem.W.hasDictIn K C4 = true)
    (ha4 : PySem.W.findIn K (.ref C4) "__class__" = some (some (.builtin "object.__class__")))
    (hm4 : PySem.W.mroIn K C4 (.type "object") = some true)
    (g5 : PySem.W.nsIn K mainGlobals "NoSum" = some (some (.ref C5)))
    (kp5 : PySem.W.keepIn K (.ref C5) = true)
    (ex5 : PySem.W.excIn K C5 [.type "ValueError", .type "Exception", .type "BaseException", .type "object"] "ValueError.__new__" = true)
    (sb5 : PySem.W.subIn K (.ref C5) (.type "BaseException") = some true)
    (ty5 : PySem.W.typeIn K (.ref C5) = some (.type "type"))
    (ic5 : PySem.W.isClsIn K C5 = true)
    (sv5 : PySem.W.subIn K (.ref C5) (.type "ValueError") = some true)
    (hg5 : PySem.W.findIn K (.ref C5) "__getattribute__" = some (some (.builtin "BaseException.__getattribute__")))
    (hk5 : PySem.W.findIn K (.ref C5) "__getattr__" = some none)
    (hd5 : PySem.W.hasDictIn K C5 = true)
    (ha5 : PySem.W.findIn K (.ref C5) "__class__" = some (some (.builtin "object.__class__")))
    (hm5 : PySem.W.mroIn K C5 (.type "object") = some true)
    (g6 : PySem.W.nsIn K mainGlobals "TooLittle" = some (some (.ref C6)))
    (kp6 : PySem.W.keepIn K (.ref C6) = true)
    (ex6 : PySem.W.excIn K C6 [.type "ValueError", .type "Exception", .type "BaseException", .type "object"] "ValueError.__new__" = true)
    (sb6 : PySem.W.subIn K (.ref C6) (.type "BaseException") = some true)
    (ty6 : PySem.W.typeIn K (.ref C6) = some (.type "type"))
    (ic6 : PySem.W.isClsIn K C6 = true)
    (sv6 : PySem.W.subIn K (.ref C6) (.type "ValueError") = some true)
    (hg6 : PySem.W.findIn K (.ref C6) "__getattribute__" = some (some (.builtin "BaseException.__getattribute__")))
    (hk6 : PySem.W.findIn K (.ref C6) "__getattr__" = some none)
    (hd6 : PySem.W.hasDictIn K C6 = true)
    (ha6 : PySem.W.findIn K (.ref C6) "__class__" = some (some (.builtin "object.__class__")))
    (hm6 : PySem.W.mroIn K C6 (.type "object") = some true)
    (g7 : PySem.W.nsIn K mainGlobals "NoChange" = some (some (.ref C7)))
    (kp7 : PySem.W.keepIn K (.ref C7) = true)
    (ex7 : PySem.W.excIn K C7 [.type "ValueError", .type "Exception", .type "BaseException", .type "object"] "ValueError.__new__" = true)
    (sb7 : PySem.W.subIn K (.ref C7) (.type "BaseException") = some true)
    (ty7 : PySem.W.typeIn K (.ref C7) = some (.type "type"))
    (ic7 : PySem.W.isClsIn K C7 = true)
    (sv7 : PySem.W.subIn K (.ref C7) (.type "ValueError") = some true)
    (hg7 : PySem.W.findIn K (.ref C7) "__getattribute__" = some (some (.builtin "BaseException.__getattribute__")))
    (hk7 : PySem.W.findIn K (.ref C7) "__getattr__" = some none)
    (hd7 : PySem.W.hasDictIn K C7 = true)
    (ha7 : PySem.W.findIn K (.ref C7) "__class__" = some (some (.builtin "object.__class__")))
    (hm7 : PySem.W.mroIn K C7 (.type "object") = some true)
    (g8 : PySem.W.nsIn K mainGlobals "TooFew" = some (some (.ref C8)))
    (kp8 : PySem.W.keepIn K (.ref C8) = true)
    (ex8 : PySem.W.excIn K C8 [.type "ValueError", .type "Exception", .type "BaseException", .type "object"] "ValueError.__new__" = true)
    (sb8 : PySem.W.subIn K (.ref C8) (.type "BaseException") = some true)
    (ty8 : PySem.W.typeIn K (.ref C8) = some (.type "type"))
    (ic8 : PySem.W.isClsIn K C8 = true)
    (sv8 : PySem.W.subIn K (.ref C8) (.type "ValueError") = some true)
    (hg8 : PySem.W.findIn K (.ref C8) "__getattribute__" = some (some (.builtin "BaseException.__getattribute__")))
    (hk8 : PySem.W.findIn K (.ref C8) "__getattr__" = some none)
    (hd8 : PySem.W.hasDictIn K C8 = true)
    (ha8 : PySem.W.findIn K (.ref C8) "__class__" = some (some (.builtin "object.__class__")))
    (hm8 : PySem.W.mroIn K C8 (.type "object") = some true)
    (g9 : PySem.W.nsIn K mainGlobals "StillHeld" = some (some (.ref C9)))
    (kp9 : PySem.W.keepIn K (.ref C9) = true)
    (ex9 : PySem.W.excIn K C9 [.type "ValueError", .type "Exception", .type "BaseException", .type "object"] "ValueError.__new__" = true)
    (sb9 : PySem.W.subIn K (.ref C9) (.type "BaseException") = some true)
    (ty9 : PySem.W.typeIn K (.ref C9) = some (.type "type"))
    (ic9 : PySem.W.isClsIn K C9 = true)
    (sv9 : PySem.W.subIn K (.ref C9) (.type "ValueError") = some true)
    (hg9 : PySem.W.findIn K (.ref C9) "__getattribute__" = some (some (.builtin "BaseException.__getattribute__")))
    (hk9 : PySem.W.findIn K (.ref C9) "__getattr__" = some none)
    (hd9 : PySem.W.hasDictIn K C9 = true)
    (ha9 : PySem.W.findIn K (.ref C9) "__class__" = some (some (.builtin "object.__class__")))
    (hm9 : PySem.W.mroIn K C9 (.type "object") = some true)
    (g10 : PySem.W.nsIn K mainGlobals "NoDeed" = some (some (.ref C10)))
    (kp10 : PySem.W.keepIn K (.ref C10) = true)
    (ex10 : PySem.W.excIn K C10 [.type "ValueError", .type "Exception", .type "BaseException", .type "object"] "ValueError.__new__" = true)
    (sb10 : PySem.W.subIn K (.ref C10) (.type "BaseException") = some true)
    (ty10 : PySem.W.typeIn K (.ref C10) = some (.type "type"))
    (ic10 : PySem.W.isClsIn K C10 = true)
    (sv10 : PySem.W.subIn K (.ref C10) (.type "ValueError") = some true)
    (hg10 : PySem.W.findIn K (.ref C10) "__getattribute__" = some (some (.builtin "BaseException.__getattribute__")))
    (hk10 : PySem.W.findIn K (.ref C10) "__getattr__" = some none)
    (hd10 : PySem.W.hasDictIn K C10 = true)
    (ha10 : PySem.W.findIn K (.ref C10) "__class__" = some (some (.builtin "object.__class__")))
    (hm10 : PySem.W.mroIn K C10 (.type "object") = some true)
    (hn : PySem.W.specialIn K (.builtin "object.__class__") "__get__" = some (some (.builtin "getset_descriptor.__get__")))
    (ht : PySem.W.takesIn K (.builtin "object.__class__") = some true)
    (s1_1 : PySem.W.subIn K (.ref C1) (.ref C1) = some true)
    (s1_2 : PySem.W.subIn K (.ref C1) (.ref C2) = some false)
    (s1_3 : PySem.W.subIn K (.ref C1) (.ref C3) = some false)
    (s1_4 : PySem.W.subIn K (.ref C1) (.ref C4) = some false)
    (s1_5 : PySem.W.subIn K (.ref C1) (.ref C5) = some false)
    (s1_6 : PySem.W.subIn K (.ref C1) (.ref C6) = some false)
    (s1_7 : PySem.W.subIn K (.ref C1) (.ref C7) = some false)
    (s1_8 : PySem.W.subIn K (.ref C1) (.ref C8) = some false)
    (s1_9 : PySem.W.subIn K (.ref C1) (.ref C9) = some false)
    (s1_10 : PySem.W.subIn K (.ref C1) (.ref C10) = some false)
    (s2_1 : PySem.W.subIn K (.ref C2) (.ref C1) = some false)
    (s2_2 : PySem.W.subIn K (.ref C2) (.ref C2) = some true)
    (s2_3 : PySem.W.subIn K (.ref C2) (.ref C3) = some false)
    (s2_4 : PySem.W.subIn K (.ref C2) (.ref C4) = some false)
    (s2_5 : PySem.W.subIn K (.ref C2) (.ref C5) = some false)
    (s2_6 : PySem.W.subIn K (.ref C2) (.ref C6) = some false)
    (s2_7 : PySem.W.subIn K (.ref C2) (.ref C7) = some false)
    (s2_8 : PySem.W.subIn K (.ref C2) (.ref C8) = some false)
    (s2_9 : PySem.W.subIn K (.ref C2) (.ref C9) = some false)
    (s2_10 : PySem.W.subIn K (.ref C2) (.ref C10) = some false)
    (s3_1 : PySem.W.subIn K (.ref C3) (.ref C1) = some false)
    (s3_2 : PySem.W.subIn K (.ref C3) (.ref C2) = some false)
    (s3_3 : PySem.W.subIn K (.ref C3) (.ref C3) = some true)
    (s3_4 : PySem.W.subIn K (.ref C3) (.ref C4) = some false)
    (s3_5 : PySem.W.subIn K (.ref C3) (.ref C5) = some false)
    (s3_6 : PySem.W.subIn K (.ref C3) (.ref C6) = some false)
    (s3_7 : PySem.W.subIn K (.ref C3) (.ref C7) = some false)
    (s3_8 : PySem.W.subIn K (.ref C3) (.ref C8) = some false)
    (s3_9 : PySem.W.subIn K (.ref C3) (.ref C9) = some false)
    (s3_10 : PySem.W.subIn K (.ref C3) (.ref C10) = some false)
    (s4_1 : PySem.W.subIn K (.ref C4) (.ref C1) = some false)
    (s4_2 : PySem.W.subIn K (.ref C4) (.ref C2) = some false)
    (s4_3 : PySem.W.subIn K (.ref C4) (.ref C3) = some false)
    (s4_4 : PySem.W.subIn K (.ref C4) (.ref C4) = some true)
    (s4_5 : PySem.W.subIn K (.ref C4) (.ref C5) = some false)
    (s4_6 : PySem.W.subIn K (.ref C4) (.ref C6) = some false)
    (s4_7 : PySem.W.subIn K (.ref C4) (.ref C7) = some false)
    (s4_8 : PySem.W.subIn K (.ref C4) (.ref C8) = some false)
    (s4_9 : PySem.W.subIn K (.ref C4) (.ref C9) = some false)
    (s4_10 : PySem.W.subIn K (.ref C4) (.ref C10) = some false)
    (s5_1 : PySem.W.subIn K (.ref C5) (.ref C1) = some false)
    (s5_2 : PySem.W.subIn K (.ref C5) (.ref C2) = some false)
    (s5_3 : PySem.W.subIn K (.ref C5) (.ref C3) = some false)
    (s5_4 : PySem.W.subIn K (.ref C5) (.ref C4) = some false)
    (s5_5 : PySem.W.subIn K (.ref C5) (.ref C5) = some true)
    (s5_6 : PySem.W.subIn K (.ref C5) (.ref C6) = some false)
    (s5_7 : PySem.W.subIn K (.ref C5) (.ref C7) = some false)
    (s5_8 : PySem.W.subIn K (.ref C5) (.ref C8) = some false)
    (s5_9 : PySem.W.subIn K (.ref C5) (.ref C9) = some false)
    (s5_10 : PySem.W.subIn K (.ref C5) (.ref C10) = some false)
    (s6_1 : PySem.W.subIn K (.ref C6) (.ref C1) = some false)
    (s6_2 : PySem.W.subIn K (.ref C6) (.ref C2) = some false)
    (s6_3 : PySem.W.subIn K (.ref C6) (.ref C3) = some false)
    (s6_4 : PySem.W.subIn K (.ref C6) (.ref C4) = some false)
    (s6_5 : PySem.W.subIn K (.ref C6) (.ref C5) = some false)
    (s6_6 : PySem.W.subIn K (.ref C6) (.ref C6) = some true)
    (s6_7 : PySem.W.subIn K (.ref C6) (.ref C7) = some false)
    (s6_8 : PySem.W.subIn K (.ref C6) (.ref C8) = some false)
    (s6_9 : PySem.W.subIn K (.ref C6) (.ref C9) = some false)
    (s6_10 : PySem.W.subIn K (.ref C6) (.ref C10) = some false)
    (s7_1 : PySem.W.subIn K (.ref C7) (.ref C1) = some false)
    (s7_2 : PySem.W.subIn K (.ref C7) (.ref C2) = some false)
    (s7_3 : PySem.W.subIn K (.ref C7) (.ref C3) = some false)
    (s7_4 : PySem.W.subIn K (.ref C7) (.ref C4) = some false)
    (s7_5 : PySem.W.subIn K (.ref C7) (.ref C5) = some false)
    (s7_6 : PySem.W.subIn K (.ref C7) (.ref C6) = some false)
    (s7_7 : PySem.W.subIn K (.ref C7) (.ref C7) = some true)
    (s7_8 : PySem.W.subIn K (.ref C7) (.ref C8) = some false)
    (s7_9 : PySem.W.subIn K (.ref C7) (.ref C9) = some false)
    (s7_10 : PySem.W.subIn K (.ref C7) (.ref C10) = some false)
    (s8_1 : PySem.W.subIn K (.ref C8) (.ref C1) = some false)
    (s8_2 : PySem.W.subIn K (.ref C8) (.ref C2) = some false)
    (s8_3 : PySem.W.subIn K (.ref C8) (.ref C3) = some false)
    (s8_4 : PySem.W.subIn K (.ref C8) (.ref C4) = some false)
    (s8_5 : PySem.W.subIn K (.ref C8) (.ref C5) = some false)
    (s8_6 : PySem.W.subIn K (.ref C8) (.ref C6) = some false)
    (s8_7 : PySem.W.subIn K (.ref C8) (.ref C7) = some false)
    (s8_8 : PySem.W.subIn K (.ref C8) (.ref C8) = some true)
    (s8_9 : PySem.W.subIn K (.ref C8) (.ref C9) = some false)
    (s8_10 : PySem.W.subIn K (.ref C8) (.ref C10) = some false)
    (s9_1 : PySem.W.subIn K (.ref C9) (.ref C1) = some false)
    (s9_2 : PySem.W.subIn K (.ref C9) (.ref C2) = some false)
    (s9_3 : PySem.W.subIn K (.ref C9) (.ref C3) = some false)
    (s9_4 : PySem.W.subIn K (.ref C9) (.ref C4) = some false)
    (s9_5 : PySem.W.subIn K (.ref C9) (.ref C5) = some false)
    (s9_6 : PySem.W.subIn K (.ref C9) (.ref C6) = some false)
    (s9_7 : PySem.W.subIn K (.ref C9) (.ref C7) = some false)
    (s9_8 : PySem.W.subIn K (.ref C9) (.ref C8) = some false)
    (s9_9 : PySem.W.subIn K (.ref C9) (.ref C9) = some true)
    (s9_10 : PySem.W.subIn K (.ref C9) (.ref C10) = some false)
    (s10_1 : PySem.W.subIn K (.ref C10) (.ref C1) = some false)
    (s10_2 : PySem.W.subIn K (.ref C10) (.ref C2) = some false)
    (s10_3 : PySem.W.subIn K (.ref C10) (.ref C3) = some false)
    (s10_4 : PySem.W.subIn K (.ref C10) (.ref C4) = some false)
    (s10_5 : PySem.W.subIn K (.ref C10) (.ref C5) = some false)
    (s10_6 : PySem.W.subIn K (.ref C10) (.ref C6) = some false)
    (s10_7 : PySem.W.subIn K (.ref C10) (.ref C7) = some false)
    (s10_8 : PySem.W.subIn K (.ref C10) (.ref C8) = some false)
    (s10_9 : PySem.W.subIn K (.ref C10) (.ref C9) = some false)
    (s10_10 : PySem.W.subIn K (.ref C10) (.ref C10) = some true)
    (z_len : PySem.W.nsIn K mainGlobals "len" = some none)
    (z_sum : PySem.W.nsIn K mainGlobals "sum" = some none)
    (z_abs : PySem.W.nsIn K mainGlobals "abs" = some none)
    (z_min : PySem.W.nsIn K mainGlobals "min" = some none)
    (z_max : PySem.W.nsIn K mainGlobals "max" = some none)
    (z_int : PySem.W.nsIn K mainGlobals "int" = some none)
    (z_bool : PySem.W.nsIn K mainGlobals "bool" = some none)
    (z_list : PySem.W.nsIn K mainGlobals "list" = some none)
    (z_tuple : PySem.W.nsIn K mainGlobals "tuple" = some none)
    (z_sorted : PySem.W.nsIn K mainGlobals "sorted" = some none)
    (z_isinstance : PySem.W.nsIn K mainGlobals "isinstance" = some none)
    (z_range : PySem.W.nsIn K mainGlobals "range" = some none)
    (z_zip : PySem.W.nsIn K mainGlobals "zip" = some none)
    (z_enumerate : PySem.W.nsIn K mainGlobals "enumerate" = some none)
    (z_ValueError : PySem.W.nsIn K mainGlobals "ValueError" = some none)
    (k_GREATEST : PySem.W.nsIn K mainGlobals "GREATEST" = some (some (.int 1000 t_GREATEST)))
    (k_GREATEST_SUM : PySem.W.nsIn K mainGlobals "GREATEST_SUM" = some (some (.int 1000 t_GREATEST_SUM)))
    (k_MOST_KINDS : PySem.W.nsIn K mainGlobals "MOST_KINDS" = some (some (.int 10 t_MOST_KINDS)))
    (k_MOST_PAID : PySem.W.nsIn K mainGlobals "MOST_PAID" = some (some (.int 60 t_MOST_PAID)))
    (k_MOST_PIECES : PySem.W.nsIn K mainGlobals "MOST_PIECES" = some (some (.int 1000000000 t_MOST_PIECES)))
    (a0 : PySem.W.nsIn K mainGlobals "need_value" = some (some (.ref f0)))
    (l0 : K.lookup f0 = some ⟨oc0, od0, .func (PySem.W.fnOf "need_value" "need_value" (defArgs s_need_value) (defBody s_need_value) (defScope s_need_value) .none kV0 dc0 pm0 an0 cd0 ct0), sl0⟩)
    (c0 : PySem.W.codeIn K cd0 "need_value" = true)
    (k0 : PySem.W.keepIn K (.ref f0) = true)
    (a1 : PySem.W.nsIn K mainGlobals "need_count" = some (some (.ref f1)))
    (l1 : K.lookup f1 = some ⟨oc1, od1, .func (PySem.W.fnOf "need_count" "need_count" (defArgs s_need_count) (defBody s_need_count) (defScope s_need_count) .none kV1 dc1 pm1 an1 cd1 ct1), sl1⟩)
    (c1 : PySem.W.codeIn K cd1 "need_count" = true)
    (k1 : PySem.W.keepIn K (.ref f1) = true)
    (a2 : PySem.W.nsIn K mainGlobals "count_of" = some (some (.ref f2)))
    (l2 : K.lookup f2 = some ⟨oc2, od2, .func (PySem.W.fnOf "count_of" "count_of" (defArgs s_count_of) (defBody s_count_of) (defScope s_count_of) .none kV2 dc2 pm2 an2 cd2 ct2), sl2⟩)
    (c2 : PySem.W.codeIn K cd2 "count_of" = true)
    (k2 : PySem.W.keepIn K (.ref f2) = true)
    (a3 : PySem.W.nsIn K mainGlobals "with_count" = some (some (.ref f3)))
    (l3 : K.lookup f3 = some ⟨oc3, od3, .func (PySem.W.fnOf "with_count" "with_count" (defArgs s_with_count) (defBody s_with_count) (defScope s_with_count) .none kV3 dc3 pm3 an3 cd3 ct3), sl3⟩)
    (c3 : PySem.W.codeIn K cd3 "with_count" = true)
    (k3 : PySem.W.keepIn K (.ref f3) = true)
    (a4 : PySem.W.nsIn K mainGlobals "need_sum" = some (some (.ref f4)))
    (l4 : K.lookup f4 = some ⟨oc4, od4, .func (PySem.W.fnOf "need_sum" "need_sum" (defArgs s_need_sum) (defBody s_need_sum) (defScope s_need_sum) .none kV4 dc4 pm4 an4 cd4 ct4), sl4⟩)
    (c4 : PySem.W.codeIn K cd4 "need_sum" = true)
    (k4 : PySem.W.keepIn K (.ref f4) = true)
    (a5 : PySem.W.nsIn K mainGlobals "least" = some (some (.ref f5)))
    (l5 : K.lookup f5 = some ⟨oc5, od5, .func (PySem.W.fnOf "least" "least" (defArgs s_least) (defBody s_least) (defScope s_least) .none kV5 dc5 pm5 an5 cd5 ct5), sl5⟩)
    (c5 : PySem.W.codeIn K cd5 "least" = true)
    (k5 : PySem.W.keepIn K (.ref f5) = true)
    (a6 : PySem.W.nsIn K mainGlobals "as_many" = some (some (.ref f6)))
    (l6 : K.lookup f6 = some ⟨oc6, od6, .func (PySem.W.fnOf "as_many" "as_many" (defArgs s_as_many) (defBody s_as_many) (defScope s_as_many) .none kV6 dc6 pm6 an6 cd6 ct6), sl6⟩)
    (c6 : PySem.W.codeIn K cd6 "as_many" = true)
    (k6 : PySem.W.keepIn K (.ref f6) = true)
    (a7 : PySem.W.nsIn K mainGlobals "_law_cell_at" = some (some (.ref f7)))
    (l7 : K.lookup f7 = some ⟨oc7, od7, .func (PySem.W.fnOf "_law_cell_at" "_law_cell_at" (defArgs s_l_cell_at) (defBody s_l_cell_at) (defScope s_l_cell_at) .none kV7 dc7 pm7 an7 cd7 ct7), sl7⟩)
    (c7 : PySem.W.codeIn K cd7 "_law_cell_at" = true)
    (k7 : PySem.W.keepIn K (.ref f7) = true)
    (a8 : PySem.W.nsIn K mainGlobals "_law_whole" = some (some (.ref f8)))
    (l8 : K.lookup f8 = some ⟨oc8, od8, .func (PySem.W.fnOf "_law_whole" "_law_whole" (defArgs s_l_whole) (defBody s_l_whole) (defScope s_l_whole) .none kV8 dc8 pm8 an8 cd8 ct8), sl8⟩)
    (c8 : PySem.W.codeIn K cd8 "_law_whole" = true)
    (k8 : PySem.W.keepIn K (.ref f8) = true)
    (a9 : PySem.W.nsIn K mainGlobals "_law_mixed" = some (some (.ref f9)))
    (l9 : K.lookup f9 = some ⟨oc9, od9, .func (PySem.W.fnOf "_law_mixed" "_law_mixed" (defArgs s_l_mixed) (defBody s_l_mixed) (defScope s_l_mixed) .none kV9 dc9 pm9 an9 cd9 ct9), sl9⟩)
    (c9 : PySem.W.codeIn K cd9 "_law_mixed" = true)
    (k9 : PySem.W.keepIn K (.ref f9) = true)
    (a10 : PySem.W.nsIn K mainGlobals "_law_least" = some (some (.ref f10)))
    (l10 : K.lookup f10 = some ⟨oc10, od10, .func (PySem.W.fnOf "_law_least" "_law_least" (defArgs s_l_least) (defBody s_l_least) (defScope s_l_least) .none kV10 dc10 pm10 an10 cd10 ct10), sl10⟩)
    (c10 : PySem.W.codeIn K cd10 "_law_least" = true)
    (k10 : PySem.W.keepIn K (.ref f10) = true)
    (a11 : PySem.W.nsIn K mainGlobals "_law_known" = some (some (.ref f11)))
    (l11 : K.lookup f11 = some ⟨oc11, od11, .func (PySem.W.fnOf "_law_known" "_law_known" (defArgs s_l_known) (defBody s_l_known) (defScope s_l_known) .none kV11 dc11 pm11 an11 cd11 ct11), sl11⟩)
    (c11 : PySem.W.codeIn K cd11 "_law_known" = true)
    (k11 : PySem.W.keepIn K (.ref f11) = true)
    (a12 : PySem.W.nsIn K mainGlobals "_law_moved" = some (some (.ref f12)))
    (l12 : K.lookup f12 = some ⟨oc12, od12, .func (PySem.W.fnOf "_law_moved" "_law_moved" (defArgs s_l_moved) (defBody s_l_moved) (defScope s_l_moved) .none kV12 dc12 pm12 an12 cd12 ct12), sl12⟩)
    (c12 : PySem.W.codeIn K cd12 "_law_moved" = true)
    (k12 : PySem.W.keepIn K (.ref f12) = true)
    (a13 : PySem.W.nsIn K mainGlobals "_law_kind" = some (some (.ref f13)))
    (l13 : K.lookup f13 = some ⟨oc13, od13, .func (PySem.W.fnOf "_law_kind" "_law_kind" (defArgs s_l_kind) (defBody s_l_kind) (defScope s_l_kind) .none kV13 dc13 pm13 an13 cd13 ct13), sl13⟩)
    (c13 : PySem.W.codeIn K cd13 "_law_kind" = true)
    (k13 : PySem.W.keepIn K (.ref f13) = true)
    (a14 : PySem.W.nsIn K mainGlobals "_law_unpaid" = some (some (.ref f14)))
    (l14 : K.lookup f14 = some ⟨oc14, od14, .func (PySem.W.fnOf "_law_unpaid" "_law_unpaid" (defArgs s_l_unpaid) (defBody s_l_unpaid) (defScope s_l_unpaid) .none kV14 dc14 pm14 an14 cd14 ct14), sl14⟩)
    (c14 : PySem.W.codeIn K cd14 "_law_unpaid" = true)
    (k14 : PySem.W.keepIn K (.ref f14) = true)
    (a15 : PySem.W.nsIn K mainGlobals "_law_exact" = some (some (.ref f15)))
    (l15 : K.lookup f15 = some ⟨oc15, od15, .func (PySem.W.fnOf "_law_exact" "_law_exact" (defArgs s_l_exact) (defBody s_l_exact) (defScope s_l_exact) .none kV15 dc15 pm15 an15 cd15 ct15), sl15⟩)
    (c15 : PySem.W.codeIn K cd15 "_law_exact" = true)
    (k15 : PySem.W.keepIn K (.ref f15) = true)
    (a16 : PySem.W.nsIn K mainGlobals "_law_copies" = some (some (.ref f16)))
    (l16 : K.lookup f16 = some ⟨oc16, od16, .func (PySem.W.fnOf "_law_copies" "_law_copies" (defArgs s_l_copies) (defBody s_l_copies) (defScope s_l_copies) .none kV16 dc16 pm16 an16 cd16 ct16), sl16⟩)
    (c16 : PySem.W.codeIn K cd16 "_law_copies" = true)
    (k16 : PySem.W.keepIn K (.ref f16) = true)
    (a17 : PySem.W.nsIn K mainGlobals "table" = some (some (.ref f17)))
    (l17 : K.lookup f17 = some ⟨oc17, od17, .func (PySem.W.fnOf "table" "table" (defArgs s_table) (defBody s_table) (defScope s_table) .none kV17 dc17 pm17 an17 cd17 ct17), sl17⟩)
    (c17 : PySem.W.codeIn K cd17 "table" = true)
    (k17 : PySem.W.keepIn K (.ref f17) = true)
    (a18 : PySem.W.nsIn K mainGlobals "with_all" = some (some (.ref f18)))
    (l18 : K.lookup f18 = some ⟨oc18, od18, .func (PySem.W.fnOf "with_all" "with_all" (defArgs s_with_all) (defBody s_with_all) (defScope s_with_all) .none kV18 dc18 pm18 an18 cd18 ct18), sl18⟩)
    (c18 : PySem.W.codeIn K cd18 "with_all" = true)
    (k18 : PySem.W.keepIn K (.ref f18) = true)
    (a19 : PySem.W.nsIn K mainGlobals "brought" = some (some (.ref f19)))
    (l19 : K.lookup f19 = some ⟨oc19, od19, .func (PySem.W.fnOf "brought" "brought" (defArgs s_brought) (defBody s_brought) (defScope s_brought) .none kV19 dc19 pm19 an19 cd19 ct19), sl19⟩)
    (c19 : PySem.W.codeIn K cd19 "brought" = true)
    (k19 : PySem.W.keepIn K (.ref f19) = true)
    (a20 : PySem.W.nsIn K mainGlobals "fetched" = some (some (.ref f20)))
    (l20 : K.lookup f20 = some ⟨oc20, od20, .func (PySem.W.fnOf "fetched" "fetched" (defArgs s_fetched) (defBody s_fetched) (defScope s_fetched) .none kV20 dc20 pm20 an20 cd20 ct20), sl20⟩)
    (c20 : PySem.W.codeIn K cd20 "fetched" = true)
    (k20 : PySem.W.keepIn K (.ref f20) = true)
    (a21 : PySem.W.nsIn K mainGlobals "kind_in" = some (some (.ref f21)))
    (l21 : K.lookup f21 = some ⟨oc21, od21, .func (PySem.W.fnOf "kind_in" "kind_in" (defArgs s_kind_in) (defBody s_kind_in) (defScope s_kind_in) .none kV21 dc21 pm21 an21 cd21 ct21), sl21⟩)
    (c21 : PySem.W.codeIn K cd21 "kind_in" = true)
    (k21 : PySem.W.keepIn K (.ref f21) = true)
    (a22 : PySem.W.nsIn K mainGlobals "kind_out" = some (some (.ref f22)))
    (l22 : K.lookup f22 = some ⟨oc22, od22, .func (PySem.W.fnOf "kind_out" "kind_out" (defArgs s_kind_out) (defBody s_kind_out) (defScope s_kind_out) .none kV22 dc22 pm22 an22 cd22 ct22), sl22⟩)
    (c22 : PySem.W.codeIn K cd22 "kind_out" = true)
    (k22 : PySem.W.keepIn K (.ref f22) = true)
    (a23 : PySem.W.nsIn K mainGlobals "_law_value" = some (some (.ref f23)))
    (l23 : K.lookup f23 = some ⟨oc23, od23, .func (PySem.W.fnOf "_law_value" "_law_value" (defArgs s_l_value) (defBody s_l_value) (defScope s_l_value) .none kV23 dc23 pm23 an23 cd23 ct23), sl23⟩)
    (c23 : PySem.W.codeIn K cd23 "_law_value" = true)
    (k23 : PySem.W.keepIn K (.ref f23) = true)
    (a24 : PySem.W.nsIn K mainGlobals "_law_count" = some (some (.ref f24)))
    (l24 : K.lookup f24 = some ⟨oc24, od24, .func (PySem.W.fnOf "_law_count" "_law_count" (defArgs s_l_count) (defBody s_l_count) (defScope s_l_count) .none kV24 dc24 pm24 an24 cd24 ct24), sl24⟩)
    (c24 : PySem.W.codeIn K cd24 "_law_count" = true)
    (k24 : PySem.W.keepIn K (.ref f24) = true)
    (a25 : PySem.W.nsIn K mainGlobals "_law_alike" = some (some (.ref f25)))
    (l25 : K.lookup f25 = some ⟨oc25, od25, .func (PySem.W.fnOf "_law_alike" "_law_alike" (defArgs s_l_alike) (defBody s_l_alike) (defScope s_l_alike) .none kV25 dc25 pm25 an25 cd25 ct25), sl25⟩)
    (c25 : PySem.W.codeIn K cd25 "_law_alike" = true)
    (k25 : PySem.W.keepIn K (.ref f25) = true)
    (a26 : PySem.W.nsIn K mainGlobals "_law_row" = some (some (.ref f26)))
    (l26 : K.lookup f26 = some ⟨oc26, od26, .func (PySem.W.fnOf "_law_row" "_law_row" (defArgs s_l_row) (defBody s_l_row) (defScope s_l_row) .none kV26 dc26 pm26 an26 cd26 ct26), sl26⟩)
    (c26 : PySem.W.codeIn K cd26 "_law_row" = true)
    (k26 : PySem.W.keepIn K (.ref f26) = true)
    (a27 : PySem.W.nsIn K mainGlobals "_law_change" = some (some (.ref f27)))
    (l27 : K.lookup f27 = some ⟨oc27, od27, .func (PySem.W.fnOf "_law_change" "_law_change" (defArgs s_l_change) (defBody s_l_change) (defScope s_l_change) .none kV27 dc27 pm27 an27 cd27 ct27), sl27⟩)
    (c27 : PySem.W.codeIn K cd27 "_law_change" = true)
    (k27 : PySem.W.keepIn K (.ref f27) = true)
    (a28 : PySem.W.nsIn K mainGlobals "_law_deed" = some (some (.ref f28)))
    (l28 : K.lookup f28 = some ⟨oc28, od28, .func (PySem.W.fnOf "_law_deed" "_law_deed" (defArgs s_l_deed) (defBody s_l_deed) (defScope s_l_deed) .none kV28 dc28 pm28 an28 cd28 ct28), sl28⟩)
    (c28 : PySem.W.codeIn K cd28 "_law_deed" = true)
    (k28 : PySem.W.keepIn K (.ref f28) = true)
    (a29 : PySem.W.nsIn K mainGlobals "fewest" = some (some (.ref f29)))
    (l29 : K.lookup f29 = some ⟨oc29, od29, .func (PySem.W.fnOf "fewest" "fewest" (defArgs s_fewest) (defBody s_fewest) (defScope s_fewest) .none kV29 dc29 pm29 an29 cd29 ct29), sl29⟩)
    (c29 : PySem.W.codeIn K cd29 "fewest" = true)
    (k29 : PySem.W.keepIn K (.ref f29) = true)
    (a30 : PySem.W.nsIn K mainGlobals "_law_pairs" = some (some (.ref f30)))
    (l30 : K.lookup f30 = some ⟨oc30, od30, .func (PySem.W.fnOf "_law_pairs" "_law_pairs" (defArgs s_l_pairs) (defBody s_l_pairs) (defScope s_l_pairs) .none kV30 dc30 pm30 an30 cd30 ct30), sl30⟩)
    (c30 : PySem.W.codeIn K cd30 "_law_pairs" = true)
    (k30 : PySem.W.keepIn K (.ref f30) = true)
    (a31 : PySem.W.nsIn K mainGlobals "_law_walked" = some (some (.ref f31)))
    (l31 : K.lookup f31 = some ⟨oc31, od31, .func (PySem.W.fnOf "_law_walked" "_law_walked" (defArgs s_l_walked) (defBody s_l_walked) (defScope s_l_walked) .none kV31 dc31 pm31 an31 cd31 ct31), sl31⟩)
    (c31 : PySem.W.codeIn K cd31 "_law_walked" = true)
    (k31 : PySem.W.keepIn K (.ref f31) = true)
    (a32 : PySem.W.nsIn K mainGlobals "paid" = some (some (.ref f32)))
    (l32 : K.lookup f32 = some ⟨oc32, od32, .func (PySem.W.fnOf "paid" "paid" (defArgs s_paid) (defBody s_paid) (defScope s_paid) .none kV32 dc32 pm32 an32 cd32 ct32), sl32⟩)
    (c32 : PySem.W.codeIn K cd32 "paid" = true)
    (k32 : PySem.W.keepIn K (.ref f32) = true)
    (a33 : PySem.W.nsIn K mainGlobals "_law_paid" = some (some (.ref f33)))
    (l33 : K.lookup f33 = some ⟨oc33, od33, .func (PySem.W.fnOf "_law_paid" "_law_paid" (defArgs s_l_paid) (defBody s_l_paid) (defScope s_l_paid) .none kV33 dc33 pm33 an33 cd33 ct33), sl33⟩)
    (c33 : PySem.W.codeIn K cd33 "_law_paid" = true)
    (k33 : PySem.W.keepIn K (.ref f33) = true)
    (a34 : PySem.W.nsIn K mainGlobals "done" = some (some (.ref f34)))
    (l34 : K.lookup f34 = some ⟨oc34, od34, .func (PySem.W.fnOf "done" "done" (defArgs s_done) (defBody s_done) (defScope s_done) .none kV34 dc34 pm34 an34 cd34 ct34), sl34⟩)
    (c34 : PySem.W.codeIn K cd34 "done" = true)
    (k34 : PySem.W.keepIn K (.ref f34) = true)
    (a35 : PySem.W.nsIn K mainGlobals "_law_right" = some (some (.ref f35)))
    (l35 : K.lookup f35 = some ⟨oc35, od35, .func (PySem.W.fnOf "_law_right" "_law_right" (defArgs s_l_right) (defBody s_l_right) (defScope s_l_right) .none kV35 dc35 pm35 an35 cd35 ct35), sl35⟩)
    (c35 : PySem.W.codeIn K cd35 "_law_right" = true)
    (k35 : PySem.W.keepIn K (.ref f35) = true)
    (a36 : PySem.W.nsIn K mainGlobals "tried" = some (some (.ref f36)))
    (l36 : K.lookup f36 = some ⟨oc36, od36, .func (PySem.W.fnOf "tried" "tried" (defArgs s_tried) (defBody s_tried) (defScope s_tried) .none kV36 dc36 pm36 an36 cd36 ct36), sl36⟩)
    (c36 : PySem.W.codeIn K cd36 "tried" = true)
    (k36 : PySem.W.keepIn K (.ref f36) = true)
    (a37 : PySem.W.nsIn K mainGlobals "day" = some (some (.ref f37)))
    (l37 : K.lookup f37 = some ⟨oc37, od37, .func (PySem.W.fnOf "day" "day" (defArgs s_day) (defBody s_day) (defScope s_day) .none kV37 dc37 pm37 an37 cd37 ct37), sl37⟩)
    (c37 : PySem.W.codeIn K cd37 "day" = true)
    (k37 : PySem.W.keepIn K (.ref f37) = true)
    (a38 : PySem.W.nsIn K mainGlobals "_law_again" = some (some (.ref f38)))
    (l38 : K.lookup f38 = some ⟨oc38, od38, .func (PySem.W.fnOf "_law_again" "_law_again" (defArgs s_l_again) (defBody s_l_again) (defScope s_l_again) .none kV38 dc38 pm38 an38 cd38 ct38), sl38⟩)
    (c38 : PySem.W.codeIn K cd38 "_law_again" = true)
    (k38 : PySem.W.keepIn K (.ref f38) = true)
    (a39 : PySem.W.nsIn K mainGlobals "law" = some (some (.ref f39)))
    (l39 : K.lookup f39 = some ⟨oc39, od39, .func (PySem.W.fnOf "law" "law" (defArgs s_law) (defBody s_law) (defScope s_law) .none kV39 dc39 pm39 an39 cd39 ct39), sl39⟩)
    (c39 : PySem.W.codeIn K cd39 "law" = true)
    (k39 : PySem.W.keepIn K (.ref f39) = true) :
    ∃ fd : FuncData, (∀ (s : Shared) (v : Value), BindsTo s fd ⟨[v], []⟩ [("_law_script", v)]) ∧ ∀ base : Heap, K.In base → base.Ns mainGlobals mg → FnOk P w K mg base (L2.CX P w) 9 fa fd ["_law_script"] (spV ph_law) := by
  have e := hfa.symm.trans (PySem.W.mg_of X G a39)
  cases e
  have bi : Bi mg := ⟨PySem.W.mg_none_of X G z_len, PySem.W.mg_none_of X G z_sum, PySem.W.mg_none_of X G z_abs, PySem.W.mg_none_of X G z_min, PySem.W.mg_none_of X G z_max, PySem.W.mg_none_of X G z_int, PySem.W.mg_none_of X G z_bool, PySem.W.mg_none_of X G z_list, PySem.W.mg_none_of X G z_tuple, PySem.W.mg_none_of X G z_sorted, PySem.W.mg_none_of X G z_isinstance, PySem.W.mg_none_of X G z_range, PySem.W.mg_none_of X G z_zip, PySem.W.mg_none_of X G z_enumerate, PySem.W.mg_none_of X G z_ValueError⟩
  have cl : Cls' K mg (caL [(1, C1), (2, C2), (3, C3), (4, C4), (5, C5), (6, C6), (7, C7), (8, C8), (9, C9), (10, C10)]) xsL ysL := ⟨memc ⟨PySem.W.mg_of X G g1, kp1, ex1, sb1, ty1, ic1, sv1, ⟨hg1, hk1, sb1, hd1, ha1, hn, ht, hm1⟩⟩ (memc ⟨PySem.W.mg_of X G g2, kp2, ex2, sb2, ty2, ic2, sv2, ⟨hg2, hk2, sb2, hd2, ha2, hn, ht, hm2⟩⟩ (memc ⟨PySem.W.mg_of X G g3, kp3, ex3, sb3, ty3, ic3, sv3, ⟨hg3, hk3, sb3, hd3, ha3, hn, ht, hm3⟩⟩ (memc ⟨PySem.W.mg_of X G g4, kp4, ex4, sb4, ty4, ic4, sv4, ⟨hg4, hk4, sb4, hd4, ha4, hn, ht, hm4⟩⟩ (memc ⟨PySem.W.mg_of X G g5, kp5, ex5, sb5, ty5, ic5, sv5, ⟨hg5, hk5, sb5, hd5, ha5, hn, ht, hm5⟩⟩ (memc ⟨PySem.W.mg_of X G g6, kp6, ex6, sb6, ty6, ic6, sv6, ⟨hg6, hk6, sb6, hd6, ha6, hn, ht, hm6⟩⟩ (memc ⟨PySem.W.mg_of X G g7, kp7, ex7, sb7, ty7, ic7, sv7, ⟨hg7, hk7, sb7, hd7, ha7, hn, ht, hm7⟩⟩ (memc ⟨PySem.W.mg_of X G g8, kp8, ex8, sb8, ty8, ic8, sv8, ⟨hg8, hk8, sb8, hd8, ha8, hn, ht, hm8⟩⟩ (memc ⟨PySem.W.mg_of X G g9, kp9, ex9, sb9, ty9, ic9, sv9, ⟨hg9, hk9, sb9, hd9, ha9, hn, ht, hm9⟩⟩ (memc ⟨PySem.W.mg_of X G g10, kp10, ex10, sb10, ty10, ic10, sv10, ⟨hg10, hk10, sb10, hd10, ha10, hn, ht, hm10⟩⟩ (memn)))))))))), memc ⟨by decide, memc s1_1 (memc s1_2 (memc s1_3 (memc s1_4 (memc s1_5 (memc s1_6 (memc s1_7 (memc s1_8 (memc s1_9 (memc s1_10 (memn))))))))))⟩ (memc ⟨by decide, memc s2_1 (memc s2_2 (memc s2_3 (memc s2_4 (memc s2_5 (memc s2_6 (memc s2_7 (memc s2_8 (memc s2_9 (memc s2_10 (memn))))))))))⟩ (memc ⟨by decide, memc s3_1 (memc s3_2 (memc s3_3 (memc s3_4 (memc s3_5 (memc s3_6 (memc s3_7 (memc s3_8 (memc s3_9 (memc s3_10 (memn))))))))))⟩ (memc ⟨by decide, memc s4_1 (memc s4_2 (memc s4_3 (memc s4_4 (memc s4_5 (memc s4_6 (memc s4_7 (memc s4_8 (memc s4_9 (memc s4_10 (memn))))))))))⟩ (memc ⟨by decide, memc s5_1 (memc s5_2 (memc s5_3 (memc s5_4 (memc s5_5 (memc s5_6 (memc s5_7 (memc s5_8 (memc s5_9 (memc s5_10 (memn))))))))))⟩ (memc ⟨by decide, memc s6_1 (memc s6_2 (memc s6_3 (memc s6_4 (memc s6_5 (memc s6_6 (memc s6_7 (memc s6_8 (memc s6_9 (memc s6_10 (memn))))))))))⟩ (memc ⟨by decide, memc s7_1 (memc s7_2 (memc s7_3 (memc s7_4 (memc s7_5 (memc s7_6 (memc s7_7 (memc s7_8 (memc s7_9 (memc s7_10 (memn))))))))))⟩ (memc ⟨by decide, memc s8_1 (memc s8_2 (memc s8_3 (memc s8_4 (memc s8_5 (memc s8_6 (memc s8_7 (memc s8_8 (memc s8_9 (memc s8_10 (memn))))))))))⟩ (memc ⟨by decide, memc s9_1 (memc s9_2 (memc s9_3 (memc s9_4 (memc s9_5 (memc s9_6 (memc s9_7 (memc s9_8 (memc s9_9 (memc s9_10 (memn))))))))))⟩ (memc ⟨by decide, memc s10_1 (memc s10_2 (memc s10_3 (memc s10_4 (memc s10_5 (memc s10_6 (memc s10_7 (memc s10_8 (memc s10_9 (memc s10_10 (memn))))))))))⟩ (memn))))))))))⟩
  have q_GREATEST : ∃ t, mg "GREATEST" = some (.int 1000 t) := ⟨_, PySem.W.mg_of X G k_GREATEST⟩
  have q_GREATEST_SUM : ∃ t, mg "GREATEST_SUM" = some (.int 1000 t) := ⟨_, PySem.W.mg_of X G k_GREATEST_SUM⟩
  have q_MOST_KINDS : ∃ t, mg "MOST_KINDS" = some (.int 10 t) := ⟨_, PySem.W.mg_of X G k_MOST_KINDS⟩
  have q_MOST_PAID : ∃ t, mg "MOST_PAID" = some (.int 60 t) := ⟨_, PySem.W.mg_of X G k_MOST_PAID⟩
  have q_MOST_PIECES : ∃ t, mg "MOST_PIECES" = some (.int 1000000000 t) := ⟨_, PySem.W.mg_of X G k_MOST_PIECES⟩
  have F0 := fun_mk (st := s_need_value) l0 c0 k0
  have b0 := F0.binds (ps := ["value"]) fun _ _ _ _ _ _ us hl => match us, hl with | [_], _ => rfl
  have F1 := fun_mk (st := s_need_count) l1 c1 k1
  have b1 := F1.binds (ps := ["count"]) fun _ _ _ _ _ _ us hl => match us, hl with | [_], _ => rfl
  have F2 := fun_mk (st := s_count_of) l2 c2 k2
  have b2 := F2.binds (ps := ["till", "value"]) fun _ _ _ _ _ _ us hl => match us, hl with | [_, _], _ => rfl
  have F3 := fun_mk (st := s_with_count) l3 c3 k3
  have b3 := F3.binds (ps := ["till", "value", "count"]) fun _ _ _ _ _ _ us hl => match us, hl with | [_, _, _], _ => rfl
  have F4 := fun_mk (st := s_need_sum) l4 c4 k4
  have b4 := F4.binds (ps := ["due"]) fun _ _ _ _ _ _ us hl => match us, hl with | [_], _ => rfl
  have F5 := fun_mk (st := s_least) l5 c5 k5
  have b5 := F5.binds (ps := ["ahead", "at", "pair"]) fun _ _ _ _ _ _ us hl => match us, hl with | [_, _, _], _ => rfl
  have F6 := fun_mk (st := s_as_many) l6 c6 k6
  have b6 := F6.binds (ps := ["ahead", "at", "pair", "few"]) fun _ _ _ _ _ _ us hl => match us, hl with | [_, _, _, _], _ => rfl
  have F7 := fun_mk (st := s_l_cell_at) l7 c7 k7
  have b7 := F7.binds (ps := ["_law_script", "_law_k"]) fun _ _ _ _ _ _ us hl => match us, hl with | [_, _], _ => rfl
  have F8 := fun_mk (st := s_l_whole) l8 c8 k8
  have b8 := F8.binds (ps := ["_law_found"]) fun _ _ _ _ _ _ us hl => match us, hl with | [_], _ => rfl
  have F9 := fun_mk (st := s_l_mixed) l9 c9 k9
  have b9 := F9.binds (ps := ["_law_cell", "_law_k"]) fun _ _ _ _ _ _ us hl => match us, hl with | [_, _], _ => rfl
  have F10 := fun_mk (st := s_l_least) l10 c10 k10
  have b10 := F10.binds (ps := ["_law_ahead", "_law_at", "_law_value_here", "_law_count_here"]) fun _ _ _ _ _ _ us hl => match us, hl with | [_, _, _, _], _ => rfl
  have F11 := fun_mk (st := s_l_known) l11 c11 k11
  have b11 := F11.binds (ps := ["_law_values", "_law_drawn"]) fun _ _ _ _ _ _ us hl => match us, hl with | [_, _], _ => rfl
  have F12 := fun_mk (st := s_l_moved) l12 c12 k12
  have b12 := F12.binds (ps := ["_law_held", "_law_deed_here"]) fun _ _ _ _ _ _ us hl => match us, hl with | [_, _], _ => rfl
  have F13 := fun_mk (st := s_l_kind) l13 c13 k13
  have b13 := F13.binds (ps := ["_law_held", "_law_deed_here"]) fun _ _ _ _ _ _ us hl => match us, hl with | [_, _], _ => rfl
  have F14 := fun_mk (st := s_l_unpaid) l14 c14 k14
  have b14 := F14.binds (ps := ["_law_held", "_law_deed_here"]) fun _ _ _ _ _ _ us hl => match us, hl with | [_, _], _ => rfl
  have F15 := fun_mk (st := s_l_exact) l15 c15 k15
  have b15 := F15.binds (ps := ["_law_rows", "_law_till", "_law_due"]) fun _ _ _ _ _ _ us hl => match us, hl with | [_, _, _], _ => rfl
  have F16 := fun_mk (st := s_l_copies) l16 c16 k16
  have b16 := F16.binds (ps := ["_law_deeds"]) fun _ _ _ _ _ _ us hl => match us, hl with | [_], _ => rfl
  have F17 := fun_mk (st := s_table) l17 c17 k17
  have b17 := F17.binds (ps := ["till", "most"]) fun _ _ _ _ _ _ us hl => match us, hl with | [_, _], _ => rfl
  have F18 := fun_mk (st := s_with_all) l18 c18 k18
  have b18 := F18.binds (ps := ["till", "values"]) fun _ _ _ _ _ _ us hl => match us, hl with | [_, _], _ => rfl
  have F19 := fun_mk (st := s_brought) l19 c19 k19
  have b19 := F19.binds (ps := ["till", "value", "count"]) fun _ _ _ _ _ _ us hl => match us, hl with | [_, _, _], _ => rfl
  have F20 := fun_mk (st := s_fetched) l20 c20 k20
  have b20 := F20.binds (ps := ["till", "value", "count"]) fun _ _ _ _ _ _ us hl => match us, hl with | [_, _, _], _ => rfl
  have F21 := fun_mk (st := s_kind_in) l21 c21 k21
  have b21 := F21.binds (ps := ["till", "value"]) fun _ _ _ _ _ _ us hl => match us, hl with | [_, _], _ => rfl
  have F22 := fun_mk (st := s_kind_out) l22 c22 k22
  have b22 := F22.binds (ps := ["till", "value"]) fun _ _ _ _ _ _ us hl => match us, hl with | [_, _], _ => rfl
  have F23 := fun_mk (st := s_l_value) l23 c23 k23
  have b23 := F23.binds (ps := ["_law_cell", "_law_k"]) fun _ _ _ _ _ _ us hl => match us, hl with | [_, _], _ => rfl
  have F24 := fun_mk (st := s_l_count) l24 c24 k24
  have b24 := F24.binds (ps := ["_law_cell", "_law_k"]) fun _ _ _ _ _ _ us hl => match us, hl with | [_, _], _ => rfl
  have F25 := fun_mk (st := s_l_alike) l25 c25 k25
  have b25 := F25.binds (ps := ["_law_found", "_law_due"]) fun _ _ _ _ _ _ us hl => match us, hl with | [_, _], _ => rfl
  have F26 := fun_mk (st := s_l_row) l26 c26 k26
  have b26 := F26.binds (ps := ["_law_row_here", "_law_size"]) fun _ _ _ _ _ _ us hl => match us, hl with | [_, _], _ => rfl
  have F27 := fun_mk (st := s_l_change) l27 c27 k27
  have b27 := F27.binds (ps := ["_law_found", "_law_till", "_law_due"]) fun _ _ _ _ _ _ us hl => match us, hl with | [_, _, _], _ => rfl
  have F28 := fun_mk (st := s_l_deed) l28 c28 k28
  have b28 := F28.binds (ps := ["_law_cell", "_law_values", "_law_k"]) fun _ _ _ _ _ _ us hl => match us, hl with | [_, _, _], _ => rfl
  have F29 := fun_mk (st := s_fewest) l29 c29 k29
  have b29 := F29.binds (ps := ["till", "due"]) fun _ _ _ _ _ _ us hl => match us, hl with | [_, _], _ => rfl
  have F30 := fun_mk (st := s_l_pairs) l30 c30 k30
  have b30 := F30.binds (ps := ["_law_script"]) fun _ _ _ _ _ _ us hl => match us, hl with | [_], _ => rfl
  have F31 := fun_mk (st := s_l_walked) l31 c31 k31
  have b31 := F31.binds (ps := ["_law_rows", "_law_till", "_law_most"]) fun _ _ _ _ _ _ us hl => match us, hl with | [_, _, _], _ => rfl
  have F32 := fun_mk (st := s_paid) l32 c32 k32
  have b32 := F32.binds (ps := ["till", "price", "values"]) fun _ _ _ _ _ _ us hl => match us, hl with | [_, _, _], _ => rfl
  have F33 := fun_mk (st := s_l_paid) l33 c33 k33
  have b33 := F33.binds (ps := ["_law_held", "_law_deed_here", "_law_answer"]) fun _ _ _ _ _ _ us hl => match us, hl with | [_, _, _], _ => rfl
  have F34 := fun_mk (st := s_done) l34 c34 k34
  have b34 := F34.binds (ps := ["till", "deed"]) fun _ _ _ _ _ _ us hl => match us, hl with | [_, _], _ => rfl
  have F35 := fun_mk (st := s_l_right) l35 c35 k35
  have b35 := F35.binds (ps := ["_law_held", "_law_deed_here", "_law_answer"]) fun _ _ _ _ _ _ us hl => match us, hl with | [_, _, _], _ => rfl
  have F36 := fun_mk (st := s_tried) l36 c36 k36
  have b36 := F36.binds (ps := ["till", "deed"]) fun _ _ _ _ _ _ us hl => match us, hl with | [_, _], _ => rfl
  have F37 := fun_mk (st := s_day) l37 c37 k37
  have b37 := F37.binds (ps := ["till", "deeds"]) fun _ _ _ _ _ _ us hl => match us, hl with | [_, _], _ => rfl
  have F38 := fun_mk (st := s_l_again) l38 c38 k38
  have b38 := F38.binds (ps := ["_law_first", "_law_handed", "_law_found", "_law_due"]) fun _ _ _ _ _ _ us hl => match us, hl with | [_, _, _, _], _ => rfl
  have F39 := fun_mk (st := s_law) l39 c39 k39
  refine ⟨PySem.W.fnOf "law" "law" (defArgs s_law) (defBody s_law) (defScope s_law) .none kV39 dc39 pm39 an39 cd39 ct39, fun s v => .of_eq rfl, fun base _ _ => ?_⟩
  have c_need_value : Cal P w K mg base (caL [(1, C1), (2, C2), (3, C3), (4, C4), (5, C5), (6, C6), (7, C7), (8, C8), (9, C9), (10, C10)]) "need_value" ph_need_value 1 := dv_need_value F0 (PySem.W.mg_of X G a0) b0 bi cl q_GREATEST ar_need_value (by first | exact wp_need_value | (apply wp_need_value <;> decide))
  have c_need_count : Cal P w K mg base (caL [(1, C1), (2, C2), (3, C3), (4, C4), (5, C5), (6, C6), (7, C7), (8, C8), (9, C9), (10, C10)]) "need_count" ph_need_count 1 := dv_need_count F1 (PySem.W.mg_of X G a1) b1 bi cl q_MOST_PIECES ar_need_count (by first | exact wp_need_count | (apply wp_need_count <;> decide))
  have c_count_of : Cal P w K mg base (caL [(1, C1), (2, C2), (3, C3), (4, C4), (5, C5), (6, C6), (7, C7), (8, C8), (9, C9), (10, C10)]) "count_of" ph_count_of 1 := dv_count_of F2 (PySem.W.mg_of X G a2) b2 bi cl ar_count_of (by first | exact wp_count_of | (apply wp_count_of <;> decide))
  have c_with_count : Cal P w K mg base (caL [(1, C1), (2, C2), (3, C3), (4, C4), (5, C5), (6, C6), (7, C7), (8, C8), (9, C9), (10, C10)]) "with_count" ph_with_count 1 := dv_with_count F3 (PySem.W.mg_of X G a3) b3 bi cl ar_with_count (by first | exact wp_with_count | (apply wp_with_count <;> decide))
  have c_need_sum : Cal P w K mg base (caL [(1, C1), (2, C2), (3, C3), (4, C4), (5, C5), (6, C6), (7, C7), (8, C8), (9, C9), (10, C10)]) "need_sum" ph_need_sum 1 := dv_need_sum F4 (PySem.W.mg_of X G a4) b4 bi cl q_GREATEST_SUM ar_need_sum (by first | exact wp_need_sum | (apply wp_need_sum <;> decide))
  have c_least : Cal P w K mg base (caL [(1, C1), (2, C2), (3, C3), (4, C4), (5, C5), (6, C6), (7, C7), (8, C8), (9, C9), (10, C10)]) "least" ph_least 1 := dv_least F5 (PySem.W.mg_of X G a5) b5 bi cl ar_least (by first | exact wp_least | (apply wp_least <;> decide))
  have c_as_many : Cal P w K mg base (caL [(1, C1), (2, C2), (3, C3), (4, C4), (5, C5), (6, C6), (7, C7), (8, C8), (9, C9), (10, C10)]) "as_many" ph_as_many 1 := dv_as_many F6 (PySem.W.mg_of X G a6) b6 bi cl ar_as_many (by first | exact wp_as_many | (apply wp_as_many <;> decide))
  have c_l_cell_at : Cal P w K mg base (caL [(1, C1), (2, C2), (3, C3), (4, C4), (5, C5), (6, C6), (7, C7), (8, C8), (9, C9), (10, C10)]) "_law_cell_at" ph_l_cell_at 1 := dv_l_cell_at F7 (PySem.W.mg_of X G a7) b7 bi cl ar_l_cell_at (by first | exact wp_l_cell_at | (apply wp_l_cell_at <;> decide))
  have c_l_whole : Cal P w K mg base (caL [(1, C1), (2, C2), (3, C3), (4, C4), (5, C5), (6, C6), (7, C7), (8, C8), (9, C9), (10, C10)]) "_law_whole" ph_l_whole 1 := dv_l_whole F8 (PySem.W.mg_of X G a8) b8 bi cl ar_l_whole (by first | exact wp_l_whole | (apply wp_l_whole <;> decide))
  have c_l_mixed : Cal P w K mg base (caL [(1, C1), (2, C2), (3, C3), (4, C4), (5, C5), (6, C6), (7, C7), (8, C8), (9, C9), (10, C10)]) "_law_mixed" ph_l_mixed 1 := dv_l_mixed F9 (PySem.W.mg_of X G a9) b9 bi cl ar_l_mixed (by first | exact wp_l_mixed | (apply wp_l_mixed <;> decide))
  have c_l_least : Cal P w K mg base (caL [(1, C1), (2, C2), (3, C3), (4, C4), (5, C5), (6, C6), (7, C7), (8, C8), (9, C9), (10, C10)]) "_law_least" ph_l_least 1 := dv_l_least F10 (PySem.W.mg_of X G a10) b10 bi cl ar_l_least (by first | exact wp_l_least | (apply wp_l_least <;> decide))
  have c_l_known : Cal P w K mg base (caL [(1, C1), (2, C2), (3, C3), (4, C4), (5, C5), (6, C6), (7, C7), (8, C8), (9, C9), (10, C10)]) "_law_known" ph_l_known 1 := dv_l_known F11 (PySem.W.mg_of X G a11) b11 bi cl ar_l_known (by first | exact wp_l_known | (apply wp_l_known <;> decide))
  have c_l_moved : CalM P w K mg base (caL [(1, C1), (2, C2), (3, C3), (4, C4), (5, C5), (6, C6), (7, C7), (8, C8), (9, C9), (10, C10)]) "_law_moved" ph_l_moved 1 := dv_l_moved F12 (PySem.W.mg_of X G a12) b12 bi cl ar_l_moved (by first | exact wp_l_moved | (apply wp_l_moved <;> decide))
  have c_l_kind : CalM P w K mg base (caL [(1, C1), (2, C2), (3, C3), (4, C4), (5, C5), (6, C6), (7, C7), (8, C8), (9, C9), (10, C10)]) "_law_kind" ph_l_kind 1 := dv_l_kind F13 (PySem.W.mg_of X G a13) b13 bi cl ar_l_kind (by first | exact wp_l_kind | (apply wp_l_kind <;> decide))
  have c_l_unpaid : CalM P w K mg base (caL [(1, C1), (2, C2), (3, C3), (4, C4), (5, C5), (6, C6), (7, C7), (8, C8), (9, C9), (10, C10)]) "_law_unpaid" ph_l_unpaid 1 := dv_l_unpaid F14 (PySem.W.mg_of X G a14) b14 bi cl ar_l_unpaid (by first | exact wp_l_unpaid | (apply wp_l_unpaid <;> decide))
  have c_l_exact : Cal P w K mg base (caL [(1, C1), (2, C2), (3, C3), (4, C4), (5, C5), (6, C6), (7, C7), (8, C8), (9, C9), (10, C10)]) "_law_exact" ph_l_exact 1 := dv_l_exact F15 (PySem.W.mg_of X G a15) b15 bi cl ar_l_exact (by first | exact wp_l_exact | (apply wp_l_exact <;> decide))
  have c_l_copies : Cal P w K mg base (caL [(1, C1), (2, C2), (3, C3), (4, C4), (5, C5), (6, C6), (7, C7), (8, C8), (9, C9), (10, C10)]) "_law_copies" ph_l_copies 1 := dv_l_copies F16 (PySem.W.mg_of X G a16) b16 bi cl ar_l_copies (by first | exact wp_l_copies | (apply wp_l_copies <;> decide))
  have c_table : Cal P w K mg base (caL [(1, C1), (2, C2), (3, C3), (4, C4), (5, C5), (6, C6), (7, C7), (8, C8), (9, C9), (10, C10)]) "table" ph_table 2 := dv_table F17 (PySem.W.mg_of X G a17) b17 bi cl c_need_sum c_least ar_table (by first | exact wp_table | (apply wp_table <;> decide))
  have c_with_all : Cal P w K mg base (caL [(1, C1), (2, C2), (3, C3), (4, C4), (5, C5), (6, C6), (7, C7), (8, C8), (9, C9), (10, C10)]) "with_all" ph_with_all 2 := dv_with_all F18 (PySem.W.mg_of X G a18) b18 bi cl q_MOST_PAID c_count_of c_need_count c_with_count ar_with_all (by first | exact wp_with_all | (apply wp_with_all <;> decide))
  have c_brought : Cal P w K mg base (caL [(1, C1), (2, C2), (3, C3), (4, C4), (5, C5), (6, C6), (7, C7), (8, C8), (9, C9), (10, C10)]) "brought" ph_brought 2 := dv_brought F19 (PySem.W.mg_of X G a19) b19 bi cl c_count_of c_need_count c_with_count ar_brought (by first | exact wp_brought | (apply wp_brought <;> decide))
  have c_fetched : Cal P w K mg base (caL [(1, C1), (2, C2), (3, C3), (4, C4), (5, C5), (6, C6), (7, C7), (8, C8), (9, C9), (10, C10)]) "fetched" ph_fetched 2 := dv_fetched F20 (PySem.W.mg_of X G a20) b20 bi cl c_count_of c_need_count c_with_count ar_fetched (by first | exact wp_fetched | (apply wp_fetched <;> decide))
  have c_kind_in : Cal P w K mg base (caL [(1, C1), (2, C2), (3, C3), (4, C4), (5, C5), (6, C6), (7, C7), (8, C8), (9, C9), (10, C10)]) "kind_in" ph_kind_in 2 := dv_kind_in F21 (PySem.W.mg_of X G a21) b21 bi cl q_MOST_KINDS c_need_value ar_kind_in (by first | exact wp_kind_in | (apply wp_kind_in <;> decide))
  have c_kind_out : Cal P w K mg base (caL [(1, C1), (2, C2), (3, C3), (4, C4), (5, C5), (6, C6), (7, C7), (8, C8), (9, C9), (10, C10)]) "kind_out" ph_kind_out 2 := dv_kind_out F22 (PySem.W.mg_of X G a22) b22 bi cl c_count_of ar_kind_out (by first | exact wp_kind_out | (apply wp_kind_out <;> decide))
  have c_l_value : Cal P w K mg base (caL [(1, C1), (2, C2), (3, C3), (4, C4), (5, C5), (6, C6), (7, C7), (8, C8), (9, C9), (10, C10)]) "_law_value" ph_l_value 2 := dv_l_value F23 (PySem.W.mg_of X G a23) b23 bi cl c_l_mixed ar_l_value (by first | exact wp_l_value | (apply wp_l_value <;> decide))
  have c_l_count : Cal P w K mg base (caL [(1, C1), (2, C2), (3, C3), (4, C4), (5, C5), (6, C6), (7, C7), (8, C8), (9, C9), (10, C10)]) "_law_count" ph_l_count 2 := dv_l_count F24 (PySem.W.mg_of X G a24) b24 bi cl c_l_mixed ar_l_count (by first | exact wp_l_count | (apply wp_l_count <;> decide))
  have c_l_alike : Cal P w K mg base (caL [(1, C1), (2, C2), (3, C3), (4, C4), (5, C5), (6, C6), (7, C7), (8, C8), (9, C9), (10, C10)]) "_law_alike" ph_l_alike 2 := dv_l_alike F25 (PySem.W.mg_of X G a25) b25 bi cl c_l_whole ar_l_alike (by first | exact wp_l_alike | (apply wp_l_alike <;> decide))
  have c_l_row : Cal P w K mg base (caL [(1, C1), (2, C2), (3, C3), (4, C4), (5, C5), (6, C6), (7, C7), (8, C8), (9, C9), (10, C10)]) "_law_row" ph_l_row 2 := dv_l_row F26 (PySem.W.mg_of X G a26) b26 bi cl c_l_whole ar_l_row (by first | exact wp_l_row | (apply wp_l_row <;> decide))
  have c_l_change : Cal P w K mg base (caL [(1, C1), (2, C2), (3, C3), (4, C4), (5, C5), (6, C6), (7, C7), (8, C8), (9, C9), (10, C10)]) "_law_change" ph_l_change 2 := dv_l_change F27 (PySem.W.mg_of X G a27) b27 bi cl c_l_whole ar_l_change (by first | exact wp_l_change | (apply wp_l_change <;> decide))
  have c_l_deed : Cal P w K mg base (caL [(1, C1), (2, C2), (3, C3), (4, C4), (5, C5), (6, C6), (7, C7), (8, C8), (9, C9), (10, C10)]) "_law_deed" ph_l_deed 2 := dv_l_deed F28 (PySem.W.mg_of X G a28) b28 bi cl c_l_mixed c_l_known ar_l_deed (by first | exact wp_l_deed | (apply wp_l_deed <;> decide))
  have c_fewest : Cal P w K mg base (caL [(1, C1), (2, C2), (3, C3), (4, C4), (5, C5), (6, C6), (7, C7), (8, C8), (9, C9), (10, C10)]) "fewest" ph_fewest 3 := dv_fewest F29 (PySem.W.mg_of X G a29) b29 bi cl c_table c_as_many ar_fewest (by first | exact wp_fewest | (apply wp_fewest <;> decide))
  have c_l_pairs : Cal P w K mg base (caL [(1, C1), (2, C2), (3, C3), (4, C4), (5, C5), (6, C6), (7, C7), (8, C8), (9, C9), (10, C10)]) "_law_pairs" ph_l_pairs 3 := dv_l_pairs F30 (PySem.W.mg_of X G a30) b30 bi cl c_l_cell_at c_l_value c_l_count ar_l_pairs (by first | exact wp_l_pairs | (apply wp_l_pairs <;> decide))
  have c_l_walked : Cal P w K mg base (caL [(1, C1), (2, C2), (3, C3), (4, C4), (5, C5), (6, C6), (7, C7), (8, C8), (9, C9), (10, C10)]) "_law_walked" ph_l_walked 3 := dv_l_walked F31 (PySem.W.mg_of X G a31) b31 bi cl c_l_row c_l_least ar_l_walked (by first | exact wp_l_walked | (apply wp_l_walked <;> decide))
  have c_paid : Cal P w K mg base (caL [(1, C1), (2, C2), (3, C3), (4, C4), (5, C5), (6, C6), (7, C7), (8, C8), (9, C9), (10, C10)]) "paid" ph_paid 4 := dv_paid F32 (PySem.W.mg_of X G a32) b32 bi cl c_need_sum c_with_all c_fewest c_with_count c_count_of ar_paid (by first | exact wp_paid | (apply wp_paid <;> decide))
  have c_l_paid : CalM P w K mg base (caL [(1, C1), (2, C2), (3, C3), (4, C4), (5, C5), (6, C6), (7, C7), (8, C8), (9, C9), (10, C10)]) "_law_paid" ph_l_paid 4 := dv_l_paid F33 (PySem.W.mg_of X G a33) b33 bi cl c_l_unpaid c_table c_l_walked c_l_exact c_l_change ar_l_paid (by first | exact wp_l_paid | (apply wp_l_paid <;> decide))
  have c_done : Cal P w K mg base (caL [(1, C1), (2, C2), (3, C3), (4, C4), (5, C5), (6, C6), (7, C7), (8, C8), (9, C9), (10, C10)]) "done" ph_done 5 := dv_done F34 (PySem.W.mg_of X G a34) b34 bi cl c_paid c_brought c_fetched c_kind_in c_kind_out ar_done (by first | exact wp_done | (apply wp_done <;> decide))
  have c_l_right : CalM P w K mg base (caL [(1, C1), (2, C2), (3, C3), (4, C4), (5, C5), (6, C6), (7, C7), (8, C8), (9, C9), (10, C10)]) "_law_right" ph_l_right 5 := dv_l_right F35 (PySem.W.mg_of X G a35) b35 bi cl c_l_paid c_l_moved c_l_kind ar_l_right (by first | exact wp_l_right | (apply wp_l_right <;> decide))
  have c_tried : Cal P w K mg base (caL [(1, C1), (2, C2), (3, C3), (4, C4), (5, C5), (6, C6), (7, C7), (8, C8), (9, C9), (10, C10)]) "tried" ph_tried 6 := dv_tried F36 (PySem.W.mg_of X G a36) b36 bi cl c_done ar_tried (by first | exact wp_tried | (apply wp_tried <;> decide))
  have c_day : Cal P w K mg base (caL [(1, C1), (2, C2), (3, C3), (4, C4), (5, C5), (6, C6), (7, C7), (8, C8), (9, C9), (10, C10)]) "day" ph_day 7 := dv_day F37 (PySem.W.mg_of X G a37) b37 bi cl c_tried ar_day (by first | exact wp_day | (apply wp_day <;> decide))
  have c_l_again : CalK 2 P w K mg base (caL [(1, C1), (2, C2), (3, C3), (4, C4), (5, C5), (6, C6), (7, C7), (8, C8), (9, C9), (10, C10)]) "_law_again" ph_l_again 8 := dv_l_again F38 (PySem.W.mg_of X G a38) b38 bi cl c_day ar_l_again (by first | exact wp_l_again | (apply wp_l_again <;> decide))
  exact (dv_law (ca := caL [(1, C1), (2, C2), (3, C3), (4, C4), (5, C5), (6, C6), (7, C7), (8, C8), (9, C9), (10, C10)]) F39 bi cl c_l_copies c_day c_l_pairs c_l_alike c_l_again c_l_deed c_l_right ar_law (by first | exact wp_law | (apply wp_law <;> decide))).imp spV_of
end TL
open PySem PySem.W PyProof.Rows
set_option maxHeartbeats 0 in
theorem PySem.Challenge.cw_tilldrawer_k09_whole_day_holds : PySem.Challenge.rw_tilldrawer_k09_whole_day.Holds := by
  w_on; o_law; k_head; (case hw => w_witness2)
  k_fill
  refine L2.walk_of (l := PySem.Challenge.rw_tilldrawer_k09_whole_day) (n := 63) (k := 9) (x := "_law_script") (CX := fun w => L2.CX PySem.Challenge.pw_tilldrawer_k09_whole_day w) (sp := fun w => TD.spV TL.ph_law) rfl (by decide) rfl ⟨rfl, by decide, by decide⟩ (fun w h Y => PySem.W.kIn_of Y) ?F ?S ?C
  case C =>
    intro w H s e s' h
    obtain ⟨_, _, _, _, _, _, _, _, _, _, _, _, h⟩ := h
    exact h
  case F =>
    intro w mg fa h KX G hmg
    refine' TL.all_mk KX G hmg ?u_g1 ?u_kp1 ?u_ex1 ?u_sb1 ?u_ty1 ?u_ic1 ?u_sv1 ?u_hg1 ?u_hk1 ?u_hd1 ?u_ha1 ?u_hm1 ?u_g2 ?u_kp2 ?u_ex2 ?u_sb2 ?u_ty2 ?u_ic2 ?u_sv2 ?u_hg2 ?u_hk2 ?u_hd2 ?u_ha2 ?u_hm2 ?u_g3 ?u_kp3 ?u_ex3 ?u_sb3 ?u_ty3 ?u_ic3 ?u_sv3 ?u_hg3 ?u_hk3 ?u_hd3 ?u_ha3 ?u_hm3 ?u_g4 ?u_kp4 ?u_ex4 ?u_sb4 ?u_ty4 ?u_ic4 ?u_sv4 ?u_hg4 ?u_hk4 ?u_hd4 ?u_ha4 ?u_hm4 ?u_g5 ?u_kp5 ?u_ex5 ?u_sb5 ?u_ty5 ?u_ic5 ?u_sv5 ?u_hg5 ?u_hk5 ?u_hd5 ?u_ha5 ?u_hm5 ?u_g6 ?u_kp6 ?u_ex6 ?u_sb6 ?u_ty6 ?u_ic6 ?u_sv6 ?u_hg6 ?u_hk6 ?u_hd6 ?u_ha6 ?u_hm6 ?u_g7 ?u_kp7 ?u_ex7 ?u_sb7 ?u_ty7 ?u_ic7 ?u_sv7 ?u_hg7 ?u_hk7 ?u_hd7 ?u_ha7 ?u_hm7 ?u_g8 ?u_kp8 ?u_ex8 ?u_sb8 ?u_ty8 ?u_ic8 ?u_sv8 ?u_hg8 ?u_hk8 ?u_hd8 ?u_ha8 ?u_hm8 ?u_g9 ?u_kp9 ?u_ex9 ?u_sb9 ?u_ty9 ?u_ic9 ?u_sv9 ?u_hg9 ?u_hk9 ?u_hd9 ?u_ha9 ?u_hm9 ?u_g10 ?u_kp10 ?u_ex10 ?u_sb10 ?u_ty10 ?u_ic10 ?u_sv10 ?u_hg10 ?u_hk10 ?u_hd10 ?u_ha10 ?u_hm10 ?u_hn ?u_ht ?u_s1_1 ?u_s1_2 ?u_s1_3 ?u_s1_4 ?u_s1_5 ?u_s1_6 ?u_s1_7 ?u_s1_8 ?u_s1_9 ?u_s1_10 ?u_s2_1 ?u_s2_2 ?u_s2_3 ?u_s2_4 ?u_s2_5 ?u_s2_6 ?u_s2_7 ?u_s2_8 ?u_s2_9 ?u_s2_10 ?u_s3_1 ?u_s3_2 ?u_s3_3 ?u_s3_4 ?u_s3_5 ?u_s3_6 ?u_s3_7 ?u_s3_8 ?u_s3_9 ?u_s3_10 ?u_s4_1 ?u_s4_2 ?u_s4_3 ?u_s4_4 ?u_s4_5 ?u_s4_6 ?u_s4_7 ?u_s4_8 ?u_s4_9 ?u_s4_10 ?u_s5_1 ?u_s5_2 ?u_s5_3 ?u_s5_4 ?u_s5_5 ?u_s5_6 ?u_s5_7 ?u_s5_8 ?u_s5_9 ?u_s5_10 ?u_s6_1 ?u_s6_2 ?u_s6_3 ?u_s6_4 ?u_s6_5 ?u_s6_6 ?u_s6_7 ?u_s6_8 ?u_s6_9 ?u_s6_10 ?u_s7_1 ?u_s7_2 ?u_s7_3 ?u_s7_4 ?u_s7_5 ?u_s7_6 ?u_s7_7 ?u_s7_8 ?u_s7_9 ?u_s7_10 ?u_s8_1 ?u_s8_2 ?u_s8_3 ?u_s8_4 ?u_s8_5 ?u_s8_6 ?u_s8_7 ?u_s8_8 ?u_s8_9 ?u_s8_10 ?u_s9_1 ?u_s9_2 ?u_s9_3 ?u_s9_4 ?u_s9_5 ?u_s9_6 ?u_s9_7 ?u_s9_8 ?u_s9_9 ?u_s9_10 ?u_s10_1 ?u_s10_2 ?u_s10_3 ?u_s10_4 ?u_s10_5 ?u_s10_6 ?u_s10_7 ?u_s10_8 ?u_s10_9 ?u_s10_10 ?u_z_len ?u_z_sum ?u_z_abs ?u_z_min ?u_z_max ?u_z_int ?u_z_bool ?u_z_list ?u_z_tuple ?u_z_sorted ?u_z_isinstance ?u_z_range ?u_z_zip ?u_z_enumerate ?u_z_ValueError ?u_k_GREATEST ?u_k_GREATEST_SUM ?u_k_MOST_KINDS ?u_k_MOST_PAID ?u_k_MOST_PIECES ?u_a0 ?u_l0 ?u_c0 ?u_k0 ?u_a1 ?u_l1 ?u_c1 ?u_k1 ?u_a2 ?u_l2 ?u_c2 ?u_k2 ?u_a3 ?u_l3 ?u_c3 ?u_k3 ?u_a4 ?u_l4 ?u_c4 ?u_k4 ?u_a5 ?u_l5 ?u_c5 ?u_k5 ?u_a6 ?u_l6 ?u_c6 ?u_k6 ?u_a7 ?u_l7 ?u_c7 ?u_k7 ?u_a8 ?u_l8 ?u_c8 ?u_k8 ?u_a9 ?u_l9 ?u_c9 ?u_k9 ?u_a10 ?u_l10 ?u_c10 ?u_k10 ?u_a11 ?u_l11 ?u_c11 ?u_k11 ?u_a12 ?u_l12 ?u_c12 ?u_k12 ?u_a13 ?u_l13 ?u_c13 ?u_k13 ?u_a14 ?u_l14 ?u_c14 ?u_k14 ?u_a15 ?u_l15 ?u_c15 ?u_k15 ?u_a16 ?u_l16 ?u_c16 ?u_k16 ?u_a17 ?u_l17 ?u_c17 ?u_k17 ?u_a18 ?u_l18 ?u_c18 ?u_k18 ?u_a19 ?u_l19 ?u_c19 ?u_k19 ?u_a20 ?u_l20 ?u_c20 ?u_k20 ?u_a21 ?u_l21 ?u_c21 ?u_k21 ?u_a22 ?u_l22 ?u_c22 ?u_k22 ?u_a23 ?u_l23 ?u_c23 ?u_k23 ?u_a24 ?u_l24 ?u_c24 ?u_k24 ?u_a25 ?u_l25 ?u_c25 ?u_k25 ?u_a26 ?u_l26 ?u_c26 ?u_k26 ?u_a27 ?u_l27 ?u_c27 ?u_k27 ?u_a28 ?u_l28 ?u_c28 ?u_k28 ?u_a29 ?u_l29 ?u_c29 ?u_k29 ?u_a30 ?u_l30 ?u_c30 ?u_k30 ?u_a31 ?u_l31 ?u_c31 ?u_k31 ?u_a32 ?u_l32 ?u_c32 ?u_k32 ?u_a33 ?u_l33 ?u_c33 ?u_k33 ?u_a34 ?u_l34 ?u_c34 ?u_k34 ?u_a35 ?u_l35 ?u_c35 ?u_k35 ?u_a36 ?u_l36 ?u_c36 ?u_k36 ?u_a37 ?u_l37 ?u_c37 ?u_k37 ?u_a38 ?u_l38 ?u_c38 ?u_k38 ?u_a39 ?u_l39 ?u_c39 ?u_k39
    (case u_g1 => k_is)
    (case u_kp1 => k_is)
    (case u_ex1 => k_exc)
    (case u_sb1 => k_is)
    (case u_ty1 => k_is)
    (case u_ic1 => k_is)
    (case u_sv1 => k_is)
    (case u_hg1 => k_is)
    (case u_hk1 => k_is)
    (case u_hd1 => k_is)
    (case u_ha1 => k_is)
    (case u_hm1 => k_is)
    (case u_g2 => k_is)
    (case u_kp2 => k_is)
    (case u_ex2 => k_exc)
    (case u_sb2 => k_is)
    (case u_ty2 => k_is)
    (case u_ic2 => k_is)
    (case u_sv2 => k_is)
    (case u_hg2 => k_is)
    (case u_hk2 => k_is)
    (case u_hd2 => k_is)
    (case u_ha2 => k_is)
    (case u_hm2 => k_is)
    (case u_g3 => k_is)
    (case u_kp3 => k_is)
    (case u_ex3 => k_exc)
    (case u_sb3 => k_is)
    (case u_ty3 => k_is)
    (case u_ic3 => k_is)
    (case u_sv3 => k_is)
    (case u_hg3 => k_is)
    (case u_hk3 => k_is)
    (case u_hd3 => k_is)
    (case u_ha3 => k_is)
    (case u_hm3 => k_is)
    (case u_g4 => k_is)
    (case u_kp4 => k_is)
    (case u_ex4 => k_exc)
    (case u_sb4 => k_is)
    (case u_ty4 => k_is)
    (case u_ic4 => k_is)
    (case u_sv4 => k_is)
    (case u_hg4 => k_is)
    (case u_hk4 => k_is)
    (case u_hd4 => k_is)
    (case u_ha4 => k_is)
    (case u_hm4 => k_is)
    (case u_g5 => k_is)
    (case u_kp5 => k_is)
    (case u_ex5 => k_exc)
    (case u_sb5 => k_is)
    (case u_ty5 => k_is)
    (case u_ic5 => k_is)
    (case u_sv5 => k_is)
    (case u_hg5 => k_is)
    (case u_hk5 => k_is)
    (case u_hd5 => k_is)
    (case u_ha5 => k_is)
    (case u_hm5 => k_is)
    (case u_g6 => k_is)
    (case u_kp6 => k_is)
    (case u_ex6 => k_exc)
    (case u_sb6 => k_is)
    (case u_ty6 => k_is)
    (case u_ic6 => k_is)
    (case u_sv6 => k_is)
    (case u_hg6 => k_is)
    (case u_hk6 => k_is)
    (case u_hd6 => k_is)
    (case u_ha6 => k_is)
    (case u_hm6 => k_is)
    (case u_g7 => k_is)
    (case u_kp7 => k_is)
    (case u_ex7 => k_exc)
    (case u_sb7 => k_is)
    (case u_ty7 => k_is)
    (case u_ic7 => k_is)
    (case u_sv7 => k_is)
    (case u_hg7 => k_is)
    (case u_hk7 => k_is)
    (case u_hd7 => k_is)
    (case u_ha7 => k_is)
    (case u_hm7 => k_is)
    (case u_g8 => k_is)
    (case u_kp8 => k_is)
    (case u_ex8 => k_exc)
    (case u_sb8 => k_is)
    (case u_ty8 => k_is)
    (case u_ic8 => k_is)
    (case u_sv8 => k_is)
    (case u_hg8 => k_is)
    (case u_hk8 => k_is)
    (case u_hd8 => k_is)
    (case u_ha8 => k_is)
    (case u_hm8 => k_is)
    (case u_g9 => k_is)
    (case u_kp9 => k_is)
    (case u_ex9 => k_exc)
    (case u_sb9 => k_is)
    (case u_ty9 => k_is)
    (case u_ic9 => k_is)
    (case u_sv9 => k_is)
    (case u_hg9 => k_is)
    (case u_hk9 => k_is)
    (case u_hd9 => k_is)
    (case u_ha9 => k_is)
    (case u_hm9 => k_is)
    (case u_g10 => k_is)
    (case u_kp10 => k_is)
    (case u_ex10 => k_exc)
    (case u_sb10 => k_is)
    (case u_ty10 => k_is)
    (case u_ic10 => k_is)
    (case u_sv10 => k_is)
    (case u_hg10 => k_is)
    (case u_hk10 => k_is)
    (case u_hd10 => k_is)
    (case u_ha10 => k_is)
    (case u_hm10 => k_is)
    (case u_hn => k_is)
    (case u_ht => k_is)
    (case u_s1_1 => k_is)
    (case u_s1_2 => k_is)
    (case u_s1_3 => k_is)
    (case u_s1_4 => k_is)
    (case u_s1_5 => k_is)
    (case u_s1_6 => k_is)
    (case u_s1_7 => k_is)
    (case u_s1_8 => k_is)
    (case u_s1_9 => k_is)
    (case u_s1_10 => k_is)
    (case u_s2_1 => k_is)
    (case u_s2_2 => k_is)
    (case u_s2_3 => k_is)
    (case u_s2_4 => k_is)
    (case u_s2_5 => k_is)
    (case u_s2_6 => k_is)
    (case u_s2_7 => k_is)
    (case u_s2_8 => k_is)
    (case u_s2_9 => k_is)
    (case u_s2_10 => k_is)
    (case u_s3_1 => k_is)
    (case u_s3_2 => k_is)
    (case u_s3_3 => k_is)
    (case u_s3_4 => k_is)
    (case u_s3_5 => k_is)
    (case u_s3_6 => k_is)
    (case u_s3_7 => k_is)
    (case u_s3_8 => k_is)
    (case u_s3_9 => k_is)
    (case u_s3_10 => k_is)
    (case u_s4_1 => k_is)
    (case u_s4_2 => k_is)
    (case u_s4_3 => k_is)
    (case u_s4_4 => k_is)
    (case u_s4_5 => k_is)
    (case u_s4_6 => k_is)
    (case u_s4_7 => k_is)
    (case u_s4_8 => k_is)
    (case u_s4_9 => k_is)
    (case u_s4_10 => k_is)
    (case u_s5_1 => k_is)
    (case u_s5_2 => k_is)
    (case u_s5_3 => k_is)
    (case u_s5_4 => k_is)
    (case u_s5_5 => k_is)
    (case u_s5_6 => k_is)
    (case u_s5_7 => k_is)
    (case u_s5_8 => k_is)
    (case u_s5_9 => k_is)
    (case u_s5_10 => k_is)
    (case u_s6_1 => k_is)
    (case u_s6_2 => k_is)
    (case u_s6_3 => k_is)
    (case u_s6_4 => k_is)
    (case u_s6_5 => k_is)
    (case u_s6_6 => k_is)
    (case u_s6_7 => k_is)
    (case u_s6_8 => k_is)
    (case u_s6_9 => k_is)
    (case u_s6_10 => k_is)
    (case u_s7_1 => k_is)
    (case u_s7_2 => k_is)
    (case u_s7_3 => k_is)
    (case u_s7_4 => k_is)
    (case u_s7_5 => k_is)
    (case u_s7_6 => k_is)
    (case u_s7_7 => k_is)
    (case u_s7_8 => k_is)
    (case u_s7_9 => k_is)
    (case u_s7_10 => k_is)
    (case u_s8_1 => k_is)
    (case u_s8_2 => k_is)
    (case u_s8_3 => k_is)
    (case u_s8_4 => k_is)
    (case u_s8_5 => k_is)
    (case u_s8_6 => k_is)
    (case u_s8_7 => k_is)
    (case u_s8_8 => k_is)
    (case u_s8_9 => k_is)
    (case u_s8_10 => k_is)
    (case u_s9_1 => k_is)
    (case u_s9_2 => k_is)
    (case u_s9_3 => k_is)
    (case u_s9_4 => k_is)
    (case u_s9_5 => k_is)
    (case u_s9_6 => k_is)
    (case u_s9_7 => k_is)
    (case u_s9_8 => k_is)
    (case u_s9_9 => k_is)
    (case u_s9_10 => k_is)
    (case u_s10_1 => k_is)
    (case u_s10_2 => k_is)
    (case u_s10_3 => k_is)
    (case u_s10_4 => k_is)
    (case u_s10_5 => k_is)
    (case u_s10_6 => k_is)
    (case u_s10_7 => k_is)
    (case u_s10_8 => k_is)
    (case u_s10_9 => k_is)
    (case u_s10_10 => k_is)
    (case u_z_len => k_is)
    (case u_z_sum => k_is)
    (case u_z_abs => k_is)
    (case u_z_min => k_is)
    (case u_z_max => k_is)
    (case u_z_int => k_is)
    (case u_z_bool => k_is)
    (case u_z_list => k_is)
    (case u_z_tuple => k_is)
    (case u_z_sorted => k_is)
    (case u_z_isinstance => k_is)
    (case u_z_range => k_is)
    (case u_z_zip => k_is)
    (case u_z_enumerate => k_is)
    (case u_z_ValueError => k_is)
    (case u_k_GREATEST => k_is)
    (case u_k_GREATEST_SUM => k_is)
    (case u_k_MOST_KINDS => k_is)
    (case u_k_MOST_PAID => k_is)
    (case u_k_MOST_PIECES => k_is)
    (case u_a0 => k_is)
    (case u_l0 => k_is)
    (case u_c0 => k_is)
    (case u_k0 => k_is)
    (case u_a1 => k_is)
    (case u_l1 => k_is)
    (case u_c1 => k_is)
    (case u_k1 => k_is)
    (case u_a2 => k_is)
    (case u_l2 => k_is)
    (case u_c2 => k_is)
    (case u_k2 => k_is)
    (case u_a3 => k_is)
    (case u_l3 => k_is)
    (case u_c3 => k_is)
    (case u_k3 => k_is)
    (case u_a4 => k_is)
    (case u_l4 => k_is)
    (case u_c4 => k_is)
    (case u_k4 => k_is)
    (case u_a5 => k_is)
    (case u_l5 => k_is)
    (case u_c5 => k_is)
    (case u_k5 => k_is)
    (case u_a6 => k_is)
    (case u_l6 => k_is)
    (case u_c6 => k_is)
    (case u_k6 => k_is)
    (case u_a7 => k_is)
    (case u_l7 => k_is)
    (case u_c7 => k_is)
    (case u_k7 => k_is)
    (case u_a8 => k_is)
    (case u_l8 => k_is)
    (case u_c8 => k_is)
    (case u_k8 => k_is)
    (case u_a9 => k_is)
    (case u_l9 => k_is)
    (case u_c9 => k_is)
    (case u_k9 => k_is)
    (case u_a10 => k_is)
    (case u_l10 => k_is)
    (case u_c10 => k_is)
    (case u_k10 => k_is)
    (case u_a11 => k_is)
    (case u_l11 => k_is)
    (case u_c11 => k_is)
    (case u_k11 => k_is)
    (case u_a12 => k_is)
    (case u_l12 => k_is)
    (case u_c12 => k_is)
    (case u_k12 => k_is)
    (case u_a13 => k_is)
    (case u_l13 => k_is)
    (case u_c13 => k_is)
    (case u_k13 => k_is)
    (case u_a14 => k_is)
    (case u_l14 => k_is)
    (case u_c14 => k_is)
    (case u_k14 => k_is)
    (case u_a15 => k_is)
    (case u_l15 => k_is)
    (case u_c15 => k_is)
    (case u_k15 => k_is)
    (case u_a16 => k_is)
    (case u_l16 => k_is)
    (case u_c16 => k_is)
    (case u_k16 => k_is)
    (case u_a17 => k_is)
    (case u_l17 => k_is)
    (case u_c17 => k_is)
    (case u_k17 => k_is)
    (case u_a18 => k_is)
    (case u_l18 => k_is)
    (case u_c18 => k_is)
    (case u_k18 => k_is)
    (case u_a19 => k_is)
    (case u_l19 => k_is)
    (case u_c19 => k_is)
    (case u_k19 => k_is)
    (case u_a20 => k_is)
    (case u_l20 => k_is)
    (case u_c20 => k_is)
    (case u_k20 => k_is)
    (case u_a21 => k_is)
    (case u_l21 => k_is)
    (case u_c21 => k_is)
    (case u_k21 => k_is)
    (case u_a22 => k_is)
    (case u_l22 => k_is)
    (case u_c22 => k_is)
    (case u_k22 => k_is)
    (case u_a23 => k_is)
    (case u_l23 => k_is)
    (case u_c23 => k_is)
    (case u_k23 => k_is)
    (case u_a24 => k_is)
    (case u_l24 => k_is)
    (case u_c24 => k_is)
    (case u_k24 => k_is)
    (case u_a25 => k_is)
    (case u_l25 => k_is)
    (case u_c25 => k_is)
    (case u_k25 => k_is)
    (case u_a26 => k_is)
    (case u_l26 => k_is)
    (case u_c26 => k_is)
    (case u_k26 => k_is)
    (case u_a27 => k_is)
    (case u_l27 => k_is)
    (case u_c27 => k_is)
    (case u_k27 => k_is)
    (case u_a28 => k_is)
    (case u_l28 => k_is)
    (case u_c28 => k_is)
    (case u_k28 => k_is)
    (case u_a29 => k_is)
    (case u_l29 => k_is)
    (case u_c29 => k_is)
    (case u_k29 => k_is)
    (case u_a30 => k_is)
    (case u_l30 => k_is)
    (case u_c30 => k_is)
    (case u_k30 => k_is)
    (case u_a31 => k_is)
    (case u_l31 => k_is)
    (case u_c31 => k_is)
    (case u_k31 => k_is)
    (case u_a32 => k_is)
    (case u_l32 => k_is)
    (case u_c32 => k_is)
    (case u_k32 => k_is)
    (case u_a33 => k_is)
    (case u_l33 => k_is)
    (case u_c33 => k_is)
    (case u_k33 => k_is)
    (case u_a34 => k_is)
    (case u_l34 => k_is)
    (case u_c34 => k_is)
    (case u_k34 => k_is)
    (case u_a35 => k_is)
    (case u_l35 => k_is)
    (case u_c35 => k_is)
    (case u_k35 => k_is)
    (case u_a36 => k_is)
    (case u_l36 => k_is)
    (case u_c36 => k_is)
    (case u_k36 => k_is)
    (case u_a37 => k_is)
    (case u_l37 => k_is)
    (case u_c37 => k_is)
    (case u_k37 => k_is)
    (case u_a38 => k_is)
    (case u_l38 => k_is)
    (case u_c38 => k_is)
    (case u_k38 => k_is)
    (case u_a39 => k_is)
    (case u_l39 => k_is)
    (case u_c39 => k_is)
    (case u_k39 => k_is)
  case S =>
    intro w H a ns hl hO hS
    exact TD.sp_script rfl hS (by simp [TL.ph_law, TD.decI_map])
