import PyProof.Rows.All
import Wide.All
import OpenK.AllK
import Wide.FinOn
import HandS.ForMost
import HandS.Exc
import HandS.ExcOwn
import HandS.WordsExc
import HandS.TryOnly
import HandS.Flow
import HandS.TupAny
import HandS.SortInts
import HandS.DictComp
import HandS.More
import HandS.Wide
import HandS.WideMore
import KE.DataEq
import HandS.Style
import HandS.Conv
import HandS.Deep
import HandS.Strs
import HandS.ExcIs
import HandS.EndBits
import HandS.IsInst
import HandS.Iter
import HandS.List
import PySem.Challenge.RW_turnedrows_k08_whole_blocks_none_fewer
set_option Elab.async false
set_option linter.all false
set_option maxRecDepth 100000
set_option maxHeartbeats 2000000
set_option autoImplicit false
/-! DLa: pure data D over the hand layer: what a value stands for (Rp), what the frame's names stand for (ER), readings by functions of data (tE, tT, tA, tS). -/
namespace DL
open PySem L2

inductive D where
  | non | bl (b : Bool) | int (i : Int) | str (s : Str)
  | tup (ds : List D) | lst (ds : List D)
  | dK (kvs : List (Key × D)) | dT (kvs : List (List Key × D))
  | obj (c : Str) (fs : List (Str × D))
  | fn (x : Str)
  /-- a tuple (true), a list (false) that is locked or of the written part: the script, constants -/
  | fz (t : Bool) (ds : List D)

/-- the program's errors -/
inductive EN where
  | base | row | move | body | tree | text | name | unknown | many | range
  deriving DecidableEq
/-- what is fixed in a def's body: the written part, the addresses of error classes, of own classes, of defs, slots that hold a known value -/
structure Conf where
  K : PySem.W.Frag
  err : EN → Addr → Prop
  cls : Str → Addr → Prop
  fn : Str → Addr → Prop
  fx : List (Nat × V)

/-- lists, tuples of the written part -/
def WrL (K : PySem.W.Frag) (a : Addr) (xs : List V) : Prop :=
  ∃ (o : Obj) (its : Array Value) (n : Nat), K.lookup a = some o ∧ o.cls = .type "list" ∧ o.dict = none ∧ o.data = .seq its n ∧ its.size ≤ sizeLine ∧ Vals xs its.toList
def WrT (K : PySem.W.Frag) (a : Addr) (xs : List V) : Prop :=
  ∃ (o : Obj) (its : Array Value) (n : Nat), K.lookup a = some o ∧ o.cls = .type "tuple" ∧ o.dict = none ∧ o.data = .seq its n ∧ its.size ≤ sizeLine ∧ Vals xs its.toList
theorem WrT.sq {K : PySem.W.Frag} {H : Hp} {a : Addr} {xs : List V} (h : WrT K a xs) : SqT K H a xs := by
  obtain ⟨o, its, n, h1, h2, _, h3⟩ := h
  exact .inr ⟨o, its, n, h1, h2, h3⟩

/-- values stand for data, none of whose mutable things are among N -/
inductive Rp (c : Conf) (N : Addr → Prop) (H : Hp) : List V → List D → Prop
  | nil : Rp c N H [] []
  | non {vs ds} : Rp c N H vs ds → Rp c N H (.non :: vs) (.non :: ds)
  | bl {b vs ds} : Rp c N H vs ds → Rp c N H (.bl b :: vs) (.bl b :: ds)
  | int {i vs ds} : Rp c N H vs ds → Rp c N H (.int i :: vs) (.int i :: ds)
  | str {s vs ds} : Rp c N H vs ds → Rp c N H (.str s :: vs) (.str s :: ds)
  | tup {a us es vs ds} : ¬ N a → H a = some (.tup us) → Rp c N H us es → Rp c N H vs ds → Rp c N H (.ref a :: vs) (.tup es :: ds)
  | lst {a us es vs ds} : ¬ N a → H a = some (.lst us) → Rp c N H us es → Rp c N H vs ds → Rp c N H (.ref a :: vs) (.lst es :: ds)
  | fzT {a us es vs ds} : (¬ N a ∧ ∃ o : Obj, o.dict = none ∧ H a = some (.frz o (.tup us))) ∨ WrT c.K a us → Rp c N H us es → Rp c N H vs ds → Rp c N H (.ref a :: vs) (.fz true es :: ds)
  | fzL {a us es vs ds} : (¬ N a ∧ Rd H a (.lst us)) ∨ WrL c.K a us → Rp c N H us es → Rp c N H vs ds → Rp c N H (.ref a :: vs) (.fz false es :: ds)
  | dK {a} {kvs : List (Key × V)} {kds : List (Key × D)} {vs ds} : ¬ N a → Rd H a (.dK kvs) → kvs.map (·.1) = kds.map (·.1) → Rp c N H (kvs.map (·.2)) (kds.map (·.2)) → Rp c N H vs ds → Rp c N H (.ref a :: vs) (.dK kds :: ds)
  | dT {a} {kvs : List (List Key × V)} {kds : List (List Key × D)} {vs ds} : ¬ N a → Rd H a (.dT kvs) → kvs.map (·.1) = kds.map (·.1) → Rp c N H (kvs.map (·.2)) (kds.map (·.2)) → Rp c N H vs ds → Rp c N H (.ref a :: vs) (.dT kds :: ds)
  | obj {a dx C} {x : Str} {fs : List (Str × V)} {fds : List (Str × D)} {vs ds} : c.cls x C → ¬ N a → H a = some (.ins C dx fs) → fs.map (·.1) = fds.map (·.1) → Rp c N H (fs.map (·.2)) (fds.map (·.2)) → Rp c N H vs ds → Rp c N H (.ref a :: vs) (.obj x fds :: ds)
  | fn {a x vs ds} : c.fn x a → Rp c N H vs ds → Rp c N H (.ref a :: vs) (.fn x :: ds)

/-- one value -/
abbrev Re (c : Conf) (N : Addr → Prop) (H : Hp) (v : V) (d : D) : Prop := Rp c N H [v] [d]

section
variable {c : Conf} {N N' : Addr → Prop} {H H' : Hp}
theorem Rp.step (h : ∀ a o, ¬ N a → H a = some o → H' a = some o ∧ ¬ N' a) {vs : List V} {ds : List D} (r : Rp c N H vs ds) : Rp c N' H' vs ds := by
  have rd : ∀ {a : Addr} {u : HO}, ¬ N a → Rd H a u → ¬ N' a ∧ Rd H' a u := fun {a u} n q => by
    rcases q with q | ⟨o, q⟩
    · exact ⟨(h a _ n q).2, .inl (h a _ n q).1⟩
    · exact ⟨(h a _ n q).2, .inr ⟨o, (h a _ n q).1⟩⟩
  induction r with
  | nil => exact .nil
  | non _ ih => exact .non ih
  | bl _ ih => exact .bl ih
  | int _ ih => exact .int ih
  | str _ ih => exact .str ih
  | tup n q _ _ i1 i2 => exact .tup (h _ _ n q).2 (h _ _ n q).1 i1 i2
  | lst n q _ _ i1 i2 => exact .lst (h _ _ n q).2 (h _ _ n q).1 i1 i2
  | fzT q _ _ i1 i2 => exact .fzT (q.imp (fun ⟨n, o, hd, e⟩ => ⟨(h _ _ n e).2, o, hd, (h _ _ n e).1⟩) id) i1 i2
  | fzL q _ _ i1 i2 => exact .fzL (q.imp (fun z => rd z.1 z.2) id) i1 i2
  | dK n q e _ _ i1 i2 => exact .dK (rd n q).1 (rd n q).2 e i1 i2
  | dT n q e _ _ i1 i2 => exact .dT (rd n q).1 (rd n q).2 e i1 i2
  | obj k n q e _ _ i1 i2 => exact .obj k (h _ _ n q).2 (h _ _ n q).1 e i1 i2
  | fn k _ ih => exact .fn k ih
theorem Rp.same (s : Same H H') {vs : List V} {ds : List D} (r : Rp c N H vs ds) : Rp c N H' vs ds := r.step fun a o n e => ⟨s a o e, n⟩
theorem Rp.less (h : ∀ a, N' a → N a) {vs : List V} {ds : List D} (r : Rp c N H vs ds) : Rp c N' H vs ds := r.step fun a o n e => ⟨e, fun z => n (h a z)⟩
theorem Rp.len {vs : List V} {ds : List D} (r : Rp c N H vs ds) : vs.length = ds.length := by
  induction r with
  | nil => rfl
  | non _ ih => simp [ih]
  | bl _ ih => simp [ih]
  | int _ ih => simp [ih]
  | str _ ih => simp [ih]
  | tup _ _ _ _ _ ih => simp [ih]
  | lst _ _ _ _ _ ih => simp [ih]
  | fzT _ _ _ _ ih => simp [ih]
  | fzL _ _ _ _ ih => simp [ih]
  | dK _ _ _ _ _ _ ih => simp [ih]
  | dT _ _ _ _ _ _ ih => simp [ih]
  | obj _ _ _ _ _ _ _ ih => simp [ih]
  | fn _ _ ih => simp [ih]
theorem Rp.cons {v : V} {d : D} {vs : List V} {ds : List D} (h : Re c N H v d) (t : Rp c N H vs ds) : Rp c N H (v :: vs) (d :: ds) := by
  cases h with
  | non _ => exact .non t
  | bl _ => exact .bl t
  | int _ => exact .int t
  | str _ => exact .str t
  | tup a b e _ => exact .tup a b e t
  | lst a b e _ => exact .lst a b e t
  | fzT a b _ => exact .fzT a b t
  | fzL a b _ => exact .fzL a b t
  | dK a b e f _ => exact .dK a b e f t
  | dT a b e f _ => exact .dT a b e f t
  | obj a b e f g _ => exact .obj a b e f g t
  | fn a _ => exact .fn a t
theorem Rp.unc {v : V} {d : D} {vs : List V} {ds : List D} (h : Rp c N H (v :: vs) (d :: ds)) : Re c N H v d ∧ Rp c N H vs ds := by
  cases h with
  | non t => exact ⟨.non .nil, t⟩
  | bl t => exact ⟨.bl .nil, t⟩
  | int t => exact ⟨.int .nil, t⟩
  | str t => exact ⟨.str .nil, t⟩
  | tup a b e t => exact ⟨.tup a b e .nil, t⟩
  | lst a b e t => exact ⟨.lst a b e .nil, t⟩
  | fzT a b t => exact ⟨.fzT a b .nil, t⟩
  | fzL a b t => exact ⟨.fzL a b .nil, t⟩
  | dK a b e f t => exact ⟨.dK a b e f .nil, t⟩
  | dT a b e f t => exact ⟨.dT a b e f .nil, t⟩
  | obj a b e f g t => exact ⟨.obj a b e f g .nil, t⟩
  | fn a t => exact ⟨.fn a .nil, t⟩
theorem Rp.at_ : ∀ {vs : List V} {ds : List D} (_ : Rp c N H vs ds) {i : Nat} {v : V} {d : D}, vs[i]? = some v → ds[i]? = some d → Re c N H v d
  | [], _, _, i, _, _, e, _ => by simp at e
  | _ :: _, [], r, _, _, _, _, _ => by cases r
  | v :: vs, d :: ds, r, 0, _, _, e, f => by
    simp only [List.getElem?_cons_zero, Option.some.injEq] at e f
    subst e f
    exact r.unc.1
  | v :: vs, d :: ds, r, i + 1, _, _, e, f => Rp.at_ r.unc.2 (i := i) (by simpa using e) (by simpa using f)
theorem Rp.of : ∀ {vs : List V} {ds : List D}, vs.length = ds.length → (∀ (i : Nat) v d, vs[i]? = some v → ds[i]? = some d → Re c N H v d) → Rp c N H vs ds
  | [], [], _, _ => .nil
  | [], _ :: _, e, _ => by simp at e
  | _ :: _, [], e, _ => by simp at e
  | v :: vs, d :: ds, e, h => .cons (h 0 v d rfl rfl) (Rp.of (by simpa using e) fun i v d a b => h (i + 1) v d (by simpa using a) (by simpa using b))
theorem Rp.get {vs : List V} {ds : List D} (r : Rp c N H vs ds) {i : Nat} {d : D} (e : ds[i]? = some d) : ∃ v, vs[i]? = some v ∧ Re c N H v d := by
  obtain ⟨h, _⟩ := List.getElem?_eq_some_iff.mp e
  have hl : i < vs.length := by rw [r.len]; exact h
  exact ⟨vs[i], List.getElem?_eq_getElem hl, r.at_ (List.getElem?_eq_getElem hl) e⟩
theorem Rp.get' {vs : List V} {ds : List D} (r : Rp c N H vs ds) {i : Nat} {v : V} (e : vs[i]? = some v) : ∃ d, ds[i]? = some d ∧ Re c N H v d := by
  obtain ⟨h, _⟩ := List.getElem?_eq_some_iff.mp e
  have hl : i < ds.length := by rw [← r.len]; exact h
  exact ⟨ds[i], List.getElem?_eq_getElem hl, r.at_ e (List.getElem?_eq_getElem hl)⟩
theorem Rp.app {vs us : List V} {ds es : List D} (a : Rp c N H vs ds) (b : Rp c N H us es) : Rp c N H (vs ++ us) (ds ++ es) := by
  refine .of (by simp [a.len, b.len]) fun i v d e f => ?_
  rw [List.getElem?_append] at e f
  rw [← a.len] at f
  by_cases h : i < vs.length
  · rw [if_pos h] at e f
    exact a.at_ e f
  · rw [if_neg h] at e f
    exact b.at_ e f
theorem Rp.take {vs : List V} {ds : List D} (a : Rp c N H vs ds) (n : Nat) : Rp c N H (vs.take n) (ds.take n) := by
  refine .of (by simp [a.len]) fun i v d e f => ?_
  rw [List.getElem?_take] at e f
  by_cases h : i < n
  · rw [if_pos h] at e f
    exact a.at_ e f
  · rw [if_neg h] at e
    cases e
theorem Rp.drop {vs : List V} {ds : List D} (a : Rp c N H vs ds) (n : Nat) : Rp c N H (vs.drop n) (ds.drop n) := by
  refine .of (by simp [a.len]) fun i v d e f => ?_
  rw [List.getElem?_drop] at e f
  exact a.at_ e f
theorem Rp.rev {vs : List V} {ds : List D} (a : Rp c N H vs ds) : Rp c N H vs.reverse ds.reverse := by
  induction vs generalizing ds with
  | nil => cases a; exact .nil
  | cons v vs ih =>
    cases ds with
    | nil => cases a
    | cons d ds =>
      rw [List.reverse_cons, List.reverse_cons]
      exact (ih a.unc.2).app (.cons a.unc.1 .nil)
theorem Rp.set {vs : List V} {ds : List D} (a : Rp c N H vs ds) (i : Nat) {v : V} {d : D} (h : Re c N H v d) : Rp c N H (vs.set i v) (ds.set i d) := by
  refine .of (by simp [a.len]) fun j v' d' e f => ?_
  rw [List.getElem?_set] at e f
  by_cases q : i = j
  · subst q
    rw [if_pos rfl] at e f
    rw [← a.len] at f
    by_cases z : i < vs.length
    · rw [if_pos z] at e f
      cases e; cases f
      exact h
    · rw [if_neg z] at e
      cases e
  · rw [if_neg q] at e f
    exact a.at_ e f
theorem Rp.erase {vs : List V} {ds : List D} (a : Rp c N H vs ds) (i : Nat) : Rp c N H (vs.eraseIdx i) (ds.eraseIdx i) := by
  rw [List.eraseIdx_eq_take_drop_succ, List.eraseIdx_eq_take_drop_succ]
  exact (a.take i).app (a.drop (i + 1))
theorem Rp.rep {v : V} {d : D} (h : Re c N H v d) (n : Nat) : Rp c N H (List.replicate n v) (List.replicate n d) := by
  induction n with
  | zero => exact .nil
  | succ n ih => exact .cons h ih
theorem Re.of_int {v : V} {i : Int} (h : Re c N H v (.int i)) : v = .int i := by cases h; rfl
theorem Re.of_bl {v : V} {i : Bool} (h : Re c N H v (.bl i)) : v = .bl i := by cases h; rfl
theorem Re.of_str {v : V} {i : Str} (h : Re c N H v (.str i)) : v = .str i := by cases h; rfl
theorem Re.of_non {v : V} (h : Re c N H v .non) : v = .non := by cases h; rfl
theorem Re.of_tup {v : V} {ds : List D} (h : Re c N H v (.tup ds)) : ∃ a us, v = .ref a ∧ ¬ N a ∧ H a = some (.tup us) ∧ Rp c N H us ds := by
  cases h with
  | tup a b e _ => exact ⟨_, _, rfl, a, b, e⟩
theorem Re.of_lst {v : V} {ds : List D} (h : Re c N H v (.lst ds)) : ∃ a us, v = .ref a ∧ ¬ N a ∧ H a = some (.lst us) ∧ Rp c N H us ds := by
  cases h with
  | lst a b e _ => exact ⟨_, _, rfl, a, b, e⟩
theorem Re.of_fzT {v : V} {ds : List D} (h : Re c N H v (.fz true ds)) : ∃ a us, v = .ref a ∧ SqT c.K H a us ∧ Rp c N H us ds := by
  cases h with
  | fzT a b _ => exact ⟨_, _, rfl, a.elim (fun ⟨_, o, _, e⟩ => .inl (.inr ⟨o, e⟩)) WrT.sq, b⟩
theorem Re.of_fzL {v : V} {ds : List D} (h : Re c N H v (.fz false ds)) : ∃ a us, v = .ref a ∧ SqL c.K H a us ∧ Rp c N H us ds := by
  cases h with
  | fzL a b _ => exact ⟨_, _, rfl, a.imp (·.2) id, b⟩
theorem Rp.ints {vs : List V} : ∀ {ns : List Int}, Rp c N H vs (ns.map D.int) → vs = ns.map V.int := by
  induction vs with
  | nil => intro ns h; cases ns with
    | nil => rfl
    | cons n ns => cases h
  | cons v vs ih => intro ns h; cases ns with
    | nil => cases h
    | cons n ns =>
      have h1 : Rp c N H (v :: vs) (D.int n :: ns.map D.int) := h
      rw [h1.unc.1.of_int, ih h1.unc.2]
      rfl
theorem Rp.of_ints {ns : List Int} : Rp c N H (ns.map V.int) (ns.map D.int) := by
  induction ns with
  | nil => exact .nil
  | cons n ns ih => exact .int ih
end

/-! ### kinds of values: what is read and may belong to a name (bor); what stays (dur); a new mutable thing (own) -/
inductive Kd where
  | bor | dur | own | ret
section
variable (c : Conf) (N : Addr → Prop) (H : Hp)
def Bor (v : V) : D → Prop
  | .lst es => ∃ a us, v = .ref a ∧ H a = some (.lst us) ∧ Rp c N H us es
  | .dK kds => ∃ a kvs, v = .ref a ∧ Rd H a (.dK kvs) ∧ kvs.map (·.1) = kds.map (·.1) ∧ Rp c N H (kvs.map (·.2)) (kds.map (·.2))
  | .dT kds => ∃ a kvs, v = .ref a ∧ Rd H a (.dT kvs) ∧ kvs.map (·.1) = kds.map (·.1) ∧ Rp c N H (kvs.map (·.2)) (kds.map (·.2))
  | d => Re c N H v d
def Own (a : Addr) : D → Prop
  | .lst es => ∃ us, H a = some (.lst us) ∧ Rp c N H us es
  | .dK kds => ∃ kvs, H a = some (.dK kvs) ∧ kvs.map (·.1) = kds.map (·.1) ∧ Rp c N H (kvs.map (·.2)) (kds.map (·.2))
  | .dT kds => ∃ kvs, H a = some (.dT kvs) ∧ kvs.map (·.1) = kds.map (·.1) ∧ Rp c N H (kvs.map (·.2)) (kds.map (·.2))
  | _ => False
end
section
variable {c : Conf} {N N' : Addr → Prop} {H H' : Hp}
theorem Re.bor {v : V} {d : D} (h : Re c N H v d) : Bor c N H v d := by
  cases d with
  | lst es => cases h with
    | lst a b e _ => exact ⟨_, _, rfl, b, e⟩
  | dK kds => cases h with
    | dK a b e f _ => exact ⟨_, _, rfl, b, e, f⟩
  | dT kds => cases h with
    | dT a b e f _ => exact ⟨_, _, rfl, b, e, f⟩
  | _ => exact h
theorem Own.re {a : Addr} {d : D} (h : Own c N H a d) (n : ¬ N a) : Re c N H (.ref a) d := by
  cases d with
  | lst es =>
    obtain ⟨us, e, r⟩ := h
    exact .lst n e r .nil
  | dK kds =>
    obtain ⟨kvs, e, k, r⟩ := h
    exact .dK n (.inl e) k r .nil
  | dT kds =>
    obtain ⟨kvs, e, k, r⟩ := h
    exact .dT n (.inl e) k r .nil
  | _ => exact h.elim
theorem Own.bor {a : Addr} {d : D} (h : Own c N H a d) : Bor c N H (.ref a) d := by
  cases d with
  | lst es =>
    obtain ⟨us, e, r⟩ := h
    exact ⟨_, _, rfl, e, r⟩
  | dK kds =>
    obtain ⟨kvs, e, k, r⟩ := h
    exact ⟨_, _, rfl, .inl e, k, r⟩
  | dT kds =>
    obtain ⟨kvs, e, k, r⟩ := h
    exact ⟨_, _, rfl, .inl e, k, r⟩
  | _ => exact h.elim
theorem Own.step {a : Addr} {d : D} (h : Own c N H a d) (e : ∀ o, H a = some o → H' a = some o) (k : ∀ a o, ¬ N a → H a = some o → H' a = some o ∧ ¬ N' a) : Own c N' H' a d := by
  cases d with
  | lst es =>
    obtain ⟨us, q, r⟩ := h
    exact ⟨us, e _ q, r.step k⟩
  | dK kds =>
    obtain ⟨kvs, q, z, r⟩ := h
    exact ⟨kvs, e _ q, z, r.step k⟩
  | dT kds =>
    obtain ⟨kvs, q, z, r⟩ := h
    exact ⟨kvs, e _ q, z, r.step k⟩
  | _ => exact h.elim
theorem Own.there {a : Addr} {d : D} (h : Own c N H a d) : H a ≠ none := by
  cases d with
  | lst es =>
    obtain ⟨us, q, r⟩ := h
    rw [q]; exact fun z => by cases z
  | dK kds =>
    obtain ⟨kvs, q, z, r⟩ := h
    rw [q]; exact fun z => by cases z
  | dT kds =>
    obtain ⟨kvs, q, z, r⟩ := h
    rw [q]; exact fun z => by cases z
  | _ => exact h.elim
theorem Bor.same {v : V} {d : D} (s : Same H H') (h : Bor c N H v d) : Bor c N H' v d := by
  have rd : ∀ {a : Addr} {u : HO}, Rd H a u → Rd H' a u := fun {a u} q => q.imp (s _ _) (fun ⟨o, z⟩ => ⟨o, s _ _ z⟩)
  cases d with
  | lst es =>
    obtain ⟨a, us, e, q, r⟩ := h
    exact ⟨a, us, e, s _ _ q, r.same s⟩
  | dK kds =>
    obtain ⟨a, kvs, e, q, z, r⟩ := h
    exact ⟨a, kvs, e, rd q, z, r.same s⟩
  | dT kds =>
    obtain ⟨a, kvs, e, q, z, r⟩ := h
    exact ⟨a, kvs, e, rd q, z, r.same s⟩
  | _ => exact Rp.same s h
end

/-- something stands there, and it is no tuple -/
def Mt (H : Hp) (a : Addr) : Prop := ∃ o, H a = some o ∧ ∀ us, o ≠ .tup us
theorem Mt.ne {H : Hp} {a : Addr} (h : Mt H a) : H a ≠ none := by
  obtain ⟨o, h, _⟩ := h
  rw [h]; exact fun z => by cases z
theorem Mt.same {H H' : Hp} {a : Addr} (h : Mt H a) (s : Same H H') : Mt H' a := let ⟨o, h, n⟩ := h; ⟨o, s a o h, n⟩
theorem Mt.upd {H : Hp} {a : Addr} {o : HO} (n : ∀ us, o ≠ .tup us) : Mt (upd H a o) a := ⟨o, upd_same, n⟩
theorem Mt.off {H : Hp} {a b : Addr} {o : HO} (h : Mt H b) (n : b ≠ a) : Mt (L2.upd H a o) b := let ⟨u, h, k⟩ := h; ⟨u, by rw [upd_ne n]; exact h, k⟩
theorem Own.mt {c : Conf} {N : Addr → Prop} {H : Hp} {a : Addr} {d : D} (h : Own c N H a d) : Mt H a := by
  cases d with
  | lst es =>
    obtain ⟨us, q, r⟩ := h
    exact ⟨_, q, fun _ z => by cases z⟩
  | dK kds =>
    obtain ⟨kvs, q, z, r⟩ := h
    exact ⟨_, q, fun _ z => by cases z⟩
  | dT kds =>
    obtain ⟨kvs, q, z, r⟩ := h
    exact ⟨_, q, fun _ z => by cases z⟩
  | _ => exact h.elim
/-! ### the frame -/
abbrev Ro := List (Option (D × Bool))
structure Gam where
  U : Addr → Prop
  H0 : Hp
  held : List (List V × List D)
  raw : List (Addr × HO)
def Gam.add (Γ : Gam) (a : Addr) : Gam := { Γ with U := fun b => Γ.U b ∨ b = a }
def Gam.hold (Γ : Gam) (us : List V) (ds : List D) (ra : List (Addr × HO)) : Gam := { Γ with held := (us, ds) :: Γ.held, raw := ra ++ Γ.raw }
/-- the names' own things, and what is not to be touched -/
def NN (Γ : Gam) (σ : L2.St) (ρ : Ro) (a : Addr) : Prop := Γ.U a ∨ ∃ (i : Nat) (d : D), ρ[i]? = some (some (d, true)) ∧ σ[i]? = some (some (V.ref a))

structure ER (c : Conf) (Γ : Gam) (σ : L2.St) (H : Hp) (ρ : Ro) : Prop where
  len : ρ.length = σ.length
  ext : Same Γ.H0 H
  utr : ∀ a, Γ.U a → Mt H a
  held : ∀ p ∈ Γ.held, Rp c (NN Γ σ ρ) H p.1 p.2
  raw : ∀ p ∈ Γ.raw, ¬ NN Γ σ ρ p.1 ∧ H p.1 = some p.2
  fx : ∀ p ∈ c.fx, σ[p.1]? = some (some p.2)
  own : ∀ (i : Nat) (d : D) (a : Addr), ρ[i]? = some (some (d, true)) → σ[i]? = some (some (V.ref a)) → Γ.H0 a = none ∧ ¬ Γ.U a
  dis : ∀ (i j : Nat) (d e : D) (a : Addr), i ≠ j → ρ[i]? = some (some (d, true)) → ρ[j]? = some (some (e, true)) → σ[i]? = some (some (V.ref a)) → σ[j]? ≠ some (some (V.ref a))
  slot : ∀ (i : Nat) (d : D), ρ[i]? = some (some (d, false)) → ∃ v, σ[i]? = some (some v) ∧ Re c (NN Γ σ ρ) H v d
  mine : ∀ (i : Nat) (d : D), ρ[i]? = some (some (d, true)) → ∃ a, σ[i]? = some (some (V.ref a)) ∧ Own c (NN Γ σ ρ) H a d

section
variable {c : Conf} {Γ : Gam} {σ : L2.St} {H H' : Hp} {ρ : Ro}
theorem ER.mt (e : ER c Γ σ H ρ) {a : Addr} (h : NN Γ σ ρ a) : Mt H a := by
  rcases h with h | ⟨i, d, h1, h2⟩
  · exact e.utr a h
  · obtain ⟨b, h3, o⟩ := e.mine i d h1
    rw [h2] at h3
    cases h3
    exact o.mt
theorem ER.tracked (e : ER c Γ σ H ρ) {a : Addr} (h : NN Γ σ ρ a) : H a ≠ none := (e.mt h).ne
theorem ER.same (e : ER c Γ σ H ρ) (s : Same H H') : ER c Γ σ H' ρ where
  len := e.len
  ext := e.ext.trans s
  utr := fun a h => (e.utr a h).same s
  held := fun p h => (e.held p h).same s
  raw := fun p h => ⟨(e.raw p h).1, s _ _ (e.raw p h).2⟩
  fx := e.fx
  own := e.own
  dis := e.dis
  slot := fun i d h => let ⟨v, h1, h2⟩ := e.slot i d h; ⟨v, h1, h2.same s⟩
  mine := fun i d h => let ⟨a, h1, h2⟩ := e.mine i d h; ⟨a, h1, h2.step (fun o => s a o) fun a o n q => ⟨s a o q, n⟩⟩
theorem same_new {p : Addr} {o : HO} (h : H p = none) : Same H (upd H p o) := fun a u e => by
  rw [upd_ne (ne_of_none e h)]
  exact e
/-- a new thing that no name has: all is kept from it -/
theorem ER.addU (e : ER c Γ σ H ρ) {p : Addr} (hp : H p = none) {o : HO} (ho : ∀ us, o ≠ .tup us := by exact fun _ z => by cases z) : ER c (Γ.add p) σ (upd H p o) ρ := by
  have np : ¬ NN Γ σ ρ p := fun z => e.tracked z hp
  have st : ∀ a u, ¬ NN Γ σ ρ a → H a = some u → (upd H p o) a = some u ∧ ¬ NN (Γ.add p) σ ρ a := fun a u n q => by
    have ne := ne_of_none q hp
    refine ⟨by rw [upd_ne ne]; exact q, fun z => ?_⟩
    rcases z with (z | z) | z
    · exact n (.inl z)
    · exact ne z
    · exact n (.inr z)
  exact {
    len := e.len
    ext := e.ext.trans (same_new hp)
    utr := fun a h => by
      rcases h with h | h
      · exact (e.utr a h).same (same_new hp)
      · subst h; exact Mt.upd ho
    held := fun q h => (e.held q h).step st
    raw := fun q h => let z := st _ _ (e.raw q h).1 (e.raw q h).2; ⟨z.2, z.1⟩
    fx := e.fx
    own := fun i d a h1 h2 => ⟨(e.own i d a h1 h2).1, fun z => by
      rcases z with z | z
      · exact (e.own i d a h1 h2).2 z
      · subst z; exact np (.inr ⟨i, d, h1, h2⟩)⟩
    dis := e.dis
    slot := fun i d h => let ⟨v, h1, h2⟩ := e.slot i d h; ⟨v, h1, h2.step st⟩
    mine := fun i d h => let ⟨a, h1, h2⟩ := e.mine i d h; ⟨a, h1, h2.step (fun u q => by rw [upd_ne (ne_of_none q hp)]; exact q) st⟩ }
/-- less to be kept from -/
theorem ER.subU {p : Addr} (e : ER c (Γ.add p) σ H ρ) : ER c Γ σ H ρ := by
  have st : ∀ a, NN Γ σ ρ a → NN (Γ.add p) σ ρ a := fun a z => z.imp .inl id
  have st2 : ∀ a u, ¬ NN (Γ.add p) σ ρ a → H a = some u → H a = some u ∧ ¬ NN Γ σ ρ a := fun a u n q => ⟨q, fun z => n (st a z)⟩
  exact {
    len := e.len
    ext := e.ext
    utr := fun a h => e.utr a (.inl h)
    held := fun q h => (e.held q h).step st2
    raw := fun q h => let z := st2 _ _ (e.raw q h).1 (e.raw q h).2; ⟨z.2, z.1⟩
    fx := e.fx
    own := fun i d a h1 h2 => ⟨(e.own i d a h1 h2).1, fun z => (e.own i d a h1 h2).2 (.inl z)⟩
    dis := e.dis
    slot := fun i d h => let ⟨v, h1, h2⟩ := e.slot i d h; ⟨v, h1, h2.step st2⟩
    mine := fun i d h => let ⟨a, h1, h2⟩ := e.mine i d h; ⟨a, h1, h2.step (fun u q => q) st2⟩ }
end

/-! ### readings -/
abbrev R (α : Type) := Option (Except EN α)
def bnd {α β : Type} : R α → (α → R β) → R β
  | none, _ => none
  | some (.error x), _ => some (.error x)
  | some (.ok a), f => f a
@[reducible] def ok {α : Type} (a : α) : R α := some (.ok a)
abbrev ME := Ro → R D
abbrev MT := Ro → R Bool
abbrev MA := Ro → R (List D)

/-- a value of a kind, at H -/
def VR (c : Conf) : Kd → Gam → L2.St → Ro → Hp → V → D → Prop
  | .bor, Γ, σ, ρ, H, v, d => ER c Γ σ H ρ ∧ Bor c (NN Γ σ ρ) H v d
  | .dur, Γ, σ, ρ, H, v, d => ER c Γ σ H ρ ∧ Re c (NN Γ σ ρ) H v d
  | .ret, Γ, σ, ρ, H, v, d => ER c Γ σ H ρ ∧ Re c Γ.U H v d
  | .own, Γ, σ, ρ, H, v, d => ∃ a, v = .ref a ∧ Γ.H0 a = none ∧ ¬ NN Γ σ ρ a ∧ ER c (Γ.add a) σ H ρ ∧ Own c (NN (Γ.add a) σ ρ) H a d
/-- what is wished of an error -/
def Er (c : Conf) (W : WX) (Γ : Gam) (σ : L2.St) (ρ : Ro) (x : EN) : Prop := ∀ C H', ER c Γ σ H' ρ → c.err x C → W (.ref C) none σ H'
def PostE (c : Conf) (W : WX) (k : Kd) (Γ : Gam) (σ : L2.St) (ρ : Ro) (H : Hp) (Q : VK) : Except EN D → Prop
  | .ok d => ∀ v H', Same H H' → VR c k Γ σ ρ H' v d → Q v H'
  | .error x => Er c W Γ σ ρ x
def tE (c : Conf) (W : WX) (k : Kd) (m : ME) : TE := fun σ H Q => ∃ Γ ρ r, ER c Γ σ H ρ ∧ m ρ = some r ∧ PostE c W k Γ σ ρ H Q r
def PostT (c : Conf) (W : WX) (Γ : Gam) (σ : L2.St) (ρ : Ro) (H : Hp) (Q : Bool → Hp → Prop) : Except EN Bool → Prop
  | .ok b => ∀ H', Same H H' → ER c Γ σ H' ρ → Q b H'
  | .error x => Er c W Γ σ ρ x
def tT (c : Conf) (W : WX) (m : MT) : TT := fun σ H Q => ∃ Γ ρ r, ER c Γ σ H ρ ∧ m ρ = some r ∧ PostT c W Γ σ ρ H Q r
def PostA (c : Conf) (W : WX) (Γ : Gam) (σ : L2.St) (ρ : Ro) (H : Hp) (Q : List V → Hp → Prop) : Except EN (List D) → Prop
  | .ok ds => ∀ vs H', Same H H' → ER c Γ σ H' ρ → Rp c (NN Γ σ ρ) H' vs ds → Q vs H'
  | .error x => Er c W Γ σ ρ x
def tA (c : Conf) (W : WX) (m : MA) : TA := fun σ H Q => ∃ Γ ρ r, ER c Γ σ H ρ ∧ m ρ = some r ∧ PostA c W Γ σ ρ H Q r

section
variable {c : Conf} {W : WX} {Γ : Gam} {σ : L2.St} {H H' : Hp} {ρ : Ro} {k : Kd} {β : Type}
theorem VR.er {v : V} {d : D} (h : VR c k Γ σ ρ H v d) : ER c Γ σ H ρ := by
  cases k with
  | bor => exact h.1
  | dur => exact h.1
  | ret => exact h.1
  | own => obtain ⟨a, _, _, _, e, _⟩ := h; exact e.subU
theorem VR.dur {v : V} {d : D} (h : VR c .own Γ σ ρ H v d) : VR c .dur Γ σ ρ H v d := by
  obtain ⟨a, rfl, _, n, e, o⟩ := h
  refine ⟨e.subU, Own.re (o.step (fun _ q => q) fun b u n q => ⟨q, fun z => n (z.imp .inl id)⟩) n⟩
theorem VR.bor {v : V} {d : D} (h : VR c .dur Γ σ ρ H v d) : VR c .bor Γ σ ρ H v d := ⟨h.1, h.2.bor⟩
theorem VR.ret {v : V} {d : D} (h : VR c .dur Γ σ ρ H v d) : VR c .ret Γ σ ρ H v d := ⟨h.1, h.2.less fun _ => .inl⟩
theorem _root_.L2.PE.own_dur {X : Cx} {e : Expr} {m : ME} (h : PE X e (tE c W .own m)) : PE X e (tE c W .dur m) := ⟨fun pins s σ H Q I ⟨Γ, ρ, r, er, em, p⟩ => h.run pins s σ H Q I ⟨Γ, ρ, r, er, em, by
  cases r with
  | error x => exact p
  | ok d => exact fun v H' s q => p v H' s q.dur⟩⟩
theorem _root_.L2.PE.dur_ret {X : Cx} {e : Expr} {m : ME} (h : PE X e (tE c W .dur m)) : PE X e (tE c W .ret m) := ⟨fun pins s σ H Q I ⟨Γ, ρ, r, er, em, p⟩ => h.run pins s σ H Q I ⟨Γ, ρ, r, er, em, by
  cases r with
  | error x => exact p
  | ok d => exact fun v H' s q => p v H' s q.ret⟩⟩
theorem _root_.L2.PE.dur_bor {X : Cx} {e : Expr} {m : ME} (h : PE X e (tE c W .dur m)) : PE X e (tE c W .bor m) := ⟨fun pins s σ H Q I ⟨Γ, ρ, r, er, em, p⟩ => h.run pins s σ H Q I ⟨Γ, ρ, r, er, em, by
  cases r with
  | error x => exact p
  | ok d => exact fun v H' s q => p v H' s q.bor⟩⟩
/-- a rule's reading put into ours -/
theorem _root_.L2.PE.via {X : Cx} {e : Expr} {t t' : TE} (h : PE X e t) (i : ∀ σ H Q, t' σ H Q → t σ H Q) : PE X e t' := ⟨fun pins s σ H Q I q => h.run pins s σ H Q I (i σ H Q q)⟩
theorem _root_.L2.PT.via {X : Cx} {e : Expr} {t t' : TT} (h : PT X e t) (i : ∀ σ H Q, t' σ H Q → t σ H Q) : PT X e t' := ⟨fun pins s σ H Q I q => h.run pins s σ H Q I (i σ H Q q)⟩
theorem _root_.L2.PW.via {X : Cx} {e : Expr} {t t' : TT} (h : PW X e t) (i : ∀ σ H Q, t' σ H Q → t σ H Q) : PW X e t' := ⟨fun w pins s σ H Q I q => h.run w pins s σ H Q I (i σ H Q q)⟩
theorem _root_.L2.PA.via {X : Cx} {e : List Expr} {t t' : TA} (h : PA X e t) (i : ∀ σ H Q, t' σ H Q → t σ H Q) : PA X e t' := ⟨fun w pins s σ H Q I q => h.run w pins s σ H Q I (i σ H Q q)⟩
theorem _root_.L2.PS.via {X : Cx} {e : Stmt} {t t' : TS} (h : PS X e t) (i : ∀ D σ H, t' D σ H → t D σ H) : PS X e t' := ⟨fun pins s σ H D I q => h.run pins s σ H D I (i D σ H q)⟩
theorem _root_.L2.PSs.via {X : Cx} {e : List Stmt} {t t' : TS} (h : PSs X e t) (i : ∀ D σ H, t' D σ H → t D σ H) : PSs X e t' := ⟨fun pins s σ H D I q => h.run pins s σ H D I (i D σ H q)⟩
/-- an expression within another one -/
theorem use {m : ME} {f : D → R β} {r : Except EN β} {Q : VK} (er : ER c Γ σ H ρ) (h : bnd (m ρ) f = some r) (he : ∀ x, r = .error x → Er c W Γ σ ρ x)
    (kk : ∀ d v H1, f d = some r → Same H H1 → VR c k Γ σ ρ H1 v d → Q v H1) : tE c W k m σ H Q := by
  cases e : m ρ with
  | none => rw [e] at h; cases h
  | some q =>
    rw [e] at h
    cases q with
    | error x =>
      cases h
      exact ⟨Γ, ρ, _, er, e, he x rfl⟩
    | ok d => exact ⟨Γ, ρ, _, er, e, fun v H1 s q => kk d v H1 h s q⟩
theorem useT {m : MT} {f : Bool → R β} {r : Except EN β} {Q : Bool → Hp → Prop} (er : ER c Γ σ H ρ) (h : bnd (m ρ) f = some r) (he : ∀ x, r = .error x → Er c W Γ σ ρ x)
    (kk : ∀ b H1, f b = some r → Same H H1 → ER c Γ σ H1 ρ → Q b H1) : tT c W m σ H Q := by
  cases e : m ρ with
  | none => rw [e] at h; cases h
  | some q =>
    rw [e] at h
    cases q with
    | error x =>
      cases h
      exact ⟨Γ, ρ, _, er, e, he x rfl⟩
    | ok d => exact ⟨Γ, ρ, _, er, e, fun H1 s q => kk d H1 h s q⟩
theorem useA {m : MA} {f : List D → R β} {r : Except EN β} {Q : List V → Hp → Prop} (er : ER c Γ σ H ρ) (h : bnd (m ρ) f = some r) (he : ∀ x, r = .error x → Er c W Γ σ ρ x)
    (kk : ∀ ds vs H1, f ds = some r → Same H H1 → ER c Γ σ H1 ρ → Rp c (NN Γ σ ρ) H1 vs ds → Q vs H1) : tA c W m σ H Q := by
  cases e : m ρ with
  | none => rw [e] at h; cases h
  | some q =>
    rw [e] at h
    cases q with
    | error x =>
      cases h
      exact ⟨Γ, ρ, _, er, e, he x rfl⟩
    | ok d => exact ⟨Γ, ρ, _, er, e, fun vs H1 s q w => kk d vs H1 h s q w⟩
theorem PostE.err {k : Kd} {Q : VK} {r : Except EN D} (p : PostE c W k Γ σ ρ H Q r) : ∀ x, r = .error x → Er c W Γ σ ρ x := fun x e => by subst e; exact p
theorem PostT.err {Q : Bool → Hp → Prop} {r : Except EN Bool} (p : PostT c W Γ σ ρ H Q r) : ∀ x, r = .error x → Er c W Γ σ ρ x := fun x e => by subst e; exact p
theorem PostA.err {Q : List V → Hp → Prop} {r : Except EN (List D)} (p : PostA c W Γ σ ρ H Q r) : ∀ x, r = .error x → Er c W Γ σ ρ x := fun x e => by subst e; exact p
end
end DL

set_option Elab.async false
set_option linter.all false
set_option maxRecDepth 100000
set_option maxHeartbeats 2000000
set_option autoImplicit false
/-! DLb: expressions: names, constants, operators, comparisons, and, or, not, subscripts, slices, displays, calls of built-ins. -/
namespace DL
open PySem L2

/-! ### readings on values -/
section
variable {c : Conf} {W : WX} {Γ : Gam} {σ : L2.St} {H H' : Hp} {ρ : Ro} {Q : VK}
theorem fin_int {i : Int} (p : PostE c W .dur Γ σ ρ H Q (.ok (.int i))) (e : ER c Γ σ H ρ) : Q (.int i) H := p _ _ (Same.refl _) ⟨e, .int .nil⟩
theorem fin_bl {i : Bool} (p : PostE c W .dur Γ σ ρ H Q (.ok (.bl i))) (e : ER c Γ σ H ρ) : Q (.bl i) H := p _ _ (Same.refl _) ⟨e, .bl .nil⟩
theorem fin_str {i : Str} (p : PostE c W .dur Γ σ ρ H Q (.ok (.str i))) (e : ER c Γ σ H ρ) : Q (.str i) H := p _ _ (Same.refl _) ⟨e, .str .nil⟩
theorem fin_non (p : PostE c W .dur Γ σ ρ H Q (.ok .non)) (e : ER c Γ σ H ρ) : Q .non H := p _ _ (Same.refl _) ⟨e, .non .nil⟩
theorem fin_re {v : V} {d : D} (p : PostE c W .dur Γ σ ρ H Q (.ok d)) (e : ER c Γ σ H ρ) (r : Re c (NN Γ σ ρ) H v d) : Q v H := p _ _ (Same.refl _) ⟨e, r⟩
theorem fin_tup {us : List V} {ds : List D} {q : Addr} (p : PostE c W .dur Γ σ ρ H Q (.ok (.tup ds))) (e : ER c Γ σ H ρ) (r : Rp c (NN Γ σ ρ) H us ds) (hq : H q = none) : Q (.ref q) (upd H q (.tup us)) :=
  p _ _ (same_new hq) ⟨e.same (same_new hq), .tup (fun z => e.tracked z hq) upd_same (r.same (same_new hq)) .nil⟩
theorem ER.newstep (e : ER c Γ σ H ρ) {q : Addr} (hq : H q = none) {o : HO} : ∀ a u, ¬ NN Γ σ ρ a → H a = some u → (upd H q o) a = some u ∧ ¬ NN (Γ.add q) σ ρ a := fun a u n z => by
  have ne := ne_of_none z hq
  refine ⟨by rw [upd_ne ne]; exact z, fun y => ?_⟩
  rcases y with (y | y) | y
  · exact n (.inl y)
  · exact ne y
  · exact n (.inr y)
theorem fin_lst {us : List V} {ds : List D} {q : Addr} (p : PostE c W .own Γ σ ρ H Q (.ok (.lst ds))) (e : ER c Γ σ H ρ) (r : Rp c (NN Γ σ ρ) H us ds) (hq : H q = none) : Q (.ref q) (upd H q (.lst us)) :=
  p _ _ (same_new hq) ⟨q, rfl, e.ext.free hq, fun z => e.tracked z hq, e.addU hq, us, upd_same, r.step (e.newstep hq)⟩
theorem fin_lstD {us : List V} {ds : List D} {q : Addr} (p : PostE c W .dur Γ σ ρ H Q (.ok (.lst ds))) (e : ER c Γ σ H ρ) (r : Rp c (NN Γ σ ρ) H us ds) (hq : H q = none) : Q (.ref q) (upd H q (.lst us)) :=
  p _ _ (same_new hq) ⟨e.same (same_new hq), .lst (fun z => e.tracked z hq) upd_same (r.same (same_new hq)) .nil⟩
theorem fin_dK {kvs : List (Key × V)} {kds : List (Key × D)} {q : Addr} (p : PostE c W .own Γ σ ρ H Q (.ok (.dK kds))) (e : ER c Γ σ H ρ) (k : kvs.map (·.1) = kds.map (·.1)) (r : Rp c (NN Γ σ ρ) H (kvs.map (·.2)) (kds.map (·.2))) (hq : H q = none) : Q (.ref q) (upd H q (.dK kvs)) :=
  p _ _ (same_new hq) ⟨q, rfl, e.ext.free hq, fun z => e.tracked z hq, e.addU hq, kvs, upd_same, k, r.step (e.newstep hq)⟩
theorem fin_dT {kvs : List (List Key × V)} {kds : List (List Key × D)} {q : Addr} (p : PostE c W .own Γ σ ρ H Q (.ok (.dT kds))) (e : ER c Γ σ H ρ) (k : kvs.map (·.1) = kds.map (·.1)) (r : Rp c (NN Γ σ ρ) H (kvs.map (·.2)) (kds.map (·.2))) (hq : H q = none) : Q (.ref q) (upd H q (.dT kvs)) :=
  p _ _ (same_new hq) ⟨q, rfl, e.ext.free hq, fun z => e.tracked z hq, e.addU hq, kvs, upd_same, k, r.step (e.newstep hq)⟩
end

section
variable {X : Cx} {c : Conf} {W : WX}

/-! ### names and constants -/
def mVar (i : Nat) : ME := fun ρ => match ρ[i]? with
  | some (some (d, _)) => ok d
  | _ => none
def mVarD (i : Nat) : ME := fun ρ => match ρ[i]? with
  | some (some (d, false)) => ok d
  | _ => none
def mC (d : D) : ME := fun _ => ok d
theorem mVar_ok {i : Nat} {ρ : Ro} {r : Except EN D} (h : mVar i ρ = some r) : ∃ d b, ρ[i]? = some (some (d, b)) ∧ r = .ok d := by
  unfold mVar at h
  split at h
  · cases h; exact ⟨_, _, by assumption, rfl⟩
  · cases h
theorem d_var (i : Nat) {x : Str} {pos : Pos} (hN : X.N[i]? = some x := by rfl) (hv : Vis X.env.scope x := by first | exact Or.inl rfl | exact Or.inr (Or.inl rfl) | exact Or.inr (Or.inr rfl)) (hd : (x == ("__debug__" : Str)) = false := by decide)
    (hcd : (x == ("__classdict__" : Str)) = false := by decide) : PE X (.Name x pos) (tE c W .bor (mVar i)) := (pv i hN hv hd hcd).via fun σ H Q ⟨Γ, ρ, r, e, em, p⟩ => by
  obtain ⟨d, b, h1, rfl⟩ := mVar_ok em
  cases b with
  | false =>
    obtain ⟨v, h2, h3⟩ := e.slot i d h1
    exact ⟨v, h2, p v H (Same.refl _) ⟨e, h3.bor⟩⟩
  | true =>
    obtain ⟨a, h2, h3⟩ := e.mine i d h1
    exact ⟨.ref a, h2, p _ H (Same.refl _) ⟨e, h3.bor⟩⟩
theorem d_varR (i : Nat) {x : Str} {pos : Pos} (hN : X.N[i]? = some x := by rfl) (hv : Vis X.env.scope x := by first | exact Or.inl rfl | exact Or.inr (Or.inl rfl) | exact Or.inr (Or.inr rfl)) (hd : (x == ("__debug__" : Str)) = false := by decide)
    (hcd : (x == ("__classdict__" : Str)) = false := by decide) : PE X (.Name x pos) (tE c W .ret (mVar i)) := (pv i hN hv hd hcd).via fun σ H Q ⟨Γ, ρ, r, e, em, p⟩ => by
  obtain ⟨d, b, h1, rfl⟩ := mVar_ok em
  cases b with
  | false =>
    obtain ⟨v, h2, h3⟩ := e.slot i d h1
    exact ⟨v, h2, p v H (Same.refl _) ⟨e, h3.less fun _ => .inl⟩⟩
  | true =>
    obtain ⟨a, h2, h3⟩ := e.mine i d h1
    exact ⟨.ref a, h2, p _ H (Same.refl _) ⟨e, Own.re (h3.step (fun _ q => q) fun b o n q => ⟨q, fun z => n (.inl z)⟩) (e.own i d a h1 h2).2⟩⟩
theorem d_varD (i : Nat) {x : Str} {pos : Pos} (hN : X.N[i]? = some x := by rfl) (hv : Vis X.env.scope x := by first | exact Or.inl rfl | exact Or.inr (Or.inl rfl) | exact Or.inr (Or.inr rfl)) (hd : (x == ("__debug__" : Str)) = false := by decide)
    (hcd : (x == ("__classdict__" : Str)) = false := by decide) : PE X (.Name x pos) (tE c W .dur (mVarD i)) := (pv i hN hv hd hcd).via fun σ H Q ⟨Γ, ρ, r, e, em, p⟩ => by
  unfold mVarD at em
  split at em
  · rename_i d h1
    cases em
    obtain ⟨v, h2, h3⟩ := e.slot i d h1
    exact ⟨v, h2, p v H (Same.refl _) ⟨e, h3⟩⟩
  · cases em
theorem d_const {e : Expr} {v : V} {d : D} (h : PE X e (tC v)) (hr : ∀ N H, Re c N H v d) : PE X e (tE c W .dur (mC d)) := h.via fun σ H Q ⟨Γ, ρ, r, er, em, p⟩ => by
  cases em
  exact p v H (Same.refl _) ⟨er, hr _ _⟩
theorem d_int {i : Int} {j pos} : PE X (.Constant (.int i) j pos) (tE c W .dur (mC (.int i))) := d_const pe_int fun _ _ => .int .nil
theorem d_bl {i : Bool} {j pos} : PE X (.Constant (.bool i) j pos) (tE c W .dur (mC (.bl i))) := d_const pe_bl fun _ _ => .bl .nil
theorem d_str {i : Str} {j pos} : PE X (.Constant (.str i) j pos) (tE c W .dur (mC (.str i))) := d_const pe_str fun _ _ => .str .nil
theorem d_non {j pos} : PE X (.Constant .none j pos) (tE c W .dur (mC .non)) := d_const pe_non fun _ _ => .non .nil

/-! ### operators -/
def R2Ok (c : Conf) (W : WX) (k : Kd) (r : R2) (f : D → D → R D) : Prop := ∀ (Γ : Gam) (σ : L2.St) (ρ : Ro) (H : Hp) (x y : V) (d e : D) (res : Except EN D) (Q : VK), ER c Γ σ H ρ → Bor c (NN Γ σ ρ) H x d → Bor c (NN Γ σ ρ) H y e →
  f d e = some res → PostE c W k Γ σ ρ H Q res → r x y H Q
def mBin (f : D → D → R D) (ma mb : ME) : ME := fun ρ => bnd (ma ρ) fun x => bnd (mb ρ) fun y => f x y
theorem PostE.mono {k : Kd} {Γ : Gam} {σ : L2.St} {ρ : Ro} {H H' : Hp} {Q : VK} {r : Except EN D} (s : Same H H') (p : PostE c W k Γ σ ρ H Q r) : PostE c W k Γ σ ρ H' Q r := by
  cases r with
  | error x => exact p
  | ok d => exact fun v H2 s2 h => p v H2 (s.trans s2) h
theorem PostT.mono {Γ : Gam} {σ : L2.St} {ρ : Ro} {H H' : Hp} {Q : Bool → Hp → Prop} {r : Except EN Bool} (s : Same H H') (p : PostT c W Γ σ ρ H Q r) : PostT c W Γ σ ρ H' Q r := by
  cases r with
  | error x => exact p
  | ok d => exact fun H2 s2 h => p H2 (s.trans s2) h
theorem PostA.mono {Γ : Gam} {σ : L2.St} {ρ : Ro} {H H' : Hp} {Q : List V → Hp → Prop} {r : Except EN (List D)} (s : Same H H') (p : PostA c W Γ σ ρ H Q r) : PostA c W Γ σ ρ H' Q r := by
  cases r with
  | error x => exact p
  | ok d => exact fun v H2 s2 h => p v H2 (s.trans s2) h
theorem tOp_ok {k : Kd} {r : R2} {f : D → D → R D} {ma mb : ME} (hr : R2Ok c W k r f) {σ : L2.St} {H : Hp} {Q : VK} (h : tE c W k (mBin f ma mb) σ H Q) : tOp r (tE c W .bor ma) (tE c W .bor mb) σ H Q := by
  obtain ⟨Γ, ρ, res, e, em, p⟩ := h
  refine use e em p.err fun d v H1 h1 s1 r1 => ?_
  refine use r1.1 h1 p.err fun d2 v2 H2 h2 s2 r2 => ?_
  exact hr Γ σ ρ H2 v v2 d d2 res Q r2.1 (r1.2.same s2) r2.2 h2 (p.mono (s1.trans s2))
theorem d_op {k : Kd} {op : Operator} {r : R2} {f : D → D → R D} {a b : Expr} {ma mb : ME} {pos : Pos} (ho : OpR X (binaryOp op) r) (hr : R2Ok c W k r f) (ha : PE X a (tE c W .bor ma)) (hb : PE X b (tE c W .bor mb)) :
    PE X (.BinOp a op b pos) (tE c W k (mBin f ma mb)) := (pe_op ho ha hb).via fun _ _ _ h => tOp_ok hr h

def lim : Nat := 1000000
theorem lim_ok {n : Nat} (h : n ≤ lim) : n ≤ sizeLine := Nat.le_trans h (by rw [sizeLine_eq]; decide)
theorem lim_lt {n : Nat} (h : n < lim) : n < sizeLine := Nat.lt_of_lt_of_le h (by rw [sizeLine_eq]; decide)
def guard {α : Type} (b : Prop) [Decidable b] (x : R α) : R α := if b then x else none
theorem guard_ok {α : Type} {b : Prop} [Decidable b] {x : R α} {r : Except EN α} (h : guard b x = some r) : b ∧ x = some r := by
  unfold guard at h
  split at h
  · exact ⟨by assumption, h⟩
  · cases h

theorem op_catL : OpR X (binaryOp .Add) rCat := op_cat
def dAdd : D → D → R D
  | .int a, .int b => ok (.int (a + b))
  | .str a, .str b => guard (a.length + b.length ≤ lim) (ok (.str (a ++ b)))
  | .tup a, .tup b => guard (a.length + b.length ≤ lim) (ok (.tup (a ++ b)))
  | .lst a, .lst b => guard (a.length + b.length ≤ lim) (ok (.lst (a ++ b)))
  | .fz true a, .tup b => guard (a.length + b.length ≤ lim) (match a, b with
    | [], b => ok (.tup b)
    | a, [] => ok (.fz true a)
    | a, b => ok (.tup (a ++ b)))
  | _, _ => none
def dCat : D → D → R D
  | .lst a, .lst b => guard (a.length + b.length ≤ lim) (ok (.lst (a ++ b)))
  | _, _ => none
theorem Bor.int {N : Addr → Prop} {H : Hp} {v : V} {i : Int} (h : Bor c N H v (.int i)) : v = .int i := Re.of_int h
theorem Bor.bl {N : Addr → Prop} {H : Hp} {v : V} {i : Bool} (h : Bor c N H v (.bl i)) : v = .bl i := Re.of_bl h
theorem Bor.str {N : Addr → Prop} {H : Hp} {v : V} {i : Str} (h : Bor c N H v (.str i)) : v = .str i := Re.of_str h
theorem Bor.non {N : Addr → Prop} {H : Hp} {v : V} (h : Bor c N H v .non) : v = .non := Re.of_non h
theorem Bor.tup {N : Addr → Prop} {H : Hp} {v : V} {ds : List D} (h : Bor c N H v (.tup ds)) : ∃ a us, v = .ref a ∧ ¬ N a ∧ H a = some (.tup us) ∧ Rp c N H us ds := Re.of_tup h
theorem Bor.fzT {N : Addr → Prop} {H : Hp} {v : V} {ds : List D} (h : Bor c N H v (.fz true ds)) : ∃ a us, v = .ref a ∧ SqT c.K H a us ∧ Rp c N H us ds := Re.of_fzT h
theorem Bor.fzL {N : Addr → Prop} {H : Hp} {v : V} {ds : List D} (h : Bor c N H v (.fz false ds)) : ∃ a us, v = .ref a ∧ SqL c.K H a us ∧ Rp c N H us ds := Re.of_fzL h
theorem d_add {a b : Expr} {ma mb : ME} {pos : Pos} (ha : PE X a (tE c W .bor ma)) (hb : PE X b (tE c W .bor mb)) (hK : c.K = X.K := by rfl) : PE X (.BinOp a .Add b pos) (tE c W .dur (mBin dAdd ma mb)) :=
  d_op (op_add.or (op_add_str.or (op_catA.or op_cat))) (fun Γ σ ρ H x y d e res Q er hx hy h p => by
    unfold dAdd at h
    split at h
    · cases h
      rw [hx.int, hy.int]
      exact .inl ⟨_, _, rfl, rfl, fin_int p er⟩
    · obtain ⟨hl, h⟩ := guard_ok h
      cases h
      rw [hx.str, hy.str]
      exact .inr (.inl ⟨_, _, rfl, rfl, lim_ok hl, fin_str p er⟩)
    · rename_i ds es
      obtain ⟨hl, h⟩ := guard_ok h
      cases h
      obtain ⟨p1, us, rfl, n1, h1, r1⟩ := hx.tup
      obtain ⟨p2, ws, rfl, n2, h2, r2⟩ := hy.tup
      have l1 := r1.len
      have l2 := r2.len
      refine .inr (.inr (.inl ⟨p1, p2, us, ws, rfl, rfl, .of h1, .of h2, by rw [l1, l2]; exact lim_ok hl, fun z => ?_, fun _ z => ?_, fun _ _ q hq => fin_tup p er (r1.app r2) hq⟩))
      · subst z
        have z2 : ds = [] := List.eq_nil_of_length_eq_zero (by simpa using l1.symm)
        subst z2
        exact fin_re p er hy
      · subst z
        have z2 : es = [] := List.eq_nil_of_length_eq_zero (by simpa using l2.symm)
        subst z2
        rw [List.append_nil] at p
        exact fin_re p er hx
    · obtain ⟨hl, h⟩ := guard_ok h
      cases h
      obtain ⟨p1, us, rfl, h1, r1⟩ := hx
      obtain ⟨p2, ws, rfl, h2, r2⟩ := hy
      exact .inr (.inr (.inr ⟨p1, p2, us, ws, rfl, rfl, h1, h2, by rw [r1.len, r2.len]; exact lim_ok hl, fun q hq => fin_lstD p er (r1.app r2) hq⟩))
    · rename_i ds es
      · obtain ⟨hl, h⟩ := guard_ok h
        have hx' : Re c (NN Γ σ ρ) H x (.fz true ds) := hx
        obtain ⟨p1, us, rfl, h1, r1⟩ := hx.fzT
        obtain ⟨p2, ws, rfl, n2, h2, r2⟩ := hy.tup
        have l1 := r1.len
        have l2 := r2.len
        refine .inr (.inr (.inl ⟨p1, p2, us, ws, rfl, rfl, hK ▸ h1, .of h2, by rw [l1, l2]; exact lim_ok hl, fun z => ?_, fun nz z => ?_, fun nz1 nz2 q hq => ?_⟩))
        · subst z
          have z2 : ds = [] := List.eq_nil_of_length_eq_zero (by simpa using l1.symm)
          subst z2
          cases h
          exact fin_re p er hy
        · subst z
          have z2 : es = [] := List.eq_nil_of_length_eq_zero (by simpa using l2.symm)
          subst z2
          cases ds with
          | nil => exact absurd (List.eq_nil_of_length_eq_zero (by simpa using l1)) nz
          | cons d ds =>
            cases h
            exact fin_re p er hx'
        · cases ds with
          | nil => exact absurd (List.eq_nil_of_length_eq_zero (by simpa using l1)) nz1
          | cons d ds =>
            cases es with
            | nil => exact absurd (List.eq_nil_of_length_eq_zero (by simpa using l2)) nz2
            | cons e es =>
              cases h
              exact fin_tup p er (r1.app r2) hq
    · cases h) ha hb
theorem d_cat {a b : Expr} {ma mb : ME} {pos : Pos} (ha : PE X a (tE c W .bor ma)) (hb : PE X b (tE c W .bor mb)) : PE X (.BinOp a .Add b pos) (tE c W .own (mBin dCat ma mb)) :=
  d_op op_cat (fun Γ σ ρ H x y d e res Q er hx hy h p => by
    cases d <;> cases e <;> first | (cases h; done) | skip
    obtain ⟨hl, h⟩ := guard_ok h
    cases h
    obtain ⟨p1, us, rfl, h1, r1⟩ := hx
    obtain ⟨p2, ws, rfl, h2, r2⟩ := hy
    exact ⟨p1, p2, us, ws, rfl, rfl, h1, h2, by rw [r1.len, r2.len]; exact lim_ok hl, fun q hq => fin_lst p er (r1.app r2) hq⟩) ha hb
def dSub : D → D → R D
  | .int a, .int b => ok (.int (a - b))
  | _, _ => none
theorem d_sub {a b : Expr} {ma mb : ME} {pos : Pos} (ha : PE X a (tE c W .bor ma)) (hb : PE X b (tE c W .bor mb)) : PE X (.BinOp a .Sub b pos) (tE c W .dur (mBin dSub ma mb)) :=
  d_op op_sub (fun Γ σ ρ H x y d e res Q er hx hy h p => by
    cases d <;> cases e <;> first | (cases h; done) | skip
    cases h
    rw [hx.int, hy.int]
    exact ⟨_, _, rfl, rfl, fin_int p er⟩) ha hb
def mulOk (a b : Int) : Bool := decide (a.natAbs < 2 ^ 63) || decide (b.natAbs < 2 ^ 63) || (decide (a.natAbs < 2 ^ 4000) && decide (b.natAbs < 2 ^ 4000))
theorem mulOk_ok {a b : Int} (h : mulOk a b = true) : IntMulOk a b := by
  have p : (2 : Nat) ^ 63 = 9223372036854775808 := by decide
  have q : (2 : Int) ^ 64 = 18446744073709551616 := by decide
  unfold mulOk at h
  rw [Bool.or_eq_true, Bool.or_eq_true, Bool.and_eq_true] at h
  rcases h with (h | h) | ⟨h, h'⟩
  · have := of_decide_eq_true h
    exact CMul.ok (.inl (by omega))
  · have := of_decide_eq_true h
    exact CMul.ok (.inr (by omega))
  · exact (wide_mul (a := 4000) (b := 4000) (of_decide_eq_true h) (of_decide_eq_true h') (by decide) (by decide) (by decide)).ok
theorem op_mulA : OpR X (binaryOp .Mult) (rI (fun i j => mulOk i j = true) fun i j => .int (i * j)) := opI fun _ _ _ _ _ _ _ hc q => PyProof.Rows.mul_int q (mulOk_ok hc)
theorem iop_mulA : OpR X (inplaceOp .Mult) (rI (fun i j => mulOk i j = true) fun i j => .int (i * j)) := opI fun _ _ _ _ _ _ _ hc q => PyProof.Rows.imul_int q (mulOk_ok hc)
def dMul : D → D → R D
  | .int a, .int b => guard (mulOk a b = true) (ok (.int (a * b)))
  | _, _ => none
theorem d_mul {a b : Expr} {ma mb : ME} {pos : Pos} (ha : PE X a (tE c W .bor ma)) (hb : PE X b (tE c W .bor mb)) : PE X (.BinOp a .Mult b pos) (tE c W .dur (mBin dMul ma mb)) :=
  d_op op_mulA (fun Γ σ ρ H x y d e res Q er hx hy h p => by
    cases d <;> cases e <;> first | (cases h; done) | skip
    obtain ⟨hl, h⟩ := guard_ok h
    cases h
    rw [hx.int, hy.int]
    exact ⟨_, _, rfl, rfl, hl, fin_int p er⟩) ha hb
/-- [x, ..] * n -/
def dRep : D → D → R D
  | .lst a, .int k => guard (-1000000 ≤ k ∧ a.length * k.toNat ≤ lim ∧ k ≤ 1000000) (ok (.lst (List.replicate k.toNat a).flatten))
  | _, _ => none
theorem Rp.repl {N : Addr → Prop} {H : Hp} {us : List V} {ds : List D} (r : Rp c N H us ds) : ∀ n : Nat, Rp c N H (List.replicate n us).flatten (List.replicate n ds).flatten
  | 0 => .nil
  | n + 1 => by
    rw [List.replicate_succ, List.replicate_succ, List.flatten_cons, List.flatten_cons]
    exact r.app (Rp.repl r n)
theorem d_rep {a b : Expr} {ma mb : ME} {pos : Pos} (ha : PE X a (tE c W .bor ma)) (hb : PE X b (tE c W .bor mb)) : PE X (.BinOp a .Mult b pos) (tE c W .own (mBin dRep ma mb)) :=
  d_op op_rep (fun Γ σ ρ H x y d e res Q er hx hy h p => by
    cases d <;> cases e <;> first | (cases h; done) | skip
    obtain ⟨⟨h1, h2, h3⟩, h⟩ := guard_ok h
    cases h
    obtain ⟨p1, us, rfl, e1, r1⟩ := hx
    rw [hy.int]
    exact ⟨p1, _, us, rfl, rfl, e1, by omega, by omega, by rw [r1.len]; exact lim_ok h2, fun q hq => fin_lst p er (r1.repl _) hq⟩) ha hb
def dDiv : D → D → R D
  | .int a, .int b => guard (0 < b ∧ b.natAbs < 2 ^ 9000) (ok (.int (a / b)))
  | _, _ => none
theorem div_ok {b : Int} (h : 0 < b ∧ b.natAbs < 2 ^ 9000) (a : Int) : CDivW a b := wide_div h.1 h.2 (by decide) (Nat.le_refl _)
theorem d_div {a b : Expr} {ma mb : ME} {pos : Pos} (ha : PE X a (tE c W .bor ma)) (hb : PE X b (tE c W .bor mb)) : PE X (.BinOp a .FloorDiv b pos) (tE c W .dur (mBin dDiv ma mb)) :=
  d_op op_fdivW (fun Γ σ ρ H x y d e res Q er hx hy h p => by
    cases d <;> cases e <;> first | (cases h; done) | skip
    obtain ⟨hl, h⟩ := guard_ok h
    cases h
    rw [hx.int, hy.int]
    exact ⟨_, _, rfl, rfl, div_ok hl _, fin_int p er⟩) ha hb
def dMod : D → D → R D
  | .int a, .int b => guard (0 < b) (ok (.int (a % b)))
  | _, _ => none
theorem d_mod {a b : Expr} {ma mb : ME} {pos : Pos} (ha : PE X a (tE c W .bor ma)) (hb : PE X b (tE c W .bor mb)) : PE X (.BinOp a .Mod b pos) (tE c W .dur (mBin dMod ma mb)) :=
  d_op op_mod (fun Γ σ ρ H x y d e res Q er hx hy h p => by
    cases d <;> cases e <;> first | (cases h; done) | skip
    obtain ⟨hl, h⟩ := guard_ok h
    cases h
    rw [hx.int, hy.int]
    exact ⟨_, _, rfl, rfl, hl, fin_int p er⟩) ha hb
def dPow : D → D → R D
  | .int a, .int b => guard (0 ≤ b ∧ b ≤ 1000000 ∧ a.natAbs < 2 ^ 64) (ok (.int (a ^ b.toNat)))
  | _, _ => none
theorem d_pow {a b : Expr} {ma mb : ME} {pos : Pos} (ha : PE X a (tE c W .bor ma)) (hb : PE X b (tE c W .bor mb)) : PE X (.BinOp a .Pow b pos) (tE c W .dur (mBin dPow ma mb)) :=
  d_op op_pow (fun Γ σ ρ H x y d e res Q er hx hy h p => by
    cases d <;> cases e <;> first | (cases h; done) | skip
    obtain ⟨hl, h⟩ := guard_ok h
    cases h
    rw [hx.int, hy.int]
    exact ⟨_, _, rfl, rfl, hl, fin_int p er⟩) ha hb
def dBand : D → D → R D
  | .int a, .int b => ok (.int (Builtin.bitAnd a b))
  | _, _ => none
theorem d_band {a b : Expr} {ma mb : ME} {pos : Pos} (ha : PE X a (tE c W .bor ma)) (hb : PE X b (tE c W .bor mb)) : PE X (.BinOp a .BitAnd b pos) (tE c W .dur (mBin dBand ma mb)) :=
  d_op op_and (fun Γ σ ρ H x y d e res Q er hx hy h p => by
    cases d <;> cases e <;> first | (cases h; done) | skip
    cases h
    rw [hx.int, hy.int]
    exact ⟨_, _, rfl, rfl, fin_int p er⟩) ha hb
def dBor : D → D → R D
  | .int a, .int b => ok (.int (Builtin.bitOr a b))
  | _, _ => none
theorem d_bor {a b : Expr} {ma mb : ME} {pos : Pos} (ha : PE X a (tE c W .bor ma)) (hb : PE X b (tE c W .bor mb)) : PE X (.BinOp a .BitOr b pos) (tE c W .dur (mBin dBor ma mb)) :=
  d_op op_or (fun Γ σ ρ H x y d e res Q er hx hy h p => by
    cases d <;> cases e <;> first | (cases h; done) | skip
    cases h
    rw [hx.int, hy.int]
    exact ⟨_, _, rfl, rfl, fin_int p er⟩) ha hb
def mUn (f : D → R D) (ma : ME) : ME := fun ρ => bnd (ma ρ) f
def dNeg : D → R D
  | .int a => ok (.int (-a))
  | _ => none
theorem d_neg {a : Expr} {ma : ME} {pos : Pos} (ha : PE X a (tE c W .bor ma)) : PE X (.UnaryOp .USub a pos) (tE c W .dur (mUn dNeg ma)) := (pe_un un_neg ha).via fun σ H Q ⟨Γ, ρ, res, e, em, p⟩ => by
  refine use e em p.err fun d v H1 h1 s1 r1 => ?_
  cases d <;> first | (cases h1; done) | skip
  cases h1
  rw [r1.2.int]
  exact ⟨_, rfl, fin_int (p.mono s1) r1.1⟩

/-! ### comparisons -/
def toP : Nat → D → Option PyData
  | _, .non => some .none
  | _, .bl b => some (.bool b)
  | _, .int i => some (.int i)
  | _, .str s => some (.str s)
  | n + 1, .tup ds => (ds.mapM (toP n)).map PyData.tuple
  | n + 1, .lst ds => (ds.mapM (toP n)).map PyData.list
  | n + 1, .fz true ds => (ds.mapM (toP n)).map PyData.tuple
  | _, _ => none
def toPs (n : Nat) (ds : List D) : Option (List PyData) := ds.mapM (toP n)
theorem toPs_nil (n : Nat) : toPs n [] = some [] := rfl
theorem toPs_cons {n : Nat} {d : D} {ds : List D} {q : List PyData} (h : toPs n (d :: ds) = some q) : ∃ p r, toP n d = some p ∧ toPs n ds = some r ∧ q = p :: r := by
  unfold toPs at h
  rw [List.mapM_cons] at h
  cases e : toP n d with
  | none => rw [e] at h; cases h
  | some p =>
    rw [e] at h
    cases e2 : ds.mapM (toP n) with
    | none =>
      simp only [e2] at h
      cases h
    | some r =>
      simp only [e2] at h
      cases h
      exact ⟨p, r, rfl, e2, rfl⟩
theorem toPs_plain {n : Nat} (ih : ∀ d p, toP n d = some p → p.plain = true ∧ p.depth ≤ n + 1) : ∀ {ds : List D} {q : List PyData}, toPs n ds = some q → PyData.plainAll q = true ∧ PyData.depthAll q ≤ n + 1
  | [], q, h => by
    cases h
    exact ⟨rfl, by show 0 ≤ _; exact Nat.zero_le _⟩
  | d :: ds, q, h => by
    obtain ⟨p, r, h1, h2, rfl⟩ := toPs_cons h
    obtain ⟨a, b⟩ := ih d p h1
    obtain ⟨a', b'⟩ := toPs_plain ih h2
    refine ⟨by show (p.plain && PyData.plainAll r) = true; rw [a, a']; rfl, ?_⟩
    show max p.depth (PyData.depthAll r) ≤ n + 1
    omega
theorem toP_plain : ∀ (n : Nat) (d : D) (p : PyData), toP n d = some p → p.plain = true ∧ p.depth ≤ n + 1
  | n, .non, p, h => by cases n <;> (cases h; exact ⟨rfl, by show (0 : Nat) ≤ _; omega⟩)
  | n, .bl b, p, h => by cases n <;> (cases h; exact ⟨rfl, by show (0 : Nat) ≤ _; omega⟩)
  | n, .int b, p, h => by cases n <;> (cases h; exact ⟨rfl, by show (0 : Nat) ≤ _; omega⟩)
  | n, .str b, p, h => by cases n <;> (cases h; exact ⟨rfl, by show (0 : Nat) ≤ _; omega⟩)
  | 0, .tup ds, p, h => by cases h
  | 0, .lst ds, p, h => by cases h
  | n + 1, .tup ds, p, h => by
    have h : (toPs n ds).map PyData.tuple = some p := h
    cases e : toPs n ds with
    | none => rw [e] at h; cases h
    | some q =>
      rw [e] at h
      cases h
      obtain ⟨a, b⟩ := toPs_plain (toP_plain n) e
      refine ⟨a, ?_⟩
      show PyData.depthAll q + 1 ≤ n + 1 + 1
      omega
  | n + 1, .lst ds, p, h => by
    have h : (toPs n ds).map PyData.list = some p := h
    cases e : toPs n ds with
    | none => rw [e] at h; cases h
    | some q =>
      rw [e] at h
      cases h
      obtain ⟨a, b⟩ := toPs_plain (toP_plain n) e
      refine ⟨a, ?_⟩
      show PyData.depthAll q + 1 ≤ n + 1 + 1
      omega
  | n, .dK _, p, h => by cases n <;> cases h
  | n, .dT _, p, h => by cases n <;> cases h
  | n, .obj _ _, p, h => by cases n <;> cases h
  | n, .fn _, p, h => by cases n <;> cases h
  | n, .fz false _, p, h => by cases n <;> cases h
  | 0, .fz true _, p, h => by cases h
  | n + 1, .fz true ds, p, h => by
    have h : (toPs n ds).map PyData.tuple = some p := h
    cases e : toPs n ds with
    | none => rw [e] at h; cases h
    | some q =>
      rw [e] at h
      cases h
      obtain ⟨a, b⟩ := toPs_plain (toP_plain n) e
      refine ⟨a, ?_⟩
      show PyData.depthAll q + 1 ≤ n + 1 + 1
      omega
section
variable {N : Addr → Prop} {H : Hp}
theorem toPs_dp {n : Nat} (ih : ∀ d p v, toP n d = some p → Re c N H v d → Dp c.K H v p) : ∀ {ds : List D} {q : List PyData} {vs : List V}, toPs n ds = some q → Rp c N H vs ds → DpAll c.K H vs q
  | [], q, vs, h, r => by cases h; cases r; exact .nil
  | d :: ds, q, [], h, r => by cases r
  | d :: ds, q, v :: vs, h, r => by
    obtain ⟨p, t, h1, h2, rfl⟩ := toPs_cons h
    exact .cons (ih d p v h1 r.unc.1) (toPs_dp ih h2 r.unc.2)
theorem toP_dp : ∀ (n : Nat) (d : D) (p : PyData) (v : V), toP n d = some p → Re c N H v d → Dp c.K H v p
  | n, .non, p, v, h, r => by rw [r.of_non]; cases n <;> (cases h; exact .non)
  | n, .bl b, p, v, h, r => by rw [r.of_bl]; cases n <;> (cases h; exact .bl _)
  | n, .int b, p, v, h, r => by rw [r.of_int]; cases n <;> (cases h; exact .int _)
  | n, .str b, p, v, h, r => by rw [r.of_str]; cases n <;> (cases h; exact .str _)
  | 0, .tup ds, p, v, h, r => by cases h
  | 0, .lst ds, p, v, h, r => by cases h
  | n + 1, .tup ds, p, v, h, r => by
    have h : (toPs n ds).map PyData.tuple = some p := h
    obtain ⟨a, us, rfl, _, e, r2⟩ := r.of_tup
    cases q : toPs n ds with
    | none => rw [q] at h; cases h
    | some w =>
      rw [q] at h
      cases h
      exact .tup (.of e) (toPs_dp (toP_dp n) q r2)
  | n + 1, .lst ds, p, v, h, r => by
    have h : (toPs n ds).map PyData.list = some p := h
    obtain ⟨a, us, rfl, _, e, r2⟩ := r.of_lst
    cases q : toPs n ds with
    | none => rw [q] at h; cases h
    | some w =>
      rw [q] at h
      cases h
      exact .lst (.of e) (toPs_dp (toP_dp n) q r2)
  | n, .dK _, p, v, h, r => by cases n <;> cases h
  | n, .dT _, p, v, h, r => by cases n <;> cases h
  | n, .obj _ _, p, v, h, r => by cases n <;> cases h
  | n, .fn _, p, v, h, r => by cases n <;> cases h
  | n, .fz false _, p, v, h, r => by cases n <;> cases h
  | 0, .fz true _, p, v, h, r => by cases h
  | n + 1, .fz true ds, p, v, h, r => by
    have h : (toPs n ds).map PyData.tuple = some p := h
    obtain ⟨a, us, rfl, e, r2⟩ := r.of_fzT
    cases q : toPs n ds with
    | none => rw [q] at h; cases h
    | some w =>
      rw [q] at h
      cases h
      exact .tup e (toPs_dp (toP_dp n) q r2)
theorem toP_bor {n : Nat} {d : D} {p : PyData} {v : V} (h : toP n d = some p) (r : Bor c N H v d) : Dp c.K H v p := by
  cases d with
  | lst ds =>
    cases n with
    | zero => cases h
    | succ n =>
      have h : (toPs n ds).map PyData.list = some p := h
      obtain ⟨a, us, rfl, e, r2⟩ := r
      cases q : toPs n ds with
      | none => rw [q] at h; cases h
      | some w =>
        rw [q] at h
        cases h
        exact .lst (.of e) (toPs_dp (toP_dp n) q r2)
  | dK _ => cases n <;> cases h
  | dT _ => cases n <;> cases h
  | _ => exact toP_dp n _ _ _ h r
end
/-- a == b of plain data -/
def rEqP (K : PySem.W.Frag) : R2 := fun x y H Q => ∃ d e, Dp K H x d ∧ Dp K H y e ∧ d.plain = true ∧ e.plain = true ∧ d.depth ≤ 40 ∧ e.depth ≤ 40 ∧ Q (.bl (PyData.eqv d e)) H
def rNeP (K : PySem.W.Frag) : R2 := fun x y H Q => ∃ d e, Dp K H x d ∧ Dp K H y e ∧ d.plain = true ∧ e.plain = true ∧ d.depth ≤ 40 ∧ e.depth ≤ 40 ∧ Q (.bl (!PyData.eqv d e)) H
theorem op_eqP (hu : X.A.units + 64 < cLine) : OpR X (compareOp .Eq) (rEqP X.K) := by
  intro pins s σ H x y v u Q I rx ry h
  obtain ⟨d, e, hd, he, sd, se, l1, l2, q⟩ := h
  obtain ⟨as, r1⟩ := Dp.reads I d x v hd rx
  obtain ⟨bs, r2⟩ := Dp.reads I e y u he ry
  exact PySem.SeqAt.eq_plain r1 r2 sd se (by omega) ⟨.bl _, H, I, rfl, q⟩
theorem op_neP (hu : X.A.units + 64 < cLine) : OpR X (compareOp .NotEq) (rNeP X.K) := by
  intro pins s σ H x y v u Q I rx ry h
  obtain ⟨d, e, hd, he, sd, se, l1, l2, q⟩ := h
  obtain ⟨as, r1⟩ := Dp.reads I d x v hd rx
  obtain ⟨bs, r2⟩ := Dp.reads I e y u he ry
  exact PySem.SeqAt.ne_plain r1 r2 sd se (by omega) ⟨.bl _, H, I, rfl, q⟩
def dEqv (d e : D) : Option Bool := match toP 32 d, toP 32 e with
  | some p, some q => some (PyData.eqv p q)
  | _, _ => none
theorem dEqv_some {d e : D} {b : Bool} (h : dEqv d e = some b) : ∃ p q, toP 32 d = some p ∧ toP 32 e = some q ∧ b = PyData.eqv p q := by
  unfold dEqv at h
  split at h
  · cases h; exact ⟨_, _, by assumption, by assumption, rfl⟩
  · cases h
def dEq (d e : D) : R D := match dEqv d e with
  | some b => ok (.bl b)
  | none => none
def dNe (d e : D) : R D := match dEqv d e with
  | some b => ok (.bl (!b))
  | none => none
theorem r2_eq : R2Ok c W .dur (rEqP c.K) dEq := fun Γ σ ρ H x y d e res Q er hx hy h p => by
  unfold dEq at h
  split at h
  · rename_i b hb
    cases h
    obtain ⟨p1, p2, h1, h2, rfl⟩ := dEqv_some hb
    obtain ⟨a1, b1⟩ := toP_plain _ _ _ h1
    obtain ⟨a2, b2⟩ := toP_plain _ _ _ h2
    exact ⟨_, _, toP_bor h1 hx, toP_bor h2 hy, a1, a2, by omega, by omega, fin_bl p er⟩
  · cases h
theorem r2_ne : R2Ok c W .dur (rNeP c.K) dNe := fun Γ σ ρ H x y d e res Q er hx hy h p => by
  unfold dNe at h
  split at h
  · rename_i b hb
    cases h
    obtain ⟨p1, p2, h1, h2, rfl⟩ := dEqv_some hb
    obtain ⟨a1, b1⟩ := toP_plain _ _ _ h1
    obtain ⟨a2, b2⟩ := toP_plain _ _ _ h2
    exact ⟨_, _, toP_bor h1 hx, toP_bor h2 hy, a1, a2, by omega, by omega, fin_bl p er⟩
  · cases h
def dCmp (f : Int → Int → Bool) : D → D → R D
  | .int a, .int b => ok (.bl (f a b))
  | _, _ => none
theorem r2_cmp {f : Int → Int → Bool} : R2Ok c W .dur (rI0 fun i j => .bl (f i j)) (dCmp f) := fun Γ σ ρ H x y d e res Q er hx hy h p => by
  cases d <;> cases e <;> first | (cases h; done) | skip
  cases h
  rw [hx.int, hy.int]
  exact ⟨_, _, rfl, rfl, fin_bl p er⟩
abbrev dLt := dCmp fun i j => decide (i < j)
abbrev dLe := dCmp fun i j => decide (i ≤ j)
abbrev dGt := dCmp fun i j => decide (j < i)
abbrev dGe := dCmp fun i j => decide (j ≤ i)
def isNon : D → Bool
  | .non => true
  | _ => false
def dIsN (d e : D) : R D := match e with
  | .non => ok (.bl (isNon d))
  | .bl b => (match d with
    | .bl a => ok (.bl (decide (a = b)))
    | _ => none)
  | _ => none
def dNotN (d e : D) : R D := match e with
  | .non => ok (.bl (!isNon d))
  | .bl b => (match d with
    | .bl a => ok (.bl (!decide (a = b)))
    | _ => none)
  | _ => none
theorem isn_of {N : Addr → Prop} {H : Hp} {v : V} {d : D} (h : Bor c N H v d) : decide (v = .non) = isNon d := by
  cases d with
  | non => rw [h.non]; rfl
  | lst _ => obtain ⟨a, us, rfl, _⟩ := h; rfl
  | dK _ => obtain ⟨a, us, rfl, _⟩ := h; rfl
  | dT _ => obtain ⟨a, us, rfl, _⟩ := h; rfl
  | _ => cases h <;> rfl
theorem r2_isN : R2Ok c W .dur (fun x y H Q => (y = .non ∧ Q (.bl (decide (x = .non))) H) ∨ rIsB x y H Q) dIsN := fun Γ σ ρ H x y d e res Q er hx hy h p => by
  cases e <;> first | (cases h; done) | skip
  · cases h
    refine .inl ⟨hy.non, ?_⟩
    rw [isn_of hx]
    exact fin_bl p er
  · cases d <;> first | (cases h; done) | skip
    cases h
    exact .inr ⟨_, _, hx.bl, hy.bl, fin_bl p er⟩
theorem r2_notN : R2Ok c W .dur (fun x y H Q => (y = .non ∧ Q (.bl (!decide (x = .non))) H) ∨ rNotB x y H Q) dNotN := fun Γ σ ρ H x y d e res Q er hx hy h p => by
  cases e <;> first | (cases h; done) | skip
  · cases h
    refine .inl ⟨hy.non, ?_⟩
    rw [isn_of hx]
    exact fin_bl p er
  · cases d <;> first | (cases h; done) | skip
    cases h
    exact .inr ⟨_, _, hx.bl, hy.bl, fin_bl p er⟩
/-- a comparison's rule: how it is compared, what it gives -/
structure Cmp (X : Cx) (c : Conf) (W : WX) (op : CmpOp) (f : D → D → R D) : Prop where
  ex : ∃ r : R2, OpR X (compareOp op) r ∧ R2Ok c W .dur r f
theorem q_eq (hu : X.A.units + 64 < cLine) (hK : c.K = X.K := by rfl) : Cmp X c W .Eq dEq := ⟨_, op_eqP hu, by rw [← hK]; exact r2_eq⟩
theorem q_ne (hu : X.A.units + 64 < cLine) (hK : c.K = X.K := by rfl) : Cmp X c W .NotEq dNe := ⟨_, op_neP hu, by rw [← hK]; exact r2_ne⟩
theorem q_lt : Cmp X c W .Lt dLt := ⟨_, op_lt, r2_cmp⟩
theorem q_le : Cmp X c W .LtE dLe := ⟨_, op_le, r2_cmp⟩
theorem q_gt : Cmp X c W .Gt dGt := ⟨_, op_gt, r2_cmp⟩
theorem q_ge : Cmp X c W .GtE dGe := ⟨_, op_ge, r2_cmp⟩
theorem q_isN : Cmp X c W .Is dIsN := ⟨_, op_isN.or op_isBl, r2_isN⟩
theorem q_notN : Cmp X c W .IsNot dNotN := ⟨_, op_notN.or op_notBl, r2_notN⟩
def mTst (m : ME) : MT := fun ρ => bnd (m ρ) fun d => match d with
  | .bl b => ok b
  | _ => none
theorem tst_of {m : ME} {t : TE} (i : ∀ σ H Q, tE c W .dur m σ H Q → t σ H Q) {σ : L2.St} {H : Hp} {Q : Bool → Hp → Prop} (h : tT c W (mTst m) σ H Q) : tTest t σ H Q := by
  obtain ⟨Γ, ρ, r, e, em, p⟩ := h
  refine i _ _ _ (use e em p.err fun d v H1 h1 s1 r1 => ?_)
  split at h1
  · cases h1
    rw [r1.2.of_bl]
    exact ⟨_, rfl, p _ s1 r1.1⟩
  · cases h1
theorem d_cmp {op : CmpOp} {f : D → D → R D} {a b : Expr} {ma mb : ME} {pos : Pos} (q : Cmp X c W op f) (ha : PE X a (tE c W .bor ma)) (hb : PE X b (tE c W .bor mb)) (hm : behindInMarks op b = false := by first | exact nomark _ | rfl | with_unfolding_all rfl) :
    PE X (.Compare a [op] [b] pos) (tE c W .dur (mBin f ma mb)) := by
  obtain ⟨r, ho, hr⟩ := q.ex
  exact (pe_cmpR ho ha hb hm).via fun _ _ _ h => tOp_ok hr h
theorem t_cmp {op : CmpOp} {f : D → D → R D} {a b : Expr} {ma mb : ME} {pos : Pos} (q : Cmp X c W op f) (ha : PE X a (tE c W .bor ma)) (hb : PE X b (tE c W .bor mb)) (hm : behindInMarks op b = false := by first | exact nomark _ | rfl | with_unfolding_all rfl) :
    PT X (.Compare a [op] [b] pos) (tT c W (mTst (mBin f ma mb))) := by
  obtain ⟨r, ho, hr⟩ := q.ex
  exact (pt_cmpR ho ha hb hm).via fun _ _ _ h => tst_of (fun _ _ _ h => tOp_ok hr h) h
/-- a chain of comparisons, behind its first item -/
def mCh : D → List ((D → D → R D) × ME) → ME
  | _, [], _ => ok (.bl true)
  | d, fm :: l, ρ => bnd (fm.2 ρ) fun e => bnd (fm.1 d e) fun b => match b with
    | .bl true => mCh e l ρ
    | .bl false => ok (.bl false)
    | _ => none
structure CH (X : Cx) (c : Conf) (W : WX) (ops : List CmpOp) (es : List Expr) (l : List ((D → D → R D) × ME)) : Prop where
  ne : ∃ o os, ops = o :: os
  ne2 : ∃ o os, es = o :: os
  val : ∀ (pos : Pos) (pins : List (Addr × Obj)) (s : Shared) (σ : L2.St) (H : Hp) (Q : VK) (Γ : Gam) (ρ : Ro) (r : Except EN D) (x : V) (d : D) (v : Value), Inv X pins σ H s → RelV x v → ER c Γ σ H ρ → Bor c (NN Γ σ ρ) H x d → mCh d l ρ = some r →
    PostE c W .dur Γ σ ρ H Q r → wpAny (model X.prog X.w) X.A (compareChain pos v ops (es.map fun e => eval e X.env)) (EP X pins σ Q) X.xe s
  tst : ∀ (pos : Pos) (pins : List (Addr × Obj)) (s : Shared) (σ : L2.St) (H : Hp) (Q : Bool → Hp → Prop) (Γ : Gam) (ρ : Ro) (r : Except EN Bool) (x : V) (d : D) (v : Value), Inv X pins σ H s → RelV x v → ER c Γ σ H ρ → Bor c (NN Γ σ ρ) H x d → mTst (mCh d l) ρ = some r →
    PostT c W Γ σ ρ H Q r → wpAny (model X.prog X.w) X.A (testChain pos v ops (es.map fun e => eval e X.env)) (TP X pins σ Q) X.xe s
theorem ch_one {op : CmpOp} {f : D → D → R D} {b : Expr} {mb : ME} (q : Cmp X c W op f) (hb : PE X b (tE c W .bor mb)) : CH X c W [op] [b] [(f, mb)] := by
  obtain ⟨R, ho, hr⟩ := q.ex
  refine ⟨⟨_, _, rfl⟩, ⟨_, _, rfl⟩, fun pos pins s σ H Q Γ ρ r x d v I rx er bx em p => ?_, fun pos pins s σ H Q Γ ρ r x d v I rx er bx em p => ?_⟩
  · refine PyProof.Rows.chain_last (thn (hb.run pins s σ H (fun y H1 => R x y H1 Q) I (use er em p.err fun e y H1 h1 s1 r1 => ?_)) fun u s1 ⟨y, H1, I1, ry, q1⟩ => ho pins s1 σ H1 x y v u Q I1 rx ry q1)
    dsimp only at h1
    cases z : f d e with
    | none => rw [z] at h1; cases h1
    | some w =>
      rw [z] at h1
      refine hr Γ σ ρ H1 x y d e w Q r1.1 (bx.same s1) r1.2 z ?_
      cases w with
      | error x => cases h1; exact p
      | ok g =>
        cases g <;> first | (cases h1; done) | skip
        rename_i k
        cases k with
        | true => cases h1; exact p.mono s1
        | false => cases h1; exact p.mono s1
  · unfold mTst at em
    have pe := p.err
    refine PyProof.Rows.test_last (thn (hb.run pins s σ H (fun y H1 => R x y H1 fun z H2 => ∃ k, z = .bl k ∧ Q k H2) I ?_) fun u s1 ⟨y, H1, I1, ry, q1⟩ => thn (ho pins s1 σ H1 x y v u _ I1 rx ry q1) fun z s2 ⟨z', H2, I2, rz, k, ek, q2⟩ => ?_)
    · cases em2 : mb ρ with
      | none => simp only [mCh, em2, bnd] at em; cases em
      | some w =>
        cases w with
        | error x =>
          simp only [mCh, em2, bnd] at em
          cases em
          exact ⟨Γ, ρ, _, er, em2, pe _ rfl⟩
        | ok e =>
          refine ⟨Γ, ρ, _, er, em2, fun y H1 s1 r1 => ?_⟩
          simp only [mCh, em2, bnd] at em
          cases z : f d e with
          | none => rw [z] at em; cases em
          | some w =>
            rw [z] at em
            refine hr Γ σ ρ H1 x y d e w _ r1.1 (bx.same s1) r1.2 z ?_
            cases w with
            | error x => cases em; exact p
            | ok g =>
              intro v2 H2 s2 r2
              cases g <;> first | (cases em; done) | skip
              rename_i k
              cases k with
              | true => cases em; rw [r2.2.of_bl]; exact ⟨_, rfl, p _ (s1.trans s2) r2.1⟩
              | false => cases em; rw [r2.2.of_bl]; exact ⟨_, rfl, p _ (s1.trans s2) r2.1⟩
    · subst ek
      cases rz
      exact wpAny_truthy_bool ⟨H2, I2, q2⟩
theorem ch_more {op : CmpOp} {f : D → D → R D} {b : Expr} {mb : ME} {ops : List CmpOp} {es : List Expr} {l : List ((D → D → R D) × ME)} (q : Cmp X c W op f) (hb : PE X b (tE c W .bor mb)) (t : CH X c W ops es l) : CH X c W (op :: ops) (b :: es) ((f, mb) :: l) := by
  obtain ⟨R, ho, hr⟩ := q.ex
  obtain ⟨o1, os1, rfl⟩ := t.ne
  obtain ⟨e1, es1, rfl⟩ := t.ne2
  refine ⟨⟨_, _, rfl⟩, ⟨_, _, rfl⟩, fun pos pins s σ H Q Γ ρ r x d v I rx er bx em p => ?_, fun pos pins s σ H Q Γ ρ r x d v I rx er bx em p => ?_⟩
  · refine PyProof.Rows.chain_link (thn (hb.run pins s σ H (fun y H1 => R x y H1 fun z H2 => ∃ k, z = .bl k ∧ if k = true then ∃ e, mCh e l ρ = some r ∧ ER c Γ σ H2 ρ ∧ Bor c (NN Γ σ ρ) H2 y e ∧ Same H H2 else Q (.bl false) H2) I (use er em p.err fun e y H1 h1 s1 r1 => ?_)) fun u s1 ⟨y, H1, I1, ry, q1⟩ =>
      thn (ho pins s1 σ H1 x y v u _ I1 rx ry q1) fun z s2 ⟨z', H2, I2, rz, k, ek, q2⟩ => ?_)
    · dsimp only at h1
      cases z : f d e with
      | none => rw [z] at h1; cases h1
      | some w =>
        rw [z] at h1
        refine hr Γ σ ρ H1 x y d e w _ r1.1 (bx.same s1) r1.2 z ?_
        cases w with
        | error x => cases h1; exact p
        | ok g =>
          intro v2 H2 s2 r2
          cases g <;> first | (cases h1; done) | skip
          rename_i k
          rw [r2.2.of_bl]
          refine ⟨_, rfl, ?_⟩
          cases k with
          | true => exact ⟨e, h1, r2.1, r1.2.same s2, s1.trans s2⟩
          | false =>
            cases h1
            exact fin_bl (p.mono (s1.trans s2)) r2.1
    · subst ek
      cases rz
      refine wpAny_truthy_bool ?_
      cases k with
      | false => exact PyProof.Rows.ite_ff ⟨.bl false, H2, I2, rfl, q2⟩
      | true =>
        obtain ⟨e, h1, e1, b1, sm⟩ := q2
        exact PyProof.Rows.ite_tt (t.val pos pins s2 σ H2 Q Γ ρ r y e u I2 ry e1 b1 h1 (p.mono sm))
  · have pe := p.err
    refine PyProof.Rows.test_link (thn (hb.run pins s σ H (fun y H1 => R x y H1 fun z H2 => ∃ k, z = .bl k ∧ if k = true then ∃ e, mTst (mCh e l) ρ = some r ∧ ER c Γ σ H2 ρ ∧ Bor c (NN Γ σ ρ) H2 y e ∧ Same H H2 else Q false H2) I ?_) fun u s1 ⟨y, H1, I1, ry, q1⟩ =>
      thn (ho pins s1 σ H1 x y v u _ I1 rx ry q1) fun z s2 ⟨z', H2, I2, rz, k, ek, q2⟩ => ?_)
    · cases em2 : mb ρ with
      | none => simp only [mTst, mCh, em2, bnd] at em; cases em
      | some w =>
        cases w with
        | error x =>
          simp only [mTst, mCh, em2, bnd] at em
          cases em
          exact ⟨Γ, ρ, _, er, em2, pe _ rfl⟩
        | ok e =>
          refine ⟨Γ, ρ, _, er, em2, fun y H1 s1 r1 => ?_⟩
          simp only [mTst, mCh, em2, bnd] at em
          cases z : f d e with
          | none => rw [z] at em; cases em
          | some w =>
            rw [z] at em
            refine hr Γ σ ρ H1 x y d e w _ r1.1 (bx.same s1) r1.2 z ?_
            cases w with
            | error x => cases em; exact p
            | ok g =>
              intro v2 H2 s2 r2
              cases g <;> first | (cases em; done) | skip
              rename_i k
              rw [r2.2.of_bl]
              refine ⟨_, rfl, ?_⟩
              cases k with
              | true => exact ⟨e, em, r2.1, r1.2.same s2, s1.trans s2⟩
              | false =>
                cases em
                exact p _ (s1.trans s2) r2.1
    · subst ek
      cases rz
      refine wpAny_truthy_bool ?_
      cases k with
      | false => exact PyProof.Rows.ite_ff ⟨H2, I2, q2⟩
      | true =>
        obtain ⟨e, h1, e1, b1, sm⟩ := q2
        exact PyProof.Rows.ite_tt (t.tst pos pins s2 σ H2 Q Γ ρ r y e u I2 ry e1 b1 h1 (p.mono sm))
def mChain (ma : ME) (l : List ((D → D → R D) × ME)) : ME := fun ρ => bnd (ma ρ) fun d => mCh d l ρ
theorem d_chain {a b1 b2 : Expr} {ma : ME} {op1 op2 : CmpOp} {ops : List CmpOp} {es : List Expr} {l : List ((D → D → R D) × ME)} {pos : Pos} (ha : PE X a (tE c W .bor ma)) (t : CH X c W (op1 :: op2 :: ops) (b1 :: b2 :: es) l)
    (he : evalEach es X.env = es.map (fun e => eval e X.env) := by rfl) (hm : lastMarks (op1 :: op2 :: ops) (b1 :: b2 :: es) = false := by with_unfolding_all rfl) : PE X (.Compare a (op1 :: op2 :: ops) (b1 :: b2 :: es) pos) (tE c W .dur (mChain ma l)) := by
  refine ⟨fun pins s σ H Q I ⟨Γ, ρ, r, er, em, p⟩ => ?_⟩
  refine PyProof.Rows.Compare_chain (thn (ha.run pins s σ H (fun x H1 => ∃ d, mCh d l ρ = some r ∧ ER c Γ σ H1 ρ ∧ Bor c (NN Γ σ ρ) H1 x d ∧ Same H H1) I (use er em p.err fun d x H1 h1 s1 r1 => ⟨d, h1, r1.1, r1.2, s1⟩)) fun v s1 ⟨x, H1, I1, rx, d, h1, e1, bx, sm⟩ => ?_) hm
  rw [he]
  exact t.val pos pins s1 σ H1 Q Γ ρ r x d v I1 rx e1 bx h1 (p.mono sm)
theorem t_chain {a b1 b2 : Expr} {ma : ME} {op1 op2 : CmpOp} {ops : List CmpOp} {es : List Expr} {l : List ((D → D → R D) × ME)} {pos : Pos} (ha : PE X a (tE c W .bor ma)) (t : CH X c W (op1 :: op2 :: ops) (b1 :: b2 :: es) l)
    (he : evalEach es X.env = es.map (fun e => eval e X.env) := by rfl) (hm : lastMarks (op1 :: op2 :: ops) (b1 :: b2 :: es) = false := by with_unfolding_all rfl) : PT X (.Compare a (op1 :: op2 :: ops) (b1 :: b2 :: es) pos) (tT c W (mTst (mChain ma l))) := by
  refine ⟨fun pins s σ H Q I ⟨Γ, ρ, r, er, em, p⟩ => ?_⟩
  have em' : bnd (ma ρ) (fun d => mTst (mCh d l) ρ) = some r := by
    unfold mTst mChain at em
    unfold mTst
    cases z : ma ρ with
    | none => rw [z] at em; cases em
    | some w =>
      rw [z] at em
      cases w with
      | error x => exact em
      | ok d => exact em
  refine PyProof.Rows.isTrue_chain (thn (ha.run pins s σ H (fun x H1 => ∃ d, mTst (mCh d l) ρ = some r ∧ ER c Γ σ H1 ρ ∧ Bor c (NN Γ σ ρ) H1 x d ∧ Same H H1) I (use er em' p.err fun d x H1 h1 s1 r1 => ⟨d, h1, r1.1, r1.2, s1⟩)) fun v s1 ⟨x, H1, I1, rx, d, h1, e1, bx, sm⟩ => ?_) hm
  rw [he]
  exact t.tst pos pins s1 σ H1 Q Γ ρ r x d v I1 rx e1 bx h1 (p.mono sm)

/-! ### and, or, not -/
def mAndT (m n : MT) : MT := fun ρ => bnd (m ρ) fun b => match b with
  | true => n ρ
  | false => ok false
def mOrT (m n : MT) : MT := fun ρ => bnd (m ρ) fun b => match b with
  | true => ok true
  | false => n ρ
def mNotT (m : MT) : MT := fun ρ => bnd (m ρ) fun b => ok (!b)
theorem w_and1 {a : Expr} {ma : MT} {pos : Pos} (ha : PT X a (tT c W ma)) : PW X (.BoolOp .And [a] pos) (tT c W ma) := pw_and1 ha
theorem w_or1 {a : Expr} {ma : MT} {pos : Pos} (ha : PT X a (tT c W ma)) : PW X (.BoolOp .Or [a] pos) (tT c W ma) := pw_or1 ha
theorem w_and {a b : Expr} {rest : List Expr} {ma mb : MT} {pos : Pos} (ha : PT X a (tT c W ma)) (hb : PW X (.BoolOp .And (b :: rest) pos) (tT c W mb)) : PW X (.BoolOp .And (a :: b :: rest) pos) (tT c W (mAndT ma mb)) :=
  PW.via (pw_and ha hb) fun σ H Q ⟨Γ, ρ, r, er, em, p⟩ => useT er em p.err fun k H1 h1 s1 e1 => by
    cases k with
    | false => cases h1; rw [if_neg Bool.false_ne_true]; exact p _ s1 e1
    | true => rw [if_pos rfl]; exact ⟨Γ, ρ, r, e1, h1, p.mono s1⟩
theorem w_or {a b : Expr} {rest : List Expr} {ma mb : MT} {pos : Pos} (ha : PT X a (tT c W ma)) (hb : PW X (.BoolOp .Or (b :: rest) pos) (tT c W mb)) : PW X (.BoolOp .Or (a :: b :: rest) pos) (tT c W (mOrT ma mb)) :=
  PW.via (pw_or ha hb) fun σ H Q ⟨Γ, ρ, r, er, em, p⟩ => useT er em p.err fun k H1 h1 s1 e1 => by
    cases k with
    | true => cases h1; rw [if_pos rfl]; exact p _ s1 e1
    | false => rw [if_neg Bool.false_ne_true]; exact ⟨Γ, ρ, r, e1, h1, p.mono s1⟩
theorem t_not {a : Expr} {ma : MT} {pos : Pos} (ha : PT X a (tT c W ma)) : PT X (.UnaryOp .Not a pos) (tT c W (mNotT ma)) :=
  PT.via (pt_not ha) fun σ H Q ⟨Γ, ρ, r, er, em, p⟩ => useT er em p.err fun k H1 h1 s1 e1 => by
    cases h1; exact p _ s1 e1
theorem t_val {e : Expr} {m : ME} (h : PE X e (tE c W .dur m)) (he : ∀ whole, isTrue e X.env whole = (do let v ← whole; standAt e.pos; holding [v] (truthy v)) := by intro _; rfl) : PT X e (tT c W (mTst m)) :=
  PT.via (pt_val h he) fun _ _ _ q => tst_of (fun _ _ _ h => h) q
/-- as values, bools -/
def mAnd (m n : ME) : ME := fun ρ => bnd (m ρ) fun d => match d with
  | .bl true => n ρ
  | .bl false => ok (.bl false)
  | _ => none
def mOr (m n : ME) : ME := fun ρ => bnd (m ρ) fun d => match d with
  | .bl true => ok (.bl true)
  | .bl false => n ρ
  | _ => none
def dNot : D → R D
  | .bl b => ok (.bl (!b))
  | _ => none
theorem d_one {op : BoolOp} {a : Expr} {ma : ME} {pos : Pos} (ha : PE X a (tE c W .dur ma)) : PE X (.BoolOp op [a] pos) (tE c W .dur ma) := pe_one ha
theorem d_and {a b : Expr} {rest : List Expr} {ma mb : ME} {pos : Pos} (ha : PE X a (tE c W .dur ma)) (hb : PE X (.BoolOp .And (b :: rest) pos) (tE c W .dur mb)) : PE X (.BoolOp .And (a :: b :: rest) pos) (tE c W .dur (mAnd ma mb)) :=
  PE.via (pe_and ha hb) fun σ H Q ⟨Γ, ρ, r, er, em, p⟩ => use er em p.err fun d v H1 h1 s1 r1 => by
    cases d <;> first | (cases h1; done) | skip
    rename_i k
    rw [r1.2.of_bl]
    refine ⟨k, rfl, ?_⟩
    cases k with
    | false => cases h1; rw [if_neg Bool.false_ne_true]; exact fin_bl (p.mono s1) r1.1
    | true => rw [if_pos rfl]; exact ⟨Γ, ρ, r, r1.1, h1, p.mono s1⟩
theorem d_or {a b : Expr} {rest : List Expr} {ma mb : ME} {pos : Pos} (ha : PE X a (tE c W .dur ma)) (hb : PE X (.BoolOp .Or (b :: rest) pos) (tE c W .dur mb)) : PE X (.BoolOp .Or (a :: b :: rest) pos) (tE c W .dur (mOr ma mb)) :=
  PE.via (pe_or ha hb) fun σ H Q ⟨Γ, ρ, r, er, em, p⟩ => use er em p.err fun d v H1 h1 s1 r1 => by
    cases d <;> first | (cases h1; done) | skip
    rename_i k
    rw [r1.2.of_bl]
    refine ⟨k, rfl, ?_⟩
    cases k with
    | true => cases h1; rw [if_pos rfl]; exact fin_bl (p.mono s1) r1.1
    | false => rw [if_neg Bool.false_ne_true]; exact ⟨Γ, ρ, r, r1.1, h1, p.mono s1⟩
theorem d_not {a : Expr} {ma : ME} {pos : Pos} (ha : PE X a (tE c W .dur ma)) : PE X (.UnaryOp .Not a pos) (tE c W .dur (mUn dNot ma)) :=
  PE.via (pe_not ha) fun σ H Q ⟨Γ, ρ, r, er, em, p⟩ => use er em p.err fun d v H1 h1 s1 r1 => by
    cases d <;> first | (cases h1; done) | skip
    rename_i k
    cases h1
    rw [r1.2.of_bl]
    exact ⟨k, rfl, fin_bl (p.mono s1) r1.1⟩
end
end DL

set_option Elab.async false
set_option linter.all false
set_option maxRecDepth 100000
set_option maxHeartbeats 2000000
set_option autoImplicit false
/-! DLc: dicts by keys, in, subscripts, slices, displays, arguments, calls of built-ins by values. -/
namespace DL
open PySem L2

/-! ### keys -/
section
variable {κ : Type} [DecidableEq κ]
def lkD (kds : List (κ × D)) (k : κ) : Option D := (kds.find? fun kd => decide (kd.1 = k)).map (·.2)
def ptD (kds : List (κ × D)) (k : κ) (d : D) : List (κ × D) :=
  if (kds.any fun kd => decide (kd.1 = k)) = true then kds.map (fun kd => if kd.1 = k then (kd.1, d) else kd) else kds ++ [(k, d)]
theorem lk_rel {c : Conf} {N : Addr → Prop} {H : Hp} : ∀ {kvs : List (κ × V)} {kds : List (κ × D)}, kvs.map (·.1) = kds.map (·.1) → Rp c N H (kvs.map (·.2)) (kds.map (·.2)) → ∀ k, (∃ v d, valV kvs k = some v ∧ lkD kds k = some d ∧ Re c N H v d) ∨ (valV kvs k = none ∧ lkD kds k = none)
  | [], [], _, _, k => .inr ⟨rfl, rfl⟩
  | [], _ :: _, e, _, _ => by simp at e
  | _ :: _, [], e, _, _ => by simp at e
  | (k1, v) :: kvs, (k2, d) :: kds, e, r, k => by
    simp only [List.map_cons, List.cons.injEq] at e
    obtain ⟨e1, e2⟩ := e
    subst e1
    have r : Rp c N H (v :: kvs.map (·.2)) (d :: kds.map (·.2)) := r
    by_cases z : k1 = k
    · exact .inl ⟨v, d, valV_pos z, by simp [lkD, List.find?_cons, z], r.unc.1⟩
    · rcases lk_rel e2 r.unc.2 k with ⟨v', d', a, b, q⟩ | ⟨a, b⟩
      · exact .inl ⟨v', d', by rw [valV_neg z]; exact a, by simp only [lkD, List.find?_cons, z, decide_false]; exact b, q⟩
      · exact .inr ⟨by rw [valV_neg z]; exact a, by simp only [lkD, List.find?_cons, z, decide_false]; exact b⟩
theorem lk_some {c : Conf} {N : Addr → Prop} {H : Hp} {kvs : List (κ × V)} {kds : List (κ × D)} (e : kvs.map (·.1) = kds.map (·.1)) (r : Rp c N H (kvs.map (·.2)) (kds.map (·.2))) {k : κ} {d : D} (h : lkD kds k = some d) : ∃ v, valV kvs k = some v ∧ Re c N H v d := by
  rcases lk_rel e r k with ⟨v', d', a, b, q⟩ | ⟨a, b⟩
  · rw [h] at b
    cases b
    exact ⟨v', a, q⟩
  · rw [h] at b
    cases b
theorem lk_is {c : Conf} {N : Addr → Prop} {H : Hp} {kvs : List (κ × V)} {kds : List (κ × D)} (e : kvs.map (·.1) = kds.map (·.1)) (r : Rp c N H (kvs.map (·.2)) (kds.map (·.2))) (k : κ) : (valV kvs k).isSome = (lkD kds k).isSome := by
  rcases lk_rel e r k with ⟨v', d', a, b, q⟩ | ⟨a, b⟩ <;> rw [a, b] <;> rfl
theorem any_keys {α β : Type} {kvs : List (κ × α)} {kds : List (κ × β)} (e : kvs.map (·.1) = kds.map (·.1)) (k : κ) : (kvs.any fun kd => decide (kd.1 = k)) = (kds.any fun kd => decide (kd.1 = k)) := by
  have h1 : (kvs.any fun kd => decide (kd.1 = k)) = (kvs.map (·.1)).any fun x => decide (x = k) := by rw [List.any_map]; rfl
  have h2 : (kds.any fun kd => decide (kd.1 = k)) = (kds.map (·.1)).any fun x => decide (x = k) := by rw [List.any_map]; rfl
  rw [h1, h2, e]
theorem pt_rel {c : Conf} {N : Addr → Prop} {H : Hp} {kvs : List (κ × V)} {kds : List (κ × D)} (e : kvs.map (·.1) = kds.map (·.1)) (r : Rp c N H (kvs.map (·.2)) (kds.map (·.2))) (k : κ) {v : V} {d : D} (q : Re c N H v d) :
    (putK kvs k v).map (·.1) = (ptD kds k d).map (·.1) ∧ Rp c N H ((putK kvs k v).map (·.2)) ((ptD kds k d).map (·.2)) := by
  unfold putK ptD
  rw [any_keys e k]
  by_cases z : (kds.any fun kd => decide (kd.1 = k)) = true
  · rw [if_pos z, if_pos z]
    clear z
    induction kvs generalizing kds with
    | nil => cases kds with
      | nil => exact ⟨rfl, .nil⟩
      | cons _ _ => simp at e
    | cons p kvs ih => cases kds with
      | nil => simp at e
      | cons p' kds =>
        obtain ⟨k1, v1⟩ := p
        obtain ⟨k2, d1⟩ := p'
        simp only [List.map_cons, List.cons.injEq] at e
        obtain ⟨e1, e2⟩ := e
        subst e1
        have r : Rp c N H (v1 :: kvs.map (·.2)) (d1 :: kds.map (·.2)) := r
        obtain ⟨i1, i2⟩ := ih e2 r.unc.2
        by_cases w : k1 = k
        · subst w
          refine ⟨by simp only [List.map_cons, if_true, i1], ?_⟩
          simp only [List.map_cons, if_true]
          exact .cons q i2
        · refine ⟨by simp only [List.map_cons, if_neg w, i1], ?_⟩
          simp only [List.map_cons, if_neg w]
          exact .cons r.unc.1 i2
  · rw [if_neg z, if_neg z]
    refine ⟨by simp [e], ?_⟩
    rw [List.map_append, List.map_append]
    exact r.app (.cons q .nil)
theorem ptD_len (kds : List (κ × D)) (k : κ) (d : D) : (ptD kds k d).length ≤ kds.length + 1 := by
  unfold ptD
  split <;> simp
end
def keyD : D → Option Key
  | .int i => some (.inl i)
  | .str s => some (.inr s)
  | _ => none
def tkD : D → Option (List Key)
  | .tup ds => ds.mapM keyD
  | _ => none
section
variable {c : Conf} {N : Addr → Prop} {H : Hp}
theorem keyD_v {d : D} {k : Key} {v : V} (h : keyD d = some k) (r : Bor c N H v d) : v = kV k := by
  cases d <;> first | (cases h; done) | skip
  · cases h; exact r.int
  · cases h; exact r.str
theorem keysD_v : ∀ {ds : List D} {ks : List Key} {vs : List V}, ds.mapM keyD = some ks → Rp c N H vs ds → vs = ks.map kV
  | [], ks, vs, h, r => by
    cases h
    cases r
    rfl
  | d :: ds, ks, [], h, r => by cases r
  | d :: ds, ks, v :: vs, h, r => by
    rw [List.mapM_cons] at h
    cases e : keyD d with
    | none => rw [e] at h; cases h
    | some k =>
      cases e2 : ds.mapM keyD with
      | none => simp only [e, e2] at h; cases h
      | some l =>
        simp only [e, e2] at h
        cases h
        rw [keyD_v e r.unc.1.bor, keysD_v e2 r.unc.2]
        rfl
theorem tkD_v {d : D} {ks : List Key} {v : V} (h : tkD d = some ks) (r : Bor c N H v d) : ∃ b, v = .ref b ∧ H b = some (.tup (ks.map kV)) := by
  cases d <;> first | (cases h; done) | skip
  obtain ⟨b, us, rfl, _, e, q⟩ := r.tup
  refine ⟨b, rfl, ?_⟩
  rw [e, keysD_v h q]
end

/-! ### in -/
section
variable {X : Cx} {c : Conf} {W : WX}
def dHas (x y : D) : Option Bool := match y with
  | .dK kds => (keyD x).map fun k => (lkD kds k).isSome
  | .dT kds => (tkD x).map fun k => (lkD kds k).isSome
  | .lst ds => (match toP 32 x, toPs 31 ds with | some p, some q => some (q.any fun y => PyData.eqv y p) | _, _ => none)
  | .tup ds => (match toP 32 x, toPs 31 ds with | some p, some q => some (q.any fun y => PyData.eqv y p) | _, _ => none)
  | .fz true ds => (match toP 32 x, toPs 31 ds with | some p, some q => some (q.any fun y => PyData.eqv y p) | _, _ => none)
  | .str b => (match x with
    | .str a => (match a.cps.toList with | [z] => some (decide (z ∈ b.cps.toList)) | _ => some (!(Builtin.Str.occurrences b a 0 b.length 1).isEmpty))
    | _ => none)
  | _ => none
def dIn (x y : D) : R D := match dHas x y with
  | some b => ok (.bl b)
  | none => none
def dNotIn (x y : D) : R D := match dHas x y with
  | some b => ok (.bl (!b))
  | none => none
def rHas (K : PySem.W.Frag) (f : Bool → Bool) : R2 := fun x y H Q =>
  (∃ a o, y = .ref a ∧ DGet H a x o ∧ Q (.bl (f o.isSome)) H) ∨
  (∃ d ds, Dp K H y (.list ds) ∧ Dp K H x d ∧ PyData.plainAll ds = true ∧ d.plain = true ∧ PyData.depthAll ds ≤ 40 ∧ Q (.bl (f (ds.any fun y => PyData.eqv y d))) H) ∨
  (∃ d ds, Dp K H y (.tuple ds) ∧ Dp K H x d ∧ PyData.plainAll ds = true ∧ d.plain = true ∧ PyData.depthAll ds ≤ 40 ∧ Q (.bl (f (ds.any fun y => PyData.eqv y d))) H) ∨
  (∃ (z : Nat) (b : Str), x = .str ⟨#[z]⟩ ∧ y = .str b ∧ Q (.bl (f (decide (z ∈ b.cps.toList)))) H) ∨
  (∃ i j, x = .str i ∧ y = .str j ∧ Q (.bl (f (!(Builtin.Str.occurrences j i 0 j.length 1).isEmpty))) H)
theorem op_has (hu : X.A.units + 64 < cLine) : OpR X (compareOp .In) (rHas X.K id) := by
  intro pins s σ H x y v u Q I rx ry h
  rcases h with ⟨a, o, rfl, g, q⟩ | ⟨d, ds, hy, hx, p1, p2, l, q⟩ | ⟨d, ds, hy, hx, p1, p2, l, q⟩ | ⟨z, b, rfl, rfl, q⟩ | ⟨i, j, rfl, rfl, q⟩
  · cases ry
    exact d_in (by omega) I g rx fun s' I' => ⟨.bl _, H, I', rfl, q⟩
  · obtain ⟨as, r1⟩ := Dp.reads I d x v hx rx
    obtain ⟨bs, r2⟩ := Dp.reads I (.list ds) y u hy ry
    exact PySem.SeqAt.in_list_data r2 r1 p1 p2 (by omega) ⟨.bl _, H, I, rfl, q⟩
  · obtain ⟨as, r1⟩ := Dp.reads I d x v hx rx
    obtain ⟨bs, r2⟩ := Dp.reads I (.tuple ds) y u hy ry
    exact PySem.SeqAt.in_tuple_data r2 r1 p1 p2 (by omega) ⟨.bl _, H, I, rfl, q⟩
  · exact op_in_sign pins s σ H _ _ v u Q I rx ry ⟨z, b, rfl, rfl, q⟩
  · exact op_in_str pins s σ H _ _ v u Q I rx ry ⟨i, j, rfl, rfl, q⟩
theorem op_hasnt (hu : X.A.units + 64 < cLine) : OpR X (compareOp .NotIn) (rHas X.K fun b => !b) := by
  intro pins s σ H x y v u Q I rx ry h
  rcases h with ⟨a, o, rfl, g, q⟩ | ⟨d, ds, hy, hx, p1, p2, l, q⟩ | ⟨d, ds, hy, hx, p1, p2, l, q⟩ | ⟨z, b, rfl, rfl, q⟩ | ⟨i, j, rfl, rfl, q⟩
  · cases ry
    exact d_notIn (by omega) I g rx fun s' I' => ⟨.bl _, H, I', rfl, q⟩
  · obtain ⟨as, r1⟩ := Dp.reads I d x v hx rx
    obtain ⟨bs, r2⟩ := Dp.reads I (.list ds) y u hy ry
    exact PySem.SeqAt.notIn_list_data r2 r1 p1 p2 (by omega) ⟨.bl _, H, I, rfl, q⟩
  · obtain ⟨as, r1⟩ := Dp.reads I d x v hx rx
    obtain ⟨bs, r2⟩ := Dp.reads I (.tuple ds) y u hy ry
    exact PySem.SeqAt.notIn_tuple_data r2 r1 p1 p2 (by omega) ⟨.bl _, H, I, rfl, q⟩
  · exact op_notIn_sign pins s σ H _ _ v u Q I rx ry ⟨z, b, rfl, rfl, q⟩
  · exact op_notIn_str pins s σ H _ _ v u Q I rx ry ⟨i, j, rfl, rfl, q⟩
theorem has_ok {f : Bool → Bool} {Γ : Gam} {σ : L2.St} {ρ : Ro} {H : Hp} {x y : V} {d e : D} {b : Bool} {Q : VK} (er : ER c Γ σ H ρ) (hx : Bor c (NN Γ σ ρ) H x d) (hy : Bor c (NN Γ σ ρ) H y e) (h : dHas d e = some b) (q : Q (.bl (f b)) H) : rHas c.K f x y H Q := by
  have pl : ∀ {p : PyData} {ds : List D} {q : List PyData}, toP 32 d = some p → toPs 31 ds = some q → PyData.plainAll q = true ∧ p.plain = true ∧ PyData.depthAll q ≤ 40 := fun h1 h2 => by
    obtain ⟨a1, b1⟩ := toP_plain _ _ _ h1
    obtain ⟨a2, b2⟩ := toPs_plain (toP_plain _) h2
    exact ⟨a2, a1, by omega⟩
  unfold dHas at h
  split at h
  · rename_i kds
    obtain ⟨k, hk, rfl⟩ := Option.map_eq_some_iff.mp h
    obtain ⟨a, kvs, rfl, rd, ek, r⟩ := hy
    refine .inl ⟨a, valV kvs k, rfl, .inl ⟨kvs, k, rd, keyD_v hk hx, rfl⟩, ?_⟩
    rw [lk_is ek r k]
    exact q
  · rename_i kds
    obtain ⟨k, hk, rfl⟩ := Option.map_eq_some_iff.mp h
    obtain ⟨a, kvs, rfl, rd, ek, r⟩ := hy
    obtain ⟨b', ev, eb⟩ := tkD_v hk hx
    refine .inl ⟨a, valV kvs k, rfl, .inr ⟨kvs, k, b', rd, ev, eb, rfl⟩, ?_⟩
    rw [lk_is ek r k]
    exact q
  · rename_i ds
    split at h
    · rename_i p w h1 h2
      cases h
      obtain ⟨a1, a2, a3⟩ := pl h1 h2
      obtain ⟨a, us, rfl, e1, r⟩ := hy
      exact .inr (.inl ⟨p, w, .lst (.of e1) (toPs_dp (toP_dp _) h2 r), toP_bor h1 hx, a1, a2, a3, q⟩)
    · cases h
  · rename_i ds
    split at h
    · rename_i p w h1 h2
      cases h
      obtain ⟨a1, a2, a3⟩ := pl h1 h2
      obtain ⟨a, us, rfl, _, e1, r⟩ := hy.tup
      exact .inr (.inr (.inl ⟨p, w, .tup (.of e1) (toPs_dp (toP_dp _) h2 r), toP_bor h1 hx, a1, a2, a3, q⟩))
    · cases h
  · rename_i ds
    split at h
    · rename_i p w h1 h2
      cases h
      obtain ⟨a1, a2, a3⟩ := pl h1 h2
      obtain ⟨a, us, rfl, e1, r⟩ := hy.fzT
      exact .inr (.inr (.inl ⟨p, w, .tup e1 (toPs_dp (toP_dp _) h2 r), toP_bor h1 hx, a1, a2, a3, q⟩))
    · cases h
  · rename_i bb
    split at h
    · rename_i aa
      rw [hx.str, hy.str]
      split at h
      · rename_i z ez
        cases h
        refine .inr (.inr (.inr (.inl ⟨z, bb, ?_, rfl, q⟩)))
        obtain ⟨⟨l⟩⟩ := aa
        simp only at ez
        rw [ez]
      · cases h
        exact .inr (.inr (.inr (.inr ⟨aa, bb, rfl, rfl, q⟩)))
    · cases h
  · cases h
theorem q_in (hu : X.A.units + 64 < cLine) (hK : c.K = X.K := by rfl) : Cmp X c W .In dIn := ⟨_, op_has hu, by
  rw [← hK]
  intro Γ σ ρ H x y d e res Q er hx hy h p
  unfold dIn at h
  split at h
  · rename_i b hb
    cases h
    exact has_ok er hx hy hb (fin_bl p er)
  · cases h⟩
theorem q_notIn (hu : X.A.units + 64 < cLine) (hK : c.K = X.K := by rfl) : Cmp X c W .NotIn dNotIn := ⟨_, op_hasnt hu, by
  rw [← hK]
  intro Γ σ ρ H x y d e res Q er hx hy h p
  unfold dNotIn at h
  split at h
  · rename_i b hb
    cases h
    exact has_ok er hx hy hb (fin_bl p er)
  · cases h⟩

/-! ### subscripts -/
theorem Rp.atI {N : Addr → Prop} {H : Hp} {us : List V} {ds : List D} (r : Rp c N H us ds) {i : Int} {d : D} (h : L2.atI ds i = some d) : ∃ v, L2.atI us i = some v ∧ Re c N H v d := by
  unfold L2.atI at h ⊢
  rw [r.len]
  cases e : ixN ds.length i with
  | none => rw [e] at h; cases h
  | some j =>
    rw [e] at h
    exact r.get h
def dIx : D → D → R D
  | .lst ds, .int i => L2.atI ds i |>.map .ok
  | .tup ds, .int i => L2.atI ds i |>.map .ok
  | .fz _ ds, .int i => L2.atI ds i |>.map .ok
  | .str s, .int i => guard (s.length ≤ lim) ((L2.atI s.cps.toList i).map fun z => .ok (.str ⟨#[z]⟩))
  | .dK kds, k => ((keyD k).bind (lkD kds)).map .ok
  | .dT kds, k => ((tkD k).bind (lkD kds)).map .ok
  | _, _ => none
def rIxD : R2 := fun x y H Q => ∃ a v, x = .ref a ∧ DGet H a y (some v) ∧ Q v H
open PySem.Spec PyProof.Rows in
theorem ix_dict (hu : X.A.units + 64 < cLine) : IxR X rIxD := by
  intro value slice pins s σ H x y v u Q I rx ry h hs
  obtain ⟨a, z, rfl, g, q⟩ := h
  cases rx
  have hT := dict_typeIs I g
  unfold subscriptTail
  refine wpAny_bind ?_
  rw [getitemInPython_of_ne hT.not_modules]
  refine wpAny_bind (wpAny_specialOf hT PySem.F.slot_dict_getitem.lookup ?_)
  have fin : wpAny (model X.prog X.w) X.A (subscripted slice false (.ref a) u) (fun r s₃ => wpAny (model X.prog X.w) X.A (letTemporaryGo value (.ref a) r >>= fun _ => pure r) (EP X pins σ Q) X.xe s₃) X.xe s := by
    rw [hs]
    exact wpAny_operating (wpAny_mono (d_getItem (by omega) I g ry fun w' s3 I3 rw' => (show EP X pins σ Q w' s3 from ⟨z, H, I3, rw', q⟩)) (fun r s₃ h₃ => wpAny_bind (wpAny_letTemporaryGo (wpAny_pure h₃))) fun _ _ x => x)
  first
    | exact wpAny_pure (wpAny_bind fin)
    | exact wpAny_bind (wpAny_pure (wpAny_bind fin))
    | exact wpAny_bind fin
theorem d_ix {a b : Expr} {ma mb : ME} {pos : Pos} (hu : X.A.units + 64 < cLine) (ha : PE X a (tE c W .bor ma)) (hb : PE X b (tE c W .bor mb)) (hs : PlainIx b := by intro _ _; rfl) (hK : c.K = X.K := by rfl) : PE X (.Subscript a b pos) (tE c W .dur (mBin dIx ma mb)) :=
  (pe_ix (ix_list.or (ix_tup.or (ix_str.or (ix_dict hu)))) ha hb hs).via fun _ _ _ h => tOp_ok (r := fun x y H Q => rIxL X.K x y H Q ∨ rIxT X.K x y H Q ∨ rIxS x y H Q ∨ rIxD x y H Q) (by
    rw [← hK]
    intro Γ σ ρ H x y d e res Q er hx hy h p
    unfold dIx at h
    split at h
    · obtain ⟨z, hz, rfl⟩ := Option.map_eq_some_iff.mp h
      obtain ⟨q, us, rfl, e1, r⟩ := hx
      obtain ⟨v, hv, rv⟩ := r.atI hz
      rw [hy.int]
      exact .inl ⟨q, us, _, v, rfl, rfl, .of e1, hv, fin_re p er rv⟩
    · obtain ⟨z, hz, rfl⟩ := Option.map_eq_some_iff.mp h
      obtain ⟨q, us, rfl, _, e1, r⟩ := hx.tup
      obtain ⟨v, hv, rv⟩ := r.atI hz
      rw [hy.int]
      exact .inr (.inl ⟨q, us, _, v, rfl, rfl, .of e1, hv, fin_re p er rv⟩)
    · rename_i t ds i
      obtain ⟨z, hz, rfl⟩ := Option.map_eq_some_iff.mp h
      rw [hy.int]
      cases t with
      | true =>
        obtain ⟨q, us, rfl, e1, r⟩ := hx.fzT
        obtain ⟨v, hv, rv⟩ := r.atI hz
        exact .inr (.inl ⟨q, us, _, v, rfl, rfl, e1, hv, fin_re p er rv⟩)
      | false =>
        obtain ⟨q, us, rfl, e1, r⟩ := hx.fzL
        obtain ⟨v, hv, rv⟩ := r.atI hz
        exact .inl ⟨q, us, _, v, rfl, rfl, e1, hv, fin_re p er rv⟩
    · obtain ⟨hl, h⟩ := guard_ok h
      obtain ⟨z, hz, rfl⟩ := Option.map_eq_some_iff.mp h
      rw [hx.str, hy.int]
      exact .inr (.inr (.inl ⟨_, _, z, rfl, rfl, lim_ok hl, hz, fin_str p er⟩))
    · rename_i kds
      obtain ⟨z, hz, rfl⟩ := Option.map_eq_some_iff.mp h
      obtain ⟨k, hk, hz⟩ := Option.bind_eq_some_iff.mp hz
      obtain ⟨q, kvs, rfl, rd, ek, r⟩ := hx
      obtain ⟨v, hv, rv⟩ := lk_some ek r hz
      exact .inr (.inr (.inr ⟨q, v, rfl, .inl ⟨kvs, k, rd, keyD_v hk hy, hv.symm⟩, fin_re p er rv⟩))
    · rename_i kds
      obtain ⟨z, hz, rfl⟩ := Option.map_eq_some_iff.mp h
      obtain ⟨k, hk, hz⟩ := Option.bind_eq_some_iff.mp hz
      obtain ⟨q, kvs, rfl, rd, ek, r⟩ := hx
      obtain ⟨v, hv, rv⟩ := lk_some ek r hz
      obtain ⟨b', ev, eb⟩ := tkD_v hk hy
      exact .inr (.inr (.inr ⟨q, v, rfl, .inr ⟨kvs, k, b', rd, ev, eb, hv.symm⟩, fin_re p er rv⟩))
    · cases h) h

/-! ### slices -/
abbrev MO := Ro → R (Option Int)
def PostO (c : Conf) (W : WX) (Γ : Gam) (σ : L2.St) (ρ : Ro) (H : Hp) (Q : Option Int → Hp → Prop) : Except EN (Option Int) → Prop
  | .ok b => ∀ H', Same H H' → ER c Γ σ H' ρ → Q b H'
  | .error x => Er c W Γ σ ρ x
def tO (c : Conf) (W : WX) (m : MO) : L2.TO := fun σ H Q => ∃ Γ ρ r, ER c Γ σ H ρ ∧ m ρ = some r ∧ PostO c W Γ σ ρ H Q r
theorem useO {β : Type} {Γ : Gam} {σ : L2.St} {ρ : Ro} {H : Hp} {m : MO} {f : Option Int → R β} {r : Except EN β} {Q : Option Int → Hp → Prop} (er : ER c Γ σ H ρ) (h : bnd (m ρ) f = some r) (he : ∀ x, r = .error x → Er c W Γ σ ρ x)
    (kk : ∀ b H1, f b = some r → Same H H1 → ER c Γ σ H1 ρ → Q b H1) : tO c W m σ H Q := by
  cases e : m ρ with
  | none => rw [e] at h; cases h
  | some q =>
    rw [e] at h
    cases q with
    | error x =>
      cases h
      exact ⟨Γ, ρ, _, er, e, he x rfl⟩
    | ok d => exact ⟨Γ, ρ, _, er, e, fun H1 s q => kk d H1 h s q⟩
theorem PostO.err {Γ : Gam} {σ : L2.St} {ρ : Ro} {H : Hp} {Q : Option Int → Hp → Prop} {r : Except EN (Option Int)} (p : PostO c W Γ σ ρ H Q r) : ∀ x, r = .error x → Er c W Γ σ ρ x := fun x e => by subst e; exact p
def mNone : MO := fun _ => ok none
def mSome (m : ME) : MO := fun ρ => bnd (m ρ) fun d => match d with
  | .int i => ok (some i)
  | _ => none
theorem o_none : PO X none (tO c W mNone) := ⟨fun pins s σ H Q I ⟨Γ, ρ, r, er, em, p⟩ => po_none.run pins s σ H Q I (by cases em; exact p _ (Same.refl _) er)⟩
theorem o_some {e : Expr} {m : ME} (h : PE X e (tE c W .bor m)) : PO X (some e) (tO c W (mSome m)) := ⟨fun pins s σ H Q I ⟨Γ, ρ, r, er, em, p⟩ => (po_some h).run pins s σ H Q I (use er em p.err fun d v H1 h1 s1 r1 => by
  split at h1
  · cases h1
    rw [r1.2.int]
    exact ⟨_, rfl, p _ s1 r1.1⟩
  · cases h1)⟩
def cut {α : Type} (xs : List α) (lo hi : Option Int) : List α := (xs.drop (HT.sIx xs.length 0 lo)).take (HT.sIx xs.length xs.length hi - HT.sIx xs.length 0 lo)
theorem cut_all {α : Type} {xs : List α} {lo hi : Option Int} (h : HT.sIx xs.length 0 lo = 0 ∧ HT.sIx xs.length xs.length hi = xs.length) : cut xs lo hi = xs := by
  unfold cut
  rw [h.1, h.2]
  simp
def dSl (lo hi : Option Int) : D → R D
  | .lst ds => ok (.lst (cut ds lo hi))
  | .tup ds => ok (.tup (cut ds lo hi))
  | .str s => guard (s.length ≤ lim) (ok (.str (cutS s lo hi)))
  | .fz true ds => if HT.sIx ds.length 0 lo = 0 ∧ HT.sIx ds.length ds.length hi = ds.length then ok (.fz true ds) else ok (.tup (cut ds lo hi))
  | _ => none
def mSl (m : ME) (l h : MO) : ME := fun ρ => bnd (m ρ) fun d => bnd (l ρ) fun lo => bnd (h ρ) fun hi => dSl lo hi d
theorem Rp.cut {N : Addr → Prop} {H : Hp} {us : List V} {ds : List D} (r : Rp c N H us ds) (lo hi : Option Int) : Rp c N H (cutV us lo hi) (DL.cut ds lo hi) := by
  unfold cutV DL.cut
  rw [r.len]
  exact (r.drop _).take _
theorem d_sl {e : Expr} {lo hi : Option Expr} {m : ME} {l h : MO} {p2 pos : Pos} (he : PE X e (tE c W .bor m)) (hl : PO X lo (tO c W l)) (hh : PO X hi (tO c W h)) (hK : c.K = X.K := by rfl) : PE X (.Subscript e (.Slice lo hi none p2) pos) (tE c W .dur (mSl m l h)) :=
  (pe_slice (sl_list.or (sl_tupA.or sl_str)) he hl hh).via fun σ H Q ⟨Γ, ρ, r, er, em, p⟩ => by
    refine use er em p.err fun d v H1 h1 s1 r1 => ?_
    refine useO r1.1 h1 p.err fun lo' H2 h2 s2 e2 => ?_
    refine useO e2 h2 p.err fun hi' H3 h3 s3 e3 => ?_
    have b3 := (r1.2.same s2).same s3
    have p3 := p.mono ((s1.trans s2).trans s3)
    rw [← hK]
    cases d <;> first | (cases h3; done) | skip
    · obtain ⟨hl, h3⟩ := guard_ok h3
      cases h3
      rw [b3.str]
      exact .inr (.inr ⟨_, rfl, lim_ok hl, fin_str p3 e3⟩)
    · cases h3
      obtain ⟨q, us, rfl, n1, e1, r⟩ := b3.tup
      refine .inr (.inl ⟨q, us, rfl, .of e1, fun z => ?_, fun _ q hq => fin_tup p3 e3 (r.cut _ _) hq⟩)
      rw [r.len] at z
      rw [cut_all z] at p3
      exact fin_re p3 e3 (.tup n1 e1 r .nil)
    · cases h3
      obtain ⟨q, us, rfl, e1, r⟩ := b3
      refine .inl ⟨q, us, rfl, .of e1, fun q2 hq => ?_⟩
      exact p3 _ _ (same_new hq) ⟨e3.same (same_new hq), .lst (fun z => e3.tracked z hq) upd_same ((r.cut _ _).same (same_new hq)) .nil⟩
    · rename_i b ds
      cases b with
      | false => cases h3
      | true =>
        have bx : Re c (NN Γ σ ρ) H3 v (.fz true ds) := b3
        obtain ⟨q, us, rfl, e1, r⟩ := b3.fzT
        have h3 : (if HT.sIx ds.length 0 lo' = 0 ∧ HT.sIx ds.length ds.length hi' = ds.length then (ok (.fz true ds) : R D) else ok (.tup (cut ds lo' hi'))) = some _ := h3
        refine .inr (.inl ⟨q, us, rfl, e1, fun z => ?_, fun nz q2 hq => ?_⟩)
        · rw [r.len] at z
          rw [if_pos z] at h3
          cases h3
          exact fin_re p3 e3 bx
        · rw [r.len] at nz
          rw [if_neg nz] at h3
          cases h3
          exact fin_tup p3 e3 (r.cut _ _) hq

/-! ### displays, arguments -/
def mNil : MA := fun _ => ok []
def mCons (m : ME) (l : MA) : MA := fun ρ => bnd (m ρ) fun d => bnd (l ρ) fun ds => ok (d :: ds)
theorem a_nil : PA X [] (tA c W mNil) := pa_nil.via fun σ H Q ⟨Γ, ρ, r, er, em, p⟩ => by cases em; exact p _ _ (Same.refl _) er .nil
theorem a_cons {e : Expr} {es : List Expr} {m : ME} {l : MA} (h : PE X e (tE c W .dur m)) (t : PA X es (tA c W l)) (hs : starEach (e :: es) X.env = (false, eval e X.env) :: starEach es X.env := by rfl) : PA X (e :: es) (tA c W (mCons m l)) :=
  (pa_cons h t hs).via fun σ H Q ⟨Γ, ρ, r, er, em, p⟩ => by
    refine use er em p.err fun d v H1 h1 s1 r1 => ?_
    refine useA r1.1 h1 p.err fun ds vs H2 h2 s2 e2 r2 => ?_
    cases h2
    exact p _ _ (s1.trans s2) e2 (.cons (r1.2.same s2) r2)
def mTup (l : MA) : ME := fun ρ => bnd (l ρ) fun ds => guard (ds.length ≤ lim) (ok (.tup ds))
def mLst (l : MA) : ME := fun ρ => bnd (l ρ) fun ds => guard (ds.length ≤ lim) (ok (.lst ds))
theorem d_tup {es : List Expr} {l : MA} {x1} {pos : Pos} (h : PA X es (tA c W l)) : PE X (.Tuple es x1 pos) (tE c W .dur (mTup l)) := (pe_tup h).via fun σ H Q ⟨Γ, ρ, r, er, em, p⟩ => by
  refine useA er em p.err fun ds vs H1 h1 s1 e1 r1 => ?_
  obtain ⟨hl, h1⟩ := guard_ok h1
  cases h1
  exact ⟨by rw [r1.len]; exact lim_ok hl, fun q hq => fin_tup (p.mono s1) e1 r1 hq⟩
theorem d_lst {es : List Expr} {l : MA} {pos : Pos} (h : PA X es (tA c W l)) : PE X (.List es pos) (tE c W .own (mLst l)) := (pe_lst h).via fun σ H Q ⟨Γ, ρ, r, er, em, p⟩ => by
  refine useA er em p.err fun ds vs H1 h1 s1 e1 r1 => ?_
  obtain ⟨hl, h1⟩ := guard_ok h1
  cases h1
  exact ⟨by rw [r1.len]; exact lim_ok hl, fun q hq => fin_lst (p.mono s1) e1 r1 hq⟩
theorem d_dK {pos : Pos} : PE X (.Dict [] [] pos) (tE c W .own (mC (.dK []))) := pe_dnewK.via fun σ H Q ⟨Γ, ρ, r, er, em, p⟩ => by
  cases em
  exact fun q hq => fin_dK p er rfl .nil hq
theorem d_dT {pos : Pos} : PE X (.Dict [] [] pos) (tE c W .own (mC (.dT []))) := pe_dnewT.via fun σ H Q ⟨Γ, ρ, r, er, em, p⟩ => by
  cases em
  exact fun q hq => fin_dT p er rfl .nil hq

/-! ### arguments that are read alone (bor) -/
inductive Bors (c : Conf) (N : Addr → Prop) (H : Hp) : List V → List D → Prop
  | nil : Bors c N H [] []
  | cons {v d vs ds} : Bor c N H v d → Bors c N H vs ds → Bors c N H (v :: vs) (d :: ds)
theorem Bors.same {N : Addr → Prop} {H H' : Hp} (s : Same H H') : ∀ {vs : List V} {ds : List D}, Bors c N H vs ds → Bors c N H' vs ds
  | _, _, .nil => .nil
  | _, _, .cons a b => .cons (a.same s) (Bors.same s b)
def PostB (c : Conf) (W : WX) (Γ : Gam) (σ : L2.St) (ρ : Ro) (H : Hp) (Q : List V → Hp → Prop) : Except EN (List D) → Prop
  | .ok ds => ∀ vs H', Same H H' → ER c Γ σ H' ρ → Bors c (NN Γ σ ρ) H' vs ds → Q vs H'
  | .error x => Er c W Γ σ ρ x
def tBo (c : Conf) (W : WX) (m : MA) : TA := fun σ H Q => ∃ Γ ρ r, ER c Γ σ H ρ ∧ m ρ = some r ∧ PostB c W Γ σ ρ H Q r
theorem useB {β : Type} {Γ : Gam} {σ : L2.St} {ρ : Ro} {H : Hp} {m : MA} {f : List D → R β} {r : Except EN β} {Q : List V → Hp → Prop} (er : ER c Γ σ H ρ) (h : bnd (m ρ) f = some r) (he : ∀ x, r = .error x → Er c W Γ σ ρ x)
    (kk : ∀ ds vs H1, f ds = some r → Same H H1 → ER c Γ σ H1 ρ → Bors c (NN Γ σ ρ) H1 vs ds → Q vs H1) : tBo c W m σ H Q := by
  cases e : m ρ with
  | none => rw [e] at h; cases h
  | some q =>
    rw [e] at h
    cases q with
    | error x =>
      cases h
      exact ⟨Γ, ρ, _, er, e, he x rfl⟩
    | ok d => exact ⟨Γ, ρ, _, er, e, fun vs H1 s q w => kk d vs H1 h s q w⟩
theorem PostB.err {Γ : Gam} {σ : L2.St} {ρ : Ro} {H : Hp} {Q : List V → Hp → Prop} {r : Except EN (List D)} (p : PostB c W Γ σ ρ H Q r) : ∀ x, r = .error x → Er c W Γ σ ρ x := fun x e => by subst e; exact p
theorem b_nil : PA X [] (tBo c W mNil) := pa_nil.via fun σ H Q ⟨Γ, ρ, r, er, em, p⟩ => by cases em; exact p _ _ (Same.refl _) er .nil
theorem b_cons {e : Expr} {es : List Expr} {m : ME} {l : MA} (h : PE X e (tE c W .bor m)) (t : PA X es (tBo c W l)) (hs : starEach (e :: es) X.env = (false, eval e X.env) :: starEach es X.env := by rfl) : PA X (e :: es) (tBo c W (mCons m l)) :=
  (pa_cons h t hs).via fun σ H Q ⟨Γ, ρ, r, er, em, p⟩ => by
    refine use er em p.err fun d v H1 h1 s1 r1 => ?_
    refine useB r1.1 h1 p.err fun ds vs H2 h2 s2 e2 r2 => ?_
    cases h2
    exact p _ _ (s1.trans s2) e2 (.cons (r1.2.same s2) r2)

/-! ### calls of built-ins -/
def CallOk (c : Conf) (W : WX) (k : Kd) (r : List V → Hp → VK → Prop) (f : List D → R D) : Prop := ∀ (Γ : Gam) (σ : L2.St) (ρ : Ro) (H : Hp) (xs : List V) (ds : List D) (res : Except EN D) (Q : VK), ER c Γ σ H ρ → Bors c (NN Γ σ ρ) H xs ds →
  f ds = some res → PostE c W k Γ σ ρ H Q res → r xs H Q
def mCB (f : List D → R D) (l : MA) : ME := fun ρ => bnd (l ρ) f
theorem tCB_ok {k : Kd} {r : List V → Hp → VK → Prop} {f : List D → R D} {l : MA} (hr : CallOk c W k r f) {σ : L2.St} {H : Hp} {Q : VK} (h : tE c W k (mCB f l) σ H Q) : tCB r (tBo c W l) σ H Q := by
  obtain ⟨Γ, ρ, res, e, em, p⟩ := h
  refine useB e em p.err fun ds vs H1 h1 s1 e1 r1 => ?_
  exact hr Γ σ ρ H1 vs ds res Q e1 r1 h1 (p.mono s1)
/-- what a built-in gives -/
structure Bi (X : Cx) (c : Conf) (W : WX) (k : Kd) (f : Value) (g : List D → R D) : Prop where
  ex : ∃ r, CallR X f r ∧ CallOk c W k r g
theorem d_bi {k : Kd} {x id : _} {g : List D → R D} {e : Expr} {es : List Expr} {l : MA} {p pos : Pos} (q : Bi X c W k (.builtin id) g) (hg : Gl X x) (hm : X.mg x = none) (hv : bootBuiltins x = some (.builtin id)) (ha : PA X (e :: es) (tBo c W l)) (hn : x ≠ "__name__" := by decide)
    (hdb : (x == ("__debug__" : Str)) = false := by decide) (he : starEach (e :: es) X.env = (false, eval e X.env) :: starEach es X.env := by rfl) (hpl : (backTo pos (starEach es X.env)).any (·.1) = false := by rfl) :
    PE X (.Call (.Name x p) (e :: es) [] pos) (tE c W k (mCB g l)) := by
  obtain ⟨r, hc, hr⟩ := q.ex
  exact (pe_callB hc hg hm hv ha hn hdb he hpl).via fun _ _ _ h => tCB_ok hr h
theorem d_ty {k : Kd} {x T : _} {g : List D → R D} {e : Expr} {es : List Expr} {l : MA} {p pos : Pos} (q : Bi X c W k (.type T) g) (hg : Gl X x) (hm : X.mg x = none) (hv : bootBuiltins x = some (.type T)) (ha : PA X (e :: es) (tBo c W l)) (hn : x ≠ "__name__" := by decide)
    (hdb : (x == ("__debug__" : Str)) = false := by decide) (he : starEach (e :: es) X.env = (false, eval e X.env) :: starEach es X.env := by rfl) (hpl : (backTo pos (starEach es X.env)).any (·.1) = false := by rfl) :
    PE X (.Call (.Name x p) (e :: es) [] pos) (tE c W k (mCB g l)) := by
  obtain ⟨r, hc, hr⟩ := q.ex
  exact (pe_callTy hc hg hm hv ha hn hdb he hpl).via fun _ _ _ h => tCB_ok hr h
end
end DL

set_option Elab.async false
set_option linter.all false
set_option maxRecDepth 100000
set_option maxHeartbeats 2000000
set_option autoImplicit false
/-! DLd: built-ins: len, int, abs, max, min, list, tuple, range, sorted of ints, sum, any, all; list and tuple methods that only read. -/
/-! ### sorted of a tuple of ints -/
namespace DLS
open PySem PyProof.Rows Srt SrtO
section
variable {prog : Program} {w : World} {A : Around} {E : Value → Shared → Prop} {s : Shared}
theorem collect_tuple {l : Addr} {vs : List Value} {Q : List Value → Shared → Prop} (hl : IsTup s.heap l vs.toArray)
    (h : Q vs { s with heap := (s.heap.push (seqObj "list" #[] 0)).update s.heap.objs.size (Obj.mapSeq (· ++ vs.toArray)) }) (hsz : vs.length ≤ sizeLine) :
    wpAny (model prog w) A (collect (.ref l)) Q E s := by
  obtain ⟨o, ho, hc, n, hd⟩ := id hl
  unfold collect
  refine wpAny_bind (wpAny_runValue (codeAny_builtin entry_proto_collect' ?_))
  show wpAny _ _ (do again (.builtin "list.__iadd__" ⟨[← newList [], .ref l], []⟩)) _ _ s
  refine wpAny_bind (wpAny_newList (wpAny_pure ⟨Code.quiet_builtin _ (by decide +kernel), codeAny_builtin entry_list_iadd' ?_⟩))
  show wpAny _ _ (Builtin.List.listExtendWith (.ref s.heap.objs.size) (.ref l) (.ref s.heap.objs.size)) _ _ { s with heap := s.heap.push (seqObj "list" #[] 0) }
  unfold Builtin.List.listExtendWith
  have ho' : (s.heap.push (seqObj "list" #[] 0)).get? l = some o := Heap.get?_push_of_some _ ho
  refine wpAny_bind (wpAny_typeOf (T := "tuple") ⟨o, ho', hc⟩ ?_)
  have ht : (Value.type "tuple" == Value.type "tuple") = true := by rfl
  rw [if_pos (by rw [ht]; simp)]
  refine wpAny_bind (listItems_at ho' hd ?_)
  refine wpAny_bind (listItems_at (xs := #[]) (n := 0) (Heap.get?_push_size _ rfl) rfl ?_)
  rw [if_neg (by simp)]
  refine wpAny_bind (listUpdate_at (xs := #[]) (n := 0) (Heap.get?_push_size _ rfl) rfl ?_ (Nat.zero_le _) (by show (#[] ++ vs.toArray).size ≤ sizeLine + 1; simp only [Array.size_append, List.size_toArray, List.length_nil]; omega))
  refine wpAny_pure ?_
  show wpAny (model prog w) A (do
      let o ← load s.heap.objs.size
      match o.data with
      | .seq xs _ => pure xs.toList
      | _ => unsupported "internal:collect") Q E { s with heap := (s.heap.push (seqObj "list" #[] 0)).update s.heap.objs.size (Obj.mapSeq (· ++ vs.toArray)) }
  refine wpAny_bind (wpAny_load (get?_update_seq (Heap.get?_push_size _ rfl) _) ?_)
  show wpAny _ _ (pure ((#[] : Array Value) ++ vs.toArray).toList) Q E _
  rw [show ((#[] : Array Value) ++ vs.toArray).toList = vs by simp]
  exact wpAny_pure h
theorem sorted_ordT {l : Addr} {vs : List Value} {ltv : Value → Value → Bool} {Q : Value → Shared → Prop} (O : Swo ltv) (hl : IsTup s.heap l vs.toArray) (hz : vs.length ≤ sizeLine)
    (hS : 2 ≤ vs.length → ∀ (h₁ : Heap) (a : Addr), h₁.get? a = some (seqObj "list" vs.toArray 0) → (∀ b o, s.heap.get? b = some o → b ≠ a ∧ h₁.get? b = some o) → SortableO prog w A.in1.in1 { s with heap := h₁ } a vs ltv)
    (h : ∀ out : List Value, Srtd ltv out → Stb ltv out vs → Q (.ref (s.heap.objs.size + 1)) { s with heap := sortedAll s.heap vs out.toArray }) :
    wpAny (model prog w) A (call (.builtin "sorted") [.ref l]) Q E s := by
  refine Calls.call_function_entry kind_sorted plain_sorted entry_sorted (args_sorted1 _) ?_
  unfold Builtin.«sorted»
  refine wpAny_bind (m := checkCount "sorted" 1 1 _) (wpAny_pure ?_)
  refine wpAny_bind (collect_tuple hl ?_ hz)
  refine wpAny_bind (wpAny_newList ?_ hz)
  have hsz : ((s.heap.push (seqObj "list" #[] 0)).update s.heap.objs.size (Obj.mapSeq (· ++ vs.toArray))).objs.size = s.heap.objs.size + 1 := by
    rw [Heap.size_update, size_push']
  have hoL : (((s.heap.push (seqObj "list" #[] 0)).update s.heap.objs.size (Obj.mapSeq (· ++ vs.toArray))).push (seqObj "list" vs.toArray 0)).get? (s.heap.objs.size + 1) = some (seqObj "list" vs.toArray 0) := by
    rw [← hsz]; exact Heap.get?_push_size _ rfl
  have keep : ∀ b o, s.heap.get? b = some o → b ≠ s.heap.objs.size + 1 ∧ (((s.heap.push (seqObj "list" #[] 0)).update s.heap.objs.size (Obj.mapSeq (· ++ vs.toArray))).push (seqObj "list" vs.toArray 0)).get? b = some o := fun b o q => by
    have hlt : b < s.heap.objs.size := Heap.lt_size q
    refine ⟨Nat.ne_of_lt (Nat.lt_succ_of_lt hlt), Heap.get?_push_of_some _ ?_⟩
    rw [Heap.get?_update_ne _ _ _ _ (Nat.ne_of_lt hlt)]
    exact Heap.get?_push_of_some _ q
  show wpAny _ _ _ _ _ { s with heap := ((s.heap.push (seqObj "list" #[] 0)).update s.heap.objs.size (Obj.mapSeq (· ++ vs.toArray))).push (seqObj "list" vs.toArray 0) }
  rw [hsz]
  refine wpAny_bind (wpAny_holding (wpAny_call_entry slot_list_sort ⟨_, hoL, rfl⟩ entry_list_sort (list_sort_ord O hoL hz (fun h2 => hS h2 _ _ hoL keep) fun out hs hb => ⟨_, rfl, ?_⟩) (args_list_sort _)))
  exact wpAny_pure ⟨_, rfl, h out hs hb⟩
theorem iter_intTup {l : Addr} {xs : Array (Int × Tok)} {Q : Value → Shared → Prop} (hl : s.heap.IsTuple l (intItems xs))
    (h : ∀ s₂ : Shared, s₂ = { s with heap := s.heap.push { cls := .type "tuple_iterator", data := .fields #[.ref l, .int 0 0] } } →
      (s₂.heap.IsTupleIter s.heap.objs.size l 0 ∧ s₂.heap.IsTuple l (intItems xs)) → (∀ b ∈ [s.heap.objs.size, l], b < s₂.heap.objs.size) → l ≠ s.heap.objs.size → Q (.ref s.heap.objs.size) s₂) :
    wpAny (model prog w) A (pyIter (.ref l)) Q E s := by
  have hlt : l < s.heap.objs.size := by obtain ⟨_, e, _⟩ := hl; exact Heap.lt_size e
  refine wpAny_pyIter_tuple hl (h _ rfl ⟨⟨_, Heap.get?_push_size _ rfl, rfl, rfl⟩, hl.push _⟩ (fun b hb => ?_) (Nat.ne_of_lt hlt))
  show b < (s.heap.push _).objs.size
  rw [Heap.size_push]
  rcases List.mem_cons.mp hb with rfl | hb
  · exact Nat.lt_succ_self _
  · rcases List.mem_cons.mp hb with rfl | hb
    · exact Nat.lt_succ_of_lt hlt
    · cases hb
theorem old_keptT {l : Addr} {h' : Heap} (hk : ∀ b o, b ∉ [s.heap.objs.size] → (s.heap.push { cls := .type "tuple_iterator", data := .fields #[.ref l, .int 0 0] }).get? b = some o → h'.get? b = some o) :
    ∀ b o, s.heap.get? b = some o → h'.get? b = some o := fun b o e => by
  refine hk b o (fun hm => ?_) (Heap.get?_push_of_some _ e)
  rcases List.mem_cons.mp hm with e1 | hm
  · exact absurd (e1 ▸ Heap.lt_size e) (Nat.lt_irrefl _)
  · cases hm
theorem max_intTup {l : Addr} {xs : Array (Int × Tok)} {Q : Value → Shared → Prop} (hh : A.handled = none) (hl : s.heap.IsTuple l (intItems xs)) (hne : 0 < xs.size)
    (h : ∀ v h' tk, (intItems xs)[argBest (fun i j => decide (numAt xs i > numAt xs j)) (xs.size - 1)]? = some v → (∀ b o, s.heap.get? b = some o → h'.get? b = some o) → Q v { s with heap := h', toks := tk }) :
    wpAny (model prog w) A (call (.builtin "max") [.ref l]) Q E s := by
  refine call_max_walk (iter_intTup hl fun s₂ e st hfp hlI => ?_)
  subst e
  refine ⟨_, _, _, _, _, _, _, rfl, Walks.tuple (A := A.in1) hh _ l hlI (intItems xs), st, hfp, by simpa [intItems] using hne, CmpOf.ints_gt (numAt xs) (fun _ _ => intItems_at), fun v h' tk hP hk => ?_⟩
  exact h v h' tk (by simpa [intItems] using hP) (old_keptT hk)
theorem min_intTup {l : Addr} {xs : Array (Int × Tok)} {Q : Value → Shared → Prop} (hh : A.handled = none) (hl : s.heap.IsTuple l (intItems xs)) (hne : 0 < xs.size)
    (h : ∀ v h' tk, (intItems xs)[argBest (fun i j => decide (numAt xs i < numAt xs j)) (xs.size - 1)]? = some v → (∀ b o, s.heap.get? b = some o → h'.get? b = some o) → Q v { s with heap := h', toks := tk }) :
    wpAny (model prog w) A (call (.builtin "min") [.ref l]) Q E s := by
  refine call_min_walk (iter_intTup hl fun s₂ e st hfp hlI => ?_)
  subst e
  refine ⟨_, _, _, _, _, _, _, rfl, Walks.tuple (A := A.in1) hh _ l hlI (intItems xs), st, hfp, by simpa [intItems] using hne, CmpOf.ints_lt (numAt xs) (fun _ _ => intItems_at), fun v h' tk hP hk => ?_⟩
  exact h v h' tk (by simpa [intItems] using hP) (old_keptT hk)
theorem max_rawT {l : Addr} {its : List Value} {ns : List Int} {Q : Value → Shared → Prop} (hh : A.handled = none) (hl : IsTup s.heap l its.toArray) (hi : IntsAre its ns) (hne : 0 < ns.length)
    (h : ∀ h' tk M t', (∀ b o, s.heap.get? b = some o → h'.get? b = some o) → M ∈ ns → (∀ a, a ∈ ns → a ≤ M) → Q (.int M t') { s with heap := h', toks := tk }) : wpAny (model prog w) A (call (.builtin "max") [.ref l]) Q E s := by
  obtain ⟨xs, e⟩ := hi.allInts.items
  have hn : numsOf (intItems xs).toList = ns := by rw [← e]; exact hi.numsOf
  rw [PySem.nums_intItems] at hn
  subst hn
  rw [e] at hl
  have hsz : 0 < xs.size := by simpa using hne
  refine max_intTup hh hl hsz fun v h' tk hv hk => ?_
  obtain ⟨t, rfl⟩ := intItems_at hv
  obtain ⟨h1, h2⟩ := argBest_gt (numAt xs) (xs.size - 1)
  refine h h' tk _ t hk ?_ fun a ha => ?_
  · rw [PySem.numAt_eq]; exact PySem.getD_mem (by rw [List.length_map, Array.length_toList]; omega)
  · obtain ⟨j, hj, rfl⟩ := PySem.mem_getD ha
    rw [List.length_map, Array.length_toList] at hj
    rw [← PySem.numAt_eq]; exact h2 j (by omega)
theorem min_rawT {l : Addr} {its : List Value} {ns : List Int} {Q : Value → Shared → Prop} (hh : A.handled = none) (hl : IsTup s.heap l its.toArray) (hi : IntsAre its ns) (hne : 0 < ns.length)
    (h : ∀ h' tk M t', (∀ b o, s.heap.get? b = some o → h'.get? b = some o) → M ∈ ns → (∀ a, a ∈ ns → M ≤ a) → Q (.int M t') { s with heap := h', toks := tk }) : wpAny (model prog w) A (call (.builtin "min") [.ref l]) Q E s := by
  obtain ⟨xs, e⟩ := hi.allInts.items
  have hn : numsOf (intItems xs).toList = ns := by rw [← e]; exact hi.numsOf
  rw [PySem.nums_intItems] at hn
  subst hn
  rw [e] at hl
  have hsz : 0 < xs.size := by simpa using hne
  refine min_intTup hh hl hsz fun v h' tk hv hk => ?_
  obtain ⟨t, rfl⟩ := intItems_at hv
  obtain ⟨h1, h2⟩ := argBest_lt (numAt xs) (xs.size - 1)
  refine h h' tk _ t hk ?_ fun a ha => ?_
  · rw [PySem.numAt_eq]; exact PySem.getD_mem (by rw [List.length_map, Array.length_toList]; omega)
  · obtain ⟨j, hj, rfl⟩ := PySem.mem_getD ha
    rw [List.length_map, Array.length_toList] at hj
    rw [← PySem.numAt_eq]; exact h2 j (by omega)
end
end DLS
/-! ### t[::-1] of a tuple -/
namespace DLS
open PySem PySem.Spec PyProof.Rows L2 HT
section
variable {prog : Program} {w : World} {A : Around} {E : Value → Shared → Prop} {s : Shared}
theorem fm_congr {α β : Type} {f g : α → Option β} : ∀ {l : List α}, (∀ x ∈ l, f x = g x) → l.filterMap f = l.filterMap g
  | [], _ => rfl
  | a :: l, h => by
    rw [List.filterMap_cons, List.filterMap_cons, h a List.mem_cons_self, fm_congr fun x hx => h x (List.mem_cons_of_mem _ hx)]
theorem getItem_tuple_rev {t sl : Addr} {items : Array Value} {vs : Value} {Q : Value → Shared → Prop} (ht : IsTup s.heap t items) (hs : s.heap.IsSliceOf sl .none .none vs) (ps : IsPart vs (some (-1)))
    (h : Q (.ref s.heap.objs.size) { s with heap := s.heap.push { cls := .type "tuple", data := .seq items.toList.reverse.toArray } })
    (hsz : items.size ≤ sizeLine) : wpAny (model prog w) A (getItem (.ref t) (.ref sl)) Q E s := by
  have htake : sizeOk (.seq items.toList.reverse.toArray) := by
    show items.toList.reverse.toArray.size ≤ sizeLine
    rw [List.size_toArray, List.length_reverse, Array.length_toList]
    exact hsz
  obtain ⟨os, hos, hcs, hds⟩ := id hs
  have hTs : s.TypeIs (.ref sl) "slice" := ⟨os, hos, hcs⟩
  unfold getItem
  try with_reducible refine wpAny_holding ?_
  first | refine wpAny_bind (wpAny_pure ?_) | skip
  refine wpAny_bind (wpAny_sequenceKey ht.typeIs (by decide) ?_)
  refine wpAny_bind (wpAny_callSpecial?_slot (name := Str.ofString "__getitem__") ht.typeIs PyProof.Rows.slot_tuple_getitem
    (wpAny_call_entry PyProof.Rows.slot_tuple_getitem ht.typeIs entry_tuple_getitem ?_ (args_tuple_getitem _ _)))
  show wpAny _ _ (Builtin.Tuple.tupleItemsOf (.ref t) >>= _) _ _ s
  refine wpAny_bind (tupleItemsOf_ ht ?_)
  refine wpAny_bind (wpAny_typeOf hTs ?_)
  rw [if_pos (by decide)]
  have app : ∀ {A : Around} {Q : Int × Int × Nat → Shared → Prop}, Q ((items.size : Int) - 1, -1, items.size) s → wpAny (model prog w) A (Builtin.Slice.sliceApplied (.ref sl) (pure (items.size : Int))) Q E s := fun {A Q} h => by
    unfold Builtin.Slice.sliceApplied Builtin.Slice.sliceFields
    refine wpAny_bind (wpAny_bind (wpAny_field hos hds (x := .none) rfl (wpAny_bind (wpAny_field hos hds (x := .none) rfl (wpAny_bind (wpAny_field hos hds (x := vs) rfl (wpAny_pure ?_)))))))
    refine wpAny_bind (slicePart_ ps ?_)
    show wpAny _ _ (if ((-1 : Int) == 0) = true then _ else _) _ _ s
    rw [if_neg (by decide)]
    refine wpAny_bind (slicePart_none (wpAny_bind (slicePart_none (wpAny_bind (wpAny_pure ?_)))))
    show wpAny _ _ (match Builtin.Slice.sliceAdjust none none (-1) (items.size : Int) with | (lo, hi) => pure (lo, (-1 : Int), Builtin.Slice.slicePlaces lo hi (-1))) _ _ s
    have e1 : Builtin.Slice.sliceAdjust none none (-1) (items.size : Int) = ((items.size : Int) - 1, -1) := by
      unfold Builtin.Slice.sliceAdjust
      simp
    rw [e1]
    have e2 : Builtin.Slice.slicePlaces ((items.size : Int) - 1) (-1) (-1) = items.size := by
      unfold Builtin.Slice.slicePlaces
      have h1 : ¬ ((-1 : Int) > 0) := by decide
      simp only [h1, if_false]
      split
      · have : ((items.size : Int) - 1 - -1 - 1) / (- -1) = (items.size : Int) - 1 := by
          rw [show (- -1 : Int) = 1 by decide, Int.ediv_one]
          omega
        rw [this]
        omega
      · omega
    show wpAny _ _ (pure ((items.size : Int) - 1, (-1 : Int), Builtin.Slice.slicePlaces ((items.size : Int) - 1) (-1) (-1))) _ _ s
    rw [e2]
    exact wpAny_pure h
  refine wpAny_bind (app ?_)
  have hno : ¬ ((((items.size : Int) - 1) == 0 && (-1 : Int) == 1 && items.size == items.size) = true) := by
    intro q
    rw [Bool.and_eq_true, Bool.and_eq_true] at q
    exact absurd q.1.2 (by decide)
  show wpAny _ _ (if (((items.size : Int) - 1) == 0 && (-1 : Int) == 1 && items.size == items.size) = true then _ else _) _ _ s
  rw [if_neg hno]
  have pick : ((List.range items.size).filterMap fun (m : Nat) => items[((items.size : Int) - 1 + (m : Int) * -1).toNat]?).toArray = items.toList.reverse.toArray := by
    have e : ((List.range items.size).map fun k => items.size - 1 - k) = (List.range items.size).reverse := PySem.W.krv_range items.size
    have e3 : (List.range items.size).filterMap (fun (m : Nat) => items[((items.size : Int) - 1 + (m : Int) * -1).toNat]?) = ((List.range items.size).map fun k => items.size - 1 - k).filterMap (items[·]?) := by
      rw [List.filterMap_map]
      refine fm_congr fun m hm => ?_
      have := List.mem_range.mp hm
      have : ((items.size : Int) - 1 + (m : Int) * -1).toNat = items.size - 1 - m := by omega
      simp only [Function.comp, this]
    rw [e3, e, List.filterMap_reverse, PySem.W.krv_all]
  rw [pick]
  first
    | exact wpAny_bind (m := Builtin.Tuple.tupleExact _) (wpAny_newObj_type (wpAny_pure ⟨_, rfl, wpAny_pure h⟩) htake)
    | exact wpAny_bind (m := Builtin.Tuple.tupleExact _) (wpAny_newObj_type (wpAny_bind (wpAny_pure (wpAny_pure ⟨_, rfl, wpAny_pure h⟩))) htake)
    | exact wpAny_bind (wpAny_bind (m := Builtin.Tuple.tupleExact _) (wpAny_newObj_type (wpAny_pure (wpAny_pure ⟨_, rfl, wpAny_pure h⟩)) htake))
    | exact wpAny_bind (wpAny_bind (m := Builtin.Tuple.tupleExact _) (wpAny_newObj_type (wpAny_pure ⟨_, rfl, wpAny_pure h⟩) htake))
end
section
variable {X : Cx}
def tRevT (K : PySem.W.Frag) (te : TE) : TE := fun σ H Q => te σ H fun x H1 => ∃ a xs, x = .ref a ∧ SqT K H1 a xs ∧ ∀ p, H1 p = none → Q (.ref p) (upd H1 p (.tup xs.reverse))
theorem pe_revT {e : Expr} {te : TE} {k : Nat} {p1 p2 p3 pos : Pos} (he : PE X e te) : PE X (.Subscript e (.Slice none none (some (.UnaryOp .USub (.Constant (.int 1) k p1) p2)) p3) pos) (tRevT X.K te) := by
  refine ⟨fun pins s σ H Q I h => ?_⟩
  refine Subscript_ (thn (he.run pins s σ H _ I h) fun v s1 ⟨x, H1, I1, r1, q1⟩ => ?_)
  obtain ⟨a, xs, ex, hx, q⟩ := q1
  subst ex
  cases r1
  have hst : PO X (some (.UnaryOp .USub (.Constant (.int 1) k p1) p2)) (tPart (tUn (rU fun i => .int (-i)) (tC (.int 1)))) := po_some (pe_un un_neg pe_int)
  refine wpAny_Slice (thn (po_none.run pins s1 σ H1 (fun o H2 => o = none ∧ H2 = H1) I1 ⟨rfl, rfl⟩) fun vl s2 ⟨l, H2, I2, pl, el, e2⟩ => ?_)
  subst el e2
  refine thn (po_none.run pins s2 σ H2 (fun o H3 => o = none ∧ H3 = H2) I2 ⟨rfl, rfl⟩) fun vu s3 ⟨u, H3, I3, pu, eu, e3⟩ => ?_
  subst eu e3
  refine thn (hst.run pins s3 σ H3 (fun o H4 => o = some (-1) ∧ H4 = H3) I3 ⟨1, rfl, -1, rfl, rfl, rfl⟩) fun vs s4 ⟨o, H4, I4, ps, eo, e4⟩ => ?_
  subst eo e4
  cases pl
  cases pu
  have I5 : Inv X pins σ H4 { s4 with heap := s4.heap.push { cls := .type "slice", data := .fields #[.none, .none, vs] } } := I4.kept (t' := s4.toks) fun b ob q => Heap.get?_push_of_some _ q
  obtain ⟨its, r, ht, hz⟩ := I5.tuple hx
  have hlen := r.length
  show wpAny (model X.prog X.w) X.A (subscriptTail e (.Slice none none (some (.UnaryOp .USub (.Constant (.int 1) k p1) p2)) p3) (.ref a) (.ref s4.heap.objs.size)) (EP X pins σ Q) X.xe { s4 with heap := s4.heap.push { cls := .type "slice", data := .fields #[.none, .none, vs] } }
  refine tail_any (ops := [.ref a, .ref s4.heap.objs.size]) ht.typeIs (PyProof.Rows.slot_tuple_getitem.lookup) ?_ (by with_unfolding_all rfl)
  refine getItem_tuple_rev ht (Heap.IsSliceOf.new _ .none .none vs) ps ?_ (by rw [List.size_toArray]; omega)
  refine ⟨.ref _, _, I5.laid (t' := s4.toks) (o := .tup xs.reverse) (fun b ob q => Heap.get?_push_of_some _ q) (Nat.le_refl _) ?_, rfl, q _ (I5.hok.fresh (Nat.le_refl _))⟩
  exact ⟨by rw [List.length_reverse]; exact hz, _, r.reverse, IsTup.new _ _⟩
end
end DLS
namespace DL
open PySem L2
def dRev : D → R D
  | .lst ds => ok (.lst ds.reverse)
  | .tup ds => ok (.tup ds.reverse)
  | .fz true ds => ok (.tup ds.reverse)
  | _ => none
theorem _root_.L2.PE.or {X : Cx} {e : Expr} {t t' : TE} (h : PE X e t) (h' : PE X e t') : PE X e (fun σ H Q => t σ H Q ∨ t' σ H Q) := ⟨fun pins s σ H Q I q => q.elim (h.run pins s σ H Q I) (h'.run pins s σ H Q I)⟩
theorem d_rev {X : Cx} {c : Conf} {W : WX} {e : Expr} {m : ME} {k : Nat} {p1 p2 p3 pos : Pos} (he : PE X e (tE c W .bor m)) (hK : c.K = X.K := by rfl) : PE X (.Subscript e (.Slice none none (some (.UnaryOp .USub (.Constant (.int 1) k p1) p2)) p3) pos) (tE c W .dur (mUn dRev m)) :=
  ((pe_revL he).or (DLS.pe_revT he)).via fun σ H Q ⟨Γ, ρ, r, er, em, p⟩ => by
    rw [← hK]
    have em : bnd (m ρ) dRev = some r := em
    cases q : m ρ with
    | none => rw [q] at em; cases em
    | some w =>
      rw [q] at em
      cases w with
      | error x =>
        cases em
        exact .inl ⟨Γ, ρ, _, er, q, p⟩
      | ok d =>
        cases d <;> first | (cases em; done) | (rename_i b ds; cases b <;> first | (cases em; done) | (cases em; exact .inr ⟨Γ, ρ, _, er, q, fun v H1 s1 r1 => by
          obtain ⟨a, us, rfl, e, ru⟩ := r1.2.fzT
          exact ⟨a, us, rfl, e, fun q hq => fin_tup (p.mono s1) r1.1 ru.rev hq⟩⟩)) | skip
        · cases em
          refine .inr ⟨Γ, ρ, _, er, q, fun v H1 s1 r1 => ?_⟩
          obtain ⟨a, us, rfl, n, e, ru⟩ := r1.2.tup
          exact ⟨a, us, rfl, .of e, fun q hq => fin_tup (p.mono s1) r1.1 ru.rev hq⟩
        · cases em
          refine .inl ⟨Γ, ρ, _, er, q, fun v H1 s1 r1 => ?_⟩
          obtain ⟨a, us, rfl, e, ru⟩ := r1.2
          exact ⟨a, us, rfl, .of e, fun q hq => fin_lstD (p.mono s1) r1.1 ru.rev hq⟩

/-! ### ints in order -/
def ins (x : Int) : List Int → List Int
  | [] => [x]
  | y :: ys => if x ≤ y then x :: y :: ys else y :: ins x ys
def isort : List Int → List Int
  | [] => []
  | x :: xs => ins x (isort xs)
theorem ins_perm (x : Int) : ∀ ys : List Int, (ins x ys).Perm (x :: ys)
  | [] => .refl _
  | y :: ys => by
    unfold ins
    split
    · exact .refl _
    · exact ((ins_perm x ys).cons y).trans (.swap x y ys)
theorem isort_perm : ∀ xs : List Int, (isort xs).Perm xs
  | [] => .refl _
  | x :: xs => (ins_perm x (isort xs)).trans ((isort_perm xs).cons x)
theorem ins_sorted (x : Int) : ∀ {ys : List Int}, ys.Pairwise (· ≤ ·) → (ins x ys).Pairwise (· ≤ ·)
  | [], _ => List.pairwise_singleton _ _
  | y :: ys, h => by
    unfold ins
    have h' := List.pairwise_cons.mp h
    split
    · rename_i hx
      refine List.pairwise_cons.mpr ⟨fun z hz => ?_, h⟩
      rcases List.mem_cons.mp hz with e | hz
      · subst e; exact hx
      · exact Int.le_trans hx (h'.1 z hz)
    · rename_i hx
      refine List.pairwise_cons.mpr ⟨fun z hz => ?_, ins_sorted x h'.2⟩
      rcases List.mem_cons.mp ((ins_perm x ys).mem_iff.mp hz) with e | hz
      · subst e; omega
      · exact h'.1 z hz
theorem isort_sorted : ∀ xs : List Int, (isort xs).Pairwise (· ≤ ·)
  | [] => .nil
  | x :: xs => ins_sorted x (isort_sorted xs)
theorem sorted_unique : ∀ {xs ys : List Int}, xs.Perm ys → xs.Pairwise (· ≤ ·) → ys.Pairwise (· ≤ ·) → xs = ys
  | [], ys, p, _, _ => by rw [List.nil_perm.mp p]
  | x :: xs, [], p, _, _ => by have := p.length_eq; simp at this
  | x :: xs, y :: ys, p, h1, h2 => by
    have a := List.pairwise_cons.mp h1
    have b := List.pairwise_cons.mp h2
    have e : x = y := by
      have m1 : x ∈ y :: ys := p.mem_iff.mp List.mem_cons_self
      have m2 : y ∈ x :: xs := p.mem_iff.mpr List.mem_cons_self
      rcases List.mem_cons.mp m1 with e | m1
      · exact e
      · rcases List.mem_cons.mp m2 with e | m2
        · exact e.symm
        · have := b.1 x m1
          have := a.1 y m2
          omega
    subst e
    rw [sorted_unique (List.Perm.cons_inv p) a.2 b.2]
def intD : D → Option Int
  | .int i => some i
  | _ => none
def ints? (ds : List D) : Option (List Int) := ds.mapM intD
def bls? (ds : List D) : Option (List Bool) := ds.mapM fun d => match d with
  | .bl b => some b
  | _ => none
theorem ints?_map : ∀ ns : List Int, ints? (ns.map D.int) = some ns
  | [] => rfl
  | n :: ns => by
    have h := ints?_map ns
    unfold ints? at h ⊢
    rw [List.map_cons, List.mapM_cons, h]
    rfl
theorem ints?_eq : ∀ {ds : List D} {ns : List Int}, ints? ds = some ns → ds = ns.map D.int
  | [], ns, h => by cases h; rfl
  | d :: ds, ns, h => by
    unfold ints? at h
    rw [List.mapM_cons] at h
    cases e : intD d with
    | none => rw [e] at h; cases h
    | some k =>
      cases e2 : ds.mapM intD with
      | none => simp only [e, e2] at h; cases h
      | some l =>
        simp only [e, e2] at h
        cases h
        cases d <;> cases e
        rw [ints?_eq e2]
        rfl
theorem bls?_eq : ∀ {ds : List D} {ns : List Bool}, bls? ds = some ns → ds = ns.map D.bl
  | [], ns, h => by cases h; rfl
  | d :: ds, ns, h => by
    unfold bls? at h
    rw [List.mapM_cons] at h
    cases d <;> first | (cases h; done) | skip
    rename_i b
    cases e2 : bls? ds with
    | none =>
      unfold bls? at e2
      simp only [e2] at h; cases h
    | some l =>
      have e3 := bls?_eq e2
      unfold bls? at e2
      simp only [e2] at h
      cases h
      rw [e3]
      rfl
section
variable {c : Conf} {N : Addr → Prop} {H : Hp}
theorem Rp.ints? {vs : List V} {ds : List D} {ns : List Int} (r : Rp c N H vs ds) (h : ints? ds = some ns) : vs = ns.map V.int := by
  have e := ints?_eq h
  subst e
  exact r.ints
theorem Rp.bls : ∀ {vs : List V} {ns : List Bool}, Rp c N H vs (ns.map D.bl) → vs = ns.map V.bl
  | [], [], _ => rfl
  | [], _ :: _, h => by cases h
  | _ :: _, [], h => by cases h
  | v :: vs, n :: ns, h => by
    have h1 : Rp c N H (v :: vs) (D.bl n :: ns.map D.bl) := h
    rw [h1.unc.1.of_bl, Rp.bls h1.unc.2]
    rfl
theorem Bors.one {xs : List V} {d : D} (h : Bors c N H xs [d]) : ∃ x, xs = [x] ∧ Bor c N H x d := by
  cases h with
  | cons a b => cases b; exact ⟨_, rfl, a⟩
theorem Bors.two {xs : List V} {d e : D} (h : Bors c N H xs [d, e]) : ∃ x y, xs = [x, y] ∧ Bor c N H x d ∧ Bor c N H y e := by
  cases h with
  | cons a b => cases b with
    | cons a' b' => cases b'; exact ⟨_, _, rfl, a, a'⟩
/-- a list or a tuple that is read -/
def seqD : D → Option (List D)
  | .lst ds => some ds
  | .tup ds => some ds
  | .fz _ ds => some ds
  | _ => none
theorem seqD_at {v : V} {d : D} {ds : List D} (h : seqD d = some ds) (r : Bor c N H v d) : ∃ a us, v = .ref a ∧ (SqL c.K H a us ∨ SqT c.K H a us) ∧ Rp c N H us ds := by
  cases d <;> first | (cases h; done) | skip
  · cases h
    obtain ⟨a, us, rfl, _, e, q⟩ := r.tup
    exact ⟨a, us, rfl, .inr (.of e), q⟩
  · cases h
    obtain ⟨a, us, rfl, e, q⟩ := r
    exact ⟨a, us, rfl, .inl (.of e), q⟩
  · rename_i t _
    cases h
    cases t with
    | true =>
      obtain ⟨a, us, rfl, e, q⟩ := r.fzT
      exact ⟨a, us, rfl, .inr e, q⟩
    | false =>
      obtain ⟨a, us, rfl, e, q⟩ := r.fzL
      exact ⟨a, us, rfl, .inl e, q⟩
end
section
variable {X : Cx} {c : Conf} {W : WX}
def dLen : List D → R D
  | [.str s] => guard (s.length ≤ lim) (ok (.int s.length))
  | [.dK kds] => ok (.int kds.length)
  | [d] => (seqD d).map fun ds => .ok (.int ds.length)
  | _ => none
theorem call_lenR : CallR X (.builtin "len") (fun xs H Q => ∃ a kvs, xs = [V.ref a] ∧ Rd H a (.dK kvs) ∧ Q (.int kvs.length) H) := by
  intro pins s σ H xs us Q I r h
  obtain ⟨a, kvs, rfl, ha, q⟩ := h
  obtain ⟨u, rfl, rx⟩ := vals1 r
  cases rx
  exact d_len I ha fun t s' I' => ⟨.int _, H, I', ⟨_, rfl⟩, q⟩
theorem bi_len (hK : c.K = X.K := by rfl) : Bi X c W .dur (.builtin "len") dLen := ⟨_, call_len_seq.or (call_len_str.or call_lenR), by
  rw [← hK]
  intro Γ σ ρ H xs ds res Q er bx h p
  unfold dLen at h
  split at h
  · obtain ⟨hl, h⟩ := guard_ok h
    cases h
    obtain ⟨x, rfl, b⟩ := bx.one
    rw [b.str]
    exact .inr (.inl ⟨_, rfl, lim_ok hl, fin_int p er⟩)
  · cases h
    obtain ⟨x, rfl, a, kvs, rfl, rd, ek, r⟩ := bx.one
    refine .inr (.inr ⟨a, kvs, rfl, rd, ?_⟩)
    have e : kvs.length = (kvs.map (·.1)).length := by simp
    rw [e, ek, List.length_map]
    exact fin_int p er
  · obtain ⟨es, hs, rfl⟩ := Option.map_eq_some_iff.mp h
    obtain ⟨x, rfl, b⟩ := bx.one
    obtain ⟨a, us, rfl, sq, r⟩ := seqD_at hs b
    refine .inl ⟨a, us, rfl, sq, ?_⟩
    rw [r.len]
    exact fin_int p er
  · cases h⟩
def dInt : List D → R D
  | [.int i] => ok (.int i)
  | [.bl b] => ok (.int (if b then 1 else 0))
  | [.str s] => guard (s.length ≤ 640) ((PySem.intText? s).map fun n => .ok (.int n))
  | _ => none
theorem bi_int : Bi X c W .dur (.type "int") dInt := ⟨_, call_int1.or call_int_str, by
  intro Γ σ ρ H xs ds res Q er bx h p
  unfold dInt at h
  split at h
  · cases h
    obtain ⟨x, rfl, b⟩ := bx.one
    rw [b.int]
    exact .inl (.inl ⟨_, rfl, fin_int p er⟩)
  · cases h
    obtain ⟨x, rfl, b⟩ := bx.one
    rw [b.bl]
    exact .inl (.inr ⟨_, rfl, fin_int p er⟩)
  · obtain ⟨hl, h⟩ := guard_ok h
    obtain ⟨n, hn, rfl⟩ := Option.map_eq_some_iff.mp h
    obtain ⟨x, rfl, b⟩ := bx.one
    rw [b.str]
    exact .inr ⟨_, n, rfl, hn, hl, fin_int p er⟩
  · cases h⟩
def dAbs : List D → R D
  | [.int i] => ok (.int (if i < 0 then -i else i))
  | _ => none
theorem bi_abs : Bi X c W .dur (.builtin "abs") dAbs := ⟨_, call_abs, by
  intro Γ σ ρ H xs ds res Q er bx h p
  unfold dAbs at h
  split at h
  · cases h
    obtain ⟨x, rfl, b⟩ := bx.one
    rw [b.int]
    exact ⟨_, rfl, fin_int p er⟩
  · cases h⟩
/-- the greatest, the least of ints -/
def maxI : List Int → Option Int
  | [] => none
  | [x] => some x
  | x :: y :: r => maxI ((if y > x then y else x) :: r)
termination_by l => l.length
def minI : List Int → Option Int
  | [] => none
  | [x] => some x
  | x :: y :: r => minI ((if y < x then y else x) :: r)
termination_by l => l.length
theorem maxI_is : ∀ (l : List Int) (m : Int), maxI l = some m → m ∈ l ∧ ∀ y ∈ l, y ≤ m
  | [], m, h => by unfold maxI at h; cases h
  | [x], m, h => by
    unfold maxI at h
    cases h
    exact ⟨List.mem_cons_self, fun y hy => by simp at hy; omega⟩
  | x :: y :: r, m, h => by
    unfold maxI at h
    obtain ⟨a, b⟩ := maxI_is ((if y > x then y else x) :: r) m h
    have b0 := b _ List.mem_cons_self
    refine ⟨?_, fun z hz => ?_⟩
    · rcases List.mem_cons.mp a with e | a
      · rw [e]; split <;> simp
      · simp [a]
    · rcases List.mem_cons.mp hz with e | hz
      · subst e; split at b0 <;> omega
      · rcases List.mem_cons.mp hz with e | hz
        · subst e; split at b0 <;> omega
        · exact b z (List.mem_cons_of_mem _ hz)
termination_by l => l.length
theorem minI_is : ∀ (l : List Int) (m : Int), minI l = some m → m ∈ l ∧ ∀ y ∈ l, m ≤ y
  | [], m, h => by unfold minI at h; cases h
  | [x], m, h => by
    unfold minI at h
    cases h
    exact ⟨List.mem_cons_self, fun y hy => by simp at hy; omega⟩
  | x :: y :: r, m, h => by
    unfold minI at h
    obtain ⟨a, b⟩ := minI_is ((if y < x then y else x) :: r) m h
    have b0 := b _ List.mem_cons_self
    refine ⟨?_, fun z hz => ?_⟩
    · rcases List.mem_cons.mp a with e | a
      · rw [e]; split <;> simp
      · simp [a]
    · rcases List.mem_cons.mp hz with e | hz
      · subst e; split at b0 <;> omega
      · rcases List.mem_cons.mp hz with e | hz
        · subst e; split at b0 <;> omega
        · exact b z (List.mem_cons_of_mem _ hz)
termination_by l => l.length
section
variable {X : Cx}
def rMaxT (K : PySem.W.Frag) : List V → Hp → VK → Prop := fun vs H Q => ∃ (a : Addr) (ns : List Int), vs = [V.ref a] ∧ SqT K H a (ns.map V.int) ∧ 0 < ns.length ∧ ∀ m, m ∈ ns → (∀ y, y ∈ ns → y ≤ m) → Q (.int m) H
def rMinT (K : PySem.W.Frag) : List V → Hp → VK → Prop := fun vs H Q => ∃ (a : Addr) (ns : List Int), vs = [V.ref a] ∧ SqT K H a (ns.map V.int) ∧ 0 < ns.length ∧ ∀ m, m ∈ ns → (∀ y, y ∈ ns → m ≤ y) → Q (.int m) H
theorem cr_maxT (hc : X.calm = true) : CallR X (.builtin "max") (rMaxT X.K) := by
  intro pins s σ H vs us Q I r h
  obtain ⟨a, ns, rfl, hs, hne, q⟩ := h
  obtain ⟨its, rv, hl, _⟩ := I.tuple hs
  rw [Vals.ref1 r]
  exact DLS.max_rawT (I.ok.hd hc) hl rv.ints hne fun h' tk m t' hk h1 h2 => ⟨.int _, H, I.kept hk, ⟨_, rfl⟩, q m h1 h2⟩
theorem cr_minT (hc : X.calm = true) : CallR X (.builtin "min") (rMinT X.K) := by
  intro pins s σ H vs us Q I r h
  obtain ⟨a, ns, rfl, hs, hne, q⟩ := h
  obtain ⟨its, rv, hl, _⟩ := I.tuple hs
  rw [Vals.ref1 r]
  exact DLS.min_rawT (I.ok.hd hc) hl rv.ints hne fun h' tk m t' hk h1 h2 => ⟨.int _, H, I.kept hk, ⟨_, rfl⟩, q m h1 h2⟩
end
def dMax : List D → R D
  | [.int a, .int b] => ok (.int (if b > a then b else a))
  | [.lst ds] => (ints? ds).bind fun ns => (maxI ns).map fun m => .ok (.int m)
  | [.tup ds] => (ints? ds).bind fun ns => (maxI ns).map fun m => .ok (.int m)
  | _ => none
def dMin : List D → R D
  | [.int a, .int b] => ok (.int (if b < a then b else a))
  | [.lst ds] => (ints? ds).bind fun ns => (minI ns).map fun m => .ok (.int m)
  | [.tup ds] => (ints? ds).bind fun ns => (minI ns).map fun m => .ok (.int m)
  | _ => none
theorem bi_max (hc : X.calm = true) (hK : c.K = X.K := by rfl) : Bi X c W .dur (.builtin "max") dMax := ⟨_, (call_max2 hc).or ((cr_max hc).or (cr_maxT hc)), by
  rw [← hK]
  intro Γ σ ρ H xs ds res Q er bx h p
  unfold dMax at h
  split at h
  · cases h
    obtain ⟨x, y, rfl, b1, b2⟩ := bx.two
    rw [b1.int, b2.int]
    exact .inl ⟨_, _, rfl, fin_int p er⟩
  · obtain ⟨ns, hn, h⟩ := Option.bind_eq_some_iff.mp h
    obtain ⟨m, hm, rfl⟩ := Option.map_eq_some_iff.mp h
    obtain ⟨x, rfl, a, us, rfl, e, r⟩ := bx.one
    have eu := r.ints? hn
    subst eu
    obtain ⟨m1, m2⟩ := maxI_is _ _ hm
    refine .inr (.inl ⟨a, ns, rfl, .of e, List.length_pos_of_mem m1, fun m' h1 h2 => ?_⟩)
    have em : m' = m := Int.le_antisymm (m2 _ h1) (h2 _ m1)
    subst em
    exact fin_int p er
  · obtain ⟨ns, hn, h⟩ := Option.bind_eq_some_iff.mp h
    obtain ⟨m, hm, rfl⟩ := Option.map_eq_some_iff.mp h
    obtain ⟨x, rfl, b⟩ := bx.one
    obtain ⟨a, us, rfl, _, e, r⟩ := b.tup
    have eu := r.ints? hn
    subst eu
    obtain ⟨m1, m2⟩ := maxI_is _ _ hm
    refine .inr (.inr ⟨a, ns, rfl, .of e, List.length_pos_of_mem m1, fun m' h1 h2 => ?_⟩)
    have em : m' = m := Int.le_antisymm (m2 _ h1) (h2 _ m1)
    subst em
    exact fin_int p er
  · cases h⟩
theorem bi_min (hc : X.calm = true) (hK : c.K = X.K := by rfl) : Bi X c W .dur (.builtin "min") dMin := ⟨_, (call_min2 hc).or ((cr_min hc).or (cr_minT hc)), by
  rw [← hK]
  intro Γ σ ρ H xs ds res Q er bx h p
  unfold dMin at h
  split at h
  · cases h
    obtain ⟨x, y, rfl, b1, b2⟩ := bx.two
    rw [b1.int, b2.int]
    exact .inl ⟨_, _, rfl, fin_int p er⟩
  · obtain ⟨ns, hn, h⟩ := Option.bind_eq_some_iff.mp h
    obtain ⟨m, hm, rfl⟩ := Option.map_eq_some_iff.mp h
    obtain ⟨x, rfl, a, us, rfl, e, r⟩ := bx.one
    have eu := r.ints? hn
    subst eu
    obtain ⟨m1, m2⟩ := minI_is _ _ hm
    refine .inr (.inl ⟨a, ns, rfl, .of e, List.length_pos_of_mem m1, fun m' h1 h2 => ?_⟩)
    have em : m' = m := Int.le_antisymm (h2 _ m1) (m2 _ h1)
    subst em
    exact fin_int p er
  · obtain ⟨ns, hn, h⟩ := Option.bind_eq_some_iff.mp h
    obtain ⟨m, hm, rfl⟩ := Option.map_eq_some_iff.mp h
    obtain ⟨x, rfl, b⟩ := bx.one
    obtain ⟨a, us, rfl, _, e, r⟩ := b.tup
    have eu := r.ints? hn
    subst eu
    obtain ⟨m1, m2⟩ := minI_is _ _ hm
    refine .inr (.inr ⟨a, ns, rfl, .of e, List.length_pos_of_mem m1, fun m' h1 h2 => ?_⟩)
    have em : m' = m := Int.le_antisymm (h2 _ m1) (m2 _ h1)
    subst em
    exact fin_int p er
  · cases h⟩
def dSum : List D → R D
  | [.lst ds] => (ints? ds).map fun ns => .ok (.int ns.sum)
  | _ => none
theorem bi_sum (hc : X.calm = true) (hK : c.K = X.K := by rfl) : Bi X c W .dur (.builtin "sum") dSum := ⟨_, cr_sum hc, by
  rw [← hK]
  intro Γ σ ρ H xs ds res Q er bx h p
  unfold dSum at h
  split at h
  · obtain ⟨ns, hn, rfl⟩ := Option.map_eq_some_iff.mp h
    obtain ⟨x, rfl, a, us, rfl, e, r⟩ := bx.one
    have eu := r.ints? hn
    subst eu
    exact ⟨a, ns, rfl, .of e, fin_int p er⟩
  · cases h⟩
def dAny : List D → R D
  | [.lst ds] => (bls? ds).map fun bs => .ok (.bl (bs.any id))
  | _ => none
def dAll : List D → R D
  | [.lst ds] => (bls? ds).map fun bs => .ok (.bl (bs.all id))
  | _ => none
theorem bi_any (hc : X.calm = true) (hK : c.K = X.K := by rfl) : Bi X c W .dur (.builtin "any") dAny := ⟨_, cr_any hc, by
  rw [← hK]
  intro Γ σ ρ H xs ds res Q er bx h p
  unfold dAny at h
  split at h
  · obtain ⟨ns, hn, rfl⟩ := Option.map_eq_some_iff.mp h
    obtain ⟨x, rfl, a, us, rfl, e, r⟩ := bx.one
    rw [bls?_eq hn] at r
    have eu := r.bls
    subst eu
    exact ⟨a, ns, rfl, .of e, fin_bl p er⟩
  · cases h⟩
theorem bi_all (hc : X.calm = true) (hK : c.K = X.K := by rfl) : Bi X c W .dur (.builtin "all") dAll := ⟨_, cr_all hc, by
  rw [← hK]
  intro Γ σ ρ H xs ds res Q er bx h p
  unfold dAll at h
  split at h
  · obtain ⟨ns, hn, rfl⟩ := Option.map_eq_some_iff.mp h
    obtain ⟨x, rfl, a, us, rfl, e, r⟩ := bx.one
    rw [bls?_eq hn] at r
    have eu := r.bls
    subst eu
    exact ⟨a, ns, rfl, .of e, fin_bl p er⟩
  · cases h⟩
def kD : Key → D
  | .inl i => .int i
  | .inr s => .str s
theorem kD_rp {N : Addr → Prop} {H : Hp} : ∀ {kvs : List (Key × V)} {kds : List (Key × D)}, kvs.map (·.1) = kds.map (·.1) → Rp c N H (kvs.map fun kv => kV kv.1) (kds.map fun kd => kD kd.1)
  | [], [], _ => .nil
  | [], _ :: _, e => by simp at e
  | _ :: _, [], e => by simp at e
  | (k1, v) :: kvs, (k2, d) :: kds, e => by
    simp only [List.map_cons, List.cons.injEq] at e
    obtain ⟨e1, e2⟩ := e
    subst e1
    cases k1 with
    | inl i => exact .int (kD_rp e2)
    | inr s => exact .str (kD_rp e2)
def dList : List D → R D
  | [.dK kds] => ok (.lst (kds.map fun kd => kD kd.1))
  | [d] => (seqD d).map fun ds => .ok (.lst ds)
  | _ => none
theorem bi_list (hc : X.calm = true) (hK : c.K = X.K := by rfl) : Bi X c W .own (.type "list") dList := ⟨_, call_list_of.or (call_listD hc), by
  rw [← hK]
  intro Γ σ ρ H xs ds res Q er bx h p
  unfold dList at h
  split at h
  · cases h
    obtain ⟨x, rfl, a, kvs, rfl, rd, ek, r⟩ := bx.one
    exact .inr ⟨a, kvs, rfl, rd, fun l hl => fin_lst p er (kD_rp ek) hl⟩
  · obtain ⟨es, hs, rfl⟩ := Option.map_eq_some_iff.mp h
    obtain ⟨x, rfl, b⟩ := bx.one
    obtain ⟨a, us, rfl, sq, r⟩ := seqD_at hs b
    exact .inl ⟨a, us, rfl, sq, fun l hl => fin_lst p er r hl⟩
  · cases h⟩
def dTuple : List D → R D
  | [.lst ds] => ok (.tup ds)
  | [.tup ds] => ok (.tup ds)
  | _ => none
theorem bi_tuple (hK : c.K = X.K := by rfl) : Bi X c W .dur (.type "tuple") dTuple := ⟨_, call_tuple_of, by
  rw [← hK]
  intro Γ σ ρ H xs ds res Q er bx h p
  unfold dTuple at h
  split at h
  · cases h
    obtain ⟨x, rfl, a, us, rfl, e, r⟩ := bx.one
    exact ⟨a, us, rfl, .inl ⟨.of e, fun l hl => fin_tup p er r hl⟩⟩
  · cases h
    obtain ⟨x, rfl, b⟩ := bx.one
    obtain ⟨a, us, rfl, n, e, r⟩ := b.tup
    exact ⟨a, us, rfl, .inr ⟨.of e, fin_re p er (.tup n e r .nil)⟩⟩
  · cases h⟩
/-! ### list(range(..)), tuple(range(..)) -/
def rgD (a b : Int) : List D := (List.range (b - a).toNat).map fun i => .int (a + (i : Nat))
def rgOk (a b : Int) : Prop := -1000000 ≤ a ∧ a ≤ 1000000 ∧ -1000000 ≤ b ∧ b ≤ 1000000
instance (a b : Int) : Decidable (rgOk a b) := by unfold rgOk; infer_instance
theorem rgV_rp {N : Addr → Prop} {H : Hp} (a b : Int) : Rp c N H (rgV a b) (rgD a b) := by
  unfold rgV rgD
  generalize List.range (b - a).toNat = l
  induction l with
  | nil => exact .nil
  | cons x l ih => exact .int ih
theorem rgOk_ok {a b : Int} (h : rgOk a b) : RgOk a b := by
  obtain ⟨h1, h2, h3, h4⟩ := h
  have e : (2 : Int) ^ 62 = 4611686018427387904 := by decide
  have e2 : (2 : Nat) ^ 24 = 16777216 := by decide
  refine ⟨by omega, by omega, by omega, by omega, by omega⟩
def mRg1 (f : List D → D) (m : ME) : ME := fun ρ => bnd (m ρ) fun d => match d with
  | .int n => guard (rgOk 0 n) (ok (f (rgD 0 n)))
  | _ => none
def mRg2 (f : List D → D) (m n : ME) : ME := fun ρ => bnd (m ρ) fun d => bnd (n ρ) fun e => match d, e with
  | .int a, .int b => guard (rgOk a b) (ok (f (rgD a b)))
  | _, _ => none
theorem tRg1_ok {m : ME} {k : Kd} {f : List D → D} {σ : L2.St} {H : Hp} {Q : VK} {t : Int → Int → Hp → Prop} (h : tE c W k (mRg1 f m) σ H Q)
    (kk : ∀ (Γ : Gam) (ρ : Ro) (a b : Int) (H1 : Hp), rgOk a b → ER c Γ σ H1 ρ → PostE c W k Γ σ ρ H1 Q (.ok (f (rgD a b))) → t a b H1) : tRg1 (tE c W .bor m) σ H t := by
  obtain ⟨Γ, ρ, r, er, em, p⟩ := h
  refine use er em p.err fun d v H1 h1 s1 r1 => ?_
  split at h1
  · obtain ⟨hl, h1⟩ := guard_ok h1
    cases h1
    rw [r1.2.int]
    exact ⟨_, rfl, kk Γ ρ _ _ _ hl r1.1 (p.mono s1)⟩
  · cases h1
theorem tRg2_ok {m n : ME} {k : Kd} {f : List D → D} {σ : L2.St} {H : Hp} {Q : VK} {t : Int → Int → Hp → Prop} (h : tE c W k (mRg2 f m n) σ H Q)
    (kk : ∀ (Γ : Gam) (ρ : Ro) (a b : Int) (H1 : Hp), rgOk a b → ER c Γ σ H1 ρ → PostE c W k Γ σ ρ H1 Q (.ok (f (rgD a b))) → t a b H1) : tRg2 (tE c W .bor m) (tE c W .bor n) σ H t := by
  obtain ⟨Γ, ρ, r, er, em, p⟩ := h
  refine use er em p.err fun d v H1 h1 s1 r1 => ?_
  refine use r1.1 h1 p.err fun d2 v2 H2 h2 s2 r2 => ?_
  split at h2
  · obtain ⟨hl, h2⟩ := guard_ok h2
    cases h2
    rw [r1.2.int, r2.2.int]
    exact ⟨_, _, rfl, rfl, kk Γ ρ _ _ _ hl r2.1 (p.mono (s1.trans s2))⟩
  · cases h2
section
variable {a b : Expr} {m n : ME} {p pos pr posr : Pos}
theorem d_listRg1 (hc : X.calm = true) (hg : Gl X "list") (hm : X.mg "list" = none) (hg2 : Gl X "range") (hm2 : X.mg "range" = none) (ha : PE X a (tE c W .bor m)) (na : starEach [a] X.env = (false, eval a X.env) :: starEach [] X.env := by rfl)
    (nb : starEach [.Call (.Name "range" pr) [a] [] posr] X.env = (false, eval (.Call (.Name "range" pr) [a] [] posr) X.env) :: starEach [] X.env := by rfl) : PE X (.Call (.Name "list" p) [.Call (.Name "range" pr) [a] [] posr] [] pos) (tE c W .own (mRg1 .lst m)) :=
  (pe_listRg hc hg hm (prg_1 hg2 hm2 ha na) nb).via fun σ H Q h => tRg1_ok h fun Γ ρ a b H1 hl er p => ⟨rgOk_ok hl, fun q hq => fin_lst p er (rgV_rp a b) hq⟩
theorem d_listRg2 (hc : X.calm = true) (hg : Gl X "list") (hm : X.mg "list" = none) (hg2 : Gl X "range") (hm2 : X.mg "range" = none) (ha : PE X a (tE c W .bor m)) (hb : PE X b (tE c W .bor n)) (na : starEach [a, b] X.env = (false, eval a X.env) :: starEach [b] X.env := by rfl)
    (nb : starEach [b] X.env = (false, eval b X.env) :: starEach [] X.env := by rfl) (hp : (backTo posr (starEach [b] X.env)).any (·.1) = false := by rfl)
    (nr : starEach [.Call (.Name "range" pr) [a, b] [] posr] X.env = (false, eval (.Call (.Name "range" pr) [a, b] [] posr) X.env) :: starEach [] X.env := by rfl) : PE X (.Call (.Name "list" p) [.Call (.Name "range" pr) [a, b] [] posr] [] pos) (tE c W .own (mRg2 .lst m n)) :=
  (pe_listRg hc hg hm (prg_2 hg2 hm2 ha hb na nb hp) nr).via fun σ H Q h => tRg2_ok h fun Γ ρ a b H1 hl er p => ⟨rgOk_ok hl, fun q hq => fin_lst p er (rgV_rp a b) hq⟩
theorem d_tupRg1 (hc : X.calm = true) (hg : Gl X "tuple") (hm : X.mg "tuple" = none) (hg2 : Gl X "range") (hm2 : X.mg "range" = none) (ha : PE X a (tE c W .bor m)) (na : starEach [a] X.env = (false, eval a X.env) :: starEach [] X.env := by rfl)
    (nb : starEach [.Call (.Name "range" pr) [a] [] posr] X.env = (false, eval (.Call (.Name "range" pr) [a] [] posr) X.env) :: starEach [] X.env := by rfl) : PE X (.Call (.Name "tuple" p) [.Call (.Name "range" pr) [a] [] posr] [] pos) (tE c W .dur (mRg1 .tup m)) :=
  (pe_tupRg hc hg hm (prg_1 hg2 hm2 ha na) nb).via fun σ H Q h => tRg1_ok h fun Γ ρ a b H1 hl er p => ⟨rgOk_ok hl, fun q hq => fin_tup p er (rgV_rp a b) hq⟩
theorem d_tupRg2 (hc : X.calm = true) (hg : Gl X "tuple") (hm : X.mg "tuple" = none) (hg2 : Gl X "range") (hm2 : X.mg "range" = none) (ha : PE X a (tE c W .bor m)) (hb : PE X b (tE c W .bor n)) (na : starEach [a, b] X.env = (false, eval a X.env) :: starEach [b] X.env := by rfl)
    (nb : starEach [b] X.env = (false, eval b X.env) :: starEach [] X.env := by rfl) (hp : (backTo posr (starEach [b] X.env)).any (·.1) = false := by rfl)
    (nr : starEach [.Call (.Name "range" pr) [a, b] [] posr] X.env = (false, eval (.Call (.Name "range" pr) [a, b] [] posr) X.env) :: starEach [] X.env := by rfl) : PE X (.Call (.Name "tuple" p) [.Call (.Name "range" pr) [a, b] [] posr] [] pos) (tE c W .dur (mRg2 .tup m n)) :=
  (pe_tupRg hc hg hm (prg_2 hg2 hm2 ha hb na nb hp) nr).via fun σ H Q h => tRg2_ok h fun Γ ρ a b H1 hl er p => ⟨rgOk_ok hl, fun q hq => fin_tup p er (rgV_rp a b) hq⟩
end
/-! ### sorted of ints -/
def rSortedIT (K : PySem.W.Frag) : List V → Hp → VK → Prop := fun vs H Q => ∃ (a : Addr) (ns : List Int), vs = [V.ref a] ∧ SqT K H a (ns.map V.int) ∧
  ∀ (ns' : List Int) (p : Addr), ns'.Perm ns → ns'.Pairwise (· ≤ ·) → H p = none → Q (.ref p) (upd H p (.lst (ns'.map V.int)))
theorem cr_sortedIT : CallR X (.builtin "sorted") (rSortedIT X.K) := by
  intro pins s σ H vs us Q I r h
  obtain ⟨a, ns, rfl, hs, q⟩ := h
  obtain ⟨its, rv, hl, hz⟩ := I.tuple hs
  rw [Vals.ref1 r]
  have hi := rv.ints
  refine DLS.sorted_ordT SrtO.swo_int hl (by rw [← rv.length]; exact hz) (fun h2 h₁ a' _ _ => SrtO.ints_sortable hi h2) fun out h1 h2 => ?_
  obtain ⟨k1, k2, k3⟩ := SrtO.ints_out hi h1 h2
  obtain ⟨ep, he'⟩ := PyProof.Rows.sortedAll_at s.heap its out.toArray
  have hlen : ((out.map SrtO.iv).map V.int).length ≤ sizeLine := by
    rw [List.length_map, k2.length_eq]
    rw [List.length_map] at hz
    exact hz
  exact ⟨.ref _, upd H (s.heap.objs.size + 1) (.lst ((out.map SrtO.iv).map V.int)), I.laid (t' := s.toks) (fun _ _ => PyProof.Rows.sortedAll_old) (Nat.le_succ _) ⟨hlen, out, ep, vals_of_ints k1, he'⟩, rfl, q _ _ k2 k3 (I.hok.fresh (Nat.le_succ _))⟩
def inlD : Key → Option Int
  | .inl i => some i
  | _ => none
def dSorted : List D → R D
  | [.dK kds] => (kds.mapM fun kd => inlD kd.1).bind fun ns => guard (ns.length < 64) (ok (.lst ((isort ns).map D.int)))
  | [d] => (seqD d).bind fun ds => (ints? ds).map fun ns => .ok (.lst ((isort ns).map D.int))
  | _ => none
theorem inl_keys : ∀ {kds : List (Key × D)} {ns : List Int}, (kds.mapM fun kd => inlD kd.1) = some ns → kds.map (·.1) = ns.map Sum.inl
  | [], ns, h => by cases h; rfl
  | (k, d) :: kds, ns, h => by
    rw [List.mapM_cons] at h
    cases k with
    | inr s => cases h
    | inl i =>
      cases e2 : (kds.mapM fun kd => inlD kd.1) with
      | none => simp only [e2] at h; cases h
      | some l =>
        simp only [e2] at h
        cases h
        rw [List.map_cons, inl_keys e2]
        rfl
theorem bi_sorted (hc : X.calm = true) (hK : c.K = X.K := by rfl) : Bi X c W .own (.builtin "sorted") dSorted := ⟨_, cr_sortedI.or (cr_sortedIT.or (call_sortedDI hc)), by
  rw [← hK]
  intro Γ σ ρ H xs ds res Q er bx h p
  have fin : ∀ {ns ns' : List Int} {q : Addr}, PostE c W .own Γ σ ρ H Q (.ok (.lst ((isort ns).map D.int))) → ns'.Perm ns → ns'.Pairwise (· ≤ ·) → H q = none → Q (.ref q) (upd H q (.lst (ns'.map V.int))) := fun {ns ns' q} p h1 h2 hq => by
    rw [sorted_unique (h1.trans (isort_perm ns).symm) h2 (isort_sorted ns)]
    exact fin_lst p er Rp.of_ints hq
  unfold dSorted at h
  split at h
  · obtain ⟨ns, hn, h⟩ := Option.bind_eq_some_iff.mp h
    obtain ⟨hl, h⟩ := guard_ok h
    cases h
    obtain ⟨x, rfl, a, kvs, rfl, rd, ek, r⟩ := bx.one
    exact .inr (.inr ⟨a, kvs, ns, rfl, rd, ek.trans (inl_keys hn), hl, fun ys q h1 h2 hq => fin p h1 h2 hq⟩)
  · obtain ⟨es, hs, h⟩ := Option.bind_eq_some_iff.mp h
    obtain ⟨ns, hn, rfl⟩ := Option.map_eq_some_iff.mp h
    obtain ⟨x, rfl, b⟩ := bx.one
    obtain ⟨a, us, rfl, sq, r⟩ := seqD_at hs b
    have eu := r.ints? hn
    subst eu
    rcases sq with sq | sq
    · exact .inl ⟨a, ns, rfl, sq, fun ns' q h1 h2 hq => fin p h1 h2 hq⟩
    · exact .inr (.inl ⟨a, ns, rfl, sq, fun ns' q h1 h2 hq => fin p h1 h2 hq⟩)
  · cases h⟩
end
end DL

set_option Elab.async false
set_option linter.all false
set_option maxRecDepth 100000
set_option maxHeartbeats 2000000
set_option autoImplicit false
/-! DLe: statements: stores to names, to places, own lists changed, if, while, return, raise. -/
namespace DL
open PySem L2

/-! ### the frame changes -/
section
variable {c : Conf} {Γ : Gam} {σ : L2.St} {H H' : Hp} {ρ : Ro} {i : Nat}
def fxOk (l : List (Nat × V)) (i : Nat) : Bool := l.all fun p => p.1 != i
theorem fx_set {l : List (Nat × V)} {v : V} (h : ∀ p ∈ l, σ[p.1]? = some (some p.2)) (k : fxOk l i = true) : ∀ p ∈ l, (σ.set i (some v))[p.1]? = some (some p.2) := fun p hp => by
  have := List.all_eq_true.mp k p hp
  have ne : p.1 ≠ i := by simpa using this
  rw [List.getElem?_set_ne (Ne.symm ne)]
  exact h p hp
theorem own_set {j : Nat} {d e : D} {b : Bool} (h : (ρ.set i (some (e, b)))[j]? = some (some (d, true))) : (j = i ∧ d = e ∧ b = true) ∨ (j ≠ i ∧ ρ[j]? = some (some (d, true))) := by
  by_cases z : i = j
  · subst z
    rw [List.getElem?_set] at h
    rw [if_pos rfl] at h
    split at h
    · cases h; exact .inl ⟨rfl, rfl, rfl⟩
    · cases h
  · rw [List.getElem?_set_ne z] at h
    exact .inr ⟨Ne.symm z, h⟩
theorem ER.setD (e : ER c Γ σ H ρ) {v : V} {d : D} (r : Re c (NN Γ σ ρ) H v d) (k : fxOk c.fx i = true) : ER c Γ (σ.set i (some v)) H (ρ.set i (some (d, false))) := by
  have nn : ∀ a, NN Γ (σ.set i (some v)) (ρ.set i (some (d, false))) a → NN Γ σ ρ a := fun a h => by
    rcases h with h | ⟨j, f, h1, h2⟩
    · exact .inl h
    · rcases own_set h1 with ⟨_, _, z⟩ | ⟨z, h1⟩
      · cases z
      · rw [List.getElem?_set_ne (Ne.symm z)] at h2
        exact .inr ⟨j, f, h1, h2⟩
  have st : ∀ a o, ¬ NN Γ σ ρ a → H a = some o → H a = some o ∧ ¬ NN Γ (σ.set i (some v)) (ρ.set i (some (d, false))) a := fun a o n q => ⟨q, fun z => n (nn a z)⟩
  refine { len := by simp [e.len], ext := e.ext, utr := e.utr, held := fun p h => (e.held p h).step st, raw := fun p h => ⟨fun z => (e.raw p h).1 (nn _ z), (e.raw p h).2⟩, fx := fx_set e.fx k, own := ?_, dis := ?_, slot := ?_, mine := ?_ }
  · intro j f a h1 h2
    rcases own_set h1 with ⟨_, _, z⟩ | ⟨z, h1⟩
    · cases z
    · rw [List.getElem?_set_ne (Ne.symm z)] at h2
      exact e.own j f a h1 h2
  · intro j l f g a ne h1 h2 h3
    rcases own_set h1 with ⟨_, _, z⟩ | ⟨z, h1⟩
    · cases z
    rcases own_set h2 with ⟨_, _, w⟩ | ⟨w, h2⟩
    · cases w
    rw [List.getElem?_set_ne (Ne.symm z)] at h3
    rw [List.getElem?_set_ne (Ne.symm w)]
    exact e.dis j l f g a ne h1 h2 h3
  · intro j f h
    by_cases z : i = j
    · subst z
      have hl := (List.getElem?_eq_some_iff.mp h).1
      rw [List.length_set, e.len] at hl
      rw [List.getElem?_set, if_pos rfl] at h
      rw [if_pos (by rw [e.len]; exact hl)] at h
      cases h
      exact ⟨v, by rw [List.getElem?_set, if_pos rfl, if_pos hl], r.step st⟩
    · rw [List.getElem?_set_ne z] at h
      obtain ⟨w, h1, h2⟩ := e.slot j f h
      exact ⟨w, by rw [List.getElem?_set_ne z]; exact h1, h2.step st⟩
  · intro j f h
    rcases own_set h with ⟨_, _, z⟩ | ⟨z, h⟩
    · cases z
    obtain ⟨a, h1, h2⟩ := e.mine j f h
    exact ⟨a, by rw [List.getElem?_set_ne (Ne.symm z)]; exact h1, h2.step (fun _ q => q) st⟩
theorem ER.setO {a : Addr} {d : D} (e : ER c (Γ.add a) σ H ρ) (h0 : Γ.H0 a = none) (na : ¬ NN Γ σ ρ a) (r : Own c (NN (Γ.add a) σ ρ) H a d) (k : fxOk c.fx i = true) : ER c Γ (σ.set i (some (.ref a))) H (ρ.set i (some (d, true))) := by
  have nn : ∀ b, NN Γ (σ.set i (some (.ref a))) (ρ.set i (some (d, true))) b → NN (Γ.add a) σ ρ b := fun b h => by
    rcases h with h | ⟨j, f, h1, h2⟩
    · exact .inl (.inl h)
    · rcases own_set h1 with ⟨z, _, _⟩ | ⟨z, h1⟩
      · subst z
        rw [List.getElem?_set, if_pos rfl] at h2
        split at h2
        · cases h2; exact .inl (.inr rfl)
        · cases h2
      · rw [List.getElem?_set_ne (Ne.symm z)] at h2
        exact .inr ⟨j, f, h1, h2⟩
  have st : ∀ b o, ¬ NN (Γ.add a) σ ρ b → H b = some o → H b = some o ∧ ¬ NN Γ (σ.set i (some (.ref a))) (ρ.set i (some (d, true))) b := fun b o n q => ⟨q, fun z => n (nn b z)⟩
  refine { len := by simp [e.len], ext := e.ext, utr := fun b h => e.utr b (.inl h), held := fun p h => (e.held p h).step st, raw := fun p h => ⟨fun z => (e.raw p h).1 (nn _ z), (e.raw p h).2⟩, fx := fx_set e.fx k, own := ?_, dis := ?_, slot := ?_, mine := ?_ }
  · intro j f b h1 h2
    rcases own_set h1 with ⟨z, _, _⟩ | ⟨z, h1⟩
    · subst z
      rw [List.getElem?_set, if_pos rfl] at h2
      split at h2
      · cases h2; exact ⟨h0, fun z => na (.inl z)⟩
      · cases h2
    · rw [List.getElem?_set_ne (Ne.symm z)] at h2
      exact ⟨(e.own j f b h1 h2).1, fun z => (e.own j f b h1 h2).2 (.inl z)⟩
  · intro j l f g b ne h1 h2 h3
    rcases own_set h1 with ⟨z, _, _⟩ | ⟨z, h1⟩
    · subst z
      rcases own_set h2 with ⟨w, _, _⟩ | ⟨w, h2⟩
      · exact absurd w.symm ne
      rw [List.getElem?_set_ne (Ne.symm w)]
      rw [List.getElem?_set, if_pos rfl] at h3
      split at h3
      · cases h3
        exact fun q => na (.inr ⟨l, g, h2, q⟩)
      · cases h3
    · rw [List.getElem?_set_ne (Ne.symm z)] at h3
      rcases own_set h2 with ⟨w, _, _⟩ | ⟨w, h2⟩
      · rw [w, List.getElem?_set, if_pos rfl]
        split
        · intro q
          cases q
          exact na (.inr ⟨j, f, by assumption, h3⟩)
        · exact fun q => by cases q
      · rw [List.getElem?_set_ne (Ne.symm w)]
        exact e.dis j l f g b ne h1 h2 h3
  · intro j f h
    by_cases z : i = j
    · subst z
      rw [List.getElem?_set, if_pos rfl] at h
      split at h <;> cases h
    · rw [List.getElem?_set_ne z] at h
      obtain ⟨w, h1, h2⟩ := e.slot j f h
      exact ⟨w, by rw [List.getElem?_set_ne z]; exact h1, h2.step st⟩
  · intro j f h
    by_cases z : i = j
    · subst z
      have hl := (List.getElem?_eq_some_iff.mp h).1
      rw [List.length_set, e.len] at hl
      rw [List.getElem?_set, if_pos rfl, if_pos (by rw [e.len]; exact hl)] at h
      cases h
      exact ⟨a, by rw [List.getElem?_set, if_pos rfl, if_pos hl], r.step (fun _ q => q) st⟩
    · rw [List.getElem?_set_ne z] at h
      obtain ⟨b, h1, h2⟩ := e.mine j f h
      exact ⟨b, by rw [List.getElem?_set_ne z]; exact h1, h2.step (fun _ q => q) st⟩
/-- an own thing stays, and is no longer changed -/
theorem ER.freeze (e : ER c Γ σ H ρ) {d : D} (hi : ρ[i]? = some (some (d, true))) : ER c Γ σ H (ρ.set i (some (d, false))) := by
  have nn : ∀ a, NN Γ σ (ρ.set i (some (d, false))) a → NN Γ σ ρ a := fun a h => by
    rcases h with h | ⟨j, f, h1, h2⟩
    · exact .inl h
    · rcases own_set h1 with ⟨_, _, z⟩ | ⟨z, h1⟩
      · cases z
      · exact .inr ⟨j, f, h1, h2⟩
  have st : ∀ a o, ¬ NN Γ σ ρ a → H a = some o → H a = some o ∧ ¬ NN Γ σ (ρ.set i (some (d, false))) a := fun a o n q => ⟨q, fun z => n (nn a z)⟩
  refine { len := by simp [e.len], ext := e.ext, utr := e.utr, held := fun p h => (e.held p h).step st, raw := fun p h => ⟨fun z => (e.raw p h).1 (nn _ z), (e.raw p h).2⟩, fx := e.fx, own := ?_, dis := ?_, slot := ?_, mine := ?_ }
  · intro j f a h1 h2
    rcases own_set h1 with ⟨_, _, z⟩ | ⟨z, h1⟩
    · cases z
    · exact e.own j f a h1 h2
  · intro j l f g a ne h1 h2 h3
    rcases own_set h1 with ⟨_, _, z⟩ | ⟨z, h1⟩
    · cases z
    rcases own_set h2 with ⟨_, _, w⟩ | ⟨w, h2⟩
    · cases w
    exact e.dis j l f g a ne h1 h2 h3
  · intro j f h
    by_cases z : i = j
    · subst z
      rw [List.getElem?_set, if_pos rfl] at h
      split at h
      · cases h
        obtain ⟨a, h1, h2⟩ := e.mine i _ hi
        refine ⟨.ref a, h1, Own.re (h2.step (fun _ q => q) st) fun z => ?_⟩
        rcases z with z | ⟨j, g, h3, h4⟩
        · exact (e.own i _ a hi h1).2 z
        · rcases own_set h3 with ⟨_, _, w⟩ | ⟨w, h3⟩
          · cases w
          · exact e.dis i j _ g a (Ne.symm w) hi h3 h1 h4
      · cases h
    · rw [List.getElem?_set_ne z] at h
      obtain ⟨w, h1, h2⟩ := e.slot j f h
      exact ⟨w, h1, h2.step st⟩
  · intro j f h
    rcases own_set h with ⟨_, _, z⟩ | ⟨z, h⟩
    · cases z
    obtain ⟨a, h1, h2⟩ := e.mine j f h
    exact ⟨a, h1, h2.step (fun _ q => q) st⟩
/-- an own thing changes -/
theorem ER.mut (e : ER c Γ σ H ρ) {d d' : D} {a : Addr} {o : HO} (hi : ρ[i]? = some (some (d, true))) (ha : σ[i]? = some (some (.ref a))) (ho : Own c (NN Γ σ ρ) (upd H a o) a d') : ER c Γ σ (upd H a o) (ρ.set i (some (d', true))) := by
  have hl := (List.getElem?_eq_some_iff.mp hi).1
  have na : NN Γ σ ρ a := .inr ⟨i, d, hi, ha⟩
  have nn : ∀ b, NN Γ σ (ρ.set i (some (d', true))) b → NN Γ σ ρ b := fun b h => by
    rcases h with h | ⟨j, f, h1, h2⟩
    · exact .inl h
    · rcases own_set h1 with ⟨z, _, _⟩ | ⟨z, h1⟩
      · subst z
        exact .inr ⟨j, d, hi, h2⟩
      · exact .inr ⟨j, f, h1, h2⟩
  have st : ∀ b u, ¬ NN Γ σ ρ b → H b = some u → (upd H a o) b = some u ∧ ¬ NN Γ σ (ρ.set i (some (d', true))) b := fun b u n q => by
    have ne : b ≠ a := fun z => n (by subst z; exact na)
    exact ⟨by rw [upd_ne ne]; exact q, fun z => n (nn b z)⟩
  have ow := e.own i d a hi ha
  refine { len := by simp [e.len], ext := fun b u q => ?_, utr := fun b h => ?_, held := fun p h => (e.held p h).step st, raw := fun p h => let z := st _ _ (e.raw p h).1 (e.raw p h).2; ⟨z.2, z.1⟩, fx := e.fx, own := ?_, dis := ?_, slot := ?_, mine := ?_ }
  · have ne : b ≠ a := fun z => by subst z; rw [ow.1] at q; cases q
    rw [upd_ne ne]
    exact e.ext b u q
  · by_cases z : b = a
    · subst z; exact ho.mt
    · exact (e.utr b h).off z
  · intro j f b h1 h2
    rcases own_set h1 with ⟨z, _, _⟩ | ⟨z, h1⟩
    · subst z; exact e.own j d b hi h2
    · exact e.own j f b h1 h2
  · intro j l f g b ne h1 h2 h3
    rcases own_set h1 with ⟨z, _, _⟩ | ⟨z, h1⟩
    · subst z
      rcases own_set h2 with ⟨w, _, _⟩ | ⟨w, h2⟩
      · exact absurd w.symm ne
      · exact e.dis j l d g b ne hi h2 h3
    · rcases own_set h2 with ⟨w, _, _⟩ | ⟨w, h2⟩
      · rw [w]; exact e.dis j i f d b z h1 hi h3
      · exact e.dis j l f g b ne h1 h2 h3
  · intro j f h
    by_cases z : i = j
    · subst z
      rw [List.getElem?_set, if_pos rfl] at h
      split at h <;> cases h
    · rw [List.getElem?_set_ne z] at h
      obtain ⟨w, h1, h2⟩ := e.slot j f h
      exact ⟨w, h1, h2.step st⟩
  · intro j f h
    rcases own_set h with ⟨z, w, _⟩ | ⟨z, h⟩
    · subst z; subst w
      exact ⟨a, ha, ho.step (fun _ q => q) fun b u n q => ⟨q, fun z => n (nn b z)⟩⟩
    · obtain ⟨b, h1, h2⟩ := e.mine j f h
      refine ⟨b, h1, h2.step (fun u q => ?_) st⟩
      have ne : b ≠ a := fun w => by subst w; exact e.dis i j d f b (Ne.symm z) hi h ha h1
      rw [upd_ne ne]
      exact q
end

/-! ### statements -/
inductive Out where
  | nx (ρ : Ro) | rt (d : D) | er (x : EN) (ρ : Ro) | bk (ρ : Ro) | ct (ρ : Ro)
abbrev MS := Ro → Option Out
def SPost (c : Conf) (W : WX) (Γ : Gam) (D : Ends) : Out → Prop
  | .nx ρ => ∀ σ H, ER c Γ σ H ρ → D.nx σ H
  | .bk ρ => ∀ σ H, ER c Γ σ H ρ → D.bk σ H
  | .ct ρ => ∀ σ H, ER c Γ σ H ρ → D.ct σ H
  | .rt d => ∀ v H, Same Γ.H0 H → Re c Γ.U H v d → D.rt v H
  | .er x ρ => ∀ C σ H, ER c Γ σ H ρ → c.err x C → W (.ref C) none σ H
def tS (c : Conf) (W : WX) (s : MS) : TS := fun D σ H => ∃ Γ ρ o, ER c Γ σ H ρ ∧ s ρ = some o ∧ SPost c W Γ D o
/-- an expression's value, an error goes out -/
def sE {α : Type} (m : R α) (ρ : Ro) (k : α → Option Out) : Option Out := match m with
  | none => none
  | some (.error x) => some (.er x ρ)
  | some (.ok a) => k a
section
variable {X : Cx} {c : Conf} {W : WX}
theorem useS {k : Kd} {m : ME} {f : D → Option Out} {o : Out} {Γ : Gam} {σ : L2.St} {ρ : Ro} {H : Hp} {Dd : Ends} {Q : VK} (er : ER c Γ σ H ρ) (h : sE (m ρ) ρ f = some o) (p : SPost c W Γ Dd o)
    (kk : ∀ d v H1, f d = some o → Same H H1 → VR c k Γ σ ρ H1 v d → Q v H1) : tE c W k m σ H Q := by
  cases e : m ρ with
  | none => rw [e] at h; cases h
  | some q =>
    rw [e] at h
    cases q with
    | error x =>
      cases h
      exact ⟨Γ, ρ, _, er, e, fun C H' e' k => p C σ H' e' k⟩
    | ok d => exact ⟨Γ, ρ, _, er, e, fun v H1 s q => kk d v H1 h s q⟩
theorem useST {m : MT} {f : Bool → Option Out} {o : Out} {Γ : Gam} {σ : L2.St} {ρ : Ro} {H : Hp} {Dd : Ends} {Q : Bool → Hp → Prop} (er : ER c Γ σ H ρ) (h : sE (m ρ) ρ f = some o) (p : SPost c W Γ Dd o)
    (kk : ∀ b H1, f b = some o → Same H H1 → ER c Γ σ H1 ρ → Q b H1) : tT c W m σ H Q := by
  cases e : m ρ with
  | none => rw [e] at h; cases h
  | some q =>
    rw [e] at h
    cases q with
    | error x =>
      cases h
      exact ⟨Γ, ρ, _, er, e, fun C H' e' k => p C σ H' e' k⟩
    | ok d => exact ⟨Γ, ρ, _, er, e, fun H1 s q => kk d H1 h s q⟩
theorem useSA {m : MA} {f : List D → Option Out} {o : Out} {Γ : Gam} {σ : L2.St} {ρ : Ro} {H : Hp} {Dd : Ends} {Q : List V → Hp → Prop} (er : ER c Γ σ H ρ) (h : sE (m ρ) ρ f = some o) (p : SPost c W Γ Dd o)
    (kk : ∀ ds vs H1, f ds = some o → Same H H1 → ER c Γ σ H1 ρ → Rp c (NN Γ σ ρ) H1 vs ds → Q vs H1) : tA c W m σ H Q := by
  cases e : m ρ with
  | none => rw [e] at h; cases h
  | some q =>
    rw [e] at h
    cases q with
    | error x =>
      cases h
      exact ⟨Γ, ρ, _, er, e, fun C H' e' k => p C σ H' e' k⟩
    | ok d => exact ⟨Γ, ρ, _, er, e, fun vs H1 s q r => kk d vs H1 h s q r⟩
/-- blocks -/
def mSkip : MS := fun ρ => some (.nx ρ)
def mSeq (s t : MS) : MS := fun ρ => match s ρ with
  | some (.nx ρ1) => t ρ1
  | o => o
theorem s_nil : PSs X [] (tS c W mSkip) := pss_nil.via fun D σ H ⟨Γ, ρ, o, er, em, p⟩ => by cases em; exact p _ _ er
theorem tSeq_ok {s t : MS} {D : Ends} {σ : L2.St} {H : Hp} (h : tS c W (mSeq s t) D σ H) : tSeq (tS c W s) (tS c W t) D σ H := by
  obtain ⟨Γ, ρ, o, er, em, p⟩ := h
  unfold mSeq at em
  cases e : s ρ with
  | none => rw [e] at em; cases em
  | some q =>
    rw [e] at em
    refine ⟨Γ, ρ, q, er, e, ?_⟩
    cases q with
    | nx ρ1 => exact fun σ1 H1 e1 => ⟨Γ, ρ1, o, e1, em, p⟩
    | rt d => cases em; exact p
    | er x ρ1 => cases em; exact p
    | bk ρ1 => cases em; exact p
    | ct ρ1 => cases em; exact p
theorem s_cons {st : Stmt} {rest : List Stmt} {s t : MS} (h : PS X st (tS c W s)) (r : PSs X rest (tS c W t)) : PSs X (st :: rest) (tS c W (mSeq s t)) := (pss_cons h r).via fun D σ H h => tSeq_ok h
theorem s_one {st : Stmt} {s : MS} (h : PS X st (tS c W s)) : PSs X [st] (tS c W s) := pss_one h
theorem s_pass {pos : Pos} : PS X (.Pass pos) (tS c W mSkip) := ps_pass.via fun D σ H ⟨Γ, ρ, o, er, em, p⟩ => by cases em; exact p _ _ er
theorem s_doc {x j pos pos'} : PS X (.Expr (.Constant (.str x) j pos) pos') (tS c W mSkip) := ps_doc.via fun D σ H ⟨Γ, ρ, o, er, em, p⟩ => by cases em; exact p _ _ er
/-- an own thing will not be changed any more -/
def mFrz (i : Nat) : MS := fun ρ => match ρ[i]? with
  | some (some (d, _)) => some (.nx (ρ.set i (some (d, false))))
  | _ => none
theorem set_self {ρ : Ro} {i : Nat} {x : Option (D × Bool)} (h : ρ[i]? = some x) : ρ.set i x = ρ := by
  apply List.ext_getElem?
  intro j
  by_cases z : i = j
  · subst z
    have hl := (List.getElem?_eq_some_iff.mp h).1
    rw [List.getElem?_set, if_pos rfl, if_pos hl, h]
  · rw [List.getElem?_set_ne z]
theorem frz_ok {i : Nat} {t : MS} {D : Ends} {σ : L2.St} {H : Hp} (h : tS c W (mSeq (mFrz i) t) D σ H) : tS c W t D σ H := by
  obtain ⟨Γ, ρ, o, er, em, p⟩ := h
  unfold mSeq mFrz at em
  cases e : ρ[i]? with
  | none => rw [e] at em; cases em
  | some q =>
    rw [e] at em
    cases q with
    | none => cases em
    | some q =>
      obtain ⟨d, b⟩ := q
      cases b with
      | true => exact ⟨Γ, _, o, er.freeze e, em, p⟩
      | false =>
        have em : t (ρ.set i (some (d, false))) = some o := em
        rw [set_self e] at em
        exact ⟨Γ, ρ, o, er, em, p⟩
theorem s_frz (i : Nat) {sts : List Stmt} {t : MS} (h : PSs X sts (tS c W t)) : PSs X sts (tS c W (mSeq (mFrz i) t)) := h.via fun D σ H q => frz_ok q
/-- x = e -/
def mSet (i : Nat) (b : Bool) (m : ME) : MS := fun ρ => sE (m ρ) ρ fun d => some (.nx (ρ.set i (some (d, b))))
theorem setD_ok {i : Nat} {m : ME} {D : Ends} {σ : L2.St} {H : Hp} (k : fxOk c.fx i = true) (h : tS c W (mSet i false m) D σ H) : tAsg (tE c W .dur m) (gName i) D σ H := by
  obtain ⟨Γ, ρ, o, er, em, p⟩ := h
  refine useS er em p fun d v H1 h1 s1 r1 => ?_
  cases h1
  exact p _ _ (r1.1.setD r1.2 k)
theorem setO_ok {i : Nat} {m : ME} {D : Ends} {σ : L2.St} {H : Hp} (k : fxOk c.fx i = true) (h : tS c W (mSet i true m) D σ H) : tAsg (tE c W .own m) (gName i) D σ H := by
  obtain ⟨Γ, ρ, o, er, em, p⟩ := h
  refine useS er em p fun d v H1 h1 s1 r1 => ?_
  cases h1
  obtain ⟨a, rfl, h0, na, e1, ow⟩ := r1
  exact p _ _ (ER.setO e1 h0 na ow k)
section
variable {i : Nat} {x : Str} {e : Expr} {m : ME} {pos pos' : Pos}
theorem s_set (i : Nat) (hN : X.N.Nodup) (he : PE X e (tE c W .dur m)) (hi : X.N[i]? = some x := by rfl) (hx : Loc X.env.scope x := by first | exact Or.inl rfl | exact Or.inr rfl) (hs : swapsWith e (some (.Name x pos')) pos.line X.env = pure false := by rfl)
    (hf : X.fn x = true ∨ X.env.scope.names.lookup x = some .local := by first | exact .inl rfl | exact .inr rfl) (k : fxOk c.fx i = true := by rfl) : PS X (.Assign [.Name x pos'] e pos) (tS c W (mSet i false m)) := (ps_set hN hi hx he hs hf).via fun D σ H h => setD_ok k h
theorem s_setO (i : Nat) (hN : X.N.Nodup) (he : PE X e (tE c W .own m)) (hi : X.N[i]? = some x := by rfl) (hx : Loc X.env.scope x := by first | exact Or.inl rfl | exact Or.inr rfl) (hs : swapsWith e (some (.Name x pos')) pos.line X.env = pure false := by rfl)
    (hf : X.fn x = true ∨ X.env.scope.names.lookup x = some .local := by first | exact .inl rfl | exact .inr rfl) (k : fxOk c.fx i = true := by rfl) : PS X (.Assign [.Name x pos'] e pos) (tS c W (mSet i true m)) := (ps_set hN hi hx he hs hf).via fun D σ H h => setO_ok k h
end
/-- return, if, while, raise, break, continue -/
def mRet (m : ME) : MS := fun ρ => sE (m ρ) ρ fun d => some (.rt d)
theorem s_ret {e : Expr} {m : ME} {pos : Pos} (he : PE X e (tE c W .ret m)) : PS X (.Return (some e) pos) (tS c W (mRet m)) := (ps_ret he).via fun D σ H ⟨Γ, ρ, o, er, em, p⟩ => by
  refine useS er em p fun d v H1 h1 s1 r1 => ?_
  cases h1
  exact p _ _ r1.1.ext r1.2
def mRetN : MS := fun _ => some (.rt .non)
theorem s_retN {pos : Pos} : PS X (.Return none pos) (tS c W mRetN) := ps_retN.via fun D σ H ⟨Γ, ρ, o, er, em, p⟩ => by
  cases em
  exact p _ _ er.ext (.non .nil)
def mIf (t : MT) (a b : MS) : MS := fun ρ => sE (t ρ) ρ fun k => match k with
  | true => a ρ
  | false => b ρ
theorem s_if {t : Expr} {a b : List Stmt} {mt : MT} {ma mb : MS} {pos : Pos} (ht : PT X t (tT c W mt)) (ha : PSs X a (tS c W ma)) (hb : PSs X b (tS c W mb)) : PS X (.If t a b pos) (tS c W (mIf mt ma mb)) :=
  (ps_if ht ha hb).via fun D σ H ⟨Γ, ρ, o, er, em, p⟩ => useST er em p fun k H1 h1 s1 e1 => by
    cases k with
    | true => rw [if_pos rfl]; exact ⟨Γ, ρ, o, e1, h1, p⟩
    | false => rw [if_neg Bool.false_ne_true]; exact ⟨Γ, ρ, o, e1, h1, p⟩
def mBrk : MS := fun ρ => some (.bk ρ)
def mCnt : MS := fun ρ => some (.ct ρ)
theorem s_break {pos : Pos} : PS X (.Break pos) (tS c W mBrk) := ps_break.via fun D σ H ⟨Γ, ρ, o, er, em, p⟩ => by cases em; exact p _ _ er
theorem s_continue {pos : Pos} : PS X (.Continue pos) (tS c W mCnt) := ps_continue.via fun D σ H ⟨Γ, ρ, o, er, em, p⟩ => by cases em; exact p _ _ er
def mRaise (x : EN) : MS := fun ρ => some (.er x ρ)
/-- raise x('..') of an own class over ValueError -/
structure ErrAt (K : PySem.W.Frag) (mg : Str → Option Value) (c : Conf) (x : Str) (n : EN) (C : Addr) : Prop where
  exc : PySem.W.excIn K C [.type "ValueError", .type "Exception", .type "BaseException", .type "object"] "ValueError.__new__" = true
  mg : mg x = some (.ref C)
  kp : PySem.W.keepIn K (.ref C) = true
  sub : PySem.W.subIn K (.ref C) (.type "BaseException") = some true
  ty : PySem.W.typeIn K (.ref C) = some (.type "type")
  err : c.err n C
theorem s_raise {x m : Str} {n : EN} {C : Addr} {j : Nat} {p p2 pos pos2 : Pos} (hc : X.calm = true) (tk : Takes X W) (T : ErrAt X.K X.mg c x n C) (hg : Gl X x := by rfl) (hdb : (x == ("__debug__" : Str)) = false := by decide) :
    PS X (.Raise (some (.Call (.Name x p) [.Constant (.str m) j p2] [] pos)) none pos2) (tS c W (mRaise n)) :=
  (ps_raise hc tk (pmk_own PySem.F.excBase_ValueError T.exc T.mg T.kp (raises_own T.sub T.ty) hg hdb)).via fun D σ H ⟨Γ, ρ, o, er, em, p⟩ => by
    cases em
    exact p _ _ _ er T.err
/-- while, n turns at most -/
def mWhile : Nat → MT → MS → MS
  | 0, _, _, _ => none
  | n + 1, t, s, ρ => sE (t ρ) ρ fun b => match b with
    | true => (match s ρ with
      | some (.nx ρ') => mWhile n t s ρ'
      | some (.ct ρ') => mWhile n t s ρ'
      | some (.bk ρ') => some (.nx ρ')
      | o => o)
    | false => some (.nx ρ)
theorem s_while (n : Nat) {t : Expr} {body : List Stmt} {mt : MT} {s : MS} {pos : Pos} (hp : PassesOwn (model X.prog X.w) X.A X.env X.xe) (ht : PT X t (tT c W mt)) (hb : PSs X body (tS c W s)) : PS X (.While t body [] pos) (tS c W (mWhile n mt s)) :=
  (ps_while hp ht hb).via fun D σ H ⟨Γ, ρ, o, er, em, p⟩ => by
    refine ⟨fun m σ H => ∃ ρ, ER c Γ σ H ρ ∧ mWhile m mt s ρ = some o, ⟨n, ρ, er, em⟩, ?_⟩
    rintro m σ H ⟨ρ, er, em⟩
    cases m with
    | zero => cases em
    | succ m =>
      refine useST er em p fun k H1 h1 s1 e1 => ?_
      cases k with
      | false =>
        cases h1
        rw [if_neg Bool.false_ne_true]
        exact p _ _ e1
      | true =>
        rw [if_pos rfl]
        dsimp only at h1
        cases e : s ρ with
        | none => rw [e] at h1; cases h1
        | some q =>
          rw [e] at h1
          refine ⟨fun σ' H' => ∃ ρ1, ER c Γ σ' H' ρ1 ∧ mWhile m mt s ρ1 = some o, fun σ' H' ⟨ρ1, e2, h2⟩ => ⟨m, Nat.lt_succ_self _, ρ1, e2, h2⟩, Γ, ρ, q, e1, e, ?_⟩
          cases q with
          | nx ρ1 => exact fun σ2 H2 e2 => ⟨ρ1, e2, h1⟩
          | ct ρ1 => exact fun σ2 H2 e2 => ⟨ρ1, e2, h1⟩
          | bk ρ1 => cases h1; exact fun σ2 H2 e2 => p _ _ e2
          | rt d => cases h1; exact p
          | er x ρ1 => cases h1; exact p
/-- e alone -/
def mDrop (m : ME) : MS := fun ρ => sE (m ρ) ρ fun _ => some (.nx ρ)
theorem s_expr {e : Expr} {m : ME} {pos : Pos} (he : PE X e (tE c W .dur m)) (hs : swapsWith e none pos.line X.env = pure false := by rfl) : PS X (.Expr e pos) (tS c W (mDrop m)) := (ps_expr he hs).via fun D σ H ⟨Γ, ρ, o, er, em, p⟩ => by
  refine useS er em p fun d v H1 h1 s1 r1 => ?_
  cases h1
  exact p _ _ r1.1
end
end DL

set_option Elab.async false
set_option linter.all false
set_option maxRecDepth 100000
set_option maxHeartbeats 2000000
set_option autoImplicit false
/-! DLf: own lists and dicts changed; stores to places; op=; unpacking. -/
/-! ### xs.extend(a tuple) -/
namespace DLS
open PySem PyProof.Rows L2
section
variable {X : Cx}
def rExtendT (K : PySem.W.Frag) : V → List V → Hp → VK → Prop := fun x vs H Q => ∃ l b xs zs, x = .ref l ∧ vs = [.ref b] ∧ H l = some (.lst xs) ∧ SqT K H b zs ∧ xs.length + zs.length ≤ sizeLine ∧ Q .non (upd H l (.lst (xs ++ zs)))
theorem mt_extendT : MtR X "list.extend" (rExtendT X.K) := by
  intro pins s σ H x vs v us Q I rx rv h
  obtain ⟨l, b, xs, zs, rfl, rfl, hH, hB, hz, q⟩ := h
  cases rx
  obtain ⟨u, rfl, ru⟩ := rv.one
  cases ru
  obtain ⟨z, its, n, r, hl, e⟩ := I.lstM hH
  obtain ⟨its2, r2, ⟨o, ho, hc, n2, hd⟩, z2⟩ := I.tuple hB
  have hl2 := r2.length
  have hsz : its.toArray.size + its2.toArray.size ≤ sizeLine := by rw [List.size_toArray, List.size_toArray]; omega
  have hlong : ¬ (!its.toArray.isEmpty && Builtin.List.listTooLong (its.toArray.size + its2.toArray.size)) = true := by
    rw [notLongL hsz, Bool.and_false]
    exact Bool.false_ne_true
  refine wpAny_call_entry PySem.F.slot_list_extend ⟨_, e, rfl⟩ PySem.F.entry_list_extend ?_ (PySem.F.args_list_extend_2 _ _)
  show wpAny _ _ (Builtin.List.listExtendWith (.ref l) (.ref b) .none) _ _ s
  unfold Builtin.List.listExtendWith
  refine wpAny_bind (wpAny_typeOf (T := "tuple") ⟨o, ho, hc⟩ ?_)
  have ht : (Value.type "tuple" == Value.type "tuple") = true := by rfl
  rw [if_pos (by rw [ht]; simp)]
  refine wpAny_bind (listItems_at ho hd ?_)
  refine wpAny_bind (listItems_at e rfl ?_)
  rw [if_neg hlong]
  refine wpAny_bind (listUpdate_at e rfl ?_ (by rw [List.size_toArray]; omega) (by simp only [Array.size_append]; omega))
  have fin : EP X pins σ Q .none { s with heap := s.heap.update l (Obj.mapSeq (· ++ its2.toArray)), toks := s.toks } := ⟨.non, _, I.lset (t' := s.toks) (its' := its ++ its2) hH e (by simp) (r.append r2) (by rw [List.length_append]; omega), rfl, q⟩
  first
    | exact wpAny_pure ⟨_, rfl, fin⟩
    | exact wpAny_bind (wpAny_pure (wpAny_pure ⟨_, rfl, fin⟩))
end
end DLS
namespace DL
open PySem L2
section
variable {X : Cx} {c : Conf} {W : WX}
/-- a method that changes its own list: what it makes of the items -/
def MutOk (c : Conf) (r : V → List V → Hp → VK → Prop) (f : List D → List D → Option (List D)) : Prop := ∀ (N : Addr → Prop) (H : Hp) (a : Addr) (us : List V) (ds es ds' : List D) (vs : List V) (Q : VK), H a = some (.lst us) → Rp c N H us ds → N a → Bors c N H vs es → f ds es = some ds' →
  ∃ us', Rp c N H us' ds' ∧ ((∀ y, Q y (upd H a (.lst us'))) → r (.ref a) vs H Q)
theorem mut_step {N : Addr → Prop} {H : Hp} {a : Addr} {o : HO} (n : N a) : ∀ b u, ¬ N b → H b = some u → (upd H a o) b = some u ∧ ¬ N b := fun b u nb q => ⟨by rw [upd_ne (fun z => nb (by subst z; exact n))]; exact q, nb⟩
def mMut (i : Nat) (f : List D → List D → Option (List D)) (l : MA) : MS := fun ρ => match ρ[i]? with
  | some (some (.lst ds, true)) => sE (l ρ) ρ fun es => (f ds es).map fun ds' => .nx (ρ.set i (some (.lst ds', true)))
  | _ => none
theorem useSB {m : MA} {f : List D → Option Out} {o : Out} {Γ : Gam} {σ : L2.St} {ρ : Ro} {H : Hp} {Dd : Ends} {Q : List V → Hp → Prop} (er : ER c Γ σ H ρ) (h : sE (m ρ) ρ f = some o) (p : SPost c W Γ Dd o)
    (kk : ∀ ds vs H1, f ds = some o → Same H H1 → ER c Γ σ H1 ρ → Bors c (NN Γ σ ρ) H1 vs ds → Q vs H1) : tBo c W m σ H Q := by
  cases e : m ρ with
  | none => rw [e] at h; cases h
  | some q =>
    rw [e] at h
    cases q with
    | error x =>
      cases h
      exact ⟨Γ, ρ, _, er, e, fun C H' e' k => p C σ H' e' k⟩
    | ok d => exact ⟨Γ, ρ, _, er, e, fun vs H1 s q r => kk d vs H1 h s q r⟩
theorem Rp.bors {N : Addr → Prop} {H : Hp} : ∀ {vs : List V} {ds : List D}, Rp c N H vs ds → Bors c N H vs ds
  | [], [], _ => .nil
  | [], _ :: _, h => by cases h
  | _ :: _, [], h => by cases h
  | v :: vs, d :: ds, h => .cons h.unc.1.bor (Rp.bors h.unc.2)
theorem mut_fin {i : Nat} {r : V → List V → Hp → VK → Prop} {f : List D → List D → Option (List D)} (hm : MutOk c r f) {D : Ends} {Γ : Gam} {ρ : Ro} {o : Out} {σ : L2.St} {H : Hp} {ds es : List DL.D} {vs : List V} (hi : ρ[i]? = some (some (.lst ds, true)))
    (e1 : ER c Γ σ H ρ) (p : SPost c W Γ D o) (h1 : ((f ds es).map fun ds' => Out.nx (ρ.set i (some (.lst ds', true)))) = some o) (b : Bors c (NN Γ σ ρ) H vs es) {a : Addr} (ha : σ[i]? = some (some (.ref a))) : r (.ref a) vs H fun _ H1 => D.nx σ H1 := by
  obtain ⟨ds', hd, rfl⟩ := Option.map_eq_some_iff.mp h1
  obtain ⟨a', ha', us, hu, ru⟩ := e1.mine i _ hi
  rw [ha] at ha'
  cases ha'
  have na : NN Γ σ ρ a := .inr ⟨i, _, hi, ha⟩
  obtain ⟨us', ru', hr⟩ := hm (NN Γ σ ρ) H a us ds es ds' vs (fun _ H1 => D.nx σ H1) hu ru na b hd
  exact hr fun _ => p _ _ (e1.mut hi ha ⟨us', upd_same, ru'.step (mut_step na)⟩)
theorem mut_ok {i : Nat} {r : V → List V → Hp → VK → Prop} {f : List D → List D → Option (List D)} {l : MA} (hm : MutOk c r f) {D : Ends} {σ : L2.St} {H : Hp} (h : tS c W (mMut i f l) D σ H) : tDrop (tBM c.K "list" r (tVar i) (tBo c W l)) D σ H := by
  obtain ⟨Γ, ρ, o, er, em, p⟩ := h
  unfold mMut at em
  split at em
  · rename_i ds hi
    obtain ⟨a, ha, us, hu, ru⟩ := er.mine i _ hi
    refine ⟨.ref a, ha, .inl ⟨rfl, us, .of hu⟩, useSB er em p fun es vs H1 h1 s1 e1 b1 => ?_⟩
    exact mut_fin hm hi e1 p h1 b1 ha
  · cases em
theorem mut0_ok {i : Nat} {r : V → List V → Hp → VK → Prop} {f : List D → List D → Option (List D)} (hm : MutOk c r f) {D : Ends} {σ : L2.St} {H : Hp} (h : tS c W (mMut i f mNil) D σ H) : tDrop (tBM0 c.K "list" r (tVar i)) D σ H := by
  obtain ⟨Γ, ρ, o, er, em, p⟩ := h
  unfold mMut at em
  split at em
  · rename_i ds hi
    obtain ⟨a, ha, us, hu, ru⟩ := er.mine i _ hi
    exact ⟨.ref a, ha, .inl ⟨rfl, us, .of hu⟩, mut_fin hm hi er p em .nil ha⟩
  · cases em
theorem A_B {es : List Expr} {l : MA} (h : PA X es (tA c W l)) : PA X es (tA c W l) := h
def fApp (ds es : List D) : Option (List D) := match es with
  | [d] => if ds.length < lim then some (ds ++ [d]) else none
  | _ => none
theorem Bors.one' {N : Addr → Prop} {H : Hp} {xs : List V} {d : D} (h : Bors c N H xs [d]) : ∃ x, xs = [x] ∧ Bor c N H x d := h.one
/-- x.append(e), e of kind dur -/
theorem app_mut {i : Nat} {m : ME} {D : Ends} {σ : L2.St} {H : Hp} (h : tS c W (mMut i fApp (mCons m mNil)) D σ H) : tDrop (tBM c.K "list" rAppend (tVar i) (tA c W (mCons m mNil))) D σ H := by
  obtain ⟨Γ, ρ, o, er, em, p⟩ := h
  unfold mMut at em
  split at em
  · rename_i ds hi
    obtain ⟨a, ha, us, hu, ru⟩ := er.mine i _ hi
    refine ⟨.ref a, ha, .inl ⟨rfl, us, .of hu⟩, useSA er em p fun es vs H1 h1 s1 e1 b1 => ?_⟩
    obtain ⟨ds', hd, rfl⟩ := Option.map_eq_some_iff.mp h1
    obtain ⟨a', ha', us1, hu1, ru1⟩ := e1.mine i _ hi
    rw [ha] at ha'
    cases ha'
    have na : NN Γ σ ρ a := .inr ⟨i, _, hi, ha⟩
    unfold fApp at hd
    split at hd
    · rename_i d
      split at hd
      · rename_i hl
        cases hd
        cases vs with
        | nil => cases b1
        | cons v vs =>
          have hv := b1.unc
          have ev : vs = [] := by have := hv.2; cases this; rfl
          subst ev
          refine ⟨a, us1, v, rfl, rfl, hu1, by rw [ru1.len]; exact lim_lt hl, p _ _ (e1.mut hi ha ⟨us1 ++ [v], upd_same, (ru1.app hv.1).step (mut_step na)⟩)⟩
      · cases hd
    · cases hd
  · cases em
section
variable {i : Nat} {x : Str} {e f : Expr} {m n : ME} {px apos cpos pos : Pos}
theorem s_append (i : Nat) (he : PE X e (tE c W .dur m)) (hN : X.N[i]? = some x := by rfl) (hv : Vis X.env.scope x := by first | exact Or.inl rfl | exact Or.inr (Or.inl rfl) | exact Or.inr (Or.inr rfl)) (hd : (x == ("__debug__" : Str)) = false := by decide)
    (hcd : (x == ("__classdict__" : Str)) = false := by decide) (hbase : attributeBase (.Name x px) "append" X.env (eval (.Name x px) X.env) = eval (.Name x px) X.env := by rfl)
    (hfew : ((backTo cpos (starEach [e] X.env)).all (fun x => !x.1) && (backToKw cpos (keywordEach [] X.env)).all (fun x => x.1.isSome)
      && decide ([e].length + ([] : List Keyword).length + (if ([] : List Keyword).isEmpty then 0 else 1) < 30)) = true := by rfl)
    (hline : (apos.endLine == cpos.line) = true := by rfl) (hs : starEach [e] X.env = (false, eval e X.env) :: starEach [] X.env := by rfl) (hplain : (backTo cpos (starEach [] X.env)).any (·.1) = false := by rfl)
    (hsw : swapsWith (.Call (.Attribute (.Name x px) "append" apos) [e] [] cpos) none pos.line X.env = pure false := by rfl) (hK : c.K = X.K := by rfl) :
    PS X (.Expr (.Call (.Attribute (.Name x px) "append" apos) [e] [] cpos) pos) (tS c W (mMut i fApp (mCons m mNil))) :=
  (ps_expr (pe_bm PySem.F.plainAttrs_list PySem.F.slot_list_append PySem.F.type_list_append mt_append (pv i hN hv hd hcd) (a_cons he a_nil hs) hbase hfew hline hs hplain) hsw).via fun D σ H h => by
    rw [← hK]
    exact app_mut h
def fExt (ds es : List D) : Option (List D) := match es with
  | [.lst zs] => if ds.length + zs.length ≤ lim then some (ds ++ zs) else none
  | [.tup zs] => if ds.length + zs.length ≤ lim then some (ds ++ zs) else none
  | _ => none
theorem mut_ext : MutOk c (fun x vs H Q => rExtend x vs H Q ∨ DLS.rExtendT c.K x vs H Q) fExt := by
  intro N H a us ds es ds' vs Q hu ru na b hd
  unfold fExt at hd
  split at hd
  · rename_i zs
    split at hd
    · rename_i hl
      cases hd
      obtain ⟨v, rfl, b', ws, rfl, hb, rw'⟩ := b.one
      exact ⟨us ++ ws, ru.app rw', fun q => .inl ⟨a, b', us, ws, rfl, rfl, hu, hb, by rw [ru.len, rw'.len]; exact lim_ok hl, q _⟩⟩
    · cases hd
  · rename_i zs
    split at hd
    · rename_i hl
      cases hd
      obtain ⟨v, rfl, bb⟩ := b.one
      obtain ⟨b', ws, rfl, _, hb, rw'⟩ := bb.tup
      exact ⟨us ++ ws, ru.app rw', fun q => .inr ⟨a, b', us, ws, rfl, rfl, hu, .of hb, by rw [ru.len, rw'.len]; exact lim_ok hl, q _⟩⟩
    · cases hd
  · cases hd
theorem s_extend (i : Nat) (he : PE X e (tE c W .bor m)) (hN : X.N[i]? = some x := by rfl) (hv : Vis X.env.scope x := by first | exact Or.inl rfl | exact Or.inr (Or.inl rfl) | exact Or.inr (Or.inr rfl)) (hd : (x == ("__debug__" : Str)) = false := by decide)
    (hcd : (x == ("__classdict__" : Str)) = false := by decide) (hbase : attributeBase (.Name x px) "extend" X.env (eval (.Name x px) X.env) = eval (.Name x px) X.env := by rfl)
    (hfew : ((backTo cpos (starEach [e] X.env)).all (fun x => !x.1) && (backToKw cpos (keywordEach [] X.env)).all (fun x => x.1.isSome)
      && decide ([e].length + ([] : List Keyword).length + (if ([] : List Keyword).isEmpty then 0 else 1) < 30)) = true := by rfl)
    (hline : (apos.endLine == cpos.line) = true := by rfl) (hs : starEach [e] X.env = (false, eval e X.env) :: starEach [] X.env := by rfl) (hplain : (backTo cpos (starEach [] X.env)).any (·.1) = false := by rfl)
    (hsw : swapsWith (.Call (.Attribute (.Name x px) "extend" apos) [e] [] cpos) none pos.line X.env = pure false := by rfl) (hK : c.K = X.K := by rfl) :
    PS X (.Expr (.Call (.Attribute (.Name x px) "extend" apos) [e] [] cpos) pos) (tS c W (mMut i fExt (mCons m mNil))) :=
  (ps_expr (pe_bm PySem.F.plainAttrs_list PySem.F.slot_list_extend PySem.F.type_list_extend (MtR.or mt_extend DLS.mt_extendT) (pv i hN hv hd hcd) (b_cons he b_nil hs) hbase hfew hline hs hplain) hsw).via fun D σ H h => by
    rw [← hK]
    exact mut_ok mut_ext h
def fIns (ds es : List D) : Option (List D) := match es with
  | [.int i, d] => if ds.length < lim ∧ 0 ≤ i ∧ i ≤ 1000000 then some (ds.take i.toNat ++ [d] ++ ds.drop i.toNat) else none
  | _ => none
/-- x.insert(i, d) -/
theorem ins_mut {i : Nat} {l : MA} {D : Ends} {σ : L2.St} {H : Hp} (h : tS c W (mMut i fIns l) D σ H) : tDrop (tBM c.K "list" (fun x vs H Q => ∃ (l : Addr) (xs : List V) (i : Int) (y : V), x = .ref l ∧ vs = [.int i, y] ∧ H l = some (.lst xs) ∧ xs.length < sizeLine ∧ 0 ≤ i ∧ i < 2 ^ 63 ∧
    Q .non (upd H l (.lst (xs.take i.toNat ++ [y] ++ xs.drop i.toNat)))) (tVar i) (tA c W l)) D σ H := by
  obtain ⟨Γ, ρ, o, er, em, p⟩ := h
  unfold mMut at em
  split at em
  · rename_i ds hi
    obtain ⟨a, ha, us, hu, ru⟩ := er.mine i _ hi
    refine ⟨.ref a, ha, .inl ⟨rfl, us, .of hu⟩, useSA er em p fun es vs H1 h1 s1 e1 b1 => ?_⟩
    obtain ⟨ds', hd, rfl⟩ := Option.map_eq_some_iff.mp h1
    obtain ⟨a', ha', us1, hu1, ru1⟩ := e1.mine i _ hi
    rw [ha] at ha'
    cases ha'
    have na : NN Γ σ ρ a := .inr ⟨i, _, hi, ha⟩
    unfold fIns at hd
    split at hd
    · rename_i k d
      split at hd
      · rename_i hl
        obtain ⟨hl, h0, h9⟩ := hl
        cases hd
        match vs, b1 with
        | [v1, v2], b1 =>
          obtain ⟨q1, q2⟩ := b1.unc
          rw [q1.of_int]
          exact ⟨a, us1, k, v2, rfl, rfl, hu1, by rw [ru1.len]; exact lim_lt hl, h0, by omega, p _ _ (e1.mut hi ha ⟨_, upd_same, (((ru1.take _).app q2).app (ru1.drop _)).step (mut_step na)⟩)⟩
        | [], b1 => cases b1
        | [_], b1 => have := b1.unc.2; cases this
        | _ :: _ :: _ :: _, b1 => have := b1.unc.2.unc.2; cases this
      · cases hd
    · cases hd
  · cases em
theorem s_insert (i : Nat) (he : PE X e (tE c W .dur m)) (hf : PE X f (tE c W .dur n)) (hN : X.N[i]? = some x := by rfl) (hv : Vis X.env.scope x := by first | exact Or.inl rfl | exact Or.inr (Or.inl rfl) | exact Or.inr (Or.inr rfl)) (hd : (x == ("__debug__" : Str)) = false := by decide)
    (hcd : (x == ("__classdict__" : Str)) = false := by decide) (hbase : attributeBase (.Name x px) "insert" X.env (eval (.Name x px) X.env) = eval (.Name x px) X.env := by rfl)
    (hfew : ((backTo cpos (starEach [e, f] X.env)).all (fun x => !x.1) && (backToKw cpos (keywordEach [] X.env)).all (fun x => x.1.isSome)
      && decide ([e, f].length + ([] : List Keyword).length + (if ([] : List Keyword).isEmpty then 0 else 1) < 30)) = true := by rfl)
    (hline : (apos.endLine == cpos.line) = true := by rfl) (hs : starEach [e, f] X.env = (false, eval e X.env) :: starEach [f] X.env := by rfl) (hs2 : starEach [f] X.env = (false, eval f X.env) :: starEach [] X.env := by rfl) (hplain : (backTo cpos (starEach [f] X.env)).any (·.1) = false := by rfl)
    (hsw : swapsWith (.Call (.Attribute (.Name x px) "insert" apos) [e, f] [] cpos) none pos.line X.env = pure false := by rfl) (hK : c.K = X.K := by rfl) :
    PS X (.Expr (.Call (.Attribute (.Name x px) "insert" apos) [e, f] [] cpos) pos) (tS c W (mMut i fIns (mCons m (mCons n mNil)))) :=
  (ps_expr (pe_bm PySem.F.plainAttrs_list PySem.F.slot_list_insert PySem.F.type_list_insert mt_insert (pv i hN hv hd hcd) (a_cons he (a_cons hf a_nil hs2) hs) hbase hfew hline hs hplain) hsw).via fun D σ H h => by
    rw [← hK]
    exact ins_mut h
/-- x.pop(i), x.pop(): what is left -/
def fPop (ds es : List D) : Option (List D) := match es with
  | [.int i] => if -1000000 ≤ i ∧ i ≤ 1000000 ∧ ds.length ≤ 1000000 then (seqIndex? i ds.length).bind fun k => if k < ds.length then some (ds.eraseIdx k) else none else none
  | [] => if ds = [] then none else some ds.dropLast
  | _ => none
end
end
end DL

set_option Elab.async false
set_option linter.all false
set_option maxRecDepth 100000
set_option maxHeartbeats 2000000
set_option autoImplicit false
/-! DLg: pop; stores to places; op=; targets; pairs of names and of places. -/
namespace DL
open PySem L2
section
variable {X : Cx} {c : Conf} {W : WX}

/-! ### pop -/
def popD (ds : List D) (i : Int) : Option (D × List D) := if -1000000 ≤ i ∧ i ≤ 1000000 then (seqIndex? i ds.length).bind fun k => (ds[k]?).map fun d => (d, ds.eraseIdx k) else none
def mPopK (i : Nat) (m : ME) (k : D → Ro → Option Out) : MS := fun ρ => match ρ[i]? with
  | some (some (.lst ds, true)) => sE (m ρ) ρ fun e => match e with
    | .int z => (popD ds z).bind fun q => k q.1 (ρ.set i (some (.lst q.2, true)))
    | _ => none
  | _ => none
def mPop0K (i : Nat) (k : D → Ro → Option Out) : MS := fun ρ => match ρ[i]? with
  | some (some (.lst ds, true)) => (popD ds (-1)).bind fun q => k q.1 (ρ.set i (some (.lst q.2, true)))
  | _ => none
theorem pop_fin {i : Nat} {Γ : Gam} {ρ : Ro} {σ : L2.St} {H : Hp} {ds : List DL.D} {z : Int} {q : D × List DL.D} (hi : ρ[i]? = some (some (.lst ds, true))) (e1 : ER c Γ σ H ρ) (h : popD ds z = some q) {a : Addr} (ha : σ[i]? = some (some (.ref a))) :
    ∃ us k y, H a = some (.lst us) ∧ us.length = ds.length ∧ -(2 ^ 63) ≤ z ∧ z < 2 ^ 63 ∧ seqIndex? z us.length = some k ∧ us[k]? = some y ∧ ds[k]? = some q.1 ∧ q.2 = ds.eraseIdx k ∧ ER c Γ σ (upd H a (.lst (us.eraseIdx k))) (ρ.set i (some (.lst q.2, true))) ∧ Re c (NN Γ σ (ρ.set i (some (.lst q.2, true)))) (upd H a (.lst (us.eraseIdx k))) y q.1 := by
  unfold popD at h
  split at h
  · rename_i hz
    obtain ⟨k, hk, h⟩ := Option.bind_eq_some_iff.mp h
    obtain ⟨d, hd, rfl⟩ := Option.map_eq_some_iff.mp h
    obtain ⟨a', ha', us, hu, ru⟩ := e1.mine i _ hi
    rw [ha] at ha'
    cases ha'
    have na : NN Γ σ ρ a := .inr ⟨i, _, hi, ha⟩
    obtain ⟨y, hy, ry⟩ := ru.get hd
    have nn : ∀ b, NN Γ σ (ρ.set i (some (.lst (ds.eraseIdx k), true))) b → NN Γ σ ρ b := fun b h => by
      rcases h with h | ⟨j, f, h1, h2⟩
      · exact .inl h
      · rcases own_set h1 with ⟨z, _, _⟩ | ⟨z, h1⟩
        · subst z; exact .inr ⟨j, _, hi, h2⟩
        · exact .inr ⟨j, f, h1, h2⟩
    exact ⟨us, k, y, hu, ru.len, by omega, by omega, by rw [ru.len]; exact hk, hy, hd, rfl, e1.mut hi ha ⟨_, upd_same, (ru.erase k).step (mut_step na)⟩, (ry.step (mut_step na)).less nn⟩
  · cases h
/-- x.pop(e) as a reading -/
def tPop (K : PySem.W.Frag) (i : Nat) (t : TA) : TE := tBM K "list" rPopAt (tVar i) t
theorem seq_last {n : Nat} {k : Nat} (h : seqIndex? (-1) n = some k) : k = n - 1 ∧ 0 < n := by
  unfold seqIndex? at h
  simp only at h
  rw [if_pos (show (-1 : Int) < 0 by omega)] at h
  split at h
  · rename_i hh
    rw [Bool.and_eq_true, decide_eq_true_eq, decide_eq_true_eq] at hh
    cases h
    omega
  · cases h
theorem erase_last {α : Type} (xs : List α) : xs.eraseIdx (xs.length - 1) = xs.dropLast := by
  rw [List.eraseIdx_eq_take_drop_succ, List.dropLast_eq_take]
  cases xs with
  | nil => rfl
  | cons x xs => simp
theorem popK_ok {i : Nat} {m : ME} {k : D → Ro → Option Out} {Γ : Gam} {ρ : Ro} {o : Out} {σ : L2.St} {H : Hp} {Dd : Ends} {Q : VK} (er : ER c Γ σ H ρ) (em : mPopK i m k ρ = some o) (p : SPost c W Γ Dd o)
    (kk : ∀ v H1 d ρ1, ER c Γ σ H1 ρ1 → Re c (NN Γ σ ρ1) H1 v d → k d ρ1 = some o → Q v H1) : tBM c.K "list" rPopAt (tVar i) (tA c W (mCons m mNil)) σ H Q := by
  unfold mPopK at em
  split at em
  · rename_i ds hi
    obtain ⟨a, ha, us, hu, ru⟩ := er.mine i _ hi
    have em' : sE ((mCons m mNil) ρ) ρ (fun es => match es with | [.int z] => (popD ds z).bind fun q => k q.1 (ρ.set i (some (.lst q.2, true))) | _ => none) = some o := by
      unfold mCons mNil
      cases e : m ρ with
      | none => rw [e] at em; cases em
      | some w =>
        rw [e] at em
        cases w with
        | error x => exact em
        | ok d =>
          cases d <;> first | (cases em; done) | exact em
    refine ⟨.ref a, ha, .inl ⟨rfl, us, .of hu⟩, useSA er em' p fun es vs H1 h1 s1 e1 b1 => ?_⟩
    split at h1
    · rename_i z
      obtain ⟨q, hq, h1⟩ := Option.bind_eq_some_iff.mp h1
      obtain ⟨us, k', y, g1, g2, g3, g4, g5, g6, g7, g8, g9, g10⟩ := pop_fin hi e1 hq ha
      match vs, b1 with
      | [v], b1 =>
        rw [Re.of_int b1]
        exact ⟨a, us, z, k', y, rfl, rfl, g1, g3, g4, g5, g6, kk _ _ _ _ g9 g10 h1⟩
      | [], b1 => cases b1
      | _ :: _ :: _, b1 => have := b1.unc.2; cases this
    · cases h1
  · cases em
theorem pop0K_ok {i : Nat} {k : D → Ro → Option Out} {Γ : Gam} {ρ : Ro} {o : Out} {σ : L2.St} {H : Hp} {Dd : Ends} {Q : VK} (er : ER c Γ σ H ρ) (em : mPop0K i k ρ = some o) (p : SPost c W Γ Dd o)
    (kk : ∀ v H1 d ρ1, ER c Γ σ H1 ρ1 → Re c (NN Γ σ ρ1) H1 v d → k d ρ1 = some o → Q v H1) : tBM0 c.K "list" rPop (tVar i) σ H Q := by
  unfold mPop0K at em
  split at em
  · rename_i ds hi
    obtain ⟨a, ha, us, hu, ru⟩ := er.mine i _ hi
    refine ⟨.ref a, ha, .inl ⟨rfl, us, .of hu⟩, ?_⟩
    obtain ⟨q, hq, h1⟩ := Option.bind_eq_some_iff.mp em
    obtain ⟨us, k', y, g1, g2, g3, g4, g5, g6, g7, g8, g9, g10⟩ := pop_fin hi er hq ha
    obtain ⟨z1, z2⟩ := seq_last g5
    subst z1
    rw [erase_last] at g9 g10
    exact ⟨a, us, y, rfl, rfl, g1, g6, kk _ _ _ _ g9 g10 h1⟩
  · cases em
section
variable {i : Nat} {x : Str} {e : Expr} {m : ME} {px apos cpos pos : Pos}
theorem pe_popAt (i : Nat) (he : PE X e (tE c W .dur m)) (hN : X.N[i]? = some x := by rfl) (hv : Vis X.env.scope x := by first | exact Or.inl rfl | exact Or.inr (Or.inl rfl) | exact Or.inr (Or.inr rfl)) (hd : (x == ("__debug__" : Str)) = false := by decide)
    (hcd : (x == ("__classdict__" : Str)) = false := by decide) (hbase : attributeBase (.Name x px) "pop" X.env (eval (.Name x px) X.env) = eval (.Name x px) X.env := by rfl)
    (hfew : ((backTo cpos (starEach [e] X.env)).all (fun x => !x.1) && (backToKw cpos (keywordEach [] X.env)).all (fun x => x.1.isSome)
      && decide ([e].length + ([] : List Keyword).length + (if ([] : List Keyword).isEmpty then 0 else 1) < 30)) = true := by rfl)
    (hline : (apos.endLine == cpos.line) = true := by rfl) (hs : starEach [e] X.env = (false, eval e X.env) :: starEach [] X.env := by rfl) (hplain : (backTo cpos (starEach [] X.env)).any (·.1) = false := by rfl) :
    PE X (.Call (.Attribute (.Name x px) "pop" apos) [e] [] cpos) (tBM X.K "list" rPopAt (tVar i) (tA c W (mCons m mNil))) :=
  pe_bm PySem.F.plainAttrs_list PySem.F.slot_list_pop PySem.F.type_list_pop mt_popAt (pv i hN hv hd hcd) (a_cons he a_nil hs) hbase hfew hline hs hplain
theorem pe_popEnd (i : Nat) (hN : X.N[i]? = some x := by rfl) (hv : Vis X.env.scope x := by first | exact Or.inl rfl | exact Or.inr (Or.inl rfl) | exact Or.inr (Or.inr rfl)) (hd : (x == ("__debug__" : Str)) = false := by decide)
    (hcd : (x == ("__classdict__" : Str)) = false := by decide) (hbase : attributeBase (.Name x px) "pop" X.env (eval (.Name x px) X.env) = eval (.Name x px) X.env := by rfl) (hline : (apos.endLine == cpos.line) = true := by rfl) :
    PE X (.Call (.Attribute (.Name x px) "pop" apos) [] [] cpos) (tBM0 X.K "list" rPop (tVar i)) :=
  pe_bm0 PySem.F.plainAttrs_list PySem.F.slot_list_pop PySem.F.type_list_pop mt_pop (pv i hN hv hd hcd) hbase hline
def kDrop : D → Ro → Option Out := fun _ ρ => some (.nx ρ)
def kSet (j : Nat) : D → Ro → Option Out := fun d ρ => some (.nx (ρ.set j (some (d, false))))
def kApp (j : Nat) : D → Ro → Option Out := fun d ρ => match ρ[j]? with
  | some (some (.lst ds, true)) => if ds.length < lim then some (.nx (ρ.set j (some (.lst (ds ++ [d]), true)))) else none
  | _ => none
def mAppPop (i j : Nat) (m : ME) : MS := fun ρ => match ρ[j]? with
  | some (some (.lst _, true)) => mPopK i m (kApp j) ρ
  | _ => none
/-- x.pop(e) alone -/
theorem s_pop (i : Nat) (h : PE X (.Call (.Attribute (.Name x px) "pop" apos) [e] [] cpos) (tBM X.K "list" rPopAt (tVar i) (tA c W (mCons m mNil))))
    (hsw : swapsWith (.Call (.Attribute (.Name x px) "pop" apos) [e] [] cpos) none pos.line X.env = pure false := by rfl) (hK : c.K = X.K := by rfl) : PS X (.Expr (.Call (.Attribute (.Name x px) "pop" apos) [e] [] cpos) pos) (tS c W (mPopK i m kDrop)) :=
  (ps_expr h hsw).via fun D σ H ⟨Γ, ρ, o, er, em, p⟩ => by
    rw [← hK]
    exact popK_ok er em p fun v H1 d ρ1 e1 r1 h1 => by cases h1; exact p _ _ e1
/-- y = x.pop(e) -/
theorem s_setPop (j : Nat) {y : Str} {py : Pos} (hN : X.N.Nodup) (h : PE X (.Call (.Attribute (.Name x px) "pop" apos) [e] [] cpos) (tBM X.K "list" rPopAt (tVar i) (tA c W (mCons m mNil))))
    (hi : X.N[j]? = some y := by rfl) (hx : Loc X.env.scope y := by first | exact Or.inl rfl | exact Or.inr rfl) (hs : swapsWith (.Call (.Attribute (.Name x px) "pop" apos) [e] [] cpos) (some (.Name y py)) pos.line X.env = pure false := by rfl)
    (hf : X.fn y = true ∨ X.env.scope.names.lookup y = some .local := by first | exact .inl rfl | exact .inr rfl) (k : fxOk c.fx j = true := by rfl) (hK : c.K = X.K := by rfl) : PS X (.Assign [.Name y py] (.Call (.Attribute (.Name x px) "pop" apos) [e] [] cpos) pos) (tS c W (mPopK i m (kSet j))) :=
  (ps_set hN hi hx h hs hf).via fun D σ H ⟨Γ, ρ, o, er, em, p⟩ => by
    rw [← hK]
    exact popK_ok er em p fun v H1 d ρ1 e1 r1 h1 => by cases h1; exact p _ _ (e1.setD r1 k)
theorem s_setPop0 (j : Nat) {y : Str} {py : Pos} (hN : X.N.Nodup) (h : PE X (.Call (.Attribute (.Name x px) "pop" apos) [] [] cpos) (tBM0 X.K "list" rPop (tVar i)))
    (hi : X.N[j]? = some y := by rfl) (hx : Loc X.env.scope y := by first | exact Or.inl rfl | exact Or.inr rfl) (hs : swapsWith (.Call (.Attribute (.Name x px) "pop" apos) [] [] cpos) (some (.Name y py)) pos.line X.env = pure false := by rfl)
    (hf : X.fn y = true ∨ X.env.scope.names.lookup y = some .local := by first | exact .inl rfl | exact .inr rfl) (k : fxOk c.fx j = true := by rfl) (hK : c.K = X.K := by rfl) : PS X (.Assign [.Name y py] (.Call (.Attribute (.Name x px) "pop" apos) [] [] cpos) pos) (tS c W (mPop0K i (kSet j))) :=
  (ps_set hN hi hx h hs hf).via fun D σ H ⟨Γ, ρ, o, er, em, p⟩ => by
    rw [← hK]
    exact pop0K_ok er em p fun v H1 d ρ1 e1 r1 h1 => by cases h1; exact p _ _ (e1.setD r1 k)
/-- y.append(x.pop(e)) -/
theorem s_appPop (j : Nat) {y : Str} {py ay cy : Pos} (h : PE X (.Call (.Attribute (.Name x px) "pop" apos) [e] [] cpos) (tBM X.K "list" rPopAt (tVar i) (tA c W (mCons m mNil))))
    (hN : X.N[j]? = some y := by rfl) (hv : Vis X.env.scope y := by first | exact Or.inl rfl | exact Or.inr (Or.inl rfl) | exact Or.inr (Or.inr rfl)) (hd : (y == ("__debug__" : Str)) = false := by decide)
    (hcd : (y == ("__classdict__" : Str)) = false := by decide) (hbase : attributeBase (.Name y py) "append" X.env (eval (.Name y py) X.env) = eval (.Name y py) X.env := by rfl)
    (hfew : ((backTo cy (starEach [.Call (.Attribute (.Name x px) "pop" apos) [e] [] cpos] X.env)).all (fun x => !x.1) && (backToKw cy (keywordEach [] X.env)).all (fun x => x.1.isSome)
      && decide (1 + ([] : List Keyword).length + (if ([] : List Keyword).isEmpty then 0 else 1) < 30)) = true := by rfl)
    (hline : (ay.endLine == cy.line) = true := by rfl) (hs : starEach [.Call (.Attribute (.Name x px) "pop" apos) [e] [] cpos] X.env = (false, eval (.Call (.Attribute (.Name x px) "pop" apos) [e] [] cpos) X.env) :: starEach [] X.env := by rfl) (hplain : (backTo cy (starEach [] X.env)).any (·.1) = false := by rfl)
    (hsw : swapsWith (.Call (.Attribute (.Name y py) "append" ay) [.Call (.Attribute (.Name x px) "pop" apos) [e] [] cpos] [] cy) none pos.line X.env = pure false := by rfl) (hK : c.K = X.K := by rfl) :
    PS X (.Expr (.Call (.Attribute (.Name y py) "append" ay) [.Call (.Attribute (.Name x px) "pop" apos) [e] [] cpos] [] cy) pos) (tS c W (mAppPop i j m)) :=
  (ps_expr (pe_bm PySem.F.plainAttrs_list PySem.F.slot_list_append PySem.F.type_list_append mt_append (pv j hN hv hd hcd) (pa_cons h pa_nil hs) hbase hfew hline hs hplain) hsw).via fun D σ H ⟨Γ, ρ, o, er, em, p⟩ => by
    rw [← hK]
    unfold mAppPop at em
    split at em
    · rename_i ds0 hj
      obtain ⟨b, hb, us, hu, ru⟩ := er.mine j _ hj
      refine ⟨.ref b, hb, .inl ⟨rfl, us, .of hu⟩, popK_ok er em p fun v H1 d ρ1 e1 r1 h1 => ?_⟩
      unfold kApp at h1
      split at h1
      · rename_i ds hj1
        split at h1
        · rename_i hl
          cases h1
          obtain ⟨b', hb', us1, hu1, ru1⟩ := e1.mine j _ hj1
          rw [hb] at hb'
          cases hb'
          have na : NN Γ σ ρ1 b := .inr ⟨j, _, hj1, hb⟩
          exact ⟨b, us1, v, rfl, rfl, hu1, by rw [ru1.len]; exact lim_lt hl, p _ _ (e1.mut hj1 hb ⟨us1 ++ [v], upd_same, (ru1.app r1).step (mut_step na)⟩)⟩
        · cases h1
      · cases h1
    · cases em
end

/-! ### stores to places -/
def rSetD : V → V → V → Hp → (Hp → Prop) → Prop := fun o y v H Q => ∃ a H', o = .ref a ∧ DPut H a y v H' ∧ Q H'
theorem set_dict (hu : X.A.units + 64 < cLine) : PSet X rSetD := by
  intro pins s σ H o i v ov iv u Q I ro ri rv h
  obtain ⟨a, H', rfl, g, q⟩ := h
  cases ro
  exact d_setItem (by omega) I g ri rv fun s' I' => ⟨H', I', q⟩
theorem _root_.L2.PSet.or {t t' : TSet} (h : PSet X t) (h' : PSet X t') : PSet X (fun o i v H Q => t o i v H Q ∨ t' o i v H Q) := by
  intro pins s σ H o i v ov iv u Q I ro ri rv q
  rcases q with q | q
  · exact h pins s σ H o i v ov iv u Q I ro ri rv q
  · exact h' pins s σ H o i v ov iv u Q I ro ri rv q
abbrev rSet2 : TSet := fun o i v H Q => rSetL o i v H Q ∨ rSetD o i v H Q
def dSet (dd k d : D) : Option D := match dd with
  | .lst ds => (match k with
    | .int j => (ixN ds.length j).map fun n => .lst (ds.set n d)
    | _ => none)
  | .dK kds => (keyD k).bind fun k => if kds.length < lim then some (.dK (ptD kds k d)) else none
  | .dT kds => (tkD k).bind fun k => if kds.length < lim then some (.dT (ptD kds k d)) else none
  | _ => none
theorem set_fin {i : Nat} {Γ : Gam} {ρ : Ro} {σ : L2.St} {H : Hp} {dd k d dd' : DL.D} (hi : ρ[i]? = some (some (dd, true))) (e1 : ER c Γ σ H ρ) (h : dSet dd k d = some dd') {a : Addr} (ha : σ[i]? = some (some (.ref a)))
    {vk v : V} (bk : Bor c (NN Γ σ ρ) H vk k) (rv : Re c (NN Γ σ ρ) H v d) {Q : Hp → Prop} (q : ∀ H', ER c Γ σ H' (ρ.set i (some (dd', true))) → (∀ b u, ¬ NN Γ σ ρ b → H b = some u → H' b = some u ∧ ¬ NN Γ σ ρ b) → Q H') : rSet2 (.ref a) vk v H Q := by
  obtain ⟨a', ha', ow⟩ := e1.mine i _ hi
  rw [ha] at ha'
  cases ha'
  have na : NN Γ σ ρ a := .inr ⟨i, _, hi, ha⟩
  unfold dSet at h
  split at h
  · rename_i ds
    split at h
    · rename_i j
      obtain ⟨n, hn, rfl⟩ := Option.map_eq_some_iff.mp h
      obtain ⟨us, hu, ru⟩ := ow
      rw [bk.int]
      exact .inl ⟨a, us, j, n, rfl, rfl, hu, by rw [ru.len]; exact hn, q _ (e1.mut hi ha ⟨_, upd_same, (ru.set n rv).step (mut_step na)⟩) (mut_step na)⟩
    · cases h
  · rename_i kds
    obtain ⟨k', hk, h⟩ := Option.bind_eq_some_iff.mp h
    split at h
    · rename_i hl
      cases h
      obtain ⟨kvs, hu, ek, ru⟩ := ow
      rw [keyD_v hk bk]
      obtain ⟨p1, p2⟩ := pt_rel ek ru k' rv
      have el : kvs.length = kds.length := by
        have := congrArg List.length ek
        simpa using this
      exact .inr ⟨a, _, rfl, .inl ⟨kvs, k', hu, rfl, by rw [el]; exact lim_lt hl, rfl⟩, q _ (e1.mut hi ha ⟨_, upd_same, p1, p2.step (mut_step na)⟩) (mut_step na)⟩
    · cases h
  · rename_i kds
    obtain ⟨k', hk, h⟩ := Option.bind_eq_some_iff.mp h
    split at h
    · rename_i hl
      cases h
      obtain ⟨kvs, hu, ek, ru⟩ := ow
      obtain ⟨b, ev, eb⟩ := tkD_v hk bk
      obtain ⟨p1, p2⟩ := pt_rel ek ru k' rv
      have el : kvs.length = kds.length := by
        have := congrArg List.length ek
        simpa using this
      exact .inr ⟨a, _, rfl, .inr ⟨kvs, k', b, hu, ev, eb, by rw [el]; exact lim_lt hl, rfl⟩, q _ (e1.mut hi ha ⟨_, upd_same, p1, p2.step (mut_step na)⟩) (mut_step na)⟩
    · cases h
  · cases h
def ownD (ρ : Ro) (i : Nat) : Option D := match ρ[i]? with
  | some (some (d, true)) => some d
  | _ => none
theorem ownD_at {ρ : Ro} {i : Nat} {d : D} (h : ownD ρ i = some d) : ρ[i]? = some (some (d, true)) := by
  unfold ownD at h
  split at h
  · cases h; assumption
  · cases h
/-- x[e] = f -/
def mSub (i : Nat) (me mf : ME) : MS := fun ρ => (ownD ρ i).bind fun dd => sE (mf ρ) ρ fun d => sE (me ρ) ρ fun k => (dSet dd k d).map fun dd' => .nx (ρ.set i (some (dd', true)))
section
variable {i : Nat} {x : Str} {e f : Expr} {me mf : ME} {px pos pos' : Pos}
theorem s_sub (i : Nat) (hu : X.A.units + 64 < cLine) (he : PE X e (tE c W .bor me)) (hf : PE X f (tE c W .dur mf)) (hN : X.N[i]? = some x := by rfl) (hv : Vis X.env.scope x := by first | exact Or.inl rfl | exact Or.inr (Or.inl rfl) | exact Or.inr (Or.inr rfl)) (hd : (x == ("__debug__" : Str)) = false := by decide)
    (hcd : (x == ("__classdict__" : Str)) = false := by decide) (hs : swapsWithSole [.Subscript (.Name x px) e pos'] f pos.line X.env = pure false := by rfl) (hw : swappedStores [.Subscript (.Name x px) e pos'] f X.env = pure none := by rfl)
    (ha : ∀ v, assign (.Subscript (.Name x px) e pos') X.env v = (do let ov ← holding [v] (eval (.Name x px) X.env); let iv ← holding [v, ov] (eval e X.env); standAt pos'; holding [v, ov, iv] (setItem ov iv v); release [v, ov, iv] []) := by intro _; rfl) :
    PS X (.Assign [.Subscript (.Name x px) e pos'] f pos) (tS c W (mSub i me mf)) :=
  (ps_asg hf (pg_sub (pv i hN hv hd hcd) he (set_list.or (set_dict hu)) ha) hs hw).via fun D σ H ⟨Γ, ρ, o, er, em, p⟩ => by
    obtain ⟨dd, hi, em⟩ := Option.bind_eq_some_iff.mp em
    have hi := ownD_at hi
    obtain ⟨a, ha, _⟩ := er.mine i _ hi
    refine useS er em p fun d v H1 h1 s1 r1 => ?_
    refine ⟨.ref a, ha, useS r1.1 h1 p fun k vk H2 h2 s2 r2 => ?_⟩
    obtain ⟨dd', hd', rfl⟩ := Option.map_eq_some_iff.mp h2
    exact set_fin hi r2.1 hd' ha r2.2 (r1.2.same s2) fun H' e' _ => p _ _ e'
/-- x[e] op= f -/
def mAugSub (i : Nat) (g : D → D → R D) (me mf : ME) : MS := fun ρ => (ownD ρ i).bind fun dd => sE (me ρ) ρ fun k => sE (dIx dd k) ρ fun old => sE (mf ρ) ρ fun d => sE (g old d) ρ fun new => (dSet dd k new).map fun dd' => .nx (ρ.set i (some (dd', true)))
def rGetL (K : PySem.W.Frag) : V → V → Hp → VK → Prop := fun o i H Q => ∃ p xs k v, o = .ref p ∧ i = .int k ∧ H p = some (.lst xs) ∧ L2.atI xs k = some v ∧ Q v H
def rGetD : V → V → Hp → VK → Prop := fun o i H Q => ∃ a v, o = .ref a ∧ DGet H a i (some v) ∧ Q v H
theorem get_list : PGet X (rGetL X.K) := by
  intro pins s σ H o i ov iv Q I ro ri h
  obtain ⟨p, xs, k, v, rfl, rfl, hp, hk, q⟩ := h
  cases ro
  obtain ⟨t, rfl⟩ := ri
  obtain ⟨its, r, pl, hz⟩ := I.list (.of hp)
  obtain ⟨j, h1, h2, h3, h4, h5⟩ := atI_get hk
  obtain ⟨w, ew, rw'⟩ := r.get h2
  have hl := r.length
  have hn := line63
  have fin : EP X pins σ Q w s := ⟨v, H, I, rw', q⟩
  by_cases h0 : 0 ≤ k
  · have hj : k.toNat = j := by
      rw [seqIndex_of h0 h5] at h1
      exact Option.some.inj h1
    exact wpAny_getItem_list pl.isList h0 (by omega) (by rw [hj]; simpa using ew) fin
  · have hj : (k + (its.toArray.size : Int)).toNat = j := by
      rw [seqIndex_neg (by omega) h4] at h1
      rw [List.size_toArray, ← hl]
      exact Option.some.inj h1
    exact wpAny_getItem_list_neg pl.isList (by omega) (by rw [List.size_toArray]; omega) (by omega) (by rw [hj]; simpa using ew) fin
theorem get_dict (hu : X.A.units + 64 < cLine) : PGet X rGetD := by
  intro pins s σ H o i ov iv Q I ro ri h
  obtain ⟨a, v, rfl, g, q⟩ := h
  cases ro
  exact d_getItem (by omega) I g ri fun w' s3 I3 rw' => ⟨v, H, I3, rw', q⟩
theorem _root_.L2.PGet.or {t t' : V → V → Hp → VK → Prop} (h : PGet X t) (h' : PGet X t') : PGet X (fun o i H Q => t o i H Q ∨ t' o i H Q) := by
  intro pins s σ H o i ov iv Q I ro ri q
  rcases q with q | q
  · exact h pins s σ H o i ov iv Q I ro ri q
  · exact h' pins s σ H o i ov iv Q I ro ri q
theorem s_augSub (i : Nat) {op : Operator} {r : R2} {g : D → D → R D} (hu : X.A.units + 64 < cLine) (ho : OpR X (inplaceOp op) r) (hr : R2Ok c W .dur r g) (he : PE X e (tE c W .bor me)) (hf : PE X f (tE c W .bor mf)) (hN : X.N[i]? = some x := by rfl) (hv : Vis X.env.scope x := by first | exact Or.inl rfl | exact Or.inr (Or.inl rfl) | exact Or.inr (Or.inr rfl)) (hd : (x == ("__debug__" : Str)) = false := by decide)
    (hcd : (x == ("__classdict__" : Str)) = false := by decide) (ha : ∀ ov iv new, augStore e ov iv new = (do holding [new, ov, iv] (setItem ov iv new); release [new, ov, iv] []; pure .next) := by intros; rfl) :
    PS X (.AugAssign (.Subscript (.Name x px) e pos') op f pos) (tS c W (mAugSub i g me mf)) :=
  (ps_augS (pv i hN hv hd hcd) he (get_list.or (get_dict hu)) hf ho (set_list.or (set_dict hu)) ha).via fun D σ H ⟨Γ, ρ, o, er, em, p⟩ => by
    obtain ⟨dd, hi, em⟩ := Option.bind_eq_some_iff.mp em
    have hi := ownD_at hi
    obtain ⟨a, ha, _⟩ := er.mine i _ hi
    refine ⟨.ref a, ha, useS er em p fun k vk H1 h1 s1 r1 => ?_⟩
    obtain ⟨a', ha', ow⟩ := r1.1.mine i _ hi
    rw [ha] at ha'
    cases ha'
    -- what stands there
    have rest : ∀ old vo, sE (mf ρ) ρ (fun d => sE (g old d) ρ fun new => (dSet dd k new).map fun dd' => Out.nx (ρ.set i (some (dd', true)))) = some o → Re c (NN Γ σ ρ) H1 vo old →
        tE c W .bor mf σ H1 fun y H3 => r vo y H3 fun z H4 => rSet2 (.ref a) vk z H4 fun H5 => D.nx σ H5 := fun old vo h2 ro => by
      refine useS r1.1 h2 p fun d v H2 h3 s2 r2 => ?_
      cases z : g old d with
      | none => rw [z] at h3; cases h3
      | some w =>
        rw [z] at h3
        refine hr Γ σ ρ H2 vo v old d w _ r2.1 (ro.bor.same s2) r2.2 z ?_
        cases w with
        | error x =>
          cases h3
          exact fun C H' e' k => p C σ H' e' k
        | ok new =>
          intro v3 H3 s3 r3
          obtain ⟨dd', hd', rfl⟩ := Option.map_eq_some_iff.mp h3
          exact set_fin hi r3.1 hd' ha ((r1.2.same s2).same s3) r3.2 fun H' e' _ => p _ _ e'
    cases z : dIx dd k with
    | none => rw [z] at h1; cases h1
    | some w =>
      rw [z] at h1
      have b1 := r1.2
      have own := ow
      unfold dIx at z
      split at z
      · obtain ⟨q, hq, rfl⟩ := Option.map_eq_some_iff.mp z
        obtain ⟨us, hu1, ru⟩ := ow
        obtain ⟨v, hv, rv⟩ := ru.atI hq
        rw [b1.int] at rest ⊢
        exact .inl ⟨a, us, _, v, rfl, rfl, hu1, hv, rest _ _ h1 rv⟩
      · exact ow.elim
      · exact ow.elim
      · exact ow.elim
      · obtain ⟨q, hq, rfl⟩ := Option.map_eq_some_iff.mp z
        obtain ⟨k', hk, hq⟩ := Option.bind_eq_some_iff.mp hq
        obtain ⟨kvs, hu1, ek, ru⟩ := ow
        obtain ⟨v, hv, rv⟩ := lk_some ek ru hq
        exact .inr ⟨a, v, rfl, .inl ⟨kvs, k', .inl hu1, keyD_v hk b1, hv.symm⟩, rest _ _ h1 rv⟩
      · obtain ⟨q, hq, rfl⟩ := Option.map_eq_some_iff.mp z
        obtain ⟨k', hk, hq⟩ := Option.bind_eq_some_iff.mp hq
        obtain ⟨kvs, hu1, ek, ru⟩ := ow
        obtain ⟨v, hv, rv⟩ := lk_some ek ru hq
        obtain ⟨b, ev, eb⟩ := tkD_v hk b1
        exact .inr ⟨a, v, rfl, .inr ⟨kvs, k', b, .inl hu1, ev, eb, hv.symm⟩, rest _ _ h1 rv⟩
      · cases z
end
/-- x op= e, x a name -/
def mAug (i : Nat) (g : D → D → R D) (m : ME) : MS := fun ρ => match ρ[i]? with
  | some (some (old, false)) => sE (m ρ) ρ fun d => sE (g old d) ρ fun new => some (.nx (ρ.set i (some (new, false))))
  | _ => none
theorem s_aug (i : Nat) {x : Str} {e : Expr} {m : ME} {op : Operator} {r : R2} {g : D → D → R D} {pos pos' : Pos} (hN : X.N.Nodup) (ho : OpR X (inplaceOp op) r) (hr : R2Ok c W .dur r g) (he : PE X e (tE c W .bor m)) (hi : X.N[i]? = some x := by rfl) (hx : Loc X.env.scope x := by first | exact Or.inl rfl | exact Or.inr rfl)
    (hf : X.fn x = true ∨ X.env.scope.names.lookup x = some .local := by first | exact .inl rfl | exact .inr rfl) (k : fxOk c.fx i = true := by rfl) : PS X (.AugAssign (.Name x pos') op e pos) (tS c W (mAug i g m)) :=
  (ps_aug hN hi hx he ho hf).via fun D σ H ⟨Γ, ρ, o, er, em, p⟩ => by
    unfold mAug at em
    split at em
    · rename_i old hi
      obtain ⟨vo, h0, r0⟩ := er.slot i _ hi
      refine ⟨vo, h0, useS er em p fun d v H2 h3 s2 r2 => ?_⟩
      cases z : g old d with
      | none => rw [z] at h3; cases h3
      | some w =>
        rw [z] at h3
        refine hr Γ σ ρ H2 vo v old d w _ r2.1 (r0.bor.same s2) r2.2 z ?_
        cases w with
        | error x =>
          cases h3
          exact fun C H' e' k => p C σ H' e' k
        | ok new =>
          intro v3 H3 s3 r3
          cases h3
          exact p _ _ (r3.1.setD r3.2 k)
    · cases em
/-- + and the like of op= -/
def dAddA : D → D → R D
  | .int a, .int b => ok (.int (a + b))
  | .str a, .str b => guard (a.length + b.length ≤ lim) (ok (.str (a ++ b)))
  | _, _ => none
theorem r2_addA : R2Ok c W .dur (fun x y H Q => rI0 (fun i j => .int (i + j)) x y H Q ∨ (∃ i j, x = .str i ∧ y = .str j ∧ i.length + j.length ≤ sizeLine ∧ Q (.str (i ++ j)) H)) dAddA := fun Γ σ ρ H x y d e res Q er hx hy h p => by
  cases d <;> cases e <;> first | (cases h; done) | skip
  · cases h
    rw [hx.int, hy.int]
    exact .inl ⟨_, _, rfl, rfl, fin_int p er⟩
  · obtain ⟨hl, h⟩ := guard_ok h
    cases h
    rw [hx.str, hy.str]
    exact .inr ⟨_, _, rfl, rfl, lim_ok hl, fin_str p er⟩
theorem r2_sub : R2Ok c W .dur (rI0 fun i j => .int (i - j)) dSub := fun Γ σ ρ H x y d e res Q er hx hy h p => by
  cases d <;> cases e <;> first | (cases h; done) | skip
  cases h
  rw [hx.int, hy.int]
  exact ⟨_, _, rfl, rfl, fin_int p er⟩
theorem r2_mul : R2Ok c W .dur (rI (fun i j => mulOk i j = true) fun i j => .int (i * j)) dMul := fun Γ σ ρ H x y d e res Q er hx hy h p => by
  cases d <;> cases e <;> first | (cases h; done) | skip
  obtain ⟨hl, h⟩ := guard_ok h
  cases h
  rw [hx.int, hy.int]
  exact ⟨_, _, rfl, rfl, hl, fin_int p er⟩
theorem r2_div : R2Ok c W .dur (rI CDivW fun i j => .int (i / j)) dDiv := fun Γ σ ρ H x y d e res Q er hx hy h p => by
  cases d <;> cases e <;> first | (cases h; done) | skip
  obtain ⟨hl, h⟩ := guard_ok h
  cases h
  rw [hx.int, hy.int]
  exact ⟨_, _, rfl, rfl, div_ok hl _, fin_int p er⟩
/-- what x op= e does -/
structure Aop (X : Cx) (c : Conf) (W : WX) (op : Operator) (g : D → D → R D) : Prop where
  ex : ∃ r : R2, OpR X (inplaceOp op) r ∧ R2Ok c W .dur r g
theorem g_add : Aop X c W .Add dAddA := ⟨_, iop_add.or iop_add_str, r2_addA⟩
theorem g_sub : Aop X c W .Sub dSub := ⟨_, iop_sub, r2_sub⟩
theorem g_mul : Aop X c W .Mult dMul := ⟨_, iop_mulA, r2_mul⟩
theorem g_div : Aop X c W .FloorDiv dDiv := ⟨_, iop_fdivW, r2_div⟩

/-! ### targets -/
abbrev MG := D → Ro → Option Ro
/-- what a target's reading does to the data -/
def GOk (c : Conf) (is : List Nat) (gg : TG) (g : MG) : Prop := ∀ (Γ : Gam) (σ : L2.St) (H : Hp) (ρ ρ' : Ro) (v : V) (d : D) (Q : L2.St → Hp → Prop), ER c Γ σ H ρ → Re c (NN Γ σ ρ) H v d → g d ρ = some ρ' →
    (∀ σ', ER c Γ σ' H ρ' → σ'.length = σ.length → (∀ j, j ∉ is → σ'[j]? = σ[j]? ∧ ρ'[j]? = ρ[j]?) → Q σ' H) → gg v σ H Q
/-- a target: the slots that it changes, what it does -/
structure DG (X : Cx) (c : Conf) (tg : Expr) (is : List Nat) (g : MG) : Prop where
  ex : ∃ gg : TG, PG X tg gg ∧ GOk c is gg g
def gD (i : Nat) : MG := fun d ρ => some (ρ.set i (some (d, false)))
theorem gok_name {i : Nat} (k : fxOk c.fx i = true := by rfl) : GOk c [i] (gName i) (gD i) := fun Γ σ H ρ ρ' v d Q er r h kk => by
  cases h
  refine kk _ (er.setD r k) (by simp) (fun j hj => ?_)
  have ne : i ≠ j := fun z => hj (by simp [z])
  exact ⟨List.getElem?_set_ne ne, List.getElem?_set_ne ne⟩
theorem dg_name (i : Nat) {x : Str} {pos : Pos} (hN : X.N.Nodup) (hi : X.N[i]? = some x := by rfl) (hx : Loc X.env.scope x := by first | exact Or.inl rfl | exact Or.inr rfl) (hf : X.fn x = true ∨ X.env.scope.names.lookup x = some .local := by first | exact .inl rfl | exact .inr rfl)
    (k : fxOk c.fx i = true := by rfl) : DG X c (.Name x pos) [i] (gD i) := ⟨_, pg_name hN hi hx hf, gok_name k⟩
/-- names one after the other -/
def gSets : List Nat → List D → Ro → Option Ro
  | [], [], ρ => some ρ
  | i :: is, d :: ds, ρ => gSets is ds (ρ.set i (some (d, false)))
  | _, _, _ => none
def gNames : List Nat → TGs
  | [] => gNil
  | i :: is => gCons (gName i) (gNames is)
theorem gnames_ok : ∀ {is : List Nat}, is.all (fun i => fxOk c.fx i) = true → ∀ (Γ : Gam) (σ : L2.St) (H : Hp) (ρ ρ' : Ro) (vs : List V) (ds : List D) (Q : L2.St → Hp → Prop), ER c Γ σ H ρ → Rp c (NN Γ σ ρ) H vs ds → gSets is ds ρ = some ρ' →
    (∀ σ', ER c Γ σ' H ρ' → σ'.length = σ.length → (∀ j, j ∉ is → σ'[j]? = σ[j]? ∧ ρ'[j]? = ρ[j]?) → Q σ' H) → gNames is vs σ H Q
  | [], _, Γ, σ, H, ρ, ρ', vs, [], Q, er, r, h, kk => by
    cases r
    cases h
    exact ⟨rfl, kk σ er rfl fun _ _ => ⟨rfl, rfl⟩⟩
  | [], _, _, _, _, _, _, _, _ :: _, _, _, _, h, _ => by cases h
  | _ :: _, _, _, _, _, _, _, _, [], _, _, _, h, _ => by cases h
  | i :: is, k, Γ, σ, H, ρ, ρ', [], d :: ds, Q, er, r, h, kk => by cases r
  | i :: is, k, Γ, σ, H, ρ, ρ', v :: vs, d :: ds, Q, er, r, h, kk => by
    have k' : (fxOk c.fx i && is.all fun i => fxOk c.fx i) = true := k
    rw [Bool.and_eq_true] at k'
    have nn : ∀ a, NN Γ (σ.set i (some v)) (ρ.set i (some (d, false))) a → NN Γ σ ρ a := fun a h => by
      rcases h with h | ⟨j, f, h1, h2⟩
      · exact .inl h
      · rcases own_set h1 with ⟨_, _, z⟩ | ⟨z, h1⟩
        · cases z
        · rw [List.getElem?_set_ne (Ne.symm z)] at h2
          exact .inr ⟨j, f, h1, h2⟩
    refine ⟨v, vs, rfl, gnames_ok k'.2 Γ _ H _ ρ' vs ds Q (er.setD r.unc.1 k'.1) (r.unc.2.less nn) h fun σ' e' l' o' => kk σ' e' (by rw [l']; simp) fun j hj => ?_⟩
    have h1 : j ∉ is := fun z => hj (List.mem_cons_of_mem _ z)
    have ne : i ≠ j := fun z => hj (by simp [z])
    obtain ⟨a, b⟩ := o' j h1
    exact ⟨a.trans (List.getElem?_set_ne ne), b.trans (List.getElem?_set_ne ne)⟩
def gT (is : List Nat) : MG := fun d ρ => match d with
  | .tup ds => gSets is ds ρ
  | .lst ds => gSets is ds ρ
  | _ => none
theorem gSets_len : ∀ {is : List Nat} {ds : List D} {ρ ρ' : Ro}, gSets is ds ρ = some ρ' → ds.length = is.length
  | [], [], _, _, _ => rfl
  | [], _ :: _, _, _, h => by cases h
  | _ :: _, [], _, _, h => by cases h
  | _ :: is, _ :: ds, _, _, h => by simp [gSets_len (is := is) (ds := ds) h]
/-- a tuple or a list is unpacked -/
def gTL (K : PySem.W.Frag) (is : List Nat) : TG := fun v σ H Q => gTup K is.length (gNames is) v σ H Q ∨ gLst K is.length (gNames is) v σ H Q
theorem pg_TL {es : List Expr} {is : List Nat} {k : Nat} {pos : Pos} (hc : X.calm = true) (h : PGs X es (gNames is)) (hn : (assignEach es X.env).length = is.length := by rfl) (hst : (assignEach es X.env).findIdx? (·.1) = none := by rfl) : PG X (.Tuple es k pos) (gTL X.K is) :=
  ⟨fun pins s σ H v u Q I r q => q.elim ((pg_tup hc h hn hst).run pins s σ H v u Q I r) ((pg_lst hc h hn hst).run pins s σ H v u Q I r)⟩
theorem gok_TL {is : List Nat} (k : is.all (fun i => fxOk c.fx i) = true := by rfl) : GOk c is (gTL c.K is) (gT is) := fun Γ σ H ρ ρ' v d Q er r h kk => by
  unfold gT at h
  split at h
  · obtain ⟨a, us, rfl, _, e, ru⟩ := r.of_tup
    exact .inl ⟨a, us, rfl, .of e, by rw [ru.len]; exact gSets_len h, gnames_ok k Γ σ H ρ ρ' us _ Q er ru h kk⟩
  · obtain ⟨a, us, rfl, _, e, ru⟩ := r.of_lst
    exact .inr ⟨a, us, rfl, .of e, by rw [ru.len]; exact gSets_len h, gnames_ok k Γ σ H ρ ρ' us _ Q er ru h kk⟩
  · cases h
theorem gn_nil : PGs X [] (gNames []) := pgs_nil
theorem gn_cons (i : Nat) {x : Str} {pos : Pos} {es : List Expr} {is : List Nat} (hN : X.N.Nodup) (t : PGs X es (gNames is)) (hi : X.N[i]? = some x := by rfl) (hx : Loc X.env.scope x := by first | exact Or.inl rfl | exact Or.inr rfl) (hf : X.fn x = true ∨ X.env.scope.names.lookup x = some .local := by first | exact .inl rfl | exact .inr rfl) :
    PGs X (.Name x pos :: es) (gNames (i :: is)) := pgs_cons (pg_name hN hi hx hf) t
theorem dg_tup {es : List Expr} {is : List Nat} {k : Nat} {pos : Pos} (hc : X.calm = true) (t : PGs X es (gNames is)) (hn : (assignEach es X.env).length = is.length := by rfl) (hst : (assignEach es X.env).findIdx? (·.1) = none := by rfl) (kf : is.all (fun i => fxOk c.fx i) = true := by rfl) (hK : c.K = X.K := by rfl) : DG X c (.Tuple es k pos) is (gT is) :=
  ⟨_, pg_TL hc t hn hst, by rw [← hK]; exact gok_TL kf⟩
/-- a, b = e -/
def mUnp (g : MG) (m : ME) : MS := fun ρ => sE (m ρ) ρ fun d => (g d ρ).map .nx
theorem s_unp {tg e : Expr} {is : List Nat} {g : MG} {m : ME} {pos : Pos} (hg : DG X c tg is g) (he : PE X e (tE c W .dur m)) (hs : swapsWithSole [tg] e pos.line X.env = pure false := by rfl) (hw : swappedStores [tg] e X.env = pure none := by rfl)
    (h1 : (assignEach [tg] X.env).map (·.2) = [assign tg X.env] := by rfl) : PS X (.Assign [tg] e pos) (tS c W (mUnp g m)) := by
  obtain ⟨gg, pg, hg⟩ := hg.ex
  exact (ps_asg he pg hs hw h1).via fun D σ H ⟨Γ, ρ, o, er, em, p⟩ => by
    refine useS er em p fun d v H1 h1 s1 r1 => ?_
    obtain ⟨ρ', h2, rfl⟩ := Option.map_eq_some_iff.mp h1
    exact hg Γ σ H1 ρ ρ' v d _ r1.1 r1.2 h2 fun σ' e' _ _ => p _ _ e'
/-- a, b = e, f for two local names -/
def mPar (i j : Nat) (l : MA) : MS := fun ρ => sE (l ρ) ρ fun ds => match ds with
  | [d, e] => some (.nx ((ρ.set i (some (d, false))).set j (some (e, false))))
  | _ => none
theorem s_par (i j : Nat) {x y : Str} {a b : Expr} {l : MA} {px py pt : Pos} {kt k2 pt2 pos} (hc : X.calm = true) (hN : X.N.Nodup) (ha : PA X [a, b] (tA c W l)) (hw : swappedStores [.Tuple [.Name x px, .Name y py] kt pt] (.Tuple [a, b] k2 pt2) X.env = pure (some [x, y])) (hi : X.N[i]? = some x := by rfl) (hj : X.N[j]? = some y := by rfl) (hij : i ≠ j := by decide)
    (hx : X.env.scope.names.lookup x = some .local := by rfl) (hy : X.env.scope.names.lookup y = some .local := by rfl)
    (hs : swapsWithSole [.Tuple [.Name x px, .Name y py] kt pt] (.Tuple [a, b] k2 pt2) pos.line X.env = pure false := by rfl) (k : fxOk c.fx i = true := by rfl) (k' : fxOk c.fx j = true := by rfl) :
    PS X (.Assign [.Tuple [.Name x px, .Name y py] kt pt] (.Tuple [a, b] k2 pt2) pos) (tS c W (mPar i j l)) :=
  (ps_par hc hN hi hj hij hx hy ha hw hs).via fun D σ H ⟨Γ, ρ, o, er, em, p⟩ => by
    refine useSA er em p fun ds vs H1 h1 s1 e1 r1 => ?_
    split at h1
    · rename_i d e
      cases h1
      match vs, r1 with
      | [v, w], r1 =>
        refine ⟨v, w, rfl, p _ _ (ER.setD (e1.setD r1.unc.1 k) (Rp.less (fun a h => ?_) r1.unc.2) k')⟩
        rcases h with h | ⟨j', f, h1, h2⟩
        · exact .inl h
        · rcases own_set h1 with ⟨_, _, z⟩ | ⟨z, h1⟩
          · cases z
          · rw [List.getElem?_set_ne (Ne.symm z)] at h2
            exact .inr ⟨j', f, h1, h2⟩
      | [], r1 => cases r1
      | [_], r1 => have := r1.unc.2; cases this
      | _ :: _ :: _ :: _, r1 => have := r1.unc.2.unc.2; cases this
    · cases h1
/-- x[e1], x[e2] = f1, f2 -/
def mSwap (i : Nat) (m1 m2 : ME) (l : MA) : MS := fun ρ => (ownD ρ i).bind fun dd => sE (mTup l ρ) ρ fun t => match t with
  | .tup [d, e] => sE (m1 ρ) ρ fun k => (dSet dd k d).bind fun dd1 => sE (m2 (ρ.set i (some (dd1, true)))) (ρ.set i (some (dd1, true))) fun k2 => (dSet dd1 k2 e).map fun dd2 => .nx (ρ.set i (some (dd2, true)))
  | _ => none
theorem s_swap (i : Nat) {x : Str} {e1 e2 f1 f2 : Expr} {m1 m2 : ME} {l : MA} {px px2 p1 p2 pt pt2 pos : Pos} {kt k2 : _} (hc : X.calm = true) (hu : X.A.units + 64 < cLine) (h1 : PE X e1 (tE c W .bor m1)) (h2 : PE X e2 (tE c W .bor m2)) (hf : PA X [f1, f2] (tA c W l))
    (hN : X.N[i]? = some x := by rfl) (hv : Vis X.env.scope x := by first | exact Or.inl rfl | exact Or.inr (Or.inl rfl) | exact Or.inr (Or.inr rfl)) (hd : (x == ("__debug__" : Str)) = false := by decide) (hcd : (x == ("__classdict__" : Str)) = false := by decide)
    (hs : swapsWithSole [.Tuple [.Subscript (.Name x px) e1 p1, .Subscript (.Name x px2) e2 p2] kt pt] (.Tuple [f1, f2] k2 pt2) pos.line X.env = pure false := by rfl) (hw : swappedStores [.Tuple [.Subscript (.Name x px) e1 p1, .Subscript (.Name x px2) e2 p2] kt pt] (.Tuple [f1, f2] k2 pt2) X.env = pure none := by rfl)
    (ha1 : ∀ v, assign (.Subscript (.Name x px) e1 p1) X.env v = (do let ov ← holding [v] (eval (.Name x px) X.env); let iv ← holding [v, ov] (eval e1 X.env); standAt p1; holding [v, ov, iv] (setItem ov iv v); release [v, ov, iv] []) := by intro _; rfl)
    (ha2 : ∀ v, assign (.Subscript (.Name x px2) e2 p2) X.env v = (do let ov ← holding [v] (eval (.Name x px2) X.env); let iv ← holding [v, ov] (eval e2 X.env); standAt p2; holding [v, ov, iv] (setItem ov iv v); release [v, ov, iv] []) := by intro _; rfl)
    (hn : (assignEach [.Subscript (.Name x px) e1 p1, .Subscript (.Name x px2) e2 p2] X.env).length = 2 := by rfl) (hst : (assignEach [.Subscript (.Name x px) e1 p1, .Subscript (.Name x px2) e2 p2] X.env).findIdx? (·.1) = none := by rfl) (hK : c.K = X.K := by rfl) :
    PS X (.Assign [.Tuple [.Subscript (.Name x px) e1 p1, .Subscript (.Name x px2) e2 p2] kt pt] (.Tuple [f1, f2] k2 pt2) pos) (tS c W (mSwap i m1 m2 l)) :=
  (ps_asg (d_tup hf) (pg_tup hc (pgs_cons (pg_sub (pv i hN hv hd hcd) h1 (set_list.or (set_dict hu)) ha1) (pgs_cons (pg_sub (pv i hN hv hd hcd) h2 (set_list.or (set_dict hu)) ha2) pgs_nil)) hn hst) hs hw).via fun D σ H ⟨Γ, ρ, o, er, em, p⟩ => by
    obtain ⟨dd, hi, em⟩ := Option.bind_eq_some_iff.mp em
    have hi := ownD_at hi
    obtain ⟨a, ha, _⟩ := er.mine i _ hi
    refine useS er em p fun d v H1 q1 s1 r1 => ?_
    split at q1
    · rename_i d e
      obtain ⟨b, us, rfl, _, hb, ru⟩ := r1.2.of_tup
      rw [← hK]
      match us, ru with
      | [v, w], ru =>
        refine ⟨b, [v, w], rfl, .of hb, rfl, v, [w], rfl, ?_⟩
        refine ⟨.ref a, ha, useS r1.1 q1 p fun k vk H2 q2 s2 r2 => ?_⟩
        obtain ⟨dd1, hd1, q2⟩ := Option.bind_eq_some_iff.mp q2
        have nn : ∀ x, NN Γ σ (ρ.set i (some (dd1, true))) x → NN Γ σ ρ x := fun x h => by
          rcases h with h | ⟨j, f, g1, g2⟩
          · exact .inl h
          · rcases own_set g1 with ⟨z, _, _⟩ | ⟨z, g1⟩
            · subst z; exact .inr ⟨j, _, hi, g2⟩
            · exact .inr ⟨j, f, g1, g2⟩
        obtain ⟨a', ha', ow⟩ := r2.1.mine i _ hi
        rw [ha] at ha'
        cases ha'
        have na : NN Γ σ ρ a := .inr ⟨i, _, hi, ha⟩
        have i2 : (ρ.set i (some (dd1, true)))[i]? = some (some (dd1, true)) := by
          have hl := (List.getElem?_eq_some_iff.mp hi).1
          rw [List.getElem?_set, if_pos rfl, if_pos hl]
        refine set_fin (Q := fun H3 => _) hi r2.1 hd1 ha r2.2 (ru.unc.1.same s2) fun H3 e3 st => ?_
        have rw2 : Re c (NN Γ σ (ρ.set i (some (dd1, true)))) H3 w e := (Rp.less nn ((Rp.same s2 ru.unc.2).step st))
        refine ⟨w, [], rfl, .ref a, ha, useS e3 q2 p fun k2 vk2 H4 q4 s4 r4 => ?_⟩
        obtain ⟨dd2, hd2, rfl⟩ := Option.map_eq_some_iff.mp q4
        have es : (ρ.set i (some (dd1, true))).set i (some (dd2, true)) = ρ.set i (some (dd2, true)) := by rw [List.set_set]
        exact set_fin i2 r4.1 hd2 ha r4.2 (Rp.same s4 rw2) fun H5 e5 _ => ⟨rfl, p _ _ (by rw [← es]; exact e5)⟩
      | [], ru => cases ru
      | [_], ru => have := ru.unc.2; cases this
      | _ :: _ :: _ :: _, ru => have := ru.unc.2.unc.2; cases this
    · cases q1
end
end DL

set_option Elab.async false
set_option linter.all false
set_option maxRecDepth 100000
set_option maxHeartbeats 2000000
set_option autoImplicit false
/-! DLh: what is walked; for; list comprehensions. -/
namespace DL
open PySem L2
/-- an iterator over the values us, while P stands -/
structure Walks (J : It) (P : Hp → Prop) (us : List V) : Prop where
  go : ∀ (i : Nat) (H : Hp) (x : V), P H → us[i]? = some x → J.go i H ∧ ∀ y H2, J.yld i H y H2 → H2 = H ∧ y = x
  stop : ∀ (i : Nat) (H : Hp), P H → us.length ≤ i → J.stop i H
abbrev MI := Ro → R (List D)
def PostI (c : Conf) (W : WX) (nd : Bool) (Γ : Gam) (σ : L2.St) (ρ : Ro) (H : Hp) (Rr : It → Hp → Prop) : Except EN (List D) → Prop
  | .ok ds => ∀ (J : It) (P : Hp → Prop) (us : List V) (ra : List (Addr × HO)) (H1 : Hp), Same H H1 → ER c Γ σ H1 ρ → Rp c (NN Γ σ ρ) H1 us ds → Walks J P us → (∀ p ∈ ra, (nd = true → ¬ NN Γ σ ρ p.1) ∧ H1 p.1 = some p.2) →
      (∀ H', (∀ p ∈ ra, H' p.1 = some p.2) → P H') → Rr J H1
  | .error x => Er c W Γ σ ρ x
def tI (c : Conf) (W : WX) (nd : Bool) (m : MI) : TI := fun σ H Rr => ∃ Γ ρ r, ER c Γ σ H ρ ∧ m ρ = some r ∧ PostI c W nd Γ σ ρ H Rr r
theorem _root_.L2.PI.via {X : Cx} {tg e : Expr} {t t' : TI} (h : PI X tg e t) (i : ∀ σ H Q, t' σ H Q → t σ H Q) : PI X tg e t' := ⟨fun pins s σ H R I q => h.run pins s σ H R I (i σ H R q)⟩
theorem _root_.L2.PI.or {X : Cx} {tg e : Expr} {t t' : TI} (h : PI X tg e t) (h' : PI X tg e t') : PI X tg e (fun σ H R => t σ H R ∨ t' σ H R) := ⟨fun pins s σ H R I q => q.elim (h.run pins s σ H R I) (h'.run pins s σ H R I)⟩
theorem walks_list {K : PySem.W.Frag} (a : Addr) (us : List V) : Walks (Itl K a) (fun H => SqL K H a us) us where
  go := fun i H x hP hx => ⟨⟨us, x, hP, hx⟩, fun y H2 ⟨e, h⟩ => ⟨e, by have := h us hP; rw [hx] at this; cases this; rfl⟩⟩
  stop := fun i H hP hl => ⟨us, hP, hl⟩
theorem walks_tup {K : PySem.W.Frag} (a : Addr) (us : List V) : Walks (Itt K a) (fun H => SqT K H a us) us where
  go := fun i H x hP hx => ⟨⟨us, x, hP, hx⟩, fun y H2 ⟨e, h⟩ => ⟨e, by have := h us hP; rw [hx] at this; cases this; rfl⟩⟩
  stop := fun i H hP hl => ⟨us, hP, hl⟩
theorem walks_rng (lo : Int) (n : Nat) : Walks (Itr lo n) (fun _ => True) ((List.range n).map fun i => V.int (lo + (i : Nat))) where
  go := fun i H x _ hx => by
    rw [List.getElem?_map] at hx
    obtain ⟨j, hj, rfl⟩ := Option.map_eq_some_iff.mp hx
    obtain ⟨hl, e⟩ := List.getElem?_eq_some_iff.mp hj
    rw [List.getElem_range] at e
    subst e
    rw [List.length_range] at hl
    exact ⟨hl, fun y H2 ⟨e, e2⟩ => ⟨e, e2⟩⟩
  stop := fun i H _ hl => by
    rw [List.length_map, List.length_range] at hl
    exact hl
section
variable {X : Cx} {c : Conf} {W : WX}
theorem PostI.err {nd : Bool} {Γ : Gam} {σ : L2.St} {ρ : Ro} {H : Hp} {Q : It → Hp → Prop} {r : Except EN (List D)} (p : PostI c W nd Γ σ ρ H Q r) : ∀ x, r = .error x → Er c W Γ σ ρ x := fun x e => by subst e; exact p
def mItems (m : ME) : MI := fun ρ => bnd (m ρ) fun d => (seqD d).map .ok
theorem Re.fzT_raw {N : Addr → Prop} {H : Hp} {v : V} {ds : List D} (h : Re c N H v (.fz true ds)) : ∃ (a : Addr) (us : List V) (ra : List (Addr × HO)), v = .ref a ∧ SqT c.K H a us ∧ Rp c N H us ds ∧ (∀ p ∈ ra, ¬ N p.1 ∧ H p.1 = some p.2) ∧ ∀ H' : Hp, (∀ p ∈ ra, H' p.1 = some p.2) → SqT c.K H' a us := by
  cases h with
  | @fzT a us _ _ _ h ru _ =>
    rcases h with ⟨n, o, _, e⟩ | h
    · exact ⟨a, us, [(a, _)], rfl, .inl (.inr ⟨o, e⟩), ru, fun p hp => by simp at hp; subst hp; exact ⟨n, e⟩, fun H' h => .inl (.inr ⟨o, h (a, _) (by simp)⟩)⟩
    · exact ⟨a, us, [], rfl, h.sq, ru, fun p hp => (by cases hp), fun H' _ => h.sq⟩
theorem Re.fzL_raw {N : Addr → Prop} {H : Hp} {v : V} {ds : List D} (h : Re c N H v (.fz false ds)) : ∃ (a : Addr) (us : List V) (ra : List (Addr × HO)), v = .ref a ∧ SqL c.K H a us ∧ Rp c N H us ds ∧ (∀ p ∈ ra, ¬ N p.1 ∧ H p.1 = some p.2) ∧ ∀ H' : Hp, (∀ p ∈ ra, H' p.1 = some p.2) → SqL c.K H' a us := by
  cases h with
  | @fzL a us _ _ _ h ru _ =>
    rcases h with ⟨n, e | ⟨o, e⟩⟩ | h
    · exact ⟨a, us, [(a, _)], rfl, .inl (.inl e), ru, fun p hp => by simp at hp; subst hp; exact ⟨n, e⟩, fun H' h => .inl (.inl (h (a, _) (by simp)))⟩
    · exact ⟨a, us, [(a, _)], rfl, .inl (.inr ⟨o, e⟩), ru, fun p hp => by simp at hp; subst hp; exact ⟨n, e⟩, fun H' h => .inl (.inr ⟨o, h (a, _) (by simp)⟩)⟩
    · exact ⟨a, us, [], rfl, .inr h, ru, fun p hp => (by cases hp), fun H' _ => .inr h⟩
/-- a list or tuple that stays -/
theorem i_dur {tg e : Expr} {m : ME} (he : PE X e (tE c W .dur m)) (hK : c.K = X.K := by rfl) : PI X tg e (tI c W true (mItems m)) := ((pi_list he).or (pi_tup he)).via fun σ H Q ⟨Γ, ρ, r, er, em, p⟩ => by
  rw [← hK]
  cases q : m ρ with
  | none =>
    have em : bnd (m ρ) _ = some r := em
    rw [q] at em; cases em
  | some w =>
    cases w with
    | error x =>
      have em : bnd (m ρ) _ = some r := em
      rw [q] at em
      cases em
      exact .inl ⟨Γ, ρ, _, er, q, p⟩
    | ok d =>
      have em : bnd (m ρ) _ = some r := em
      rw [q] at em
      obtain ⟨ds, hs, rfl⟩ := Option.map_eq_some_iff.mp em
      cases d <;> first | (cases hs; done) | skip
      · cases hs
        refine .inr ⟨Γ, ρ, _, er, q, fun v H1 s1 r1 => ?_⟩
        obtain ⟨a, us, rfl, n, e, ru⟩ := r1.2.of_tup
        exact ⟨a, rfl, ⟨us, .of e⟩, p (Itt c.K a) _ us [(a, .tup us)] H1 s1 r1.1 ru (walks_tup a us) (fun p hp => by simp at hp; subst hp; exact ⟨fun _ => n, e⟩) fun H' h => .of (h (a, .tup us) (by simp))⟩
      · cases hs
        refine .inl ⟨Γ, ρ, _, er, q, fun v H1 s1 r1 => ?_⟩
        obtain ⟨a, us, rfl, n, e, ru⟩ := r1.2.of_lst
        exact ⟨a, rfl, ⟨us, .of e⟩, p (Itl c.K a) _ us [(a, .lst us)] H1 s1 r1.1 ru (walks_list a us) (fun p hp => by simp at hp; subst hp; exact ⟨fun _ => n, e⟩) fun H' h => .of (h (a, .lst us) (by simp))⟩
      · rename_i t _
        cases hs
        cases t with
        | true =>
          refine .inr ⟨Γ, ρ, _, er, q, fun v H1 s1 r1 => ?_⟩
          obtain ⟨a, us, ra, rfl, sq, ru, h1, h2⟩ := Re.fzT_raw (c := c) r1.2
          exact ⟨a, rfl, ⟨us, sq⟩, p (Itt c.K a) _ us ra H1 s1 r1.1 ru (walks_tup a us) (fun p hp => ⟨fun _ => (h1 p hp).1, (h1 p hp).2⟩) h2⟩
        | false =>
          refine .inl ⟨Γ, ρ, _, er, q, fun v H1 s1 r1 => ?_⟩
          obtain ⟨a, us, ra, rfl, sq, ru, h1, h2⟩ := Re.fzL_raw (c := c) r1.2
          exact ⟨a, rfl, ⟨us, sq⟩, p (Itl c.K a) _ us ra H1 s1 r1.1 ru (walks_list a us) (fun p hp => ⟨fun _ => (h1 p hp).1, (h1 p hp).2⟩) h2⟩
/-- one that may belong to a name: for comprehensions alone -/
theorem i_bor {tg e : Expr} {m : ME} (he : PE X e (tE c W .bor m)) (hK : c.K = X.K := by rfl) : PI X tg e (tI c W false (mItems m)) := ((pi_list he).or (pi_tup he)).via fun σ H Q ⟨Γ, ρ, r, er, em, p⟩ => by
  rw [← hK]
  cases q : m ρ with
  | none =>
    have em : bnd (m ρ) _ = some r := em
    rw [q] at em; cases em
  | some w =>
    cases w with
    | error x =>
      have em : bnd (m ρ) _ = some r := em
      rw [q] at em
      cases em
      exact .inl ⟨Γ, ρ, _, er, q, p⟩
    | ok d =>
      have em : bnd (m ρ) _ = some r := em
      rw [q] at em
      obtain ⟨ds, hs, rfl⟩ := Option.map_eq_some_iff.mp em
      cases d <;> first | (cases hs; done) | skip
      · cases hs
        refine .inr ⟨Γ, ρ, _, er, q, fun v H1 s1 r1 => ?_⟩
        obtain ⟨a, us, rfl, n, e, ru⟩ := r1.2.tup
        exact ⟨a, rfl, ⟨us, .of e⟩, p (Itt c.K a) _ us [(a, .tup us)] H1 s1 r1.1 ru (walks_tup a us) (fun p hp => by simp at hp; subst hp; exact ⟨fun z => (by cases z), e⟩) fun H' h => .of (h (a, .tup us) (by simp))⟩
      · cases hs
        refine .inl ⟨Γ, ρ, _, er, q, fun v H1 s1 r1 => ?_⟩
        obtain ⟨a, us, rfl, e, ru⟩ := r1.2
        exact ⟨a, rfl, ⟨us, .of e⟩, p (Itl c.K a) _ us [(a, .lst us)] H1 s1 r1.1 ru (walks_list a us) (fun p hp => by simp at hp; subst hp; exact ⟨fun z => (by cases z), e⟩) fun H' h => .of (h (a, .lst us) (by simp))⟩
      · rename_i t _
        cases hs
        cases t with
        | true =>
          refine .inr ⟨Γ, ρ, _, er, q, fun v H1 s1 r1 => ?_⟩
          obtain ⟨a, us, ra, rfl, sq, ru, h1, h2⟩ := Re.fzT_raw (c := c) r1.2
          exact ⟨a, rfl, ⟨us, sq⟩, p (Itt c.K a) _ us ra H1 s1 r1.1 ru (walks_tup a us) (fun p hp => ⟨fun _ => (h1 p hp).1, (h1 p hp).2⟩) h2⟩
        | false =>
          refine .inl ⟨Γ, ρ, _, er, q, fun v H1 s1 r1 => ?_⟩
          obtain ⟨a, us, ra, rfl, sq, ru, h1, h2⟩ := Re.fzL_raw (c := c) r1.2
          exact ⟨a, rfl, ⟨us, sq⟩, p (Itl c.K a) _ us ra H1 s1 r1.1 ru (walks_list a us) (fun p hp => ⟨fun _ => (h1 p hp).1, (h1 p hp).2⟩) h2⟩
def mRgI1 (m : ME) : MI := fun ρ => bnd (m ρ) fun d => match d with
  | .int n => guard (rgOk 0 n) (ok (rgD 0 n))
  | _ => none
def mRgI2 (m n : ME) : MI := fun ρ => bnd (m ρ) fun d => bnd (n ρ) fun e => match d, e with
  | .int a, .int b => guard (rgOk a b) (ok (rgD a b))
  | _, _ => none
section
variable {tg a b : Expr} {m n : ME} {p pos : Pos} {nd : Bool}
theorem one_bor {N : Addr → Prop} {H : Hp} {vs : List V} {d : D} (h : Bors c N H vs [d]) : ∃ v, vs = [v] ∧ Bor c N H v d := h.one
theorem i_rng1 (hg : Gl X "range") (hm : X.mg "range" = none) (ha : PE X a (tE c W .bor m)) (na : starEach [a] X.env = (false, eval a X.env) :: starEach [] X.env := by rfl) (hs : starEach [a] X.env = [(false, eval a X.env)] := by rfl) : PI X tg (.Call (.Name "range" p) [a] [] pos) (tI c W nd (mRgI1 m)) :=
  (pi_range1 hg hm (b_cons ha b_nil na) hs).via fun σ H Q ⟨Γ, ρ, r, er, em, p⟩ => by
    have em' : bnd ((mCons m mNil) ρ) (fun ds => match ds with | [.int n] => guard (rgOk 0 n) (ok (rgD 0 n)) | _ => none) = some r := by
      unfold mRgI1 at em
      unfold mCons mNil
      cases e : m ρ with
      | none => rw [e] at em; cases em
      | some w =>
        rw [e] at em
        cases w with
        | error x => exact em
        | ok d => cases d <;> first | (cases em; done) | exact em
    refine useB er em' p.err fun ds vs H1 h1 s1 e1 r1 => ?_
    split at h1
    · rename_i k
      obtain ⟨hl, h1⟩ := guard_ok h1
      cases h1
      obtain ⟨v, rfl, b1⟩ := r1.one
      rw [b1.int]
      obtain ⟨l1, l2, l3, l4⟩ := hl
      have e62 : (2 : Int) ^ 62 = 4611686018427387904 := by decide
      refine ⟨k, rfl, by omega, by omega, ?_⟩
      have w := walks_rng 0 k.toNat
      have ek : (k - 0).toNat = k.toNat := by omega
      exact p (Itr 0 k.toNat) _ _ [] H1 s1 e1 (by have := rgV_rp (c := c) (N := NN Γ σ ρ) (H := H1) 0 k; unfold rgV at this; rw [ek] at this; exact this) w (fun p hp => by cases hp) fun _ _ => trivial
    · cases h1
theorem i_rng2 (hg : Gl X "range") (hm : X.mg "range" = none) (ha : PE X a (tE c W .bor m)) (hb : PE X b (tE c W .bor n)) (na : starEach [a, b] X.env = (false, eval a X.env) :: starEach [b] X.env := by rfl) (nb : starEach [b] X.env = (false, eval b X.env) :: starEach [] X.env := by rfl)
    (hs : starEach [a, b] X.env = [(false, eval a X.env), (false, eval b X.env)] := by rfl) (hs2 : starEach [b] X.env = [(false, eval b X.env)] := by rfl) : PI X tg (.Call (.Name "range" p) [a, b] [] pos) (tI c W nd (mRgI2 m n)) :=
  (pi_range2 hg hm (b_cons ha (b_cons hb b_nil nb) na) hs hs2).via fun σ H Q ⟨Γ, ρ, r, er, em, p⟩ => by
    have em' : bnd ((mCons m (mCons n mNil)) ρ) (fun ds => match ds with | [.int a, .int b] => guard (rgOk a b) (ok (rgD a b)) | _ => none) = some r := by
      unfold mRgI2 at em
      unfold mCons mNil
      cases e : m ρ with
      | none => rw [e] at em; cases em
      | some w =>
        rw [e] at em
        cases w with
        | error x => exact em
        | ok d =>
          cases e2 : n ρ with
          | none => simp only [bnd, e2] at em; cases em
          | some w2 =>
            cases w2 with
            | error x => simp only [bnd, e2] at em ⊢; exact em
            | ok d2 =>
              simp only [bnd, e2] at em ⊢
              cases d <;> cases d2 <;> first | (cases em; done) | exact em
    refine useB er em' p.err fun ds vs H1 h1 s1 e1 r1 => ?_
    split at h1
    · rename_i k k2
      obtain ⟨hl, h1⟩ := guard_ok h1
      cases h1
      obtain ⟨v, v2, rfl, b1, b2⟩ := r1.two
      rw [b1.int, b2.int]
      obtain ⟨l1, l2, l3, l4⟩ := hl
      have e62 : (2 : Int) ^ 62 = 4611686018427387904 := by decide
      exact ⟨k, k2, rfl, ⟨by omega, by omega, by omega, by omega⟩, p (Itr k (k2 - k).toNat) _ _ [] H1 s1 e1 (rgV_rp k k2) (walks_rng k _) (fun p hp => by cases hp) fun _ _ => trivial⟩
    · cases h1
end

/-! ### for -/
def forGo (g : MG) (body : MS) : List D → Ro → Option Out
  | [], ρ => some (.nx ρ)
  | d :: ds, ρ => (g d ρ).bind fun ρ1 => match body ρ1 with
    | some (.nx ρ2) => forGo g body ds ρ2
    | some (.ct ρ2) => forGo g body ds ρ2
    | some (.bk ρ2) => some (.nx ρ2)
    | o => o
def mFor (src : MI) (g : MG) (body : MS) : MS := fun ρ => sE (src ρ) ρ fun ds => forGo g body ds ρ
theorem ER.unhold {Γ : Gam} {us : List V} {ds : List D} {ra : List (Addr × HO)} {σ : L2.St} {H : Hp} {ρ : Ro} (e : ER c (Γ.hold us ds ra) σ H ρ) : ER c Γ σ H ρ where
  len := e.len
  ext := e.ext
  utr := e.utr
  held := fun p h => e.held p (List.mem_cons_of_mem _ h)
  raw := fun p h => e.raw p (List.mem_append_right _ h)
  fx := e.fx
  own := e.own
  dis := e.dis
  slot := e.slot
  mine := e.mine
theorem ER.hold {Γ : Gam} {us : List V} {ds : List D} {ra : List (Addr × HO)} {σ : L2.St} {H : Hp} {ρ : Ro} (e : ER c Γ σ H ρ) (r : Rp c (NN Γ σ ρ) H us ds) (q : ∀ p ∈ ra, ¬ NN Γ σ ρ p.1 ∧ H p.1 = some p.2) : ER c (Γ.hold us ds ra) σ H ρ where
  len := e.len
  ext := e.ext
  utr := e.utr
  held := fun p h => by
    rcases List.mem_cons.mp h with h | h
    · subst h; exact r
    · exact e.held p h
  raw := fun p h => by
    rcases List.mem_append.mp h with h | h
    · exact q p h
    · exact e.raw p h
  fx := e.fx
  own := e.own
  dis := e.dis
  slot := e.slot
  mine := e.mine
theorem s_for {tg iter : Expr} {body : List Stmt} {src : MI} {is : List Nat} {g : MG} {s : MS} {pos : Pos} (hp : PassesOwn (model X.prog X.w) X.A X.env X.xe) (hc : X.calm = true) (hi : PI X tg iter (tI c W true src)) (hg : DG X c tg is g) (hb : PSs X body (tS c W s))
    (hs : ∀ x, foldedSetIterable iter X.env x = pure x := by intro _; rfl) : PS X (.For tg iter body [] pos) (tS c W (mFor src g s)) := by
  obtain ⟨gg, pg, hg⟩ := hg.ex
  exact (ps_for hp hc hi pg hb hs).via fun D σ H ⟨Γ, ρ, o, er, em, p⟩ => by
    cases q : src ρ with
    | none =>
      have em : sE (src ρ) ρ _ = some o := em
      rw [q] at em; cases em
    | some w =>
      have em : sE (src ρ) ρ _ = some o := em
      rw [q] at em
      cases w with
      | error x =>
        cases em
        exact ⟨Γ, ρ, _, er, q, fun C H' e' k => p C σ H' e' k⟩
      | ok ds =>
        refine ⟨Γ, ρ, _, er, q, fun J P us ra H1 s1 e1 r1 w1 q1 st => ?_⟩
        have em : forGo g s ds ρ = some o := em
        have lu := r1.len
        refine ⟨fun i m σ H => m = ds.length - i ∧ i ≤ ds.length ∧ ∃ ρ', ER c (Γ.hold us ds ra) σ H ρ' ∧ forGo g s (ds.drop i) ρ' = some o, ⟨_, rfl, Nat.zero_le _, ρ, e1.hold r1 (fun p hp => ⟨(q1 p hp).1 rfl, (q1 p hp).2⟩), em⟩, ?_⟩
        rintro i m σ2 H2 ⟨rfl, hil, ρ2, e2, em2⟩
        have hP : P H2 := st H2 fun p hp => (e2.raw p (List.mem_append_left _ hp)).2
        by_cases hlt : i < ds.length
        · have hx : us[i]? = some us[i] := List.getElem?_eq_getElem (by rw [lu]; exact hlt)
          obtain ⟨go, yl⟩ := w1.go i H2 _ hP hx
          refine .inr ⟨go, fun σ' H' => ∃ m', m' < ds.length - i ∧ m' = ds.length - (i + 1) ∧ ∃ ρ', ER c (Γ.hold us ds ra) σ' H' ρ' ∧ forGo g s (ds.drop (i + 1)) ρ' = some o, fun σ' H' ⟨m', h1, h2, h3⟩ => ⟨m', h1, h2, hlt, h3⟩, fun x H3 y3 => ?_⟩
          obtain ⟨eH, ex⟩ := yl x H3 y3
          subst eH ex
          rw [List.drop_eq_getElem_cons hlt] at em2
          unfold forGo at em2
          obtain ⟨ρ3, hg3, em3⟩ := Option.bind_eq_some_iff.mp em2
          have hr := e2.held (us, ds) List.mem_cons_self
          refine hg (Γ.hold us ds ra) σ2 H3 ρ2 ρ3 _ _ _ e2 (hr.at_ hx (List.getElem?_eq_getElem hlt)) hg3 fun σ4 e4 _ _ => ?_
          cases eb : s ρ3 with
          | none => rw [eb] at em3; cases em3
          | some q =>
            rw [eb] at em3
            refine ⟨Γ.hold us ds ra, ρ3, q, e4, eb, ?_⟩
            cases q with
            | nx ρ5 => exact fun σ5 H5 e5 => ⟨_, by omega, rfl, ρ5, e5, em3⟩
            | ct ρ5 => exact fun σ5 H5 e5 => ⟨_, by omega, rfl, ρ5, e5, em3⟩
            | bk ρ5 => cases em3; exact fun σ5 H5 e5 => p _ _ e5.unhold
            | rt d => cases em3; exact p
            | er x ρ5 => cases em3; exact fun C σ5 H5 e5 k => p C _ _ e5.unhold k
        · have e : i = ds.length := by omega
          subst e
          rw [List.drop_length] at em2
          cases em2
          exact .inl ⟨w1.stop _ _ hP (by rw [lu]; exact Nat.le_refl _), p _ _ e2.unhold⟩

/-! ### list comprehensions -/
def wipeR (ρ : Ro) : List Nat → Ro
  | [] => ρ
  | v :: vs => (wipeR ρ vs).set v none
def noOwn (ρ : Ro) (vs : List Nat) : Bool := vs.all fun v => match ρ[v]? with
  | some (some (_, true)) => false
  | _ => true
theorem wipeR_length (ρ : Ro) : ∀ vs : List Nat, (wipeR ρ vs).length = ρ.length
  | [] => rfl
  | v :: vs => by unfold wipeR; rw [List.length_set, wipeR_length ρ vs]
theorem wipeR_some {ρ : Ro} {i : Nat} {x : D × Bool} : ∀ {vs : List Nat}, (wipeR ρ vs)[i]? = some (some x) → ρ[i]? = some (some x) ∧ i ∉ vs
  | [], h => ⟨h, by simp⟩
  | v :: vs, h => by
    unfold wipeR at h
    by_cases hi : v = i
    · subst hi
      by_cases hv : v < (wipeR ρ vs).length
      · rw [List.getElem?_set_self hv] at h; cases h
      · rw [List.getElem?_eq_none (by simpa using hv)] at h; cases h
    · rw [List.getElem?_set_ne hi] at h
      obtain ⟨h1, h2⟩ := wipeR_some h
      exact ⟨h1, by simp only [List.mem_cons, not_or]; exact ⟨fun e => hi e.symm, h2⟩⟩
theorem wipeR_out {ρ : Ro} {i : Nat} : ∀ {vs : List Nat}, i ∉ vs → (wipeR ρ vs)[i]? = ρ[i]?
  | [], _ => rfl
  | v :: vs, h => by
    unfold wipeR
    simp only [List.mem_cons, not_or] at h
    rw [List.getElem?_set_ne (Ne.symm h.1)]
    exact wipeR_out h.2
theorem wipe_set {σ σ' : L2.St} (l : σ'.length = σ.length) : ∀ {vs : List Nat}, (∀ j, j ∉ vs → σ'[j]? = σ[j]?) → wipe σ' vs = wipe σ vs := fun {vs} h => by
  apply List.ext_getElem?
  intro j
  by_cases hj : j ∈ vs
  · have z : ∀ (τ : L2.St) (ws : List Nat), j ∈ ws → (wipe τ ws)[j]? = if j < τ.length then some none else none := fun τ ws => by
      induction ws with
      | nil => intro h; cases h
      | cons w ws ih =>
        intro h
        unfold wipe
        by_cases e : w = j
        · subst e
          rw [List.getElem?_set, if_pos rfl, wipe_length]
        · rw [List.getElem?_set_ne e]
          rcases List.mem_cons.mp h with h | h
          · exact absurd h.symm e
          · exact ih h
    rw [z _ _ hj, z _ _ hj, l]
  · rw [wipe_out hj, wipe_out hj, h j hj]
theorem fx_out {l : List (Nat × V)} {σ : L2.St} {vs : List Nat} (h : ∀ p ∈ l, σ[p.1]? = some (some p.2)) (k : vs.all (fun v => fxOk l v) = true) : ∀ p ∈ l, (wipe σ vs)[p.1]? = some (some p.2) := fun p hp => by
  have : p.1 ∉ vs := fun z => by
    have := List.all_eq_true.mp k _ z
    have := List.all_eq_true.mp this p hp
    simp at this
  rw [wipe_out this]
  exact h p hp
theorem ER.wipe {Γ : Gam} {σ : L2.St} {H : Hp} {ρ : Ro} {vs : List Nat} (e : ER c Γ σ H ρ) (k : vs.all (fun v => fxOk c.fx v) = true) : ER c Γ (L2.wipe σ vs) H (wipeR ρ vs) := by
  have nn : ∀ a, NN Γ (L2.wipe σ vs) (wipeR ρ vs) a → NN Γ σ ρ a := fun a h => by
    rcases h with h | ⟨j, f, h1, h2⟩
    · exact .inl h
    · exact .inr ⟨j, f, (wipeR_some h1).1, (wipe_some h2).1⟩
  have st : ∀ a o, ¬ NN Γ σ ρ a → H a = some o → H a = some o ∧ ¬ NN Γ (L2.wipe σ vs) (wipeR ρ vs) a := fun a o n q => ⟨q, fun z => n (nn a z)⟩
  refine { len := by rw [wipeR_length, wipe_length, e.len], ext := e.ext, utr := e.utr, held := fun p h => (e.held p h).step st, raw := fun p h => ⟨fun z => (e.raw p h).1 (nn _ z), (e.raw p h).2⟩, fx := fx_out e.fx k, own := ?_, dis := ?_, slot := ?_, mine := ?_ }
  · exact fun i d a h1 h2 => e.own i d a (wipeR_some h1).1 (wipe_some h2).1
  · intro i j d f a ne h1 h2 h3 h4
    exact e.dis i j d f a ne (wipeR_some h1).1 (wipeR_some h2).1 (wipe_some h3).1 (wipe_some h4).1
  · intro i d h
    obtain ⟨h1, h2⟩ := wipeR_some h
    obtain ⟨v, h3, h4⟩ := e.slot i d h1
    exact ⟨v, by rw [wipe_out h2]; exact h3, h4.step st⟩
  · intro i d h
    obtain ⟨h1, h2⟩ := wipeR_some h
    obtain ⟨v, h3, h4⟩ := e.mine i d h1
    exact ⟨v, by rw [wipe_out h2]; exact h3, h4.step (fun _ q => q) st⟩
def lcGo (g : MG) (tt : MT) (me : ME) (ρ : Ro) : List D → Option (List D)
  | [] => some []
  | d :: ds => (g d ρ).bind fun ρ1 => match tt ρ1 with
    | some (.ok true) => (match me ρ1 with
      | some (.ok y) => (lcGo g tt me ρ ds).map (y :: ·)
      | _ => none)
    | some (.ok false) => lcGo g tt me ρ ds
    | _ => none
def mLc (src : MI) (vs : List Nat) (g : MG) (tt : MT) (me : ME) : ME := fun ρ => bnd (src ρ) fun ds => guard (noOwn ρ vs = true ∧ ds.length ≤ lim) ((lcGo g tt me (wipeR ρ vs) ds).map fun ys => .ok (.lst ys))
def W0 : WX := fun _ _ _ _ => False
def mYes : MT := fun _ => ok true
theorem t_yes {X : Cx} : PTs X [] (tT c W mYes) := ⟨fun pins s σ H Q I h => pts_nil.run pins s σ H Q I (by
  obtain ⟨Γ, ρ, r, er, em, p⟩ := h
  cases em
  exact p H (Same.refl _) er)⟩
theorem NN_blk {Γ : Gam} {D : Addr} {σ σ2 : L2.St} {ρ ρ1 : Ro} {is vs : List Nat} (hi : ∀ i ∈ is, i ∈ vs) (no : noOwn ρ vs = true) (hs : ∀ j, j ∉ is → σ2[j]? = (wipe σ vs)[j]? ∧ ρ1[j]? = (wipeR ρ vs)[j]?) : ∀ a, NN (Γ.add D) σ ρ a → NN (Γ.add D) σ2 ρ1 a := fun a h => by
  rcases h with h | ⟨j, f, h1, h2⟩
  · exact .inl h
  · have nj : j ∉ vs := fun z => by
      have := List.all_eq_true.mp no j z
      rw [h1] at this
      cases this
    have nj2 : j ∉ is := fun z => nj (hi j z)
    exact .inr ⟨j, f, by rw [(hs j nj2).2, wipeR_out nj]; exact h1, by rw [(hs j nj2).1, wipe_out nj]; exact h2⟩
theorem lc_ok {src : MI} {vs is : List Nat} {g : MG} {tt : MT} {me : ME} {gg : TG} {X' : Cx} {tg : Expr} (hsub : ∀ i ∈ is, i ∈ vs) (kfx : vs.all (fun v => fxOk c.fx v) = true)
    (hg : GOk c is gg g)
    {σ : L2.St} {H : Hp} {Q : VK} (h : tE c W .own (mLc src vs g tt me) σ H Q) : tLc (tI c W false src) gg (tT c W0 tt) (tE c W0 .dur me) vs σ H Q := by
  obtain ⟨Γ, ρ, r, er, em, p⟩ := h
  have em : bnd (src ρ) _ = some r := em
  cases q : src ρ with
  | none => rw [q] at em; cases em
  | some w =>
    rw [q] at em
    cases w with
    | error x =>
      cases em
      exact ⟨Γ, ρ, _, er, q, p⟩
    | ok ds =>
      obtain ⟨⟨no, hlim⟩, em⟩ := guard_ok em
      obtain ⟨ys, hys, rfl⟩ := Option.map_eq_some_iff.mp em
      refine ⟨Γ, ρ, _, er, q, fun J P us ra H1 s1 e1 r1 w1 q1 st D hD => ?_⟩
      have lu := r1.len
      have h0 : Γ.H0 D = none := e1.ext.free hD
      have nD : ¬ NN Γ σ ρ D := fun z => e1.tracked z hD
      refine ⟨fun i m H' => m = ds.length - i ∧ i ≤ ds.length ∧ ∃ acc ys1 zs, H' D = some (.lst acc) ∧ Rp c (NN (Γ.add D) σ ρ) H' acc ys1 ∧ acc.length ≤ i ∧ Same H1 H' ∧ ER c (Γ.add D) σ H' ρ ∧ lcGo g tt me (wipeR ρ vs) (ds.drop i) = some zs ∧ ys1 ++ zs = ys,
        ⟨_, rfl, Nat.zero_le _, [], [], ys, upd_same, .nil, Nat.le_refl _, same_new hD, e1.addU hD, hys, rfl⟩, ?_⟩
      rintro i m H2 ⟨rfl, hil, acc, ys1, zs, hacc, racc, hal, s2, e2, em2, eys⟩
      have hP : P H2 := st H2 fun p hp => s2 _ _ (q1 p hp).2
      by_cases hlt : i < ds.length
      · have hx : us[i]? = some us[i] := List.getElem?_eq_getElem (by rw [lu]; exact hlt)
        obtain ⟨go, yl⟩ := w1.go i H2 _ hP hx
        refine .inr ⟨go, fun H' => ∃ acc ys1 zs, H' D = some (.lst acc) ∧ Rp c (NN (Γ.add D) σ ρ) H' acc ys1 ∧ acc.length ≤ i + 1 ∧ Same H1 H' ∧ ER c (Γ.add D) σ H' ρ ∧ lcGo g tt me (wipeR ρ vs) (ds.drop (i + 1)) = some zs ∧ ys1 ++ zs = ys,
          fun H' z => ⟨ds.length - (i + 1), by omega, rfl, hlt, z⟩, fun x H3 y3 => ?_⟩
        obtain ⟨eH, ex⟩ := yl x H3 y3
        subst eH ex
        rw [List.drop_eq_getElem_cons hlt] at em2
        unfold lcGo at em2
        obtain ⟨ρ3, hg3, em3⟩ := Option.bind_eq_some_iff.mp em2
        have ew := e2.wipe kfx
        have nnw : ∀ a, NN (Γ.add D) (wipe σ vs) (wipeR ρ vs) a → NN (Γ.add D) σ ρ a := fun a h => by
          rcases h with h | ⟨j, f, h1, h2⟩
          · exact .inl h
          · exact .inr ⟨j, f, (wipeR_some h1).1, (wipe_some h2).1⟩
        -- the item
        have ri : Re c (NN (Γ.add D) (wipe σ vs) (wipeR ρ vs)) H3 us[i] ds[i] := by
          refine Rp.step (fun a o n hq => ?_) (r1.at_ hx (List.getElem?_eq_getElem hlt))
          refine ⟨s2 a o hq, fun z => ?_⟩
          rcases nnw a z with (z | z) | z
          · exact n (.inl z)
          · subst z; rw [hD] at hq; cases hq
          · exact n (.inr z)
        refine hg (Γ.add D) (wipe σ vs) H3 (wipeR ρ vs) ρ3 _ _ _ ew ri hg3 fun σ4 e4 l4 o4 => ⟨?_, ?_⟩
        · have : wipe σ4 vs = wipe (wipe σ vs) vs := wipe_set l4 fun j hj => (o4 j fun z => hj (hsub j z)).1
          rw [this]
          exact wipe_set (wipe_length σ vs) fun j hj => wipe_out hj
        have back : ∀ a, NN (Γ.add D) σ ρ a → NN (Γ.add D) σ4 ρ3 a := NN_blk hsub no o4
        cases et : tt ρ3 with
        | none => rw [et] at em3; cases em3
        | some w =>
          rw [et] at em3
          cases w with
          | error x => cases em3
          | ok b =>
            refine ⟨Γ.add D, ρ3, _, e4, et, fun H5 s5 e5 => ?_⟩
            cases b with
            | false =>
              rw [if_neg Bool.false_ne_true]
              exact ⟨acc, ys1, zs, s5 _ _ hacc, racc.same s5, by omega, s2.trans s5, e2.same s5, em3, eys⟩
            | true =>
              rw [if_pos rfl]
              dsimp only at em3
              cases ee : me ρ3 with
              | none => rw [ee] at em3; cases em3
              | some w =>
                rw [ee] at em3
                cases w with
                | error x => cases em3
                | ok y =>
                  obtain ⟨zs', hz, rfl⟩ := Option.map_eq_some_iff.mp em3
                  refine ⟨Γ.add D, ρ3, _, e5, ee, fun v H6 s6 r6 => ⟨acc, s6 _ _ (s5 _ _ hacc), Nat.lt_of_le_of_lt hal (Nat.lt_of_lt_of_le hlt (lim_ok hlim)), acc ++ [v], ys1 ++ [y], zs', upd_same, ?_, by simp; omega, ?_, ?_, hz, by simpa using eys⟩⟩
                  · have n2 : NN (Γ.add D) σ ρ D := .inl (.inr rfl)
                    exact Rp.step (mut_step n2) (((racc.same s5).same s6).app (r6.2.less back))
                  · intro a o ha
                    rw [upd_ne (ne_of_none ha hD)]
                    exact s6 _ _ (s5 _ _ (s2 _ _ ha))
                  · -- the new list is longer: nothing else is touched
                    have e6 : ER c (Γ.add D) σ H6 ρ := (e2.same s5).same s6
                    have n2 : NN (Γ.add D) σ ρ D := .inl (.inr rfl)
                    have st' := mut_step (H := H6) (o := .lst (acc ++ [v])) n2
                    exact {
                      len := e6.len
                      ext := fun a o ha => by
                        have ne : a ≠ D := fun z => by subst z; have := h0; rw [show Γ.H0 a = some o from ha] at this; cases this
                        rw [upd_ne ne]; exact e6.ext a o ha
                      utr := fun a ha => by
                        by_cases z : a = D
                        · subst z; exact Mt.upd fun _ z => by cases z
                        · exact (e6.utr a ha).off z
                      held := fun p hp => (e6.held p hp).step st'
                      raw := fun p hp => let z := st' _ _ (e6.raw p hp).1 (e6.raw p hp).2; ⟨z.2, z.1⟩
                      fx := e6.fx
                      own := e6.own
                      dis := e6.dis
                      slot := fun j f hf => let ⟨v, h1, h2⟩ := e6.slot j f hf; ⟨v, h1, h2.step st'⟩
                      mine := fun j f hf => let ⟨b, h1, h2⟩ := e6.mine j f hf; ⟨b, h1, h2.step (fun o ho => by
                        have ne : b ≠ D := fun z => by subst z; exact (e6.own j f b hf h1).2 (.inr rfl)
                        rw [upd_ne ne]; exact ho) st'⟩ }
      · have e : i = ds.length := by omega
        subst e
        rw [List.drop_length] at em2
        cases em2
        rw [List.append_nil] at eys
        subst eys
        exact .inl ⟨w1.stop _ _ hP (by rw [lu]; exact Nat.le_refl _), p (.ref D) H2 (s1.trans s2) ⟨D, rfl, h0, nD, e2, acc, hacc, racc⟩⟩
section
variable {elt tg iter : Expr} {ifs : List Expr} {scope : Scope} {own : List (Str × Nat)} {pos : Pos} {src : MI} {is : List Nat} {g : MG} {tt : MT} {me : ME}
/-- [e for t in it if ..] as a value -/
theorem d_lc (own : List (Str × Nat)) (hc : X.calm = true) (hN : X.N.Nodup) (hi : PI X tg iter (tI c W false src)) (ok : blkC X.N X.env.scope scope own = true)
    {gg : TG} (pg : ∀ (s : Shared) (H : Hp) (C : Addr) (cl : List (Str × Addr)) (fp : List Addr), PG (X.blk s H scope (compEnvC scope cl C X.env) fp) tg gg) (hgg : GOk c is gg g)
    (ht : ∀ (s : Shared) (H : Hp) (C : Addr) (cl : List (Str × Addr)) (fp : List Addr), PTs (X.blk s H scope (compEnvC scope cl C X.env) fp) ifs (tT c W0 tt))
    (he : ∀ (s : Shared) (H : Hp) (C : Addr) (cl : List (Str × Addr)) (fp : List Addr), PE (X.blk s H scope (compEnvC scope cl C X.env) fp) elt (tE c W0 .dur me)) (hsub : ∀ i ∈ is, i ∈ own.map (·.2) := by decide)
    (kfx : (own.map (·.2)).all (fun v => fxOk c.fx v) = true := by rfl) (hs : ∀ x, foldedSetIterable iter X.env x = pure x := by intro _; rfl) :
    PE X (.ListComp elt [⟨tg, iter, ifs, 0⟩] scope pos) (tE c W .own (mLc src (own.map (·.2)) g tt me)) :=
  (pe_lc hc hN hi (blkOk_by ok) pg ht he hs).via fun σ H Q h => lc_ok (X' := X) (tg := tg) hsub kfx hgg h
/-- y = [e for t in it if ..] on one line -/
theorem s_setLc (j : Nat) {y : Str} {py spos : Pos} (own : List (Str × Nat)) (hc : X.calm = true) (hN : X.N.Nodup) (hsw : swapsWith (.ListComp elt [⟨tg, iter, ifs, 0⟩] scope pos) (some (.Name y py)) spos.line X.env = pure true)
    (hi : PI X tg iter (tI c W false src)) (ok : blkC X.N X.env.scope scope own = true)
    {gg : TG} (pg : ∀ (s : Shared) (H : Hp) (C : Addr) (cl : List (Str × Addr)) (fp : List Addr), PG (X.blk s H scope (compEnvC scope cl C X.env) fp) tg gg) (hgg : GOk c is gg g)
    (ht : ∀ (s : Shared) (H : Hp) (C : Addr) (cl : List (Str × Addr)) (fp : List Addr), PTs (X.blk s H scope (compEnvC scope cl C X.env) fp) ifs (tT c W0 tt))
    (he : ∀ (s : Shared) (H : Hp) (C : Addr) (cl : List (Str × Addr)) (fp : List Addr), PE (X.blk s H scope (compEnvC scope cl C X.env) fp) elt (tE c W0 .dur me)) (hsub : ∀ i ∈ is, i ∈ own.map (·.2) := by decide)
    (kfx : (own.map (·.2)).all (fun v => fxOk c.fx v) = true := by rfl) (hs : ∀ x, foldedSetIterable iter X.env x = pure x := by intro _; rfl) (hy : X.N[j]? = some y := by rfl) (hyl : X.env.scope.names.lookup y = some .local := by rfl) (k : fxOk c.fx j = true := by rfl) :
    PS X (.Assign [.Name y py] (.ListComp elt [⟨tg, iter, ifs, 0⟩] scope pos) spos) (tS c W (mSet j true (mLc src (own.map (·.2)) g tt me))) :=
  (ps_setLc hc hN hy hyl hsw hi (blkOk_by ok) pg ht he hs).via fun D σ H ⟨Γ, ρ, o, er, em, p⟩ => by
    refine lc_ok (X' := X) (tg := tg) hsub kfx hgg (useS er em p fun d v H1 h1 s1 r1 => ?_)
    cases h1
    obtain ⟨a, rfl, h0, na, e1, ow⟩ := r1
    exact p _ _ (ER.setO e1 h0 na ow k)
end
end
end DL

set_option Elab.async false
set_option linter.all false
set_option maxRecDepth 100000
set_option maxHeartbeats 2000000
set_option autoImplicit false
/-! DLi: defs: what they promise, how they are called; try; isinstance. -/
namespace DL
open PySem L2

/-! ### the promise of a def by a function of data -/
def SpD (c : Conf) (f : List D → R D) : Sp := fun vs H Q E => ∃ (U : Addr → Prop) (ds : List D) (r : Except EN D), (∀ a, U a → Mt H a) ∧ Rp c U H vs ds ∧ f ds = some r ∧
  (match r with
    | .ok d => ∀ v H', Same H H' → Re c U H' v d → Q v H'
    | .error x => ∀ C H', Same H H' → c.err x C → E (.ref C) none H')
/-- a body run on arguments: n names, the first of them the parameters -/
def mDef (n k : Nat) (body : MS) : List D → R D := fun ds => if ds.length = k then (match body (ds.map (fun d => some (d, false)) ++ List.replicate (n - k) none) with
    | some (.nx _) => ok .non
    | some (.rt d) => ok d
    | some (.er x _) => some (.error x)
    | _ => none) else none
section
variable {c : Conf}
theorem start_no {ds : List D} {k i : Nat} {d : D} : (ds.map (fun d => some (d, false)) ++ List.replicate k none : Ro)[i]? ≠ some (some (d, true)) := by
  rw [List.getElem?_append]
  split
  · rw [List.getElem?_map]
    cases ds[i]? with
    | none => exact fun z => by cases z
    | some e => exact fun z => by cases z
  · rw [List.getElem?_replicate]
    split <;> exact fun z => by cases z
theorem start_er {N : List Str} {U : Addr → Prop} {H : Hp} {vs : List V} {ds : List D} {k : Nat} (hfx : c.fx = []) (hk : ds.length = k) (hN : k ≤ N.length) (hU : ∀ a, U a → Mt H a) (r : Rp c U H vs ds) :
    ER c ⟨U, H, [], []⟩ (start N vs) H (ds.map (fun d => some (d, false)) ++ List.replicate (N.length - k) none) := by
  have nn : ∀ a, NN ⟨U, H, [], []⟩ (start N vs) (ds.map (fun d => some (d, false)) ++ List.replicate (N.length - k) none) a → U a := fun a h => by
    rcases h with h | ⟨i, d, h, _⟩
    · exact h
    · exact absurd h start_no
  have lv := r.len
  refine { len := ?_, ext := Same.refl _, utr := hU, held := fun p h => (by cases h), raw := fun p h => (by cases h), fx := fun p h => (by rw [hfx] at h; cases h), own := fun i d a h => absurd h start_no, dis := fun i j d e a _ h => absurd h start_no, slot := ?_, mine := fun i d h => absurd h start_no }
  · unfold L2.start
    simp only [List.length_append, List.length_map, List.length_replicate]
    omega
  · intro i d h
    rw [List.getElem?_append] at h
    split at h
    · rename_i hi
      rw [List.getElem?_map] at h
      obtain ⟨d', h1, h2⟩ := Option.map_eq_some_iff.mp h
      cases h2
      obtain ⟨v, h3, h4⟩ := r.get h1
      refine ⟨v, ?_, h4.less nn⟩
      unfold L2.start
      rw [List.getElem?_append]
      rw [List.length_map] at hi ⊢
      rw [if_pos (by omega), List.getElem?_map, h3]
      rfl
    · rw [List.getElem?_replicate] at h
      split at h <;> cases h
end
section
variable {P : Program} {w : World} {K : PySem.W.Frag} {mg : Str → Option Value} {base : Heap} {c : Conf}
/-- as Fun.okX, for whatever is let out -/
theorem okG {CX : CXT} {x qual : Str} {st : Stmt} {f : Addr} {fd : FuncData} {N ps : List Str} {k : Nat} {sp : Sp} (F : Fun K x qual st f fd) (S : FnScope N ps (defScope st)) (len : ∀ vs H Q E, sp vs H Q E → vs.length = ps.length)
    (hbody : ∀ (cdv : Value) (A : Around) (outer : List Env) (s : Shared) (H : Hp) (vs : List V) (Q : VK) (E : XK), Room k (A.deeper (PyProof.Rows.envOfC qual (defScope st) s.heap.objs.size f cdv)) → sp vs H Q E →
      ∃ t, PSs (cxOf CX P w K mg base N qual (defScope st) f cdv A outer s H E) (defBody st) t ∧ t { nx := fun _ H' => Q .non H', rt := Q } (start N vs) H) : FnOk P w K mg base CX (k + 1) f fd ps sp := by
  obtain ⟨oc, od, kV, doc, pm, an, cdv, ct, osl, rfl, lk, hcd⟩ := F.ex
  exact fn_of lk hcd S len fun A outer s H vs Q E hr hsp => hbody cdv A outer s H vs Q E hr hsp
/-- THE RULE for a def -/
theorem fn_ok {CX : CXT} {x qual : Str} {st : Stmt} {f : Addr} {fd : FuncData} {N ps : List Str} {k : Nat} {body : MS} (F : Fun K x qual st f fd) (S : FnScope N ps (defScope st)) (hfx : c.fx = []) (hps : ps.length ≤ N.length)
    (hb : ∀ (cdv : Value) (A : Around) (outer : List Env) (s : Shared) (H : Hp) (E : XK), Room k (A.deeper (PyProof.Rows.envOfC qual (defScope st) s.heap.objs.size f cdv)) →
      PSs (cxOf CX P w K mg base N qual (defScope st) f cdv A outer s H E) (defBody st) (tS c (fun cls d _ H' => E cls d H') body)) :
    FnOk P w K mg base CX (k + 1) f fd ps (SpD c (mDef N.length ps.length body)) := by
  refine okG F S (fun vs H Q E h => ?_) (fun cdv A outer s H vs Q E hr h => ⟨_, hb cdv A outer s H E hr, ?_⟩)
  · obtain ⟨U, ds, r, hU, hr, hm, _⟩ := h
    unfold mDef at hm
    split at hm
    · rw [hr.len]; assumption
    · cases hm
  · obtain ⟨U, ds, r, hU, hr, hm, q⟩ := h
    unfold mDef at hm
    split at hm
    · rename_i hl
      have e0 := start_er (N := N) hfx hl hps hU hr
      cases eb : body (ds.map (fun d => some (d, false)) ++ List.replicate (N.length - ps.length) none) with
      | none => rw [eb] at hm; cases hm
      | some o =>
        rw [eb] at hm
        refine ⟨_, _, o, e0, eb, ?_⟩
        cases o with
        | nx ρ =>
          cases hm
          exact fun σ1 H1 e1 => q .non H1 e1.ext (.non .nil)
        | rt d =>
          cases hm
          exact fun v H1 s1 r1 => q v H1 s1 r1
        | er x ρ =>
          cases hm
          exact fun C σ1 H1 e1 k => q C H1 e1.ext k
        | bk ρ => cases hm
        | ct ρ => cases hm
    · cases hm
theorem fn_eq {f : Addr} {fd : FuncData} {ps : List Str} {k : Nat} {m m' : List D → R D} (F : FnOk P w K mg base (L2.CX P w) k f fd ps (SpD c m)) (h : ∀ ds r, m' ds = some r → m ds = some r) : FnOk P w K mg base (L2.CX P w) k f fd ps (SpD c m') :=
  FnOk.imp F fun vs H Q E ⟨U, ds, r, h1, h2, h3, h4⟩ => ⟨U, ds, r, h1, h2, h ds r h3, h4⟩
end
section
variable {X : Cx} {c c0 : Conf} {W : WX}
/-- the data do not hang on the held slots -/
theorem Rp.fx {N : Addr → Prop} {H : Hp} {l : List (Nat × V)} {vs : List V} {ds : List D} (r : Rp c N H vs ds) : Rp { c with fx := l } N H vs ds := by
  induction r with
  | nil => exact .nil
  | non _ ih => exact .non ih
  | bl _ ih => exact .bl ih
  | int _ ih => exact .int ih
  | str _ ih => exact .str ih
  | tup n q _ _ i1 i2 => exact .tup n q i1 i2
  | lst n q _ _ i1 i2 => exact .lst n q i1 i2
  | fzT q _ _ i1 i2 => exact .fzT q i1 i2
  | fzL q _ _ i1 i2 => exact .fzL q i1 i2
  | dK n q e _ _ i1 i2 => exact .dK n q e i1 i2
  | dT n q e _ _ i1 i2 => exact .dT n q e i1 i2
  | obj k n q e _ _ i1 i2 => exact .obj k n q e i1 i2
  | fn k _ ih => exact .fn k ih
theorem Own.fx {N : Addr → Prop} {H : Hp} {l : List (Nat × V)} {a : Addr} {d : D} (h : Own c N H a d) : Own { c with fx := l } N H a d := by
  cases d with
  | lst es =>
    obtain ⟨us, q, r⟩ := h
    exact ⟨us, q, r.fx⟩
  | dK kds =>
    obtain ⟨kvs, q, z, r⟩ := h
    exact ⟨kvs, q, z, r.fx⟩
  | dT kds =>
    obtain ⟨kvs, q, z, r⟩ := h
    exact ⟨kvs, q, z, r.fx⟩
  | _ => exact h.elim
theorem ER.fx' {Γ : Gam} {σ : L2.St} {H : Hp} {ρ : Ro} (e : ER c Γ σ H ρ) {l : List (Nat × V)} (h : ∀ p ∈ l, σ[p.1]? = some (some p.2)) : ER { c with fx := l } Γ σ H ρ where
  len := e.len
  ext := e.ext
  utr := e.utr
  held := fun p hp => (e.held p hp).fx
  raw := e.raw
  fx := h
  own := e.own
  dis := e.dis
  slot := fun i d hi => let ⟨v, h1, h2⟩ := e.slot i d hi; ⟨v, h1, h2.fx⟩
  mine := fun i d hi => let ⟨a, h1, h2⟩ := e.mine i d hi; ⟨a, h1, h2.fx⟩

/-! ### calls -/
theorem d_call {x : Str} {k : Nat} {f : Addr} {fd : FuncData} {ps : List Str} {m : List D → R D} {e : Expr} {es : List Expr} {l : MA} {p pos : Pos} (F : FnOk X.prog X.w X.K X.mg X.base (L2.CX X.prog X.w) k f fd ps (SpD c m)) (hr : Room k X.A) (hm : X.mg x = some (.ref f)) (hk : PySem.W.keepIn X.K (.ref f) = true)
    (hb : Binds X.K fd ps []) (tk : Takes X W) (ha : PA X (e :: es) (tA c W l)) (hg : Gl X x := by rfl) (hdb : (x == ("__debug__" : Str)) = false := by decide) (he : starEach (e :: es) X.env = (false, eval e X.env) :: starEach es X.env := by rfl) (hpl : (backTo pos (starEach es X.env)).any (·.1) = false := by rfl) :
    PE X (.Call (.Name x p) (e :: es) [] pos) (tE c W .dur (mCB m l)) := (pe_callS F hr hg hm hk hb (fun σ => passAt tk σ) ha hdb he hpl).via fun σ H Q ⟨Γ, ρ, r, er, em, p⟩ => by
  refine useA er em p.err fun ds vs H1 h1 s1 e1 r1 => ⟨NN Γ σ ρ, ds, r, fun a h => e1.mt h, r1, h1, ?_⟩
  cases r with
  | ok d => exact fun v H' s2 r2 => p v H' (s1.trans s2) ⟨e1.same s2, r2⟩
  | error x => exact fun C H' s2 k => p C H' (e1.same s2) k
/-- a def of the text, by its name -/
structure FnAt (P : Program) (w : World) (K : PySem.W.Frag) (mg : Str → Option Value) (base : Heap) (c : Conf) (x : Str) (k : Nat) (ps : List Str) (m : List D → R D) : Prop where
  ex : ∃ (f : Addr) (fd : FuncData), FnOk P w K mg base (L2.CX P w) k f fd ps (SpD c m) ∧ mg x = some (.ref f) ∧ PySem.W.keepIn K (.ref f) = true ∧ Binds K fd ps []
theorem fn_at {P : Program} {w : World} {K : PySem.W.Frag} {mg : Str → Option Value} {base : Heap} {x y qual : Str} {st : Stmt} {f : Addr} {fd : FuncData} {N ps : List Str} {k : Nat} {body : MS} (F : Fun K x qual st f fd) (hm : mg y = some (.ref f)) (b : Binds K fd ps []) (S : FnScope N ps (defScope st)) (hfx : c.fx = []) (hps : ps.length ≤ N.length)
    (hb : ∀ (cdv : Value) (A : Around) (outer : List Env) (s : Shared) (H : Hp) (E : XK), Room k (A.deeper (PyProof.Rows.envOfC qual (defScope st) s.heap.objs.size f cdv)) →
      PSs (cxOf (L2.CX P w) P w K mg base N qual (defScope st) f cdv A outer s H E) (defBody st) (tS c (fun cls d _ H' => E cls d H') body)) :
    FnAt P w K mg base c y (k + 1) ps (mDef N.length ps.length body) := ⟨f, fd, fn_ok F S hfx hps hb, hm, F.kp, b⟩
theorem d_fn {x : Str} {k : Nat} {ps : List Str} {m : List D → R D} {e : Expr} {es : List Expr} {l : MA} {p pos : Pos} (G : FnAt X.prog X.w X.K X.mg X.base c x k ps m) (hr : Room k X.A)
    (tk : Takes X W) (ha : PA X (e :: es) (tA c W l)) (hg : Gl X x := by rfl) (hdb : (x == ("__debug__" : Str)) = false := by decide) (he : starEach (e :: es) X.env = (false, eval e X.env) :: starEach es X.env := by rfl) (hpl : (backTo pos (starEach es X.env)).any (·.1) = false := by rfl) :
    PE X (.Call (.Name x p) (e :: es) [] pos) (tE c W .dur (mCB m l)) := by
  obtain ⟨f, fd, F, hm, hk, hb⟩ := G.ex
  exact d_call F hr hm hk hb tk ha hg hdb he hpl
theorem tk_of {P : Program} {w : World} {K : PySem.W.Frag} {mg : Str → Option Value} {base : Heap} {N : List Str} {qual : Str} {sc : Scope} {f : Addr} {cdv : Value} {A : Around} {outer : List Env} {s : Shared} {H : Hp} {E : XK} :
    Takes (cxOf (L2.CX P w) P w K mg base N qual sc f cdv A outer s H E) (fun cls d _ H => E cls d H) := takes_of rfl rfl rfl rfl
theorem hp_of {P : Program} {w : World} {K : PySem.W.Frag} {mg : Str → Option Value} {base : Heap} {N : List Str} {qual : Str} {sc : Scope} {f : Addr} {cdv : Value} {A : Around} {outer : List Env} {s : Shared} {H : Hp} {E : XK} :
    PassesOwn (model (cxOf (L2.CX P w) P w K mg base N qual sc f cdv A outer s H E).prog (cxOf (L2.CX P w) P w K mg base N qual sc f cdv A outer s H E).w) (cxOf (L2.CX P w) P w K mg base N qual sc f cdv A outer s H E).A (cxOf (L2.CX P w) P w K mg base N qual sc f cdv A outer s H E).env (cxOf (L2.CX P w) P w K mg base N qual sc f cdv A outer s H E).xe := passes_of rfl
theorem tk0 : Takes X W0 := takes0
/-- a call whose arguments may belong to names: its answer is no thing of theirs -/
def scalD : D → Bool
  | .non => true
  | .bl _ => true
  | .int _ => true
  | .str _ => true
  | _ => false
theorem Bor.any {N : Addr → Prop} {H : Hp} {v : V} {d : D} (h : Bor c N H v d) : Re c (fun _ => False) H v d := by
  cases d with
  | lst es =>
    obtain ⟨a, us, rfl, e, r⟩ := h
    exact .lst (fun z => z) e (r.less fun _ z => z.elim) .nil
  | dK kds =>
    obtain ⟨a, kvs, rfl, e, k, r⟩ := h
    exact .dK (fun z => z) e k (r.less fun _ z => z.elim) .nil
  | dT kds =>
    obtain ⟨a, kvs, rfl, e, k, r⟩ := h
    exact .dT (fun z => z) e k (r.less fun _ z => z.elim) .nil
  | _ => exact Rp.less (fun _ z => z.elim) (show Re c N H v _ from h)
theorem Bors.any {N : Addr → Prop} {H : Hp} : ∀ {vs : List V} {ds : List D}, Bors c N H vs ds → Rp c (fun _ => False) H vs ds
  | _, _, .nil => .nil
  | _, _, .cons a b => .cons a.any (Bors.any b)
theorem scal_re {N : Addr → Prop} {H : Hp} {v : V} {d : D} (h : Re c (fun _ => False) H v d) (k : scalD d = true) : Re c N H v d := by
  cases d <;> first | (cases k; done) | skip
  · rw [h.of_non]; exact .non .nil
  · rw [h.of_bl]; exact .bl .nil
  · rw [h.of_int]; exact .int .nil
  · rw [h.of_str]; exact .str .nil
def scalR (m : List D → R D) : List D → R D := fun ds => match m ds with
  | some (.ok d) => if scalD d = true then ok d else none
  | o => o
theorem d_callB {x : Str} {k : Nat} {f : Addr} {fd : FuncData} {ps : List Str} {m : List D → R D} {e : Expr} {es : List Expr} {l : MA} {p pos : Pos} (F : FnOk X.prog X.w X.K X.mg X.base (L2.CX X.prog X.w) k f fd ps (SpD c m)) (hr : Room k X.A) (hm : X.mg x = some (.ref f)) (hk : PySem.W.keepIn X.K (.ref f) = true)
    (hb : Binds X.K fd ps []) (tk : Takes X W) (ha : PA X (e :: es) (tBo c W l)) (hg : Gl X x := by rfl) (hdb : (x == ("__debug__" : Str)) = false := by decide) (he : starEach (e :: es) X.env = (false, eval e X.env) :: starEach es X.env := by rfl) (hpl : (backTo pos (starEach es X.env)).any (·.1) = false := by rfl) :
    PE X (.Call (.Name x p) (e :: es) [] pos) (tE c W .dur (mCB (scalR m) l)) := (pe_callS F hr hg hm hk hb (fun σ => passAt tk σ) ha hdb he hpl).via fun σ H Q ⟨Γ, ρ, r, er, em, p⟩ => by
  refine useB er em p.err fun ds vs H1 h1 s1 e1 r1 => ?_
  unfold scalR at h1
  cases e : m ds with
  | none => rw [e] at h1; cases h1
  | some w =>
    rw [e] at h1
    refine ⟨fun _ => False, ds, w, fun a h => h.elim, r1.any, e, ?_⟩
    cases w with
    | ok d =>
      dsimp only at h1
      split at h1
      · rename_i hs
        cases h1
        exact fun v H' s2 r2 => p v H' (s1.trans s2) ⟨e1.same s2, scal_re r2 hs⟩
      · cases h1
    | error x =>
      cases h1
      exact fun C H' s2 k => p C H' (e1.same s2) k

theorem d_fnB {x : Str} {k : Nat} {ps : List Str} {m : List D → R D} {e : Expr} {es : List Expr} {l : MA} {p pos : Pos} (G : FnAt X.prog X.w X.K X.mg X.base c x k ps m) (hr : Room k X.A)
    (tk : Takes X W) (ha : PA X (e :: es) (tBo c W l)) (hg : Gl X x := by rfl) (hdb : (x == ("__debug__" : Str)) = false := by decide) (he : starEach (e :: es) X.env = (false, eval e X.env) :: starEach es X.env := by rfl) (hpl : (backTo pos (starEach es X.env)).any (·.1) = false := by rfl) :
    PE X (.Call (.Name x p) (e :: es) [] pos) (tE c W .dur (mCB (scalR m) l)) := by
  obtain ⟨f, fd, F, hm, hk, hb⟩ := G.ex
  exact d_callB F hr hm hk hb tk ha hg hdb he hpl

/-! ### try .. except X: suite -/
def clrO (i : Nat) : Out → Out
  | .nx ρ => .nx (ρ.set i none)
  | .bk ρ => .bk (ρ.set i none)
  | .ct ρ => .ct (ρ.set i none)
  | o => o
/-- the clause takes the errors of mt; its suite may hang on which one it is -/
def mTry (s : MS) (mt : EN → Bool) (h : EN → MS) : MS := fun ρ => match s ρ with
  | some (.er x ρ1) => if mt x = true then (match h x ρ1 with
      | some (.er _ _) => none
      | o => o) else some (.er x ρ1)
  | o => o
def mTryAs (i : Nat) (s : MS) (mt : EN → Bool) (h : EN → MS) : MS := fun ρ => match s ρ with
  | some (.er x ρ1) => if mt x = true then (match (if i < ρ1.length then h x (ρ1.set i none) else none) with
      | some (.er _ _) => none
      | some o => some (clrO i o)
      | none => none) else some (.er x ρ1)
  | o => o
/-- a suite's reading: by the error it is for -/
def tSu (c c' : Conf) (h : EN → MS) (cls : Value) (d : Option Addr) : TS := fun D σ H => ∃ x C, cls = .ref C ∧ d = none ∧ c.err x C ∧ tS c' W0 (h x) D σ H
theorem su_of {Y : Cx} {c' : Conf} {h : EN → MS} {cls : Value} {d : Option Addr} {sts : List Stmt} (hh : ∀ x C, cls = .ref C → d = none → c.err x C → PSs Y sts (tS c' W0 (h x))) : PSs Y sts (tSu c c' h cls d) := ⟨fun pins s σ H D I q => by
  obtain ⟨x, C, e1, e2, k, t⟩ := q
  exact (hh x C e1 e2 k).run pins s σ H D I t⟩
/-- what a clause says of the errors -/
def Clause (X : Cx) (c : Conf) (cc : Value) (mt : EN → Bool) : Prop := ∀ x C, c.err x C → PySem.W.exmOne X.K (.ref C) cc = some (mt x)
section
variable {x n : Str} {cc : Value} {body suite : List Stmt} {b₀ : Stmt} {np pos pos' : Pos} {s : MS} {mt : EN → Bool} {h : EN → MS}
theorem s_try (mt : EN → Bool) (hc : Names X x cc) (cl : Clause X c cc mt) (tk : Takes X W)
    (hb : ∀ (W : WX) (pn : List (Addr × Obj)) (xe : Value → Shared → Prop), Takes (X.tr pn xe) W → PassesOwn (model X.prog X.w) X.A X.env xe → PSs (X.tr pn xe) body (tS c W s))
    (hsu : ∀ (a : Addr) (oe : Obj) (cls : Value) (d : Option Addr) (pn : List (Addr × Obj)), Zc cls d oe → (∃ vs, oe.data = .fields vs) → ∀ x C, cls = .ref C → d = none → c.err x C → PSs (X.suite a ((a, oe) :: pn)) (b₀ :: suite) (tS c W0 (h x)))
    (hs : X.stack = X.env :: X.outer := by rfl) (hf : X.env.frame = some X.env.locals := by rfl) :
    PS X (.Try body [.ExceptHandler (some (.Name x np)) none (b₀ :: suite) pos'] [] [] pos) (tS c W (mTry s mt h)) :=
  (ps_try_only (tb := fun W => tS c W s) (ts := fun a cls d => tSu c c h cls d) (Wout := W) hs hf hc tk hb fun a oe cls d pn hz hf => su_of fun x C e1 e2 k => hsu a oe cls d pn hz hf x C e1 e2 k).via fun D σ H ⟨Γ, ρ, o, er, em, p⟩ => by
    unfold mTry at em
    cases e : s ρ with
    | none => rw [e] at em; cases em
    | some q =>
      rw [e] at em
      refine ⟨Γ, ρ, q, er, e, ?_⟩
      cases q with
      | nx ρ1 => cases em; exact p
      | rt d => cases em; exact p
      | bk ρ1 => cases em; exact p
      | ct ρ1 => cases em; exact p
      | er x ρ1 =>
        dsimp only at em
        refine fun C σ1 H1 e1 k => ⟨mt x, cl x C k, fun hm a ha => ?_, fun hm => ?_⟩
        · rw [if_pos hm] at em
          cases eh : h x ρ1 with
          | none => rw [eh] at em; cases em
          | some o' =>
            rw [eh] at em
            refine ⟨x, C, rfl, rfl, k, Γ, ρ1, o', e1, eh, ?_⟩
            cases o' with
            | nx ρ2 => cases em; exact p
            | rt d => cases em; exact p
            | bk ρ2 => cases em; exact p
            | ct ρ2 => cases em; exact p
            | er y ρ2 => cases em
        · rw [if_neg (by rw [hm]; exact Bool.false_ne_true)] at em
          cases em
          exact p C σ1 H1 e1 k
theorem clr_fx {l : List (Nat × V)} {σ : L2.St} {i : Nat} {v : Option V} (h : ∀ p ∈ l, σ[p.1]? = some (some p.2)) (k : fxOk l i = true) : ∀ p ∈ l, (σ.set i v)[p.1]? = some (some p.2) := fun p hp => by
  have := List.all_eq_true.mp k p hp
  have ne : p.1 ≠ i := by simpa using this
  rw [List.getElem?_set_ne (Ne.symm ne)]
  exact h p hp
/-- a name is gone -/
theorem ER.clr {Γ : Gam} {σ : L2.St} {H : Hp} {ρ : Ro} {i : Nat} {v : Option V} (e : ER c Γ σ H ρ) (k : fxOk c.fx i = true) : ER c Γ (σ.set i v) H (ρ.set i none) := by
  have ow : ∀ {j : Nat} {x : D × Bool}, (ρ.set i none)[j]? = some (some x) → j ≠ i ∧ ρ[j]? = some (some x) := fun {j x} h => by
    by_cases z : i = j
    · subst z
      rw [List.getElem?_set, if_pos rfl] at h
      split at h <;> cases h
    · rw [List.getElem?_set_ne z] at h
      exact ⟨Ne.symm z, h⟩
  have nn : ∀ a, NN Γ (σ.set i v) (ρ.set i none) a → NN Γ σ ρ a := fun a h => by
    rcases h with h | ⟨j, f, h1, h2⟩
    · exact .inl h
    · obtain ⟨z, h1⟩ := ow h1
      rw [List.getElem?_set_ne (Ne.symm z)] at h2
      exact .inr ⟨j, f, h1, h2⟩
  have st : ∀ a o, ¬ NN Γ σ ρ a → H a = some o → H a = some o ∧ ¬ NN Γ (σ.set i v) (ρ.set i none) a := fun a o n q => ⟨q, fun z => n (nn a z)⟩
  refine { len := by simp [e.len], ext := e.ext, utr := e.utr, held := fun p h => (e.held p h).step st, raw := fun p h => ⟨fun z => (e.raw p h).1 (nn _ z), (e.raw p h).2⟩, fx := clr_fx e.fx k, own := ?_, dis := ?_, slot := ?_, mine := ?_ }
  · intro j f a h1 h2
    obtain ⟨z, h1⟩ := ow h1
    rw [List.getElem?_set_ne (Ne.symm z)] at h2
    exact e.own j f a h1 h2
  · intro j l f g a ne h1 h2 h3
    obtain ⟨z, h1⟩ := ow h1
    obtain ⟨w, h2⟩ := ow h2
    rw [List.getElem?_set_ne (Ne.symm z)] at h3
    rw [List.getElem?_set_ne (Ne.symm w)]
    exact e.dis j l f g a ne h1 h2 h3
  · intro j f h
    obtain ⟨z, h⟩ := ow h
    obtain ⟨u, h1, h2⟩ := e.slot j f h
    exact ⟨u, by rw [List.getElem?_set_ne (Ne.symm z)]; exact h1, h2.step st⟩
  · intro j f h
    obtain ⟨z, h⟩ := ow h
    obtain ⟨u, h1, h2⟩ := e.mine j f h
    exact ⟨u, by rw [List.getElem?_set_ne (Ne.symm z)]; exact h1, h2.step (fun _ q => q) st⟩
theorem fx_back {l : List (Nat × V)} : ({ ({ c with fx := l } : Conf) with fx := c.fx } : Conf) = c := rfl
theorem s_tryAs (i : Nat) (mt : EN → Bool) (hN : X.N.Nodup) (hc : Names X x cc) (cl : Clause X c cc mt) (tk : Takes X W)
    (hb : ∀ (W : WX) (pn : List (Addr × Obj)) (xe : Value → Shared → Prop), Takes (X.tr pn xe) W → PassesOwn (model X.prog X.w) X.A X.env xe → PSs (X.tr pn xe) body (tS c W s))
    (hsu : ∀ (a : Addr) (oe : Obj) (cls : Value) (d : Option Addr) (pn : List (Addr × Obj)), Zc cls d oe → (∃ vs, oe.data = .fields vs) → ∀ x C, cls = .ref C → d = none → c.err x C → PSs (X.suite a ((a, oe) :: pn)) (b₀ :: suite) (tS { c with fx := [(i, .ref a)] } W0 (h x)))
    (hi : X.N[i]? = some n := by rfl) (hln : X.env.kindOf n = some .local := by rfl) (kfx : c.fx = [] := by rfl)
    (hs : X.stack = X.env :: X.outer := by rfl) (hf : X.env.frame = some X.env.locals := by rfl) :
    PS X (.Try body [.ExceptHandler (some (.Name x np)) (some n) (b₀ :: suite) pos'] [] [] pos) (tS c W (mTryAs i s mt h)) :=
  (ps_try_as (tb := fun W => tS c W s) (ts := fun a cls d => tSu c { c with fx := [(i, .ref a)] } h cls d) (Wout := W) hs hf hN hi hln hc tk hb fun a oe cls d pn hz hf => su_of fun x C e1 e2 k => hsu a oe cls d pn hz hf x C e1 e2 k).via fun D σ H ⟨Γ, ρ, o, er, em, p⟩ => by
    have hil : i < X.N.length := (List.getElem?_eq_some_iff.mp hi).1
    unfold mTryAs at em
    cases e : s ρ with
    | none => rw [e] at em; cases em
    | some q =>
      rw [e] at em
      refine ⟨Γ, ρ, q, er, e, ?_⟩
      cases q with
      | nx ρ1 => cases em; exact p
      | rt d => cases em; exact p
      | bk ρ1 => cases em; exact p
      | ct ρ1 => cases em; exact p
      | er x ρ1 =>
        dsimp only at em
        refine fun C σ1 H1 e1 k => ⟨mt x, cl x C k, fun hm a ha => ?_, fun hm => ?_⟩
        · rw [if_pos hm] at em
          cases eh : (if i < ρ1.length then h x (ρ1.set i none) else none) with
          | none => rw [eh] at em; cases em
          | some o' =>
            rw [eh] at em
            have k0 : fxOk c.fx i = true := by rw [kfx]; rfl
            by_cases hlt : i < σ1.length
            · rw [if_pos (by rw [e1.len]; exact hlt)] at eh
              have e2 : ER { c with fx := [(i, .ref a)] } Γ (σ1.set i (some (.ref a))) H1 (ρ1.set i none) := (e1.clr k0).fx' fun p hp => by
                have : p = (i, V.ref a) := by simpa using hp
                subst this
                rw [List.getElem?_set, if_pos rfl, if_pos hlt]
              refine ⟨x, C, rfl, rfl, k, Γ, _, o', e2, eh, ?_⟩
              have back : ∀ {σ2 : L2.St} {H2 : Hp} {ρ2 : Ro}, ER { c with fx := [(i, .ref a)] } Γ σ2 H2 ρ2 → ER c Γ (σ2.set i none) H2 (ρ2.set i none) := fun {σ2 H2 ρ2} e3 => by
                have e4 : ER c Γ σ2 H2 ρ2 := by
                  have := e3.fx' (l := c.fx) (fun p hp => by rw [kfx] at hp; cases hp)
                  exact this
                exact e4.clr k0
              cases o' with
              | nx ρ2 => cases em; exact fun σ2 H2 e3 => p _ _ (back e3)
              | rt d =>
                cases em
                exact fun v H2 s2 r2 => p v H2 s2 (Rp.fx (c := { c with fx := [(i, .ref a)] }) (l := c.fx) r2)
              | bk ρ2 => cases em; exact fun σ2 H2 e3 => p _ _ (back e3)
              | ct ρ2 => cases em; exact fun σ2 H2 e3 => p _ _ (back e3)
              | er y ρ2 => cases em
            · rw [if_neg (by rw [e1.len]; exact hlt)] at eh
              cases eh
        · rw [if_neg (by rw [hm]; exact Bool.false_ne_true)] at em
          cases em
          exact p C σ1 H1 e1 k
end
/-- isinstance(e, c) of the error that the suite holds -/
theorem d_isE {X0 : Cx} {a C : Addr} {oe : Obj} {pn : List (Addr × Obj)} {i : Nat} {n : Str} {cv : V} {u : Value} {b : Bool} {hx : Expr} {p p1 pos : Pos} (T : ExcC X0.K C) (hz : Zc (.ref C) none oe) (hf : ∃ vs, oe.data = .fields vs) (hfx : (i, V.ref a) ∈ c.fx)
    (hX : PE (X0.suite a ((a, oe) :: pn)) hx (tC cv)) (hu : ∀ v, RelV cv v → v = u) (hk : PySem.W.kitOne X0.K (.ref C) u = some b) (hm : X0.mg "isinstance" = none) (hN : X0.N[i]? = some n := by rfl) (hv : Vis X0.env.scope n := by first | exact Or.inl rfl | exact Or.inr (Or.inl rfl) | exact Or.inr (Or.inr rfl))
    (hd : (n == ("__debug__" : Str)) = false := by decide) (hcd : (n == ("__classdict__" : Str)) = false := by decide) (hg : Gl (X0.suite a ((a, oe) :: pn)) "isinstance" := by rfl) (hb : bootBuiltins "isinstance" = some (.builtin "isinstance") := by decide +kernel)
    (he : starEach [.Name n p1, hx] X0.env = (false, eval (.Name n p1) X0.env) :: starEach [hx] X0.env := by rfl) (he2 : starEach [hx] X0.env = (false, eval hx X0.env) :: starEach [] X0.env := by rfl) (hpl : (backTo pos (starEach [hx] X0.env)).any (·.1) = false := by rfl) :
    PE (X0.suite a ((a, oe) :: pn)) (.Call (.Name "isinstance" p) [.Name n p1, hx] [] pos) (tE c W .dur (mC (.bl b))) :=
  (pe_callB (X := X0.suite a ((a, oe) :: pn)) (call_isE T hz hf) hg hm hb (pa_cons (pv i hN hv hd hcd) (pa_cons hX pa_nil he2) he) (by decide) (by decide) he hpl).via fun σ H Q ⟨Γ, ρ, r, er, em, p⟩ => by
    cases em
    exact ⟨.ref a, er.fx _ hfx, cv, u, b, rfl, hu, hk, fin_bl p er⟩
end
end DL

set_option Elab.async false
set_option linter.all false
set_option maxRecDepth 100000
set_option maxHeartbeats 2000000
set_option autoImplicit false
/-! DLj: names for the printed walks: constants, op= by name of the operator, who is under whom. -/
namespace DL
open PySem L2
/-- is a an error of the class b? -/
def isSub (a b : EN) : Bool := decide (a = b) || decide (b = .base)
/-- more rounds than a while takes -/
def bigN : Nat := 1000
section
variable {X : Cx} {c : Conf} {W : WX}
theorem d_glob_int {x : Str} {i : Int} {pos : Pos} (hm : ∃ t, X.mg x = some (.int i t)) (hg : Gl X x := by rfl) (hd : (x == ("__debug__" : Str)) = false := by decide) : PE X (.Name x pos) (tE c W .dur (mC (.int i))) := by
  obtain ⟨t, hm⟩ := hm
  exact d_const (pe_glob hg hm (show RelV (.int i) _ from ⟨t, rfl⟩) hd) fun _ _ => .int .nil
theorem d_glob_str {x : Str} {i : Str} {pos : Pos} (hm : ∃ t, X.mg x = some (.str i t)) (hg : Gl X x := by rfl) (hd : (x == ("__debug__" : Str)) = false := by decide) : PE X (.Name x pos) (tE c W .dur (mC (.str i))) := by
  obtain ⟨t, hm⟩ := hm
  exact d_const (pe_glob hg hm (show RelV (.str i) _ from ⟨t, rfl⟩) hd) fun _ _ => .str .nil
theorem s_augN (i : Nat) {x : Str} {e : Expr} {m : ME} {op : Operator} {g : D → D → R D} {pos pos' : Pos} (hN : X.N.Nodup) (G : Aop X c W op g) (he : PE X e (tE c W .bor m)) (hi : X.N[i]? = some x := by rfl) (hx : Loc X.env.scope x := by first | exact Or.inl rfl | exact Or.inr rfl)
    (hf : X.fn x = true ∨ X.env.scope.names.lookup x = some .local := by first | exact .inl rfl | exact .inr rfl) (k : fxOk c.fx i = true := by rfl) : PS X (.AugAssign (.Name x pos') op e pos) (tS c W (mAug i g m)) := by
  obtain ⟨r, ho, hr⟩ := G.ex
  exact s_aug i hN ho hr he hi hx hf k
theorem s_augS (i : Nat) {x : Str} {e f : Expr} {me mf : ME} {px pos pos' : Pos} {op : Operator} {g : D → D → R D} (hu : X.A.units + 64 < cLine) (G : Aop X c W op g) (he : PE X e (tE c W .bor me)) (hf : PE X f (tE c W .bor mf)) (hN : X.N[i]? = some x := by rfl) (hv : Vis X.env.scope x := by first | exact Or.inl rfl | exact Or.inr (Or.inl rfl) | exact Or.inr (Or.inr rfl)) (hd : (x == ("__debug__" : Str)) = false := by decide)
    (hcd : (x == ("__classdict__" : Str)) = false := by decide) (ha : ∀ ov iv new, augStore e ov iv new = (do holding [new, ov, iv] (setItem ov iv new); release [new, ov, iv] []; pure .next) := by intros; rfl) :
    PS X (.AugAssign (.Subscript (.Name x px) e pos') op f pos) (tS c W (mAugSub i g me mf)) := by
  obtain ⟨r, ho, hr⟩ := G.ex
  exact s_augSub i hu ho hr he hf hN hv hd hcd ha
end
end DL

set_option Elab.async false
set_option linter.all false
set_option maxRecDepth 100000
set_option maxHeartbeats 2000000
set_option autoImplicit false
/-! DLk: the end of a law. -/
namespace DL
open PySem L2
section
variable {K : PySem.W.Frag}
theorem kit_meta : PySem.W.kitMeta "ValueError" = true := by decide +kernel
/-- isinstance of an error, asked for a class of the program -/
theorem kit_ref {C V : Addr} {b : Bool} (hdct : PySem.W.hasDictIn K V = true) (ht : PySem.W.typeIn K (.ref V) = some (.type "type")) (hs : PySem.W.subIn K (.ref V) (.ref V) = some true) (h : PySem.W.subIn K (.ref C) (.ref V) = some b) : PySem.W.kitOne K (.ref C) (.ref V) = some b := by
  obtain ⟨cd, hc, _⟩ := PySem.W.any_some hdct
  have e2 : ((PySem.W.clsIn K V).isSome && PySem.W.typeIn K (.ref V) == some (.type "type")) = true := by rw [hc, ht] <;> rfl
  have e3 : PySem.W.kitCls K (.ref C) (.ref V) = some b := by
    show (if ((PySem.W.clsIn K V).isSome && PySem.W.typeIn K (.ref V) == some (.type "type")) = true then PySem.W.subIn K (.ref C) (.ref V) else none) = some b
    rw [if_pos e2]
    exact h
  unfold PySem.W.kitOne
  split
  · rename_i q
    have e : C = V := Value.ref.inj (beq_iff_eq.mp q)
    subst e
    rw [hs] at h
    exact h
  · exact e3
theorem kit_VE {C : Addr} (h : PySem.W.subIn K (.ref C) (.type "ValueError") = some true) : PySem.W.kitOne K (.ref C) (.type "ValueError") = some true := by
  have e3 : PySem.W.kitCls K (.ref C) (.type "ValueError") = some true := by
    show (if PySem.W.kitMeta "ValueError" = true then PySem.W.subIn K (.ref C) (.type "ValueError") else none) = some true
    rw [if_pos kit_meta]
    exact h
  unfold PySem.W.kitOne
  split
  · rfl
  · exact e3
/-- what the law is asked: a list of at most 63 ints -/
def spLaw (K : PySem.W.Frag) : Sp := fun vs H Q _ => ∃ (a : Addr) (ns : List Int), vs = [.ref a] ∧ SqL K H a (ns.map V.int) ∧ ns.length ≤ 63 ∧ (∀ z ∈ ns, Builtin.Int.intBits z ≤ 1048576) ∧ ∀ H', Q (.bl true) H'
theorem rp_ints {c : Conf} {N : Addr → Prop} {H : Hp} : ∀ ns : List Int, Rp c N H (ns.map V.int) (ns.map D.int)
  | [] => .nil
  | _ :: ns => .int (rp_ints ns)
theorem law_imp {P : Program} {w : World} {mg : Str → Option Value} {base : Heap} {CX : CXT} {k : Nat} {f : Addr} {fd : FuncData} {ps : List Str} {c : Conf} {m : List D → R D} (hK : c.K = K) (F : FnOk P w K mg base CX k f fd ps (SpD c m))
    (h : ∀ ns : List Int, ns.length ≤ 63 → (∀ z ∈ ns, Builtin.Int.intBits z ≤ 1048576) → m [.fz false (ns.map D.int)] = ok (.bl true)) : FnOk P w K mg base CX k f fd ps (spLaw K) :=
  FnOk.imp F fun vs H Q E ⟨a, ns, e, hS, hl, hb, q⟩ => by
    subst e
    refine ⟨fun _ => False, [.fz false (ns.map D.int)], .ok (.bl true), fun _ z => z.elim, ?_, h ns hl hb, fun v H' _ r => by rw [r.of_bl]; exact q H'⟩
    refine .fzL ?_ (rp_ints ns) .nil
    rw [hK]
    exact hS.imp (fun z => ⟨id, z⟩) id
theorem law_walk {l : PySem.W.OpenLaw} {q : Program} {loose : List Str} {XP : (Str → Option Value) → Heap → Prop} {YP : World → Heap → Prop} {d : DefRec} {K : Params → PySem.W.Frag} {k : Nat} {x : Str} (hn : l.most = some 63) (hdf : d.params.defaults = []) (hr : Room k callerA)
    (hY : ∀ (w : World) (h : Heap), YP w h → (K w.params).In h)
    (F : ∀ (w : World) (mg : Str → Option Value) (fa : Addr) (h : Heap), (K w.params).In h → h.Ns mainGlobals mg → mg d.name = some (.ref fa) →
      ∃ fd : FuncData, (∀ (s : Shared) (u : Value), BindsTo s fd ⟨[u], []⟩ [(x, u)]) ∧ ∀ base : Heap, (K w.params).In base → base.Ns mainGlobals mg → FnOk l.prog w (K w.params) mg base (L2.CX l.prog w) k fa fd [x] (spLaw (K w.params))) :
    PySem.W.WalkO q loose XP YP l.row.toRowW d [] (fun f vs => PySem.call f vs) :=
  L2.walk_ofB (n := 63) (k := k) (x := x) (CX := fun w => L2.CX l.prog w) (sp := fun w => spLaw (K w.params)) hn (by decide) hdf hr hY F (fun _ _ a ns hl hb _ hS => ⟨a, ns, rfl, hS, hl, hb, fun _ => rfl⟩) fun _ _ _ _ _ ⟨_, _, _, _, _, _, _, _, _, _, _, _, z⟩ => z
end
end DL

set_option Elab.async false
set_option linter.all false
set_option maxRecDepth 100000
set_option maxHeartbeats 2000000
set_option autoImplicit false
/-! DLp: the mirrors run: rules to step them by simp. -/
namespace DL
open PySem L2
section
variable {α β : Type}
theorem bnd_ok (a : α) (f : α → R β) : bnd (some (.ok a)) f = f a := (rfl)
theorem bnd_er (x : EN) (f : α → R β) : bnd (some (.error x)) f = some (.error x) := (rfl)
theorem sE_ok (a : α) (ρ : Ro) (k : α → Option Out) : sE (some (.ok a)) ρ k = k a := (rfl)
theorem sE_er (x : EN) (ρ : Ro) (k : α → Option Out) : sE (some (.error x)) ρ k = some (.er x ρ) := (rfl)
def seqO (o : Option Out) (t : MS) : Option Out := match o with
  | some (.nx ρ) => t ρ
  | o => o
theorem mSeq_eq (s t : MS) (ρ : Ro) : mSeq s t ρ = seqO (s ρ) t := (rfl)
theorem seqO_nx (ρ : Ro) (t : MS) : seqO (some (.nx ρ)) t = t ρ := (rfl)
theorem seqO_rt (d : D) (t : MS) : seqO (some (.rt d)) t = some (.rt d) := (rfl)
theorem seqO_er (x : EN) (ρ : Ro) (t : MS) : seqO (some (.er x ρ)) t = some (.er x ρ) := (rfl)
theorem seqO_bk (ρ : Ro) (t : MS) : seqO (some (.bk ρ)) t = some (.bk ρ) := (rfl)
theorem seqO_ct (ρ : Ro) (t : MS) : seqO (some (.ct ρ)) t = some (.ct ρ) := (rfl)
def ifO (c : R Bool) (ρ : Ro) (a b : MS) : Option Out := sE c ρ fun k => match k with
  | true => a ρ
  | false => b ρ
theorem mIf_eq (t : MT) (a b : MS) (ρ : Ro) : mIf t a b ρ = ifO (t ρ) ρ a b := (rfl)
theorem ifO_ok (k : Bool) (ρ : Ro) (a b : MS) : ifO (some (.ok k)) ρ a b = if k = true then a ρ else b ρ := by cases k <;> rfl
theorem ifO_er (x : EN) (ρ : Ro) (a b : MS) : ifO (some (.error x)) ρ a b = some (.er x ρ) := (rfl)
theorem mVar_z (d : D) (b : Bool) (ρ : Ro) : mVar 0 (some (d, b) :: ρ) = some (.ok d) := (rfl)
theorem mVar_s (i : Nat) (x : Option (D × Bool)) (ρ : Ro) : mVar (i + 1) (x :: ρ) = mVar i ρ := (rfl)
theorem mVarD_z (d : D) (ρ : Ro) : mVarD 0 (some (d, false) :: ρ) = some (.ok d) := (rfl)
theorem mVarD_s (i : Nat) (x : Option (D × Bool)) (ρ : Ro) : mVarD (i + 1) (x :: ρ) = mVarD i ρ := (rfl)
theorem mC_eq (d : D) (ρ : Ro) : mC d ρ = some (.ok d) := (rfl)
theorem mBin_eq (f : D → D → R D) (m n : ME) (ρ : Ro) : mBin f m n ρ = bnd (m ρ) fun x => bnd (n ρ) fun y => f x y := (rfl)
theorem mUn_eq (f : D → R D) (m : ME) (ρ : Ro) : mUn f m ρ = bnd (m ρ) f := (rfl)
theorem mCB_eq (f : List D → R D) (l : MA) (ρ : Ro) : mCB f l ρ = bnd (l ρ) f := (rfl)
theorem mNil_eq (ρ : Ro) : mNil ρ = some (.ok []) := (rfl)
theorem mCons_eq (m : ME) (l : MA) (ρ : Ro) : mCons m l ρ = bnd (m ρ) fun d => bnd (l ρ) fun ds => some (.ok (d :: ds)) := (rfl)
theorem mSet_eq (i : Nat) (b : Bool) (m : ME) (ρ : Ro) : mSet i b m ρ = sE (m ρ) ρ fun d => some (.nx (ρ.set i (some (d, b)))) := (rfl)
theorem mRet_eq (m : ME) (ρ : Ro) : mRet m ρ = sE (m ρ) ρ fun d => some (.rt d) := (rfl)
theorem mSkip_eq (ρ : Ro) : mSkip ρ = some (.nx ρ) := (rfl)
theorem mBrk_eq (ρ : Ro) : mBrk ρ = some (.bk ρ) := (rfl)
theorem mCnt_eq (ρ : Ro) : mCnt ρ = some (.ct ρ) := (rfl)
theorem mRaise_eq (x : EN) (ρ : Ro) : mRaise x ρ = some (.er x ρ) := (rfl)
theorem mRetN_eq (ρ : Ro) : mRetN ρ = some (.rt .non) := (rfl)
theorem mDrop_eq (m : ME) (ρ : Ro) : mDrop m ρ = sE (m ρ) ρ fun _ => some (.nx ρ) := (rfl)
def tstO (r : R D) : R Bool := bnd r fun d => match d with
  | .bl b => ok b
  | _ => none
theorem mTst_eq (m : ME) (ρ : Ro) : mTst m ρ = tstO (m ρ) := (rfl)
theorem tstO_bl (b : Bool) : tstO (some (.ok (.bl b))) = some (.ok b) := (rfl)
theorem tstO_er (x : EN) : tstO (some (.error x)) = some (.error x) := (rfl)
def andT (r : R Bool) (n : R Bool) : R Bool := bnd r fun b => match b with
  | true => n
  | false => ok false
theorem mAndT_eq (m n : MT) (ρ : Ro) : mAndT m n ρ = andT (m ρ) (n ρ) := (rfl)
theorem andT_ok (a b : Bool) : andT (some (.ok a)) (some (.ok b)) = some (.ok (a && b)) := by cases a <;> rfl
theorem andT_f (n : R Bool) : andT (some (.ok false)) n = some (.ok false) := (rfl)
theorem andT_t (n : R Bool) : andT (some (.ok true)) n = n := (rfl)
theorem andT_er (x : EN) (n : R Bool) : andT (some (.error x)) n = some (.error x) := (rfl)
def orT (r : R Bool) (n : R Bool) : R Bool := bnd r fun b => match b with
  | true => ok true
  | false => n
theorem mOrT_eq (m n : MT) (ρ : Ro) : mOrT m n ρ = orT (m ρ) (n ρ) := (rfl)
theorem orT_ok (a b : Bool) : orT (some (.ok a)) (some (.ok b)) = some (.ok (a || b)) := by cases a <;> rfl
theorem orT_f (n : R Bool) : orT (some (.ok false)) n = n := (rfl)
theorem orT_t (n : R Bool) : orT (some (.ok true)) n = some (.ok true) := (rfl)
theorem orT_er (x : EN) (n : R Bool) : orT (some (.error x)) n = some (.error x) := (rfl)
theorem mNotT_eq (m : MT) (ρ : Ro) : mNotT m ρ = bnd (m ρ) fun b => some (.ok (!b)) := (rfl)
def andD (r : R D) (n : R D) : R D := bnd r fun d => match d with
  | .bl true => n
  | .bl false => ok (.bl false)
  | _ => none
theorem mAnd_eq (m n : ME) (ρ : Ro) : mAnd m n ρ = andD (m ρ) (n ρ) := (rfl)
theorem andD_ok (a b : Bool) : andD (some (.ok (.bl a))) (some (.ok (.bl b))) = some (.ok (.bl (a && b))) := by cases a <;> rfl
theorem andD_f (n : R D) : andD (some (.ok (.bl false))) n = some (.ok (.bl false)) := (rfl)
theorem andD_t (n : R D) : andD (some (.ok (.bl true))) n = n := (rfl)
theorem andD_er (x : EN) (n : R D) : andD (some (.error x)) n = some (.error x) := (rfl)
def orD (r : R D) (n : R D) : R D := bnd r fun d => match d with
  | .bl true => ok (.bl true)
  | .bl false => n
  | _ => none
theorem mOr_eq (m n : ME) (ρ : Ro) : mOr m n ρ = orD (m ρ) (n ρ) := (rfl)
theorem orD_ok (a b : Bool) : orD (some (.ok (.bl a))) (some (.ok (.bl b))) = some (.ok (.bl (a || b))) := by cases a <;> rfl
theorem orD_f (n : R D) : orD (some (.ok (.bl false))) n = n := (rfl)
theorem orD_t (n : R D) : orD (some (.ok (.bl true))) n = some (.ok (.bl true)) := (rfl)
theorem orD_er (x : EN) (n : R D) : orD (some (.error x)) n = some (.error x) := (rfl)
theorem dNot_bl (b : Bool) : dNot (.bl b) = some (.ok (.bl (!b))) := (rfl)
theorem dAdd_i (a b : Int) : dAdd (.int a) (.int b) = some (.ok (.int (a + b))) := (rfl)
theorem dSub_i (a b : Int) : dSub (.int a) (.int b) = some (.ok (.int (a - b))) := (rfl)
theorem dNeg_i (a : Int) : dNeg (.int a) = some (.ok (.int (-a))) := (rfl)
theorem dCmp_i (f : Int → Int → Bool) (a b : Int) : dCmp f (.int a) (.int b) = some (.ok (.bl (f a b))) := (rfl)
theorem dInt_i (a : Int) : dInt [.int a] = some (.ok (.int a)) := (rfl)
theorem dInt_b (a : Bool) : dInt [.bl a] = some (.ok (.int (if a = true then 1 else 0))) := (rfl)
theorem dAbs_i (a : Int) : dAbs [.int a] = some (.ok (.int (if a < 0 then -a else a))) := (rfl)
theorem dMax_i (a b : Int) : dMax [.int a, .int b] = some (.ok (.int (if b > a then b else a))) := (rfl)
theorem dMin_i (a b : Int) : dMin [.int a, .int b] = some (.ok (.int (if b < a then b else a))) := (rfl)
theorem dLen_l (l : List D) : dLen [.lst l] = some (.ok (.int l.length)) := (rfl)
theorem dLen_t (l : List D) : dLen [.tup l] = some (.ok (.int l.length)) := (rfl)
theorem dLen_f (t : Bool) (l : List D) : dLen [.fz t l] = some (.ok (.int l.length)) := (rfl)
theorem dList_l (l : List D) : dList [.lst l] = some (.ok (.lst l)) := (rfl)
theorem dList_t (l : List D) : dList [.tup l] = some (.ok (.lst l)) := (rfl)
theorem dTuple_l (l : List D) : dTuple [.lst l] = some (.ok (.tup l)) := (rfl)
theorem dTuple_t (l : List D) : dTuple [.tup l] = some (.ok (.tup l)) := (rfl)
theorem dRev_l (l : List D) : dRev (.lst l) = some (.ok (.lst l.reverse)) := (rfl)
theorem dRev_t (l : List D) : dRev (.tup l) = some (.ok (.tup l.reverse)) := (rfl)
theorem dIx_l (l : List D) (i : Int) : dIx (.lst l) (.int i) = (L2.atI l i).map .ok := (rfl)
theorem dIx_t (l : List D) (i : Int) : dIx (.tup l) (.int i) = (L2.atI l i).map .ok := (rfl)
theorem dIx_f (t : Bool) (l : List D) (i : Int) : dIx (.fz t l) (.int i) = (L2.atI l i).map .ok := (rfl)
theorem dIsN_n (d : D) : dIsN d .non = some (.ok (.bl (isNon d))) := (rfl)
theorem dNotN_n (d : D) : dNotN d .non = some (.ok (.bl (!isNon d))) := (rfl)
theorem guard_t {p : Prop} [Decidable p] (h : p) (x : R α) : DL.guard p x = x := if_pos h
theorem dMod_i (a b : Int) (h : 0 < b) : dMod (.int a) (.int b) = some (.ok (.int (a % b))) := guard_t h _
theorem dDiv_i (a b : Int) (h : 0 < b) (h2 : b < 9223372036854775808) : dDiv (.int a) (.int b) = some (.ok (.int (a / b))) := guard_t ⟨h, Nat.lt_of_lt_of_le (show b.natAbs < 2 ^ 63 by omega) (Nat.pow_le_pow_right (by decide) (by decide))⟩ _
theorem dMul_i (a b : Int) (h : mulOk a b = true) : dMul (.int a) (.int b) = some (.ok (.int (a * b))) := guard_t h _
theorem mulOk_r (a b : Int) (h : b.natAbs < 2 ^ 63) : mulOk a b = true := by unfold mulOk; rw [decide_eq_true h]; simp
theorem mulOk_l (a b : Int) (h : a.natAbs < 2 ^ 63) : mulOk a b = true := by unfold mulOk; rw [decide_eq_true h]; simp
theorem dAdd_t (a b : List D) (h : a.length + b.length ≤ 1000000) : dAdd (.tup a) (.tup b) = some (.ok (.tup (a ++ b))) := guard_t h _
theorem dAdd_l (a b : List D) (h : a.length + b.length ≤ 1000000) : dAdd (.lst a) (.lst b) = some (.ok (.lst (a ++ b))) := guard_t h _
theorem dCat_l (a b : List D) (h : a.length + b.length ≤ 1000000) : dCat (.lst a) (.lst b) = some (.ok (.lst (a ++ b))) := guard_t h _
theorem mTup_eq (l : MA) (ρ : Ro) : mTup l ρ = bnd (l ρ) fun ds => DL.guard (ds.length ≤ lim) (some (.ok (.tup ds))) := (rfl)
theorem mLst_eq (l : MA) (ρ : Ro) : mLst l ρ = bnd (l ρ) fun ds => DL.guard (ds.length ≤ lim) (some (.ok (.lst ds))) := (rfl)
theorem guard_lim {n : Nat} (x : R α) (h : n ≤ 1000) : DL.guard (n ≤ lim) x = x := guard_t (Nat.le_trans h (by decide)) x
theorem guard_0 (x : R α) : DL.guard (0 ≤ lim) x = x := guard_t (by decide) x
theorem mSl_eq (m : ME) (l h : MO) (ρ : Ro) : mSl m l h ρ = bnd (m ρ) fun d => bnd (l ρ) fun lo => bnd (h ρ) fun hi => dSl lo hi d := (rfl)
theorem mNone_eq (ρ : Ro) : mNone ρ = some (.ok none) := (rfl)
def someO (r : R D) : R (Option Int) := bnd r fun d => match d with
  | .int i => ok (some i)
  | _ => none
theorem mSome_eq (m : ME) (ρ : Ro) : mSome m ρ = someO (m ρ) := (rfl)
theorem someO_i (i : Int) : someO (some (.ok (.int i))) = some (.ok (some i)) := (rfl)
theorem dSl_t (lo hi : Option Int) (l : List D) : dSl lo hi (.tup l) = some (.ok (.tup (cut l lo hi))) := (rfl)
theorem dSl_l (lo hi : Option Int) (l : List D) : dSl lo hi (.lst l) = some (.ok (.lst (cut l lo hi))) := (rfl)
theorem mFor_eq (src : MI) (g : MG) (body : MS) (ρ : Ro) : mFor src g body ρ = sE (src ρ) ρ fun ds => forGo g body ds ρ := (rfl)
def itemsO (r : R D) : R (List D) := bnd r fun d => (seqD d).map .ok
theorem mItems_eq (m : ME) (ρ : Ro) : mItems m ρ = itemsO (m ρ) := (rfl)
theorem itemsO_l (l : List D) : itemsO (some (.ok (.lst l))) = some (.ok l) := (rfl)
theorem itemsO_t (l : List D) : itemsO (some (.ok (.tup l))) = some (.ok l) := (rfl)
theorem itemsO_f (t : Bool) (l : List D) : itemsO (some (.ok (.fz t l))) = some (.ok l) := (rfl)
def rgI1 (r : R D) : R (List D) := bnd r fun d => match d with
  | .int n => DL.guard (rgOk 0 n) (ok (rgD 0 n))
  | _ => none
theorem mRgI1_eq (m : ME) (ρ : Ro) : mRgI1 m ρ = rgI1 (m ρ) := (rfl)
theorem rgI1_i (n : Int) (h : 0 ≤ n ∧ n ≤ 1000) : rgI1 (some (.ok (.int n))) = some (.ok (rgD 0 n)) := guard_t (show rgOk 0 n from ⟨by decide, by decide, by omega, by omega⟩) _
def rgI2 (r s : R D) : R (List D) := bnd r fun d => bnd s fun e => match d, e with
  | .int a, .int b => DL.guard (rgOk a b) (ok (rgD a b))
  | _, _ => none
theorem mRgI2_eq (m n : ME) (ρ : Ro) : mRgI2 m n ρ = rgI2 (m ρ) (n ρ) := (rfl)
theorem rgI2_i (a b : Int) (h : (-1000 ≤ a ∧ a ≤ 1000) ∧ -1000 ≤ b ∧ b ≤ 1000) : rgI2 (some (.ok (.int a))) (some (.ok (.int b))) = some (.ok (rgD a b)) := guard_t (show rgOk a b from ⟨by omega, by omega, by omega, by omega⟩) _
theorem mDef_eq (n k : Nat) (body : MS) (ds : List D) (h : ds.length = k) : mDef n k body ds = match body (ds.map (fun d => some (d, false)) ++ List.replicate (n - k) none) with
    | some (.nx _) => ok .non
    | some (.rt d) => ok d
    | some (.er x _) => some (.error x)
    | _ => none := if_pos h
/-- what comes out of a body -/
def outR (o : Option Out) : R D := match o with
    | some (.nx _) => ok .non
    | some (.rt d) => ok d
    | some (.er x _) => some (.error x)
    | _ => none
theorem outR_nx (ρ : Ro) : outR (some (.nx ρ)) = some (.ok .non) := (rfl)
theorem outR_rt (d : D) : outR (some (.rt d)) = some (.ok d) := (rfl)
theorem outR_er (x : EN) (ρ : Ro) : outR (some (.er x ρ)) = some (.error x) := (rfl)
theorem run1 (n : Nat) (body : MS) (a : D) : mDef n 1 body [a] = outR (body (some (a, false) :: List.replicate (n - 1) none)) := (rfl)
theorem run2 (n : Nat) (body : MS) (a b : D) : mDef n 2 body [a, b] = outR (body (some (a, false) :: some (b, false) :: List.replicate (n - 2) none)) := (rfl)
theorem run3 (n : Nat) (body : MS) (a b c : D) : mDef n 3 body [a, b, c] = outR (body (some (a, false) :: some (b, false) :: some (c, false) :: List.replicate (n - 3) none)) := (rfl)
theorem run4 (n : Nat) (body : MS) (a b c d : D) : mDef n 4 body [a, b, c, d] = outR (body (some (a, false) :: some (b, false) :: some (c, false) :: some (d, false) :: List.replicate (n - 4) none)) := (rfl)
theorem forGo_nil (g : MG) (body : MS) (ρ : Ro) : forGo g body [] ρ = some (.nx ρ) := (rfl)
/-- what a turn's way out makes of the loop -/
def forO (o : Option Out) (k : Ro → Option Out) : Option Out := match o with
    | some (.nx ρ2) => k ρ2
    | some (.ct ρ2) => k ρ2
    | some (.bk ρ2) => some (.nx ρ2)
    | o => o
theorem forGo_cons (g : MG) (body : MS) (d : D) (ds : List D) (ρ : Ro) : forGo g body (d :: ds) ρ = (g d ρ).bind fun ρ1 => forO (body ρ1) (forGo g body ds) := by
  unfold forGo
  congr 1
theorem forO_nx (ρ : Ro) (k : Ro → Option Out) : forO (some (.nx ρ)) k = k ρ := (rfl)
theorem forO_ct (ρ : Ro) (k : Ro → Option Out) : forO (some (.ct ρ)) k = k ρ := (rfl)
theorem forO_bk (ρ : Ro) (k : Ro → Option Out) : forO (some (.bk ρ)) k = some (.nx ρ) := (rfl)
theorem forO_rt (d : D) (k : Ro → Option Out) : forO (some (.rt d)) k = some (.rt d) := (rfl)
theorem forO_er (x : EN) (ρ : Ro) (k : Ro → Option Out) : forO (some (.er x ρ)) k = some (.er x ρ) := (rfl)
theorem gD_eq (i : Nat) (d : D) (ρ : Ro) : gD i d ρ = some (ρ.set i (some (d, false))) := (rfl)
def mutO (o : Option (Option (D × Bool))) (i : Nat) (ρ : Ro) (f : List D → List D → Option (List D)) (l : R (List D)) : Option Out := match o with
  | some (some (.lst ds, true)) => sE l ρ fun es => (f ds es).map fun ds' => .nx (ρ.set i (some (.lst ds', true)))
  | _ => none
theorem mMut_eq (i : Nat) (f : List D → List D → Option (List D)) (l : MA) (ρ : Ro) : mMut i f l ρ = mutO ρ[i]? i ρ f (l ρ) := (rfl)
theorem mutO_l (ds es : List D) (i : Nat) (ρ : Ro) (f : List D → List D → Option (List D)) : mutO (some (some (.lst ds, true))) i ρ f (some (.ok es)) = (f ds es).map fun ds' => .nx (ρ.set i (some (.lst ds', true))) := (rfl)
theorem fApp_1 (ds : List D) (d : D) (h : ds.length < 1000000) : fApp ds [d] = some (ds ++ [d]) := if_pos h
theorem subO_eq (i : Nat) (me mf : ME) (ρ : Ro) : mSub i me mf ρ = (ownD ρ i).bind fun dd => sE (mf ρ) ρ fun d => sE (me ρ) ρ fun k => (dSet dd k d).map fun dd' => .nx (ρ.set i (some (dd', true))) := (rfl)
theorem ownD_z (d : D) (ρ : Ro) : ownD (some (d, true) :: ρ) 0 = some d := (rfl)
theorem ownD_s (i : Nat) (x : Option (D × Bool)) (ρ : Ro) : ownD (x :: ρ) (i + 1) = ownD ρ i := (rfl)
theorem dSet_l (ds : List D) (j : Int) (d : D) : dSet (.lst ds) (.int j) d = (ixN ds.length j).map fun n => .lst (ds.set n d) := (rfl)
end
end DL

set_option Elab.async false
set_option linter.all false
set_option maxRecDepth 100000
set_option maxHeartbeats 2000000
set_option autoImplicit false
/-! DLq: == of plain data. -/
namespace DL
open PySem L2
theorem gk0 {α : Type} (x : R α) : DL.guard (0 ≤ lim) x = x := guard_lim x (by decide)
theorem gk1 {α : Type} (x : R α) : DL.guard (1 ≤ lim) x = x := guard_lim x (by decide)
theorem gk2 {α : Type} (x : R α) : DL.guard (2 ≤ lim) x = x := guard_lim x (by decide)
theorem gk3 {α : Type} (x : R α) : DL.guard (3 ≤ lim) x = x := guard_lim x (by decide)
theorem gk4 {α : Type} (x : R α) : DL.guard (4 ≤ lim) x = x := guard_lim x (by decide)
theorem gk5 {α : Type} (x : R α) : DL.guard (5 ≤ lim) x = x := guard_lim x (by decide)
theorem gk6 {α : Type} (x : R α) : DL.guard (6 ≤ lim) x = x := guard_lim x (by decide)
theorem gk7 {α : Type} (x : R α) : DL.guard (7 ≤ lim) x = x := guard_lim x (by decide)
theorem gk8 {α : Type} (x : R α) : DL.guard (8 ≤ lim) x = x := guard_lim x (by decide)
theorem gk9 {α : Type} (x : R α) : DL.guard (9 ≤ lim) x = x := guard_lim x (by decide)
theorem gk10 {α : Type} (x : R α) : DL.guard (10 ≤ lim) x = x := guard_lim x (by decide)
theorem gk11 {α : Type} (x : R α) : DL.guard (11 ≤ lim) x = x := guard_lim x (by decide)
theorem gk12 {α : Type} (x : R α) : DL.guard (12 ≤ lim) x = x := guard_lim x (by decide)
theorem eqv_ii (a b : Int) : PyData.eqv (.int a) (.int b) = decide (a = b) := by
  simp only [PyData.eqv]
  rw [Bool.eq_iff_iff, beq_iff_eq, decide_eq_true_iff]
theorem eqv_ss (a b : Str) : PyData.eqv (.str a) (.str b) = decide (a = b) := by
  simp only [PyData.eqv]
  rw [Bool.eq_iff_iff, beq_iff_eq, decide_eq_true_iff]
theorem eqvAll_ii : ∀ l l' : List Int, PyData.eqvAll (l.map .int) (l'.map .int) = decide (l = l')
  | [], [] => by simp [PyData.eqvAll]
  | [], _ :: _ => by simp [PyData.eqvAll]
  | _ :: _, [] => by simp [PyData.eqvAll]
  | a :: l, b :: l' => by
    simp only [List.map_cons, PyData.eqvAll, eqv_ii, eqvAll_ii l l', List.cons.injEq]
    rw [Bool.decide_and]
theorem toP_i (n : Nat) (a : Int) : toP n (.int a) = some (.int a) := by cases n <;> rfl
theorem toPs_i (n : Nat) : ∀ l : List Int, (l.map D.int).mapM (toP n) = some (l.map PyData.int)
  | [] => rfl
  | a :: l => by
    rw [List.map_cons, List.mapM_cons, toP_i, toPs_i n l]
    rfl
theorem toP_t (n : Nat) (l : List Int) : toP (n + 1) (.tup (l.map D.int)) = some (.tuple (l.map .int)) := by
  show ((l.map D.int).mapM (toP n)).map PyData.tuple = _
  rw [toPs_i]
  rfl
theorem toP_l (n : Nat) (l : List Int) : toP (n + 1) (.lst (l.map D.int)) = some (.list (l.map .int)) := by
  show ((l.map D.int).mapM (toP n)).map PyData.list = _
  rw [toPs_i]
  rfl
theorem dEqv_i (a b : Int) : dEqv (.int a) (.int b) = some (decide (a = b)) := by
  unfold dEqv
  rw [toP_i, toP_i]
  show some (PyData.eqv _ _) = _
  rw [eqv_ii]
theorem dEqv_s (a b : Str) : dEqv (.str a) (.str b) = some (decide (a = b)) := by
  show some (PyData.eqv _ _) = _
  rw [eqv_ss]
theorem dEqv_t (l l' : List Int) : dEqv (.tup (l.map D.int)) (.tup (l'.map D.int)) = some (decide (l = l')) := by
  unfold dEqv
  rw [toP_t, toP_t]
  show some (PyData.eqv _ _) = _
  rw [PyData.eqv, eqvAll_ii]
theorem dEqv_l (l l' : List Int) : dEqv (.lst (l.map D.int)) (.lst (l'.map D.int)) = some (decide (l = l')) := by
  unfold dEqv
  rw [toP_l, toP_l]
  show some (PyData.eqv _ _) = _
  rw [PyData.eqv, eqvAll_ii]
theorem dEqv_tn (l : List Int) : dEqv (.tup (l.map D.int)) .non = some false := by
  unfold dEqv
  rw [toP_t]
  show some (PyData.eqv _ .none) = _
  simp [PyData.eqv]
theorem dEqv_nt (l : List Int) : dEqv .non (.tup (l.map D.int)) = some false := by
  unfold dEqv
  rw [toP_t]
  show some (PyData.eqv .none _) = _
  simp [PyData.eqv]
theorem dEqv_nn : dEqv .non .non = some true := by
  show some (PyData.eqv .none .none) = _
  simp [PyData.eqv]
theorem dEqv_bb (a b : Bool) : dEqv (.bl a) (.bl b) = some (decide (a = b)) := by
  show some (PyData.eqv (.bool a) (.bool b)) = _
  cases a <;> cases b <;> simp [PyData.eqv]
theorem dEq_of {d e : D} {b : Bool} (h : dEqv d e = some b) : dEq d e = some (.ok (.bl b)) := by unfold dEq; rw [h]
theorem dNe_of {d e : D} {b : Bool} (h : dEqv d e = some b) : dNe d e = some (.ok (.bl (!b))) := by unfold dNe; rw [h]
theorem dEq_i (a b : Int) : dEq (.int a) (.int b) = some (.ok (.bl (decide (a = b)))) := dEq_of (dEqv_i a b)
theorem dNe_i (a b : Int) : dNe (.int a) (.int b) = some (.ok (.bl (!decide (a = b)))) := dNe_of (dEqv_i a b)
theorem dEq_s (a b : Str) : dEq (.str a) (.str b) = some (.ok (.bl (decide (a = b)))) := dEq_of (dEqv_s a b)
theorem dNe_s (a b : Str) : dNe (.str a) (.str b) = some (.ok (.bl (!decide (a = b)))) := dNe_of (dEqv_s a b)
theorem dEq_t (l l' : List Int) : dEq (.tup (l.map D.int)) (.tup (l'.map D.int)) = some (.ok (.bl (decide (l = l')))) := dEq_of (dEqv_t l l')
theorem dNe_t (l l' : List Int) : dNe (.tup (l.map D.int)) (.tup (l'.map D.int)) = some (.ok (.bl (!decide (l = l')))) := dNe_of (dEqv_t l l')
theorem dEq_l (l l' : List Int) : dEq (.lst (l.map D.int)) (.lst (l'.map D.int)) = some (.ok (.bl (decide (l = l')))) := dEq_of (dEqv_l l l')
theorem dNe_l (l l' : List Int) : dNe (.lst (l.map D.int)) (.lst (l'.map D.int)) = some (.ok (.bl (!decide (l = l')))) := dNe_of (dEqv_l l l')
theorem dNe_nn : dNe .non .non = some (.ok (.bl false)) := dNe_of dEqv_nn
theorem dNe_tn (l : List Int) : dNe (.tup (l.map D.int)) .non = some (.ok (.bl true)) := dNe_of (dEqv_tn l)
theorem dEq_bb (a b : Bool) : dEq (.bl a) (.bl b) = some (.ok (.bl (decide (a = b)))) := dEq_of (dEqv_bb a b)
theorem dNe_bb (a b : Bool) : dNe (.bl a) (.bl b) = some (.ok (.bl (!decide (a = b)))) := dNe_of (dEqv_bb a b)
end DL

set_option Elab.async false
set_option linter.all false
set_option maxRecDepth 100000
set_option maxHeartbeats 2000000
set_option autoImplicit false
/-! DLr: plain lemmas over the data, for the laws' proofs. -/
namespace DL
open PySem L2
theorem atI_nat {α : Type} (l : List α) (k : Nat) (h : k < l.length) : L2.atI l (k : Int) = some l[k] := by
  unfold L2.atI ixN
  have h1 : ¬ ((k : Int) < 0) := by omega
  simp [h]
theorem lc_map {g : MG} {me : ME} {ρ : Ro} (f : D → D) : ∀ {ds : List D}, (∀ d ∈ ds, ∃ ρ1, g d ρ = some ρ1 ∧ me ρ1 = some (.ok (f d))) → lcGo g mYes me ρ ds = some (ds.map f)
  | [], _ => rfl
  | d :: ds, h => by
    obtain ⟨ρ1, h1, h2⟩ := h d List.mem_cons_self
    have e := lc_map (g := g) (me := me) (ρ := ρ) f (ds := ds) fun d hd => h d (List.mem_cons_of_mem _ hd)
    unfold lcGo
    rw [h1, Option.bind_some]
    show (match me ρ1 with | some (.ok y) => (lcGo g mYes me ρ ds).map (y :: ·) | _ => none) = _
    rw [h2, e]
    rfl
theorem mLc_eq (src : MI) (vs : List Nat) (g : MG) (tt : MT) (me : ME) (ρ : Ro) : mLc src vs g tt me ρ = bnd (src ρ) fun ds => DL.guard (noOwn ρ vs = true ∧ ds.length ≤ lim) ((lcGo g tt me (wipeR ρ vs) ds).map fun ys => .ok (.lst ys)) := (rfl)
theorem rgD_nat (n : Nat) : rgD 0 (n : Int) = (List.range n).map fun i : Nat => D.int (i : Int) := by
  unfold rgD
  rw [show ((n : Int) - 0).toNat = n by omega]
  exact List.map_congr_left fun i _ => by rw [Int.zero_add]
def upto (n : Nat) : List Int := (List.range n).map fun i : Nat => (i : Int) + 1
theorem popD_nat (l : List D) (k : Nat) (h : k < l.length) (h2 : l.length ≤ 1000) : popD l (k : Int) = some (l[k], l.eraseIdx k) := by
  unfold popD
  rw [if_pos (show -1000000 ≤ (k : Int) ∧ (k : Int) ≤ 1000000 by omega)]
  have e : seqIndex? (k : Int) l.length = some k := by
    unfold seqIndex?
    simp
    omega
  rw [e, Option.bind_some, List.getElem?_eq_getElem h]
  rfl
theorem map_erase {α β : Type} (f : α → β) : ∀ (l : List α) (k : Nat), (l.eraseIdx k).map f = (l.map f).eraseIdx k
  | [], _ => rfl
  | _ :: _, 0 => rfl
  | a :: l, k + 1 => congrArg (f a :: ·) (map_erase f l k)
theorem erase_perm {α : Type} : ∀ {l : List α} {k : Nat} (h : k < l.length), (l[k] :: l.eraseIdx k).Perm l
  | _ :: _, 0, _ => .refl _
  | a :: l, k + 1, h => by
    have e := erase_perm (l := l) (k := k) (by simpa using h)
    exact (List.Perm.swap _ _ _).trans (e.cons a)
theorem dSorted_i (l : List Int) : dSorted [.lst (l.map D.int)] = some (.ok (.lst ((isort l).map D.int))) := by
  show (some (l.map D.int)).bind (fun ds => (ints? ds).map fun ns => (.ok (.lst ((isort ns).map D.int)) : Except EN D)) = _
  rw [Option.bind_some, ints?_map]
  rfl
theorem rgD_1 (n : Nat) : rgD 1 ((n : Int) + 1) = (upto n).map D.int := by
  unfold rgD upto
  rw [show ((n : Int) + 1 - 1).toNat = n by omega, List.map_map]
  exact List.map_congr_left fun i _ => congrArg D.int (Int.add_comm _ _)
theorem mRg2_ok (f : List D → D) (m n : ME) (ρ : Ro) (a b : Int) (h : (-1000 ≤ a ∧ a ≤ 1000) ∧ -1000 ≤ b ∧ b ≤ 1000) (h1 : m ρ = some (.ok (.int a))) (h2 : n ρ = some (.ok (.int b))) : mRg2 f m n ρ = some (.ok (f (rgD a b))) := by
  unfold mRg2
  rw [h1, bnd_ok, h2, bnd_ok]
  exact guard_t (show rgOk a b from ⟨by omega, by omega, by omega, by omega⟩) _
theorem lim900 {n : Nat} (h : n ≤ 900) : n ≤ lim := Nat.le_trans h (by decide)
theorem lc_is {src : MI} {vs : List Nat} {g : MG} {me : ME} {ρ : Ro} (f : D → D) {ds : List D} (h1 : src ρ = some (.ok ds)) (h2 : noOwn ρ vs = true) (h3 : ds.length ≤ 900) (h : ∀ d ∈ ds, ∃ ρ1, g d (wipeR ρ vs) = some ρ1 ∧ me ρ1 = some (.ok (f d))) :
    mLc src vs g mYes me ρ = some (.ok (.lst (ds.map f))) := by
  rw [mLc_eq, h1, bnd_ok, guard_t ⟨h2, lim900 h3⟩, lc_map f h]
  rfl
theorem cut_nn {α : Type} (l : List α) (i j : Nat) (hi : i ≤ l.length) (hj : j ≤ l.length) : cut l (some (i : Int)) (some (j : Int)) = (l.drop i).take (j - i) := by
  unfold cut HT.sIx
  simp only [if_neg (show ¬ ((i : Int) < 0) by omega), if_neg (show ¬ ((j : Int) < 0) by omega), Int.toNat_natCast, Nat.min_eq_left hi, Nat.min_eq_left hj]
theorem cut_0n {α : Type} (l : List α) (j : Nat) (hj : j ≤ l.length) : cut l none (some (j : Int)) = l.take j := by
  unfold cut HT.sIx
  simp only [if_neg (show ¬ ((j : Int) < 0) by omega), Int.toNat_natCast, Nat.min_eq_left hj, List.drop_zero, Nat.sub_zero]
theorem cut_n0 {α : Type} (l : List α) (i : Nat) (hi : i ≤ l.length) : cut l (some (i : Int)) none = l.drop i := by
  unfold cut HT.sIx
  simp only [if_neg (show ¬ ((i : Int) < 0) by omega), Int.toNat_natCast, Nat.min_eq_left hi]
  rw [List.take_of_length_le (by simp)]
theorem dAdd_m (a b : List Int) (h : a.length + b.length ≤ 2000) : dAdd (.tup (a.map D.int)) (.tup (b.map D.int)) = some (.ok (.tup ((a ++ b).map D.int))) := by
  rw [dAdd_t _ _ (by simp; omega), List.map_append]
theorem ixN_nat (n k : Nat) (h : k < n) : ixN n (k : Int) = some k := by
  unfold ixN
  simp [h]
theorem upto_sorted (n : Nat) : (upto n).Pairwise (· ≤ ·) := by
  unfold upto
  rw [List.pairwise_map]
  refine List.Pairwise.imp (R := (· < ·)) (fun h => by omega) List.pairwise_lt_range
theorem mCh_nil (d : D) (ρ : Ro) : mCh d [] ρ = some (.ok (.bl true)) := (rfl)
def chO (r : R D) (k : R D) : R D := bnd r fun b => match b with
    | .bl true => k
    | .bl false => ok (.bl false)
    | _ => none
theorem mCh_cons (d : D) (f : D → D → R D) (m : ME) (l : List ((D → D → R D) × ME)) (ρ : Ro) : mCh d ((f, m) :: l) ρ = bnd (m ρ) fun e => chO (f d e) (mCh e l ρ) := (rfl)
theorem chO_t (k : R D) : chO (some (.ok (.bl true))) k = k := (rfl)
theorem chO_f (k : R D) : chO (some (.ok (.bl false))) k = some (.ok (.bl false)) := (rfl)
theorem mChain_eq (m : ME) (l : List ((D → D → R D) × ME)) (ρ : Ro) : mChain m l ρ = bnd (m ρ) fun d => mCh d l ρ := (rfl)
theorem at3_0 (a b c : D) : L2.atI [a, b, c] 0 = some a := (rfl)
theorem at3_1 (a b c : D) : L2.atI [a, b, c] 1 = some b := (rfl)
theorem at3_2 (a b c : D) : L2.atI [a, b, c] 2 = some c := (rfl)
theorem gl (n : Nat) {α : Type} (x : R α) (h : n ≤ 1000) : DL.guard (n ≤ lim) x = x := guard_lim x h
theorem at4_0 (a b c d : D) : L2.atI [a, b, c, d] 0 = some a := (rfl)
theorem at4_1 (a b c d : D) : L2.atI [a, b, c, d] 1 = some b := (rfl)
theorem at4_2 (a b c d : D) : L2.atI [a, b, c, d] 2 = some c := (rfl)
theorem at4_3 (a b c d : D) : L2.atI [a, b, c, d] 3 = some d := (rfl)
theorem at5_0 (a b c d e : D) : L2.atI [a, b, c, d, e] 0 = some a := (rfl)
theorem at5_1 (a b c d e : D) : L2.atI [a, b, c, d, e] 1 = some b := (rfl)
theorem at5_2 (a b c d e : D) : L2.atI [a, b, c, d, e] 2 = some c := (rfl)
theorem at5_3 (a b c d e : D) : L2.atI [a, b, c, d, e] 3 = some d := (rfl)
theorem at5_4 (a b c d e : D) : L2.atI [a, b, c, d, e] 4 = some e := (rfl)
theorem at1_0 (a : D) : L2.atI [a] 0 = some a := (rfl)
theorem at2_0 (a b : D) : L2.atI [a, b] 0 = some a := (rfl)
theorem at2_1 (a b : D) : L2.atI [a, b] 1 = some b := (rfl)
theorem at6_0 (a b c d e f : D) : L2.atI [a, b, c, d, e, f] 0 = some a := (rfl)
theorem at6_1 (a b c d e f : D) : L2.atI [a, b, c, d, e, f] 1 = some b := (rfl)
theorem at6_2 (a b c d e f : D) : L2.atI [a, b, c, d, e, f] 2 = some c := (rfl)
theorem at6_3 (a b c d e f : D) : L2.atI [a, b, c, d, e, f] 3 = some d := (rfl)
theorem at6_4 (a b c d e f : D) : L2.atI [a, b, c, d, e, f] 4 = some e := (rfl)
theorem at6_5 (a b c d e f : D) : L2.atI [a, b, c, d, e, f] 5 = some f := (rfl)
end DL

set_option Elab.async false
set_option linter.all false
set_option maxRecDepth 100000
set_option maxHeartbeats 2000000
set_option autoImplicit false
/-! DLm: isinstance of data, dict comprehensions with keys, ranges that go down. -/
namespace DL
open PySem L2

/-! ### isinstance(x, T) -/
def tyD : D → Option String
  | .non => some "NoneType"
  | .bl _ => some "bool"
  | .int _ => some "int"
  | .str _ => some "str"
  | .tup _ => some "tuple"
  | .lst _ => some "list"
  | .dK _ => some "dict"
  | .fz true _ => some "tuple"
  | _ => none
def dIsi (T : String) (d : D) : R D := (tyD d).bind fun t => (kitB t T).map fun b => .ok (.bl b)
section
variable {X : Cx} {c : Conf} {W : WX} {N : Addr → Prop} {H : Hp}
theorem ty_rd {K : PySem.W.Frag} {a : Addr} {kvs : List (Key × V)} (h : Rd H a (.dK kvs)) : TyX K H (.ref a) (.type "dict") := by
  rcases h with h | ⟨o, h⟩
  · exact .base (.dK h)
  · exact .fDict h
theorem ty_wr {K : PySem.W.Frag} {a : Addr} {us : List V} (h : WrT K a us) : TyX K H (.ref a) (.type "tuple") := by
  obtain ⟨o, its, n, h1, h2, _⟩ := h
  exact .kTuple h1 h2
theorem bor_ty {v : V} {d : D} {t : String} (r : Bor c N H v d) (h : tyD d = some t) : TyX c.K H v (.type t) := by
  cases d with
  | non => cases h; rw [r.non]; exact .base .non
  | bl b => cases h; rw [r.bl]; exact .base (.bl b)
  | int i => cases h; rw [r.int]; exact .base (.int i)
  | str s => cases h; rw [r.str]; exact .base (.str s)
  | tup ds =>
    cases h
    obtain ⟨a, us, rfl, _, e, _⟩ := r.tup
    exact .base (.tup e)
  | lst ds =>
    cases h
    obtain ⟨a, us, rfl, e, _⟩ := r
    exact .base (.lst e)
  | dK kds =>
    cases h
    obtain ⟨a, kvs, rfl, e, _⟩ := r
    exact ty_rd e
  | fz b ds =>
    cases b with
    | false => cases h
    | true =>
      cases h
      have r : Re c N H v (.fz true ds) := r
      cases r with
      | fzT q _ _ =>
        rcases q with ⟨_, o, _, e⟩ | e
        · exact .fTuple e
        · exact ty_wr e
  | _ => cases h
theorem d_isi {T : Str} {n : String} {e : Expr} {m : ME} {p p2 pos : Pos} (he : PE X e (tE c W .bor m)) (hm : X.mg "isinstance" = none) (hmT : X.mg T = none) (hv : bootBuiltins T = some (.type n)) (hK : c.K = X.K := by rfl) (hg : Gl X "isinstance" := by rfl) (hgT : Gl X T := by rfl)
    (hnT : T ≠ "__name__" := by decide) (hdT : (T == ("__debug__" : Str)) = false := by decide) (hb : bootBuiltins "isinstance" = some (.builtin "isinstance") := by decide +kernel)
    (he1 : starEach [e, .Name T p2] X.env = (false, eval e X.env) :: starEach [.Name T p2] X.env := by rfl) (he2 : starEach [.Name T p2] X.env = (false, eval (.Name T p2) X.env) :: starEach [] X.env := by rfl) (hpl : (backTo pos (starEach [.Name T p2] X.env)).any (·.1) = false := by rfl) :
    PE X (.Call (.Name "isinstance" p) [e, .Name T p2] [] pos) (tE c W .dur (mUn (dIsi n) m)) :=
  (pe_callB call_isi hg hm hb (pa_cons he (pa_cons (pe_bltn (v := .ty n) hgT hmT hv rfl hnT hdT) pa_nil he2) he1) (by decide) (by decide) he1 hpl).via fun σ H Q ⟨Γ, ρ, r, er, em, p⟩ => by
    have em : bnd (m ρ) (dIsi n) = some r := em
    refine use er em p.err fun d v H1 h1 s1 r1 => ?_
    obtain ⟨t, ht, h1⟩ := Option.bind_eq_some_iff.mp h1
    obtain ⟨b, hb, rfl⟩ := Option.map_eq_some_iff.mp h1
    refine ⟨v, .ty n, .type t, .type n, b, rfl, .ty n, ?_, kit_ty hb, fin_bl (p.mono s1) r1.1⟩
    rw [← hK]
    exact bor_ty r1.2 ht
end

/-! ### {k: v for t in it if ..} -/
def dcGo (g : MG) (tt : MT) (mk mv : ME) (ρ : Ro) : List D → List (Key × D) → Option (List (Key × D))
  | [], acc => some acc
  | d :: ds, acc => (g d ρ).bind fun ρ1 => match tt ρ1 with
    | some (.ok true) => (match mk ρ1 with
      | some (.ok kd) => (match mv ρ1 with
        | some (.ok y) => (keyD kd).bind fun k => dcGo g tt mk mv ρ ds (ptD acc k y)
        | _ => none)
      | _ => none)
    | some (.ok false) => dcGo g tt mk mv ρ ds acc
    | _ => none
def mDc (src : MI) (vs : List Nat) (g : MG) (tt : MT) (mk mv : ME) : ME := fun ρ => bnd (src ρ) fun ds => guard (noOwn ρ vs = true ∧ ds.length ≤ lim) ((dcGo g tt mk mv (wipeR ρ vs) ds []).map fun ys => .ok (.dK ys))
section
variable {X : Cx} {c : Conf} {W : WX}
theorem dc_ok {src : MI} {vs is : List Nat} {g : MG} {tt : MT} {mk mv : ME} {gg : TG} {X' : Cx} {tg : Expr} (hsub : ∀ i ∈ is, i ∈ vs) (kfx : vs.all (fun v => fxOk c.fx v) = true)
    (hg : GOk c is gg g)
    {σ : L2.St} {H : Hp} {Q : VK} (h : tE c W .own (mDc src vs g tt mk mv) σ H Q) : tDc (tI c W false src) gg (tT c W0 tt) (tE c W0 .bor mk) (tE c W0 .dur mv) vs σ H Q := by
  obtain ⟨Γ, ρ, r, er, em, p⟩ := h
  have em : bnd (src ρ) _ = some r := em
  cases q : src ρ with
  | none => rw [q] at em; cases em
  | some w =>
    rw [q] at em
    cases w with
    | error x =>
      cases em
      exact ⟨Γ, ρ, _, er, q, p⟩
    | ok ds =>
      obtain ⟨⟨no, hlim⟩, em⟩ := guard_ok em
      obtain ⟨ys, hys, rfl⟩ := Option.map_eq_some_iff.mp em
      refine ⟨Γ, ρ, _, er, q, fun J P us ra H1 s1 e1 r1 w1 q1 st D hD => ?_⟩
      have lu := r1.len
      have h0 : Γ.H0 D = none := e1.ext.free hD
      have nD : ¬ NN Γ σ ρ D := fun z => e1.tracked z hD
      refine ⟨fun i m H' => m = ds.length - i ∧ i ≤ ds.length ∧ ∃ (acc : List (Key × V)) (ys1 : List (Key × DL.D)), H' D = some (.dK acc) ∧ acc.map (·.1) = ys1.map (·.1) ∧ Rp c (NN (Γ.add D) σ ρ) H' (acc.map (·.2)) (ys1.map (·.2)) ∧ acc.length ≤ i ∧ Same H1 H' ∧ ER c (Γ.add D) σ H' ρ ∧ dcGo g tt mk mv (wipeR ρ vs) (ds.drop i) ys1 = some ys,
        ⟨_, rfl, Nat.zero_le _, [], [], upd_same, rfl, .nil, Nat.le_refl _, same_new hD, e1.addU hD, hys⟩, ?_⟩
      rintro i m H2 ⟨rfl, hil, acc, ys1, hacc, kacc, racc, hal, s2, e2, em2⟩
      have hP : P H2 := st H2 fun p hp => s2 _ _ (q1 p hp).2
      by_cases hlt : i < ds.length
      · have hx : us[i]? = some us[i] := List.getElem?_eq_getElem (by rw [lu]; exact hlt)
        obtain ⟨go, yl⟩ := w1.go i H2 _ hP hx
        refine .inr ⟨go, fun H' => ∃ (acc : List (Key × V)) (ys1 : List (Key × DL.D)), H' D = some (.dK acc) ∧ acc.map (·.1) = ys1.map (·.1) ∧ Rp c (NN (Γ.add D) σ ρ) H' (acc.map (·.2)) (ys1.map (·.2)) ∧ acc.length ≤ i + 1 ∧ Same H1 H' ∧ ER c (Γ.add D) σ H' ρ ∧ dcGo g tt mk mv (wipeR ρ vs) (ds.drop (i + 1)) ys1 = some ys,
          fun H' z => ⟨ds.length - (i + 1), by omega, rfl, hlt, z⟩, fun x H3 y3 => ?_⟩
        obtain ⟨eH, ex⟩ := yl x H3 y3
        subst eH ex
        rw [List.drop_eq_getElem_cons hlt] at em2
        unfold dcGo at em2
        obtain ⟨ρ3, hg3, em3⟩ := Option.bind_eq_some_iff.mp em2
        have ew := e2.wipe kfx
        have nnw : ∀ a, NN (Γ.add D) (wipe σ vs) (wipeR ρ vs) a → NN (Γ.add D) σ ρ a := fun a h => by
          rcases h with h | ⟨j, f, h1, h2⟩
          · exact .inl h
          · exact .inr ⟨j, f, (wipeR_some h1).1, (wipe_some h2).1⟩
        have ri : Re c (NN (Γ.add D) (wipe σ vs) (wipeR ρ vs)) H3 us[i] ds[i] := by
          refine Rp.step (fun a o n hq => ?_) (r1.at_ hx (List.getElem?_eq_getElem hlt))
          refine ⟨s2 a o hq, fun z => ?_⟩
          rcases nnw a z with (z | z) | z
          · exact n (.inl z)
          · subst z; rw [hD] at hq; cases hq
          · exact n (.inr z)
        refine hg (Γ.add D) (wipe σ vs) H3 (wipeR ρ vs) ρ3 _ _ _ ew ri hg3 fun σ4 e4 l4 o4 => ⟨?_, ?_⟩
        · have : wipe σ4 vs = wipe (wipe σ vs) vs := wipe_set l4 fun j hj => (o4 j fun z => hj (hsub j z)).1
          rw [this]
          exact wipe_set (wipe_length σ vs) fun j hj => wipe_out hj
        have back : ∀ a, NN (Γ.add D) σ ρ a → NN (Γ.add D) σ4 ρ3 a := NN_blk hsub no o4
        cases et : tt ρ3 with
        | none => rw [et] at em3; cases em3
        | some w =>
          rw [et] at em3
          cases w with
          | error x => cases em3
          | ok b =>
            refine ⟨Γ.add D, ρ3, _, e4, et, fun H5 s5 e5 => ?_⟩
            cases b with
            | false =>
              rw [if_neg Bool.false_ne_true]
              exact ⟨acc, ys1, s5 _ _ hacc, kacc, racc.same s5, by omega, s2.trans s5, e2.same s5, em3⟩
            | true =>
              rw [if_pos rfl]
              dsimp only at em3
              cases ek : mk ρ3 with
              | none => rw [ek] at em3; cases em3
              | some w =>
                rw [ek] at em3
                cases w with
                | error x => cases em3
                | ok kd =>
                  dsimp only at em3
                  refine ⟨Γ.add D, ρ3, _, e5, ek, fun kv H6 s6 r6 => ?_⟩
                  cases ee : mv ρ3 with
                  | none => rw [ee] at em3; cases em3
                  | some w =>
                    rw [ee] at em3
                    cases w with
                    | error x => cases em3
                    | ok y =>
                      obtain ⟨k, hk, em4⟩ := Option.bind_eq_some_iff.mp em3
                      refine ⟨Γ.add D, ρ3, _, r6.1, ee, fun v H7 s7 r7 => ?_⟩
                      have sx : Same H3 H7 := (s5.trans s6).trans s7
                      have n2 : NN (Γ.add D) σ ρ D := .inl (.inr rfl)
                      obtain ⟨pk, pr⟩ := pt_rel kacc (racc.same sx) k (r7.2.less back)
                      have hl : (putK acc k v).length ≤ acc.length + 1 := length_putK acc k v
                      refine ⟨acc, k, keyD_v hk r6.2, sx _ _ hacc, Nat.lt_of_le_of_lt hal (Nat.lt_of_lt_of_le hlt (lim_ok hlim)), putK acc k v, ptD ys1 k y, upd_same, pk, ?_, by omega, ?_, ?_, em4⟩
                      · exact Rp.step (mut_step n2) pr
                      · intro a o ha
                        rw [upd_ne (ne_of_none ha hD)]
                        exact sx _ _ (s2 _ _ ha)
                      · have e6 : ER c (Γ.add D) σ H7 ρ := e2.same sx
                        have st' := mut_step (H := H7) (o := .dK (putK acc k v)) n2
                        exact {
                          len := e6.len
                          ext := fun a o ha => by
                            have ne : a ≠ D := fun z => by subst z; have := h0; rw [show Γ.H0 a = some o from ha] at this; cases this
                            rw [upd_ne ne]; exact e6.ext a o ha
                          utr := fun a ha => by
                            by_cases z : a = D
                            · subst z; exact Mt.upd fun _ z => by cases z
                            · exact (e6.utr a ha).off z
                          held := fun p hp => (e6.held p hp).step st'
                          raw := fun p hp => let z := st' _ _ (e6.raw p hp).1 (e6.raw p hp).2; ⟨z.2, z.1⟩
                          fx := e6.fx
                          own := e6.own
                          dis := e6.dis
                          slot := fun j f hf => let ⟨v, h1, h2⟩ := e6.slot j f hf; ⟨v, h1, h2.step st'⟩
                          mine := fun j f hf => let ⟨b, h1, h2⟩ := e6.mine j f hf; ⟨b, h1, h2.step (fun o ho => by
                            have ne : b ≠ D := fun z => by subst z; exact (e6.own j f b hf h1).2 (.inr rfl)
                            rw [upd_ne ne]; exact ho) st'⟩ }
      · have e : i = ds.length := by omega
        subst e
        rw [List.drop_length] at em2
        cases em2
        exact .inl ⟨w1.stop _ _ hP (by rw [lu]; exact Nat.le_refl _), p (.ref D) H2 (s1.trans s2) ⟨D, rfl, h0, nD, e2, acc, hacc, kacc, racc⟩⟩
variable {kx vx tg iter : Expr} {ifs : List Expr} {scope : Scope} {own : List (Str × Nat)} {pos : Pos} {src : MI} {is : List Nat} {g : MG} {tt : MT} {mk mv : ME}
theorem d_dc (own : List (Str × Nat)) (hc : X.calm = true) (hN : X.N.Nodup) (hi : PI X tg iter (tI c W false src)) (ok : blkC X.N X.env.scope scope own = true)
    {gg : TG} (pg : ∀ (s : Shared) (H : Hp) (C : Addr) (cl : List (Str × Addr)) (fp : List Addr), PG (X.blk s H scope (compEnvC scope cl C X.env) fp) tg gg) (hgg : GOk c is gg g)
    (ht : ∀ (s : Shared) (H : Hp) (C : Addr) (cl : List (Str × Addr)) (fp : List Addr), PTs (X.blk s H scope (compEnvC scope cl C X.env) fp) ifs (tT c W0 tt))
    (hk : ∀ (s : Shared) (H : Hp) (C : Addr) (cl : List (Str × Addr)) (fp : List Addr), PE (X.blk s H scope (compEnvC scope cl C X.env) fp) kx (tE c W0 .bor mk))
    (he : ∀ (s : Shared) (H : Hp) (C : Addr) (cl : List (Str × Addr)) (fp : List Addr), PE (X.blk s H scope (compEnvC scope cl C X.env) fp) vx (tE c W0 .dur mv)) (hsub : ∀ i ∈ is, i ∈ own.map (·.2) := by decide)
    (kfx : (own.map (·.2)).all (fun v => fxOk c.fx v) = true := by rfl) (hs : ∀ x, foldedSetIterable iter X.env x = pure x := by intro _; rfl) :
    PE X (.DictComp kx vx [⟨tg, iter, ifs, 0⟩] scope pos) (tE c W .own (mDc src (own.map (·.2)) g tt mk mv)) :=
  (pe_dc hc hN hi (blkOk_by ok) pg ht hk he hs).via fun σ H Q h => dc_ok (X' := X) (tg := tg) hsub kfx hgg h
theorem sw_trueD {kx vx : Expr} {gs : List Comprehension} {scope : Scope} {pos py : Pos} {y : Str} {l : Nat} {env : Env} (hk : env.scope.kind = .function) (hy : env.scope.names.lookup y = some .local) (hl : (py.line == pos.line) = true)
    (ha : (scope.names.any fun (n, k) => n == y && (k == .local || k == .cell)) = false) : swapsWith (.DictComp kx vx gs scope pos) (some (.Name y py)) l env = pure true := by
  have ky : env.kindOf y = some .local := hy
  have hb : env.blockKind = .function := by unfold Env.blockKind; rw [hk]; rfl
  unfold swapsWith
  simp only [hb, ky, ha, Expr.pos, hl]
  rfl
open PySem.Spec PyProof.Rows in
theorem ps_setDc {i : Nat} {y : Str} {py : Pos} {kx vx tg iter : Expr} {ifs : List Expr} {scope : Scope} {own : List (Str × Nat)} {pos spos : Pos} {wi : TI} {g : TG} {tt : TT} {tk tv : TE} (hc : X.calm = true) (hN : X.N.Nodup) (hy : X.N[i]? = some y) (hyl : X.env.scope.names.lookup y = some .local)
    (hsw : swapsWith (.DictComp kx vx [⟨tg, iter, ifs, 0⟩] scope pos) (some (.Name y py)) spos.line X.env = pure true) (hi : PI X tg iter wi) (ok : BlkOk X.N X.env.scope scope own)
    (hg : ∀ (s : Shared) (H : Hp) (C : Addr) (cl : List (Str × Addr)) (fp : List Addr), PG (X.blk s H scope (compEnvC scope cl C X.env) fp) tg g) (ht : ∀ (s : Shared) (H : Hp) (C : Addr) (cl : List (Str × Addr)) (fp : List Addr), PTs (X.blk s H scope (compEnvC scope cl C X.env) fp) ifs tt)
    (hk : ∀ (s : Shared) (H : Hp) (C : Addr) (cl : List (Str × Addr)) (fp : List Addr), PE (X.blk s H scope (compEnvC scope cl C X.env) fp) kx tk)
    (he : ∀ (s : Shared) (H : Hp) (C : Addr) (cl : List (Str × Addr)) (fp : List Addr), PE (X.blk s H scope (compEnvC scope cl C X.env) fp) vx tv) (hs : ∀ x, foldedSetIterable iter X.env x = pure x := by intro _; rfl) :
    PS X (.Assign [.Name y py] (.DictComp kx vx [⟨tg, iter, ifs, 0⟩] scope pos) spos) (tAsg (tDc wi g tt tk tv (own.map (·.2))) (gName i)) := by
  refine ⟨fun pins s σ H D I h => ?_⟩
  rw [exec_Assign_Name_used _ _ _ _ hsw]
  refine wpAny_bind (wpAny_standAt (wpAny_bind ?_))
  show wpAny _ X.A (do let _ ← comprehension (.DictComp kx vx [⟨tg, iter, ifs, 0⟩] scope pos) scope X.env (firstIterPos [⟨tg, iter, ifs, 0⟩] pos) newDict false (eval iter X.env) (some (assign (.Name y py) X.env))) _ _ s
  have h : tDc wi g tt tk tv (own.map (·.2)) σ H (fun x H1 => gName i x σ H1 D.nx) := h
  refine wpAny_bind (thn (dc_core (Qf := fun _ s' => SP X pins D .next s') hc hN I hi ok hg ht hk he hs h fun L C s' m H' I' q hn f => ?_) fun _ s' hq => wpAny_pure (wpAny_pure hq))
  show wpAny _ _ (assign (.Name y py) X.env (.ref L)) _ _ _
  refine wpAny_assign_Name (store_ok2 (v := V.ref L) I' hN hy (.inl hyl) rfl (fun s2 I2 ⟨a, sb, ha⟩ => ?_) (.inr hyl))
  obtain ⟨f0, f1, f2, f3, f4, f5⟩ := f
  have haC : C ≠ a := by
    rcases ha with z | z
    · rw [z]; exact f1
    · exact fun e => f4 y a z e.symm
  refine ⟨m, hn.sameBut sb haC, fun h3 sb3 => ?_⟩
  exact ⟨_, H', I2.turned (t' := s2.toks) (fun b o hb e => (sb3.2 b hb).trans e) f0 f1 f3 f4 f5, q⟩
/-- y = {k: v for ..} on one line -/
theorem s_setDc (j : Nat) {y : Str} {py spos : Pos} (own : List (Str × Nat)) (hc : X.calm = true) (hN : X.N.Nodup) (hsw : swapsWith (.DictComp kx vx [⟨tg, iter, ifs, 0⟩] scope pos) (some (.Name y py)) spos.line X.env = pure true)
    (hi : PI X tg iter (tI c W false src)) (ok : blkC X.N X.env.scope scope own = true)
    {gg : TG} (pg : ∀ (s : Shared) (H : Hp) (C : Addr) (cl : List (Str × Addr)) (fp : List Addr), PG (X.blk s H scope (compEnvC scope cl C X.env) fp) tg gg) (hgg : GOk c is gg g)
    (ht : ∀ (s : Shared) (H : Hp) (C : Addr) (cl : List (Str × Addr)) (fp : List Addr), PTs (X.blk s H scope (compEnvC scope cl C X.env) fp) ifs (tT c W0 tt))
    (hk : ∀ (s : Shared) (H : Hp) (C : Addr) (cl : List (Str × Addr)) (fp : List Addr), PE (X.blk s H scope (compEnvC scope cl C X.env) fp) kx (tE c W0 .bor mk))
    (he : ∀ (s : Shared) (H : Hp) (C : Addr) (cl : List (Str × Addr)) (fp : List Addr), PE (X.blk s H scope (compEnvC scope cl C X.env) fp) vx (tE c W0 .dur mv)) (hsub : ∀ i ∈ is, i ∈ own.map (·.2) := by decide)
    (kfx : (own.map (·.2)).all (fun v => fxOk c.fx v) = true := by rfl) (hs : ∀ x, foldedSetIterable iter X.env x = pure x := by intro _; rfl) (hy : X.N[j]? = some y := by rfl) (hyl : X.env.scope.names.lookup y = some .local := by rfl) (k : fxOk c.fx j = true := by rfl) :
    PS X (.Assign [.Name y py] (.DictComp kx vx [⟨tg, iter, ifs, 0⟩] scope pos) spos) (tS c W (mSet j true (mDc src (own.map (·.2)) g tt mk mv))) :=
  (ps_setDc hc hN hy hyl hsw hi (blkOk_by ok) pg ht hk he hs).via fun D σ H ⟨Γ, ρ, o, er, em, p⟩ => by
    refine dc_ok (X' := X) (tg := tg) hsub kfx hgg (useS er em p fun d v H1 h1 s1 r1 => ?_)
    cases h1
    obtain ⟨a, rfl, h0, na, e1, ow⟩ := r1
    exact p _ _ (ER.setO e1 h0 na ow k)
end
end DL

set_option Elab.async false
set_option linter.all false
set_option maxRecDepth 100000
set_option maxHeartbeats 2000000
set_option autoImplicit false
/-! DLn: plain lemmas over dicts, upto-lists. -/
namespace DL
open PySem L2
theorem mDc_eq (src : MI) (vs : List Nat) (g : MG) (tt : MT) (mk mv : ME) (ρ : Ro) : mDc src vs g tt mk mv ρ = bnd (src ρ) fun ds => DL.guard (noOwn ρ vs = true ∧ ds.length ≤ lim) ((dcGo g tt mk mv (wipeR ρ vs) ds []).map fun ys => .ok (.dK ys)) := (rfl)
theorem ptD_new {κ : Type} [DecidableEq κ] {kds : List (κ × D)} {k : κ} {d : D} (h : k ∉ kds.map (·.1)) : ptD kds k d = kds ++ [(k, d)] := by
  unfold ptD
  rw [if_neg]
  intro z
  obtain ⟨p, hp, e⟩ := List.any_eq_true.mp z
  exact h (List.mem_map.mpr ⟨p, hp, of_decide_eq_true e⟩)
/-- a dict comprehension whose keys are all different -/
theorem dc_map {g : MG} {mk mv : ME} {ρ : Ro} (kf vf : D → D) (key : D → Key) : ∀ {ds : List D} {acc : List (Key × D)}, (∀ d ∈ ds, ∃ ρ1, g d ρ = some ρ1 ∧ mk ρ1 = some (.ok (kf d)) ∧ keyD (kf d) = some (key d) ∧ mv ρ1 = some (.ok (vf d))) → (acc.map (·.1) ++ ds.map key).Nodup →
    dcGo g mYes mk mv ρ ds acc = some (acc ++ ds.map fun d => (key d, vf d))
  | [], acc, _, _ => by rw [List.map_nil, List.append_nil]; rfl
  | d :: ds, acc, h, nd => by
    obtain ⟨ρ1, h1, h2, h3, h4⟩ := h d List.mem_cons_self
    have new : key d ∉ acc.map (·.1) := fun z => by
      have := (List.nodup_append.mp nd).2.2 _ z (key d) (by simp)
      exact this rfl
    have e := dc_map (g := g) (mk := mk) (mv := mv) (ρ := ρ) kf vf key (ds := ds) (acc := acc ++ [(key d, vf d)]) (fun d hd => h d (List.mem_cons_of_mem _ hd)) (by simpa using nd)
    unfold dcGo
    rw [h1, Option.bind_some]
    show (match mk ρ1 with | some (.ok kd) => (match mv ρ1 with | some (.ok y) => (keyD kd).bind fun k => dcGo g mYes mk mv ρ ds (ptD acc k y) | _ => none) | _ => none) = _
    rw [h2]
    dsimp only
    rw [h4]
    dsimp only
    rw [h3, Option.bind_some, ptD_new new, e]
    simp
theorem dc_is {src : MI} {vs : List Nat} {g : MG} {mk mv : ME} {ρ : Ro} (kf vf : D → D) (key : D → Key) {ds : List D} (h1 : src ρ = some (.ok ds)) (h2 : noOwn ρ vs = true) (h3 : ds.length ≤ 900) (nd : (ds.map key).Nodup) (h : ∀ d ∈ ds, ∃ ρ1, g d (wipeR ρ vs) = some ρ1 ∧ mk ρ1 = some (.ok (kf d)) ∧ keyD (kf d) = some (key d) ∧ mv ρ1 = some (.ok (vf d))) :
    mDc src vs g mYes mk mv ρ = some (.ok (.dK (ds.map fun d => (key d, vf d)))) := by
  rw [mDc_eq, h1, bnd_ok, guard_t ⟨h2, lim900 h3⟩, dc_map kf vf key h (by simpa using nd)]
  rfl
/-- a row's pieces with their places, from off + 1 on -/
def plcs : List Int → Nat → List (Key × D)
  | [], _ => []
  | x :: l, off => (.inl x, .int ((off : Int) + 1)) :: plcs l (off + 1)
theorem plcs_at : ∀ (l : List Int) (off : Nat) (x : Int), x ∈ l → lkD (plcs l off) (Sum.inl x : Key) = some (.int (((off + l.idxOf x : Nat) : Int) + 1))
  | y :: l, off, x, h => by
    unfold plcs lkD
    rw [List.find?_cons]
    by_cases e : y = x
    · subst e
      simp
    · have e2 : decide ((Sum.inl y : Key) = Sum.inl x) = false := decide_eq_false fun z => e (Sum.inl.inj z)
      have hx : x ∈ l := by
        rcases List.mem_cons.mp h with z | z
        · exact absurd z.symm e
        · exact z
      have ih := plcs_at l (off + 1) x hx
      unfold lkD at ih
      dsimp only
      rw [e2]
      dsimp only
      rw [ih, List.idxOf_cons]
      have e3 : (y == x) = false := by simpa using e
      rw [e3]
      simp only [cond_false]
      congr 3
      omega
theorem plcs_keys : ∀ (l : List Int) (off : Nat), (plcs l off).map (·.1) = l.map Sum.inl
  | [], _ => rfl
  | x :: l, off => by simp [plcs, plcs_keys l]
theorem plcs_rng (l : List Int) : ∀ (m : Nat), m ≤ l.length → ((List.range' m (l.length - m)).map fun i : Nat => ((Sum.inl (l.getD i 0) : Key), D.int ((i : Int) + 1))) = plcs (l.drop m) m := by
  intro m hm
  obtain ⟨r, hr⟩ : ∃ r, r = l.length - m := ⟨_, rfl⟩
  induction r generalizing m with
  | zero =>
    rw [show l.length - m = 0 by omega, show l.drop m = [] by rw [List.drop_eq_nil_iff]; omega]
    rfl
  | succ r ih =>
    have hlt : m < l.length := by omega
    rw [show l.length - m = (l.length - (m + 1)) + 1 by omega, List.range'_succ, List.map_cons, ih (m + 1) (by omega) (by omega), List.drop_eq_getElem_cons hlt]
    rw [List.getD_eq_getElem?_getD, List.getElem?_eq_getElem hlt]
    rfl
theorem upto_nodup (n : Nat) : (upto n).Nodup := by
  unfold upto
  refine List.Pairwise.map _ (fun a b h => ?_) (List.nodup_range (n := n))
  omega
theorem upto_len (n : Nat) : (upto n).length = n := by unfold upto; simp
theorem mem_upto {n : Nat} {x : Int} : x ∈ upto n ↔ 1 ≤ x ∧ x ≤ n := by
  unfold upto
  simp only [List.mem_map, List.mem_range]
  constructor
  · rintro ⟨i, h, rfl⟩
    omega
  · intro h
    exact ⟨(x - 1).toNat, by omega, by omega⟩
theorem dSorted_t (l : List Int) : dSorted [.tup (l.map D.int)] = some (.ok (.lst ((isort l).map D.int))) := by
  show (some (l.map D.int)).bind (fun ds => (ints? ds).map fun ns => (.ok (.lst ((isort ns).map D.int)) : Except EN D)) = _
  rw [Option.bind_some, ints?_map]
  rfl
theorem isort_upto {l : List Int} {n : Nat} (p : l.Perm (upto n)) : isort l = upto n := sorted_unique ((isort_perm _).trans p) (isort_sorted _) (upto_sorted _)
theorem lc_up (src : MI) (v : Nat) (ρ : Ro) (n : Nat) (hn : n ≤ 900) (h1 : src ρ = some (.ok ((List.range n).map fun i : Nat => D.int (i : Int)))) (h2 : noOwn ρ [v] = true) (hv : v < ρ.length) : mLc src [v] (gD v) mYes (mBin dAdd (mVar v) (mC (.int 1))) ρ = some (.ok (.lst ((upto n).map D.int))) := by
  rw [lc_is (fun d => match d with | .int i => .int (i + 1) | d => d) h1 h2 (by simpa using hn)]
  · unfold upto
    rw [List.map_map, List.map_map]
    rfl
  · intro d hd
    obtain ⟨i, _, rfl⟩ := List.mem_map.mp hd
    refine ⟨_, rfl, ?_⟩
    have e : mVar v ((wipeR ρ [v]).set v (some (D.int (i : Int), false))) = some (.ok (.int (i : Int))) := by
      unfold mVar
      rw [List.getElem?_set_self (by rw [wipeR_length]; exact hv)]
    rw [mBin_eq, e]
    rfl
end DL

set_option Elab.async false
set_option linter.all false
set_option maxRecDepth 100000
set_option maxHeartbeats 1000000
set_option autoImplicit false
/-! DLo: ranges that go down by one. -/
namespace DL
open PySem L2
def rgDn (i j : Int) : List D := (List.range (i - j).toNat).map fun k : Nat => D.int (i - (k : Int))
def rgUp (i j : Int) : List D := (List.range ((j - i + 1) / 2).toNat).map fun k : Nat => D.int (i + (k : Int) * 2)
def mRgI3 (m n q : ME) : MI := fun ρ => bnd (m ρ) fun d => bnd (n ρ) fun e => bnd (q ρ) fun f => match d, e, f with
  | .int a, .int b, .int z => if z = -1 then DL.guard (rgOk a b) (ok (rgDn a b)) else if z = 2 then DL.guard (rgOk a b) (ok (rgUp a b)) else none
  | _, _, _ => none
section
variable {X : Cx} {c : Conf} {W : WX} {tg a b e : Expr} {m n q : ME} {p pos : Pos} {nd : Bool}
theorem walks_dn (lo : Int) (n : Nat) : Walks (Itc lo (-1) n) (fun _ => True) ((List.range n).map fun i : Nat => V.int (lo - (i : Int))) where
  go := fun i H x _ hx => by
    rw [List.getElem?_map] at hx
    obtain ⟨j, hj, rfl⟩ := Option.map_eq_some_iff.mp hx
    obtain ⟨hl, e⟩ := List.getElem?_eq_some_iff.mp hj
    rw [List.getElem_range] at e
    subst e
    rw [List.length_range] at hl
    refine ⟨hl, fun y H2 ⟨e, e2⟩ => ⟨e, e2.trans ?_⟩⟩
    congr 1
    omega
  stop := fun i H _ hl => by
    rw [List.length_map, List.length_range] at hl
    exact hl
theorem rgDn_rp {N : Addr → Prop} {H : Hp} (a b : Int) : Rp c N H ((List.range (a - b).toNat).map fun i : Nat => V.int (a - (i : Int))) (rgDn a b) := by
  unfold rgDn
  generalize List.range (a - b).toNat = l
  induction l with
  | nil => exact .nil
  | cons x l ih => exact .int ih
theorem rgC_up2 {i j : Int} (h1 : -1000000 ≤ i) (h2 : i ≤ 1000000) (h3 : -1000000 ≤ j) (h4 : j ≤ 1000000) : RgC i j 2 ((j - i + 1) / 2).toNat := by
  have e : Builtin.Range.rangeSize i j 2 = (((j - i + 1) / 2).toNat : Int) := by
    unfold Builtin.Range.rangeSize
    simp only [show (2 : Int) > 0 by decide, if_true]
    split <;> omega
  refine ⟨by decide, by decide, ?_, e⟩
  unfold Builtin.Range.small
  rw [e]
  simp only [Builtin.Range.rangeFitsLong, Bool.and_eq_true, Bool.or_eq_true, decide_eq_true_eq, beq_iff_eq, show (2 : Int) > 0 by decide, if_true]
  omega
theorem walks_up2 (lo : Int) (n : Nat) : Walks (Itc lo 2 n) (fun _ => True) ((List.range n).map fun i : Nat => V.int (lo + (i : Int) * 2)) where
  go := fun i H x _ hx => by
    rw [List.getElem?_map] at hx
    obtain ⟨j, hj, rfl⟩ := Option.map_eq_some_iff.mp hx
    obtain ⟨hl, e⟩ := List.getElem?_eq_some_iff.mp hj
    rw [List.getElem_range] at e
    subst e
    rw [List.length_range] at hl
    refine ⟨hl, fun y H2 ⟨e, e2⟩ => ⟨e, e2.trans ?_⟩⟩
    congr 1
  stop := fun i H _ hl => by
    rw [List.length_map, List.length_range] at hl
    exact hl
theorem rgUp_rp {N : Addr → Prop} {H : Hp} (a b : Int) : Rp c N H ((List.range ((b - a + 1) / 2).toNat).map fun i : Nat => V.int (a + (i : Int) * 2)) (rgUp a b) := by
  have e : ((List.range ((b - a + 1) / 2).toNat).map fun i : Nat => V.int (a + (i : Int) * 2)) = ((List.range ((b - a + 1) / 2).toNat).map fun i : Nat => a + (i : Int) * 2).map V.int := by rw [List.map_map]; rfl
  have e2 : rgUp a b = ((List.range ((b - a + 1) / 2).toNat).map fun i : Nat => a + (i : Int) * 2).map D.int := by unfold rgUp; rw [List.map_map]; rfl
  rw [e, e2]
  exact Rp.of_ints
theorem i_rng3 (hg : Gl X "range") (hm : X.mg "range" = none) (ha : PE X a (tE c W .bor m)) (hb : PE X b (tE c W .bor n)) (hq : PE X e (tE c W .bor q)) (na : starEach [a, b, e] X.env = (false, eval a X.env) :: starEach [b, e] X.env := by rfl) (nb : starEach [b, e] X.env = (false, eval b X.env) :: starEach [e] X.env := by rfl) (nc : starEach [e] X.env = (false, eval e X.env) :: starEach [] X.env := by rfl)
    (hpl : (backTo pos (starEach [b, e] X.env)).any (·.1) = false := by rfl) : PI X tg (.Call (.Name "range" p) [a, b, e] [] pos) (tI c W nd (mRgI3 m n q)) :=
  (pi_range3 hg hm (b_cons ha (b_cons hb (b_cons hq b_nil nc) nb) na) na hpl).via fun σ H Q ⟨Γ, ρ, r, er, em, p⟩ => by
    have em' : bnd ((mCons m (mCons n (mCons q mNil))) ρ) (fun ds => match ds with | [.int a, .int b, .int z] => if z = -1 then DL.guard (rgOk a b) (ok (rgDn a b)) else if z = 2 then DL.guard (rgOk a b) (ok (rgUp a b)) else none | _ => none) = some r := by
      unfold mRgI3 at em
      unfold mCons mNil
      cases e : m ρ with
      | none => rw [e] at em; cases em
      | some w =>
        rw [e] at em
        cases w with
        | error x => exact em
        | ok d =>
          cases e2 : n ρ with
          | none => simp only [bnd, e2] at em; cases em
          | some w2 =>
            cases w2 with
            | error x => simp only [bnd, e2] at em ⊢; exact em
            | ok d2 =>
              cases e3 : q ρ with
              | none => simp only [bnd, e2, e3] at em; cases em
              | some w3 =>
                cases w3 with
                | error x => simp only [bnd, e2, e3] at em ⊢; exact em
                | ok d3 =>
                  simp only [bnd, e2, e3] at em ⊢
                  cases d <;> cases d2 <;> cases d3 <;> first | (cases em; done) | exact em
    refine useB er em' p.err fun ds vs H1 h1 s1 e1 r1 => ?_
    split at h1
    · rename_i k k2 z
      split at h1
      · rename_i hz
        subst hz
        obtain ⟨hl, h1⟩ := guard_ok h1
        cases h1
        cases r1 with
        | cons b1 r1 => cases r1 with
          | cons b2 r1 => cases r1 with
            | cons b3 r1 =>
              cases r1
              rw [b1.int, b2.int, b3.int]
              obtain ⟨l1, l2, l3, l4⟩ := hl
              have e62 : (2 : Int) ^ 62 = 4611686018427387904 := by decide
              exact ⟨k, k2, -1, (k - k2).toNat, rfl, RgC.neg (by omega) (by omega) (by omega) (by omega), p (Itc k (-1) (k - k2).toNat) _ _ [] H1 s1 e1 (rgDn_rp k k2) (walks_dn k _) (fun p hp => by cases hp) fun _ _ => trivial⟩
      · split at h1
        · rename_i hz
          subst hz
          obtain ⟨hl, h1⟩ := guard_ok h1
          cases h1
          cases r1 with
          | cons b1 r1 => cases r1 with
            | cons b2 r1 => cases r1 with
              | cons b3 r1 =>
                cases r1
                rw [b1.int, b2.int, b3.int]
                obtain ⟨l1, l2, l3, l4⟩ := hl
                exact ⟨k, k2, 2, ((k2 - k + 1) / 2).toNat, rfl, rgC_up2 l1 l2 l3 l4, p (Itc k 2 ((k2 - k + 1) / 2).toNat) _ _ [] H1 s1 e1 (rgUp_rp k k2) (walks_up2 k _) (fun p hp => by cases hp) fun _ _ => trivial⟩
        · cases h1
    · cases h1
end
end DL

set_option Elab.async false
set_option linter.all false
set_option maxRecDepth 100000
set_option maxHeartbeats 1000000
set_option autoImplicit false
/-! DLs: plain lemmas over loops, comprehensions, lists. -/
namespace DL
open PySem L2
theorem lc_filter {g : MG} {tt : MT} {me : ME} {ρ : Ro} (q : D → Bool) (f : D → D) : ∀ {ds : List D}, (∀ d ∈ ds, ∃ ρ1, g d ρ = some ρ1 ∧ tt ρ1 = some (.ok (q d)) ∧ me ρ1 = some (.ok (f d))) → lcGo g tt me ρ ds = some ((ds.filter q).map f)
  | [], _ => rfl
  | d :: ds, h => by
    obtain ⟨ρ1, h1, h2, h3⟩ := h d List.mem_cons_self
    have e := lc_filter (g := g) (tt := tt) (me := me) (ρ := ρ) q f (ds := ds) fun d hd => h d (List.mem_cons_of_mem _ hd)
    unfold lcGo
    rw [h1, Option.bind_some, h2]
    cases hq : q d with
    | true =>
      dsimp only
      rw [h3, e, List.filter_cons_of_pos hq]
      rfl
    | false =>
      dsimp only
      rw [e, List.filter_cons_of_neg (by simp [hq])]
theorem lcf_is {src : MI} {vs : List Nat} {g : MG} {tt : MT} {me : ME} {ρ : Ro} (q : D → Bool) (f : D → D) {ds : List D} (h1 : src ρ = some (.ok ds)) (h2 : noOwn ρ vs = true) (h3 : ds.length ≤ 900) (h : ∀ d ∈ ds, ∃ ρ1, g d (wipeR ρ vs) = some ρ1 ∧ tt ρ1 = some (.ok (q d)) ∧ me ρ1 = some (.ok (f d))) :
    mLc src vs g tt me ρ = some (.ok (.lst ((ds.filter q).map f))) := by
  rw [mLc_eq, h1, bnd_ok, guard_t ⟨h2, lim900 h3⟩, lc_filter q f h]
  rfl
/-- the places below n -/
def rng (n : Nat) : List D := (List.range n).map fun i : Nat => D.int (i : Int)
theorem rng_eq (n : Nat) : ((List.range n).map fun i : Nat => D.int (i : Int)) = rng n := rfl
theorem rng_len (n : Nat) : (rng n).length = n := by unfold rng; simp
theorem rng_ints (n : Nat) : rng n = ((List.range n).map fun i : Nat => (i : Int)).map D.int := by unfold rng; rw [List.map_map]; rfl
/-- a comprehension with a test over a range -/
theorem lcr_is {src : MI} {v : Nat} {tt : MT} {me : ME} {ρ : Ro} (n : Nat) (q : Nat → Bool) (f : Nat → D) (h1 : src ρ = some (.ok (rng n))) (h2 : noOwn ρ [v] = true) (h3 : n ≤ 900) (h : ∀ i, i < n → tt ((wipeR ρ [v]).set v (some (.int (i : Int), false))) = some (.ok (q i)) ∧ (q i = true → me ((wipeR ρ [v]).set v (some (.int (i : Int), false))) = some (.ok (f i)))) :
    mLc src [v] (gD v) tt me ρ = some (.ok (.lst (((List.range n).filter q).map f))) := by
  rw [mLc_eq, h1, bnd_ok, guard_t ⟨h2, lim900 (by rw [rng_len]; exact h3)⟩]
  have go : ∀ (l : List Nat), (∀ i ∈ l, i < n) → lcGo (gD v) tt me (wipeR ρ [v]) (l.map fun i : Nat => D.int (i : Int)) = some ((l.filter q).map f) := by
    intro l
    induction l with
    | nil => exact fun _ => rfl
    | cons i l ih =>
      intro hi
      obtain ⟨a, b⟩ := h i (hi i List.mem_cons_self)
      have e := ih fun j hj => hi j (List.mem_cons_of_mem _ hj)
      rw [List.map_cons]
      unfold lcGo
      rw [gD_eq, Option.bind_some, a]
      cases hq : q i with
      | true =>
        dsimp only
        rw [b hq, e, List.filter_cons_of_pos hq]
        rfl
      | false =>
        dsimp only
        rw [e, List.filter_cons_of_neg (by simp [hq])]
  show (lcGo (gD v) tt me (wipeR ρ [v]) (rng n)).map _ = _
  unfold rng
  rw [go _ fun i hi => List.mem_range.mp hi]
  rfl
/-- a comprehension with a test over a list of data that come from a list -/
theorem lcx_is {α : Type} {src : MI} {v : Nat} {tt : MT} {me : ME} {ρ : Ro} (xs : List α) (j : α → D) (q : α → Bool) (f : α → D) (h1 : src ρ = some (.ok (xs.map j))) (h2 : noOwn ρ [v] = true) (h3 : xs.length ≤ 900) (h : ∀ x ∈ xs, tt ((wipeR ρ [v]).set v (some (j x, false))) = some (.ok (q x)) ∧ (q x = true → me ((wipeR ρ [v]).set v (some (j x, false))) = some (.ok (f x)))) :
    mLc src [v] (gD v) tt me ρ = some (.ok (.lst ((xs.filter q).map f))) := by
  rw [mLc_eq, h1, bnd_ok, guard_t ⟨h2, lim900 (by simpa using h3)⟩]
  have go : ∀ (l : List α), (∀ i ∈ l, i ∈ xs) → lcGo (gD v) tt me (wipeR ρ [v]) (l.map j) = some ((l.filter q).map f) := by
    intro l
    induction l with
    | nil => exact fun _ => rfl
    | cons i l ih =>
      intro hi
      obtain ⟨a, b⟩ := h i (hi i List.mem_cons_self)
      have e := ih fun j hj => hi j (List.mem_cons_of_mem _ hj)
      rw [List.map_cons]
      unfold lcGo
      rw [gD_eq, Option.bind_some, a]
      cases hq : q i with
      | true =>
        dsimp only
        rw [b hq, e, List.filter_cons_of_pos hq]
        rfl
      | false =>
        dsimp only
        rw [e, List.filter_cons_of_neg (by simp [hq])]
  rw [go _ fun i hi => hi]
  rfl
theorem mYes_t (ρ : Ro) : mYes ρ = some (.ok true) := (rfl)
theorem filter_yes {α : Type} (l : List α) : l.filter (fun _ => true) = l := List.filter_eq_self.mpr fun _ _ => rfl
/-- a loop's invariant -/
theorem for_inv {body : MS} {v : Nat} (I : Nat → Ro → Prop) : ∀ (xs : List D) (m : Nat), (∀ (k : Nat) (x : D) (ρ : Ro), xs[k]? = some x → I (m + k) ρ → ∃ ρ', (body (ρ.set v (some (x, false))) = some (.nx ρ') ∨ body (ρ.set v (some (x, false))) = some (.ct ρ')) ∧ I (m + k + 1) ρ') → ∀ (ρ : Ro), I m ρ → ∃ ρ', forGo (gD v) body xs ρ = some (.nx ρ') ∧ I (m + xs.length) ρ'
  | [], m, _, ρ, h => ⟨ρ, rfl, h⟩
  | x :: xs, m, st, ρ, h => by
    obtain ⟨ρ1, e1, i1⟩ := st 0 x ρ rfl h
    obtain ⟨ρ2, e2, i2⟩ := for_inv I xs (m + 1) (fun k y ρ e i => by
      have := st (k + 1) y ρ (by simpa using e) (by rw [show m + (k + 1) = m + 1 + k by omega]; exact i)
      rw [show m + (k + 1) + 1 = m + 1 + k + 1 by omega] at this
      exact this) ρ1 i1
    refine ⟨ρ2, ?_, by rw [List.length_cons, show m + (xs.length + 1) = m + 1 + xs.length by omega]; exact i2⟩
    rw [forGo_cons, gD_eq, Option.bind_some]
    rcases e1 with e1 | e1
    · rw [e1, forO_nx]; exact e2
    · rw [e1, forO_ct]; exact e2
/-- over the places from a on, below b -/
theorem for_rng {body : MS} {v : Nat} (I : Nat → Ro → Prop) (n : Nat) (st : ∀ (k : Nat) (ρ : Ro), k < n → I k ρ → ∃ ρ', (body (ρ.set v (some (.int (k : Int), false))) = some (.nx ρ') ∨ body (ρ.set v (some (.int (k : Int), false))) = some (.ct ρ')) ∧ I (k + 1) ρ') (ρ : Ro) (h : I 0 ρ) : ∃ ρ', forGo (gD v) body (rng n) ρ = some (.nx ρ') ∧ I n ρ' := by
  obtain ⟨ρ', e, i⟩ := for_inv (body := body) (v := v) I (rng n) 0 (fun k x ρ e i => by
    obtain ⟨hk, e⟩ := List.getElem?_eq_some_iff.mp e
    rw [rng_len] at hk
    have ex : x = .int (k : Int) := by rw [← e]; simp [rng]
    subst ex
    rw [Nat.zero_add] at i ⊢
    exact st k ρ hk i) ρ h
  rw [rng_len, Nat.zero_add] at i
  exact ⟨ρ', e, i⟩
theorem for_rng_from {body : MS} {v : Nat} (I : Nat → Ro → Prop) (a b : Nat) (st : ∀ (k : Nat) (ρ : Ro), a ≤ k → k < b → I k ρ → ∃ ρ', (body (ρ.set v (some (.int (k : Int), false))) = some (.nx ρ') ∨ body (ρ.set v (some (.int (k : Int), false))) = some (.ct ρ')) ∧ I (k + 1) ρ') (ρ : Ro) (h : I a ρ) (hab : a ≤ b) : ∃ ρ', forGo (gD v) body (rgD (a : Int) (b : Int)) ρ = some (.nx ρ') ∧ I b ρ' := by
  have el : rgD (a : Int) (b : Int) = (List.range (b - a)).map fun i : Nat => D.int ((a + i : Nat) : Int) := by
    unfold rgD
    rw [show ((b : Int) - (a : Int)).toNat = b - a by omega]
    exact List.map_congr_left fun i _ => congrArg D.int (by omega)
  obtain ⟨ρ', e, i⟩ := for_inv (body := body) (v := v) I (rgD (a : Int) (b : Int)) a (fun k x ρ e i => by
    rw [el] at e
    obtain ⟨hk, e⟩ := List.getElem?_eq_some_iff.mp e
    simp only [List.length_map, List.length_range] at hk
    have ex : x = .int ((a + k : Nat) : Int) := by rw [← e]; simp
    subst ex
    exact st (a + k) ρ (by omega) (by omega) i) ρ h
  rw [el, List.length_map, List.length_range, show a + (b - a) = b by omega] at i
  exact ⟨ρ', e, i⟩
/-- downwards: at the round of place k, the places k+1.. are done -/
theorem for_down {body : MS} {v : Nat} (I : Nat → Ro → Prop) : ∀ (n : Nat), (∀ (k : Nat) (ρ : Ro), k < n → I (k + 1) ρ → ∃ ρ', (body (ρ.set v (some (.int (k : Int), false))) = some (.nx ρ') ∨ body (ρ.set v (some (.int (k : Int), false))) = some (.ct ρ')) ∧ I k ρ') → ∀ (ρ : Ro), I n ρ → ∃ ρ', forGo (gD v) body (rng n).reverse ρ = some (.nx ρ') ∧ I 0 ρ'
  | 0, _, ρ, h => ⟨ρ, rfl, h⟩
  | n + 1, st, ρ, h => by
    obtain ⟨ρ1, e1, i1⟩ := st n ρ (by omega) h
    obtain ⟨ρ2, e2, i2⟩ := for_down I n (fun k ρ hk => st k ρ (by omega)) ρ1 i1
    refine ⟨ρ2, ?_, i2⟩
    have er : (rng (n + 1)).reverse = .int (n : Int) :: (rng n).reverse := by unfold rng; rw [List.range_succ]; simp
    rw [er, forGo_cons, gD_eq, Option.bind_some]
    rcases e1 with e1 | e1
    · rw [e1, forO_nx]; exact e2
    · rw [e1, forO_ct]; exact e2
theorem at_getD (l : List Int) (k : Nat) (h : k < l.length) : L2.atI (l.map D.int) (k : Int) = some (.int (l.getD k 0)) := by
  rw [atI_nat _ _ (by simpa using h), List.getElem_map, List.getD_eq_getElem?_getD, List.getElem?_eq_getElem h]
  rfl
/-- the greatest of a list, from m on -/
def mx (m : Int) : List Int → Int
  | [] => m
  | x :: l => mx (if x > m then x else m) l
theorem maxI_mx : ∀ (m : Int) (l : List Int), maxI (m :: l) = some (mx m l)
  | m, [] => by unfold maxI mx; rfl
  | m, x :: l => by unfold maxI mx; exact maxI_mx _ l
theorem dMax_l (m : Int) (l : List Int) : dMax [.lst (.int m :: l.map D.int)] = some (.ok (.int (mx m l))) := by
  show (ints? ((m :: l).map D.int)).bind (fun ns => (maxI ns).map fun m => (.ok (.int m) : Except EN D)) = _
  rw [ints?_map, Option.bind_some, maxI_mx]
  rfl
theorem mx_ge : ∀ (l : List Int) (m : Int), m ≤ mx m l
  | [], m => Int.le_refl _
  | x :: l, m => by
    unfold mx
    have h2 := mx_ge l (if x > m then x else m)
    by_cases c : x > m
    · rw [if_pos c] at h2 ⊢; omega
    · rw [if_neg c] at h2 ⊢; omega
theorem mx_le : ∀ (l : List Int) (m x : Int), x ∈ l → x ≤ mx m l
  | y :: l, m, x, h => by
    unfold mx
    rcases List.mem_cons.mp h with e | h
    · subst e
      have h2 := mx_ge l (if x > m then x else m)
      by_cases c : x > m
      · rw [if_pos c] at h2 ⊢; omega
      · rw [if_neg c] at h2 ⊢; omega
    · exact mx_le l _ x h
theorem mx_mem : ∀ (l : List Int) (m : Int), mx m l = m ∨ mx m l ∈ l
  | [], m => .inl rfl
  | y :: l, m => by
    unfold mx
    rcases mx_mem l (if y > m then y else m) with e | e
    · rw [e]
      split
      · exact .inr List.mem_cons_self
      · exact .inl rfl
    · exact .inr (List.mem_cons_of_mem _ e)
theorem getD_app_l {α : Type} (l l' : List α) (k : Nat) (d : α) (h : k < l.length) : (l ++ l').getD k d = l.getD k d := by
  rw [List.getD_eq_getElem?_getD, List.getD_eq_getElem?_getD, List.getElem?_append_left h]
theorem getD_app_at {α : Type} (l : List α) (x d : α) : (l ++ [x]).getD l.length d = x := by
  rw [List.getD_eq_getElem?_getD, List.getElem?_append_right (Nat.le_refl _), Nat.sub_self]
  rfl
theorem getD_mem {α : Type} (l : List α) (k : Nat) (d : α) (h : k < l.length) : l.getD k d ∈ l := by
  rw [List.getD_eq_getElem?_getD, List.getElem?_eq_getElem h]
  exact List.getElem_mem h
theorem getD_inj {α : Type} {l : List α} (nd : l.Nodup) {i j : Nat} (hi : i < l.length) (hj : j < l.length) (d : α) (e : l.getD i d = l.getD j d) : i = j := by
  rw [List.getD_eq_getElem?_getD, List.getD_eq_getElem?_getD, List.getElem?_eq_getElem hi, List.getElem?_eq_getElem hj] at e
  exact (List.getElem_inj nd).mp e
/-- what is shared out by its number, put together -/
theorem parts_perm (f : Nat → Nat) (L : Nat) (xs : List Nat) (h : ∀ x ∈ xs, f x < L) : ((List.range L).flatMap fun k => xs.filter fun x => decide (f x = k)).Perm xs := by
  induction xs with
  | nil =>
    rw [show ((List.range L).flatMap fun k => ([] : List Nat).filter fun x => decide (f x = k)) = [] by simp]
  | cons x xs ih =>
    have ih := ih fun y hy => h y (List.mem_cons_of_mem _ hy)
    refine List.Perm.trans ?_ (ih.cons x)
    have hx := h x List.mem_cons_self
    have sp : ∀ (M : Nat), ((List.range M).flatMap fun k => (x :: xs).filter fun x => decide (f x = k)).Perm (if f x < M then x :: ((List.range M).flatMap fun k => xs.filter fun x => decide (f x = k)) else ((List.range M).flatMap fun k => xs.filter fun x => decide (f x = k))) := by
      intro M
      induction M with
      | zero => simp
      | succ M ih =>
        rw [List.range_succ, List.flatMap_append, List.flatMap_append, List.flatMap_singleton, List.flatMap_singleton]
        by_cases h1 : f x < M
        · rw [if_pos h1] at ih
          rw [if_pos (by omega), List.filter_cons_of_neg (by simp; omega)]
          exact ih.append_right _
        · rw [if_neg h1] at ih
          by_cases h2 : f x = M
          · rw [if_pos (by omega), List.filter_cons_of_pos (by simpa using h2)]
            refine (ih.append_right _).trans ?_
            exact List.perm_middle
          · rw [if_neg (by omega), List.filter_cons_of_neg (by simpa using h2)]
            exact ih.append_right _
    have := sp L
    rw [if_pos hx] at this
    exact this
theorem isort_rng {l : List Int} {n : Nat} (p : l.Perm ((List.range n).map fun i : Nat => (i : Int))) : isort l = (List.range n).map fun i : Nat => (i : Int) :=
  sorted_unique ((isort_perm _).trans p) (isort_sorted _) (by
    rw [List.pairwise_map]
    exact List.Pairwise.imp (R := (· < ·)) (fun h => by omega) List.pairwise_lt_range)
theorem isi_tup (l : List D) : dIsi "tuple" (.tup l) = some (.ok (.bl true)) := by
  show (kitB "tuple" "tuple").map (fun b => (.ok (.bl b) : Except EN D)) = _
  rw [show kitB "tuple" "tuple" = some true from by decide +kernel]
  rfl
theorem isi_lst (l : List D) : dIsi "list" (.lst l) = some (.ok (.bl true)) := by
  show (kitB "list" "list").map (fun b => (.ok (.bl b) : Except EN D)) = _
  rw [show kitB "list" "list" = some true from by decide +kernel]
  rfl
theorem isi_int (i : Int) : dIsi "int" (.int i) = some (.ok (.bl true)) := by
  show (kitB "int" "int").map (fun b => (.ok (.bl b) : Except EN D)) = _
  rw [show kitB "int" "int" = some true from by decide +kernel]
  rfl
theorem isi_intb (i : Int) : dIsi "bool" (.int i) = some (.ok (.bl false)) := by
  show (kitB "int" "bool").map (fun b => (.ok (.bl b) : Except EN D)) = _
  rw [show kitB "int" "bool" = some false from by decide +kernel]
  rfl
/-- a loop that looks, and goes back with one answer at the first hit -/
theorem for_chk {body : MS} {v : Nat} (ρ : Ro) (q : D → Bool) (d0 : D) : ∀ (xs : List D), (∀ x ∈ xs, body (ρ.set v (some (x, false))) = if q x then some (.rt d0) else some (.nx (ρ.set v (some (x, false))))) → ∀ s : Option (D × Bool), ((∃ x ∈ xs, q x = true) ∧ forGo (gD v) body xs (ρ.set v s) = some (.rt d0)) ∨ ((∀ x ∈ xs, q x = false) ∧ ∃ s', forGo (gD v) body xs (ρ.set v s) = some (.nx (ρ.set v s')))
  | [], _, s => .inr ⟨fun _ h => by simp at h, s, rfl⟩
  | x :: xs, h, s => by
    have h0 := h x List.mem_cons_self
    have hx := for_chk ρ q d0 xs (fun y hy => h y (List.mem_cons_of_mem _ hy)) (some (x, false))
    rw [forGo_cons, gD_eq, Option.bind_some, List.set_set, h0]
    cases hq : q x with
    | true => exact .inl ⟨⟨x, List.mem_cons_self, hq⟩, rfl⟩
    | false =>
      show (_ ∧ forGo (gD v) body xs (ρ.set v (some (x, false))) = _) ∨ (_ ∧ ∃ s', forGo (gD v) body xs (ρ.set v (some (x, false))) = _)
      rcases hx with ⟨⟨y, hy, hq2⟩, e⟩ | ⟨hn, s', e⟩
      · exact .inl ⟨⟨y, List.mem_cons_of_mem _ hy, hq2⟩, e⟩
      · refine .inr ⟨fun y hy => ?_, s', e⟩
        rcases List.mem_cons.mp hy with z | z
        · rw [z]; exact hq
        · exact hn y z
theorem mem_rng {n : Nat} {x : D} : x ∈ rng n ↔ ∃ i, i < n ∧ x = .int (i : Int) := by
  unfold rng
  simp only [List.mem_map, List.mem_range]
  constructor
  · rintro ⟨i, h, rfl⟩; exact ⟨i, h, rfl⟩
  · rintro ⟨i, h, rfl⟩; exact ⟨i, h, rfl⟩
theorem mem_rgD {a b : Nat} {x : D} : x ∈ rgD (a : Int) (b : Int) ↔ ∃ i : Nat, a ≤ i ∧ i < b ∧ x = .int (i : Int) := by
  unfold rgD
  simp only [List.mem_map, List.mem_range]
  constructor
  · rintro ⟨i, h, rfl⟩; exact ⟨a + i, by omega, by omega, congrArg D.int (by omega)⟩
  · rintro ⟨i, h1, h2, rfl⟩; exact ⟨i - a, by omega, congrArg D.int (by omega)⟩
def rg3O (r1 r2 r3 : R D) : R (List D) := bnd r1 fun d => bnd r2 fun e => bnd r3 fun f => match d, e, f with
  | .int a, .int b, .int z => if z = -1 then DL.guard (rgOk a b) (ok (rgDn a b)) else if z = 2 then DL.guard (rgOk a b) (ok (rgUp a b)) else none
  | _, _, _ => none
theorem rg3_up2 (a b : Int) (h : (-1000 ≤ a ∧ a ≤ 1000) ∧ -1000 ≤ b ∧ b ≤ 1000) : rg3O (some (.ok (.int a))) (some (.ok (.int b))) (some (.ok (.int 2))) = some (.ok (rgUp a b)) := by
  show DL.guard (rgOk a b) _ = _
  exact guard_t (show rgOk a b from ⟨by omega, by omega, by omega, by omega⟩) _
theorem mRgI3_eq (m n q : ME) (ρ : Ro) : mRgI3 m n q ρ = rg3O (m ρ) (n ρ) (q ρ) := (rfl)
theorem rg3_dn (a b : Int) (h : (-1000 ≤ a ∧ a ≤ 1000) ∧ -1000 ≤ b ∧ b ≤ 1000) : rg3O (some (.ok (.int a))) (some (.ok (.int b))) (some (.ok (.int (-1)))) = some (.ok (rgDn a b)) := by
  show DL.guard (rgOk a b) _ = _
  exact guard_t (show rgOk a b from ⟨by omega, by omega, by omega, by omega⟩) _
def frzO (s : Option (Option (D × Bool))) (i : Nat) (ρ : Ro) : Option Out := match s with
  | some (some (d, _)) => some (.nx (ρ.set i (some (d, false))))
  | _ => none
theorem mFrz_eq (i : Nat) (ρ : Ro) : mFrz i ρ = frzO (ρ[i]?) i ρ := (rfl)
theorem frzO_s (d : D) (b : Bool) (i : Nat) (ρ : Ro) : frzO (some (some (d, b))) i ρ = some (.nx (ρ.set i (some (d, false)))) := (rfl)
theorem rgDn_all (n : Nat) : rgDn ((n : Int) - 1) (-1) = (rng n).reverse := by
  unfold rgDn rng
  rw [show ((n : Int) - 1 - -1).toNat = n by omega]
  induction n with
  | zero => rfl
  | succ n ih =>
    rw [List.range_succ, List.map_append (l₁ := List.range n) (f := fun i : Nat => D.int (i : Int)), List.reverse_append, ← ih]
    rw [← List.range_succ, List.range_succ_eq_map, List.map_cons, List.map_map]
    simp only [List.map_cons, List.map_nil, List.reverse_cons, List.reverse_nil, List.nil_append, List.singleton_append]
    congr 1
    · congr 1; omega
    · exact List.map_congr_left fun i _ => congrArg D.int (by simp; omega)
end DL

set_option Elab.async false
set_option linter.all false
set_option maxRecDepth 100000
set_option maxHeartbeats 1000000
set_option autoImplicit false
/-! DLt: methods of built-in things that give a value: x.index(y). -/
namespace DL
open PySem L2
def mMeth (f : D → List D → R D) (mo : ME) (ma : MA) : ME := fun ρ => bnd (mo ρ) fun d => match ma ρ with
  | some (.ok es) => f d es
  | _ => none
section
variable {X : Cx} {c : Conf} {W : WX}
structure MethOk (c : Conf) (W : WX) (k : Kd) (T : String) (r : V → List V → Hp → VK → Prop) (f : D → List D → R D) : Prop where
  ty : ∀ (N : Addr → Prop) (H : Hp) (x : V) (d : D) (es : List D) (res : Except EN D), Bor c N H x d → f d es = some res → tyV c.K T x H
  go : ∀ (Γ : Gam) (σ : L2.St) (ρ : Ro) (H : Hp) (x : V) (vs : List V) (d : D) (es : List D) (res : Except EN D) (Q : VK), ER c Γ σ H ρ → Bor c (NN Γ σ ρ) H x d → Bors c (NN Γ σ ρ) H vs es → f d es = some res → PostE c W k Γ σ ρ H Q res → r x vs H Q
theorem d_meth {o e : Expr} {es : List Expr} {mo : ME} {l : MA} {name : Str} {apos cpos : Pos} {T id : String} {k : Kd} {r : V → List V → Hp → VK → Prop} {f : D → List D → R D} (hp : PySem.PlainAttrs T) (hs : PySem.Slot T name id) (hm : typeOf (.builtin id) = pure (.type "method_descriptor")) (mt : MtR X id r) (mk : MethOk c W k T r f)
    (ho : PE X o (tE c W .bor mo)) (ha : PA X (e :: es) (tBo c W l)) (hbase : attributeBase o name X.env (eval o X.env) = eval o X.env := by rfl)
    (hfew : ((backTo cpos (starEach (e :: es) X.env)).all (fun x => !x.1) && (backToKw cpos (keywordEach [] X.env)).all (fun x => x.1.isSome)
      && decide ((e :: es).length + ([] : List Keyword).length + (if ([] : List Keyword).isEmpty then 0 else 1) < 30)) = true := by rfl)
    (hline : (apos.endLine == cpos.line) = true := by rfl) (hst : starEach (e :: es) X.env = (false, eval e X.env) :: starEach es X.env := by rfl) (hplain : (backTo cpos (starEach es X.env)).any (·.1) = false := by rfl) (hK : c.K = X.K := by rfl) :
    PE X (.Call (.Attribute o name apos) (e :: es) [] cpos) (tE c W k (mMeth f mo l)) :=
  (pe_bm hp hs hm mt ho ha hbase hfew hline hst hplain).via fun σ H Q ⟨Γ, ρ, res, er, em, p⟩ => by
    rw [← hK]
    have em : bnd (mo ρ) (fun d => match l ρ with | some (.ok es) => f d es | _ => none) = some res := em
    refine use er em p.err fun d v H1 h1 s1 r1 => ?_
    cases q : l ρ with
    | none => rw [q] at h1; cases h1
    | some w =>
      cases w with
      | error x => rw [q] at h1; cases h1
      | ok ds =>
        rw [q] at h1
        have h1 : f d ds = some res := h1
        refine ⟨mk.ty _ _ _ _ _ _ r1.2 h1, Γ, ρ, _, r1.1, q, fun vs H2 s2 e2 r2 => ?_⟩
        exact mk.go Γ σ ρ H2 v vs d ds res Q e2 (r1.2.same s2) r2 h1 (p.mono (s1.trans s2))
/-- the first place of a number in a list -/
def dIdxL : D → List D → R D
  | .lst ds, [.int i] => (ints? ds).bind fun ns => if i ∈ ns then ok (.int (ns.idxOf i : Nat)) else none
  | _, _ => none
theorem idx_first {ns : List Int} {i : Int} (h : i ∈ ns) : ns[ns.idxOf i]? = some i ∧ ∀ m z, m < ns.idxOf i → ns[m]? = some z → z ≠ i := by
  induction ns with
  | nil => cases h
  | cons a ns ih =>
    by_cases e : a = i
    · subst e
      refine ⟨by simp, fun m z hm => ?_⟩
      simp at hm
    · have hm : i ∈ ns := by
        rcases List.mem_cons.mp h with z | z
        · exact absurd z.symm e
        · exact z
      obtain ⟨h1, h2⟩ := ih hm
      have e2 : (a :: ns).idxOf i = ns.idxOf i + 1 := by
        rw [List.idxOf_cons]
        have : (a == i) = false := by simpa using e
        rw [this]
        rfl
      rw [e2]
      refine ⟨by simpa using h1, fun m z hm hz => ?_⟩
      cases m with
      | zero =>
        simp at hz
        rw [← hz]
        exact e
      | succ m => exact h2 m z (by omega) (by simpa using hz)
theorem flat_ints (ns : List Int) : (ns.map V.int).all flatV = true := by
  rw [List.all_eq_true]
  intro x hx
  obtain ⟨i, _, rfl⟩ := List.mem_map.mp hx
  rfl
theorem ok_idxL : MethOk c W .dur "list" (rIndex c.K) dIdxL where
  ty := fun N H x d es res b h => by
    unfold dIdxL at h
    split at h
    · obtain ⟨a, us, rfl, e, r⟩ := b
      exact .inl ⟨rfl, us, .of e⟩
    · cases h
  go := fun Γ σ ρ H x vs d es res Q er bx bv h p => by
    unfold dIdxL at h
    split at h
    · rename_i ds i
      obtain ⟨ns, hn, h⟩ := Option.bind_eq_some_iff.mp h
      split at h
      · rename_i hm
        cases h
        obtain ⟨a, us, rfl, e, r⟩ := bx
        have eu := r.ints? hn
        subst eu
        obtain ⟨v, rfl, b⟩ := bv.one
        have ev := b.int
        subst ev
        obtain ⟨h1, h2⟩ := idx_first hm
        refine ⟨a, _, .int i, ns.idxOf i, .int i, rfl, rfl, .of e, rfl, flat_ints ns, ?_, by simp [eqV], fun m z hm hz => ?_, fin_int p er⟩
        · rw [List.getElem?_map, h1]
          rfl
        · rw [List.getElem?_map] at hz
          obtain ⟨y, hy, rfl⟩ := Option.map_eq_some_iff.mp hz
          have := h2 m y hm hy
          simpa [eqV] using this
      · cases h
    · cases h
theorem i_idxL {o e : Expr} {mo : ME} {l : MA} {apos cpos : Pos} (ho : PE X o (tE c W .bor mo)) (ha : PA X [e] (tBo c W l)) (hbase : attributeBase o "index" X.env (eval o X.env) = eval o X.env := by rfl)
    (hfew : ((backTo cpos (starEach [e] X.env)).all (fun x => !x.1) && (backToKw cpos (keywordEach [] X.env)).all (fun x => x.1.isSome)
      && decide ([e].length + ([] : List Keyword).length + (if ([] : List Keyword).isEmpty then 0 else 1) < 30)) = true := by rfl)
    (hline : (apos.endLine == cpos.line) = true := by rfl) (hst : starEach [e] X.env = (false, eval e X.env) :: starEach [] X.env := by rfl) (hplain : (backTo cpos (starEach [] X.env)).any (·.1) = false := by rfl) (hK : c.K = X.K := by rfl) :
    PE X (.Call (.Attribute o "index" apos) [e] [] cpos) (tE c W .dur (mMeth dIdxL mo l)) :=
  d_meth PySem.F.plainAttrs_list PySem.F.slot_list_index PySem.F.type_list_index mt_index (by rw [← hK]; exact ok_idxL) ho ha hbase hfew hline hst hplain hK
end
def methO (r : R D) (s : R (List D)) (f : D → List D → R D) : R D := bnd r fun d => match s with
  | some (.ok es) => f d es
  | _ => none
theorem mMeth_eq (f : D → List D → R D) (mo : ME) (ma : MA) (ρ : Ro) : mMeth f mo ma ρ = methO (mo ρ) (ma ρ) f := (rfl)
theorem methO_ok (d : D) (es : List D) (f : D → List D → R D) : methO (some (.ok d)) (some (.ok es)) f = f d es := (rfl)
theorem dIdxL_i (ns : List Int) (i : Int) (h : i ∈ ns) : dIdxL (.lst (ns.map D.int)) [.int i] = some (.ok (.int (ns.idxOf i : Nat))) := by
  show (ints? (ns.map D.int)).bind _ = _
  rw [ints?_map, Option.bind_some, if_pos h]
end DL

set_option Elab.async false
set_option linter.all false
set_option maxRecDepth 100000
set_option maxHeartbeats 1000000
set_option autoImplicit false
/-! DLu: while-loops; the rings of a one-to-one map. -/
namespace DL
open PySem L2
theorem while_inv {t : MT} {s : MS} (I : Nat → Ro → Prop) : ∀ (N m : Nat) (ρ : Ro), m < N → I m ρ → (∀ m ρ, I m ρ → t ρ = some (.ok false) ∨ (t ρ = some (.ok true) ∧ ∃ ρ' m', (s ρ = some (.nx ρ') ∨ s ρ = some (.ct ρ')) ∧ I m' ρ' ∧ m' < m)) → ∃ ρ' m', mWhile N t s ρ = some (.nx ρ') ∧ I m' ρ' ∧ t ρ' = some (.ok false)
  | 0, m, ρ, hm, _, _ => by omega
  | N + 1, m, ρ, hm, h, st => by
    rcases st m ρ h with e | ⟨e, ρ1, m1, e1, i1, l1⟩
    · refine ⟨ρ, m, ?_, h, e⟩
      show sE (t ρ) ρ _ = _
      rw [e]
      rfl
    · obtain ⟨ρ2, m2, e2, i2, f2⟩ := while_inv I N m1 ρ1 (by omega) i1 st
      refine ⟨ρ2, m2, ?_, i2, f2⟩
      show sE (t ρ) ρ _ = _
      rw [e]
      rcases e1 with e1 | e1
      · show (match s ρ with
          | some (.nx ρ') => mWhile N t s ρ'
          | some (.ct ρ') => mWhile N t s ρ'
          | some (.bk ρ') => some (.nx ρ')
          | o => o) = _
        rw [e1]
        exact e2
      · show (match s ρ with
          | some (.nx ρ') => mWhile N t s ρ'
          | some (.ct ρ') => mWhile N t s ρ'
          | some (.bk ρ') => some (.nx ρ')
          | o => o) = _
        rw [e1]
        exact e2
/-- a set of numbers as a dict -/
def seenD (l : List Int) : List (Key × D) := l.map fun x => (Sum.inl x, D.bl true)
theorem seen_has (l : List Int) (x : Int) : dHas (.int x) (.dK (seenD l)) = some (decide (x ∈ l)) := by
  show some ((lkD (seenD l) (Sum.inl x)).isSome) = _
  congr 1
  unfold lkD seenD
  rw [Option.isSome_map, List.find?_map, Option.isSome_map, Bool.eq_iff_iff, List.find?_isSome, decide_eq_true_iff]
  constructor
  · rintro ⟨y, hy, e⟩
    have := of_decide_eq_true e
    cases Sum.inl.inj this
    exact hy
  · intro h
    exact ⟨x, h, decide_eq_true rfl⟩
theorem seen_in (l : List Int) (x : Int) : dIn (.int x) (.dK (seenD l)) = some (.ok (.bl (decide (x ∈ l)))) := by
  unfold dIn
  rw [seen_has]
theorem seen_notIn (l : List Int) (x : Int) : dNotIn (.int x) (.dK (seenD l)) = some (.ok (.bl (!decide (x ∈ l)))) := by
  unfold dNotIn
  rw [seen_has]
theorem seen_put (l : List Int) (x : Int) (h : x ∉ l) (hl : l.length < 1000000) : dSet (.dK (seenD l)) (.int x) (.bl true) = some (.dK (seenD (l ++ [x]))) := by
  unfold dSet
  show (some (Sum.inl x : Key)).bind (fun k => if (seenD l).length < lim then some (D.dK (ptD (seenD l) k (.bl true))) else none) = _
  rw [Option.bind_some, if_pos (show (seenD l).length < lim by unfold seenD; rw [List.length_map]; exact hl), ptD_new]
  · unfold seenD
    rw [List.map_append]
    rfl
  · unfold seenD
    rw [List.map_map]
    intro z
    obtain ⟨y, hy, e⟩ := List.mem_map.mp z
    cases Sum.inl.inj e
    exact h hy
/-- a map as a dict over its places -/
def mapD (f : Int → Int) (S : List Int) : List (Key × D) := S.map fun x => (Sum.inl x, D.int (f x))
theorem mapD_at (f : Int → Int) (S : List Int) (x : Int) (h : x ∈ S) : dIx (.dK (mapD f S)) (.int x) = some (.ok (.int (f x))) := by
  show ((some (Sum.inl x : Key)).bind (lkD (mapD f S))).map Except.ok = _
  rw [Option.bind_some]
  have : lkD (mapD f S) (Sum.inl x) = some (.int (f x)) := by
    induction S with
    | nil => cases h
    | cons y S ih =>
      unfold lkD mapD
      rw [List.map_cons, List.find?_cons]
      by_cases e : y = x
      · subst e
        simp
      · have e2 : decide ((Sum.inl y : Key) = Sum.inl x) = false := decide_eq_false fun z => e (Sum.inl.inj z)
        dsimp only
        rw [e2]
        dsimp only
        rcases List.mem_cons.mp h with z | z
        · exact absurd z.symm e
        · exact ih z
  rw [this]
  rfl
theorem mapD_keys (f : Int → Int) (S : List Int) : (mapD f S).mapM (fun kd => inlD kd.1) = some S := by
  induction S with
  | nil => rfl
  | cons x S ih =>
    unfold mapD at ih ⊢
    rw [List.map_cons, List.mapM_cons, ih]
    rfl
/-- a dict comprehension over things that come from a list, keys all different -/
theorem dcx_is {α : Type} {src : MI} {v : Nat} {mk mv : ME} {ρ : Ro} (xs : List α) (j : α → D) (key : α → Int) (val : α → D) (h1 : src ρ = some (.ok (xs.map j))) (h2 : noOwn ρ [v] = true) (h3 : xs.length ≤ 900) (nd : (xs.map key).Nodup) (h : ∀ x ∈ xs, mk ((wipeR ρ [v]).set v (some (j x, false))) = some (.ok (.int (key x))) ∧ mv ((wipeR ρ [v]).set v (some (j x, false))) = some (.ok (val x))) :
    mDc src [v] (gD v) mYes mk mv ρ = some (.ok (.dK (xs.map fun x => (Sum.inl (key x), val x)))) := by
  rw [mDc_eq, h1, bnd_ok, guard_t ⟨h2, lim900 (by simpa using h3)⟩]
  have go : ∀ (l : List α) (acc : List (Key × D)), (∀ x ∈ l, x ∈ xs) → (acc.map (·.1) ++ l.map fun x => (Sum.inl (key x) : Key)).Nodup → dcGo (gD v) mYes mk mv (wipeR ρ [v]) (l.map j) acc = some (acc ++ l.map fun x => (Sum.inl (key x), val x)) := by
    intro l
    induction l with
    | nil => intro acc _ _; rw [List.map_nil, List.map_nil, List.append_nil]; rfl
    | cons x l ih =>
      intro acc hx nd
      obtain ⟨a, b⟩ := h x (hx x List.mem_cons_self)
      have new : (Sum.inl (key x) : Key) ∉ acc.map (·.1) := fun z => (List.nodup_append.mp nd).2.2 _ z _ List.mem_cons_self rfl
      have e := ih (acc ++ [(Sum.inl (key x), val x)]) (fun y hy => hx y (List.mem_cons_of_mem _ hy)) (by simpa using nd)
      rw [List.map_cons]
      unfold dcGo
      rw [gD_eq, Option.bind_some]
      show (match mk ((wipeR ρ [v]).set v (some (j x, false))) with | some (.ok kd) => (match mv ((wipeR ρ [v]).set v (some (j x, false))) with | some (.ok y) => (keyD kd).bind fun k => dcGo (gD v) mYes mk mv (wipeR ρ [v]) (l.map j) (ptD acc k y) | _ => none) | _ => none) = _
      rw [a]
      dsimp only
      rw [b]
      dsimp only
      show (some (Sum.inl (key x) : Key)).bind _ = _
      rw [Option.bind_some, ptD_new new, e]
      simp
  rw [go xs [] (fun _ hx => hx) (by
    show (([] : List Key) ++ _).Nodup
    rw [List.nil_append]
    have : (xs.map fun x => (Sum.inl (key x) : Key)) = (xs.map key).map Sum.inl := by rw [List.map_map]; rfl
    rw [this]
    exact List.Pairwise.map _ (fun a b h z => h (Sum.inl.inj z)) nd)]
  rfl
/-- the places of a list's numbers, as a dict -/
def idxD : List Int → Nat → List (Key × D)
  | [], _ => []
  | x :: l, off => (.inl x, .int (off : Int)) :: idxD l (off + 1)
theorem idxD_at : ∀ (l : List Int) (off : Nat) (x : Int), x ∈ l → lkD (idxD l off) (Sum.inl x : Key) = some (.int ((off + l.idxOf x : Nat) : Int))
  | y :: l, off, x, h => by
    unfold idxD lkD
    rw [List.find?_cons]
    by_cases e : y = x
    · subst e
      simp
    · have e2 : decide ((Sum.inl y : Key) = Sum.inl x) = false := decide_eq_false fun z => e (Sum.inl.inj z)
      have hx : x ∈ l := by
        rcases List.mem_cons.mp h with z | z
        · exact absurd z.symm e
        · exact z
      have ih := idxD_at l (off + 1) x hx
      unfold lkD at ih
      dsimp only
      rw [e2]
      dsimp only
      rw [ih, List.idxOf_cons]
      have e3 : (y == x) = false := by simpa using e
      rw [e3]
      simp only [cond_false]
      congr 3
      omega
theorem idxD_rng (l : List Int) : ∀ (m : Nat), m ≤ l.length → ((List.range' m (l.length - m)).map fun i : Nat => ((Sum.inl (l.getD i 0) : Key), D.int (i : Int))) = idxD (l.drop m) m := by
  intro m hm
  obtain ⟨r, hr⟩ : ∃ r, r = l.length - m := ⟨_, rfl⟩
  induction r generalizing m with
  | zero =>
    rw [show l.length - m = 0 by omega, show l.drop m = [] by rw [List.drop_eq_nil_iff]; omega]
    rfl
  | succ r ih =>
    have hlt : m < l.length := by omega
    rw [show l.length - m = (l.length - (m + 1)) + 1 by omega, List.range'_succ, List.map_cons, ih (m + 1) (by omega) (by omega), List.drop_eq_getElem_cons hlt]
    rw [List.getD_eq_getElem?_getD, List.getElem?_eq_getElem hlt]
    rfl
theorem idxD_rng0 (l : List Int) : ((List.range l.length).map fun i : Nat => ((Sum.inl (l.getD i 0) : Key), D.int (i : Int))) = idxD l 0 := by
  have := idxD_rng l 0 (Nat.zero_le _)
  rwa [Nat.sub_zero, List.drop_zero, ← List.range_eq_range'] at this
theorem idxD_get (l : List Int) (x : Int) (h : x ∈ l) : dIx (.dK (idxD l 0)) (.int x) = some (.ok (.int ((l.idxOf x : Nat) : Int))) := by
  show ((some (Sum.inl x : Key)).bind (lkD (idxD l 0))).map Except.ok = _
  rw [Option.bind_some, idxD_at l 0 x h, Nat.zero_add]
  rfl
theorem atI_last (l : List Int) (h : l ≠ []) : L2.atI (l.map D.int) (-1) = some (.int (l.getD (l.length - 1) 0)) := by
  have hl := List.length_pos_iff.mpr h
  unfold L2.atI ixN
  have h1 : ¬ (0 : Int) ≤ -1 := by omega
  have h2 : -((l.map D.int).length : Int) ≤ -1 := by rw [List.length_map]; omega
  rw [if_neg h1, if_pos h2, List.length_map, Option.bind_some, show (-1 + (l.length : Int)).toNat = l.length - 1 by omega]
  simp [List.getD_eq_getElem?_getD, List.getElem?_eq_getElem (show l.length - 1 < l.length by omega)]
theorem maxI_some : ∀ {l : List Int}, l ≠ [] → ∃ m, maxI l = some m
  | m :: l, _ => ⟨mx m l, maxI_mx m l⟩
/-- the least of a list -/
def mn (m : Int) : List Int → Int
  | [] => m
  | x :: l => mn (if x < m then x else m) l
theorem minI_mn : ∀ (m : Int) (l : List Int), minI (m :: l) = some (mn m l)
  | m, [] => by unfold minI mn; rfl
  | m, x :: l => by unfold minI mn; exact minI_mn _ l
theorem minI_low {l : List Int} {m : Int} (h1 : m ∈ l) (h2 : ∀ x ∈ l, m ≤ x) : minI l = some m := by
  cases l with
  | nil => cases h1
  | cons a l =>
    have h3 := minI_mn a l
    obtain ⟨h4, h5⟩ := minI_is _ _ h3
    rw [h3]
    exact congrArg some (Int.le_antisymm (h5 m h1) (h2 _ h4))
theorem maxI_high {l : List Int} {m : Int} (h1 : m ∈ l) (h2 : ∀ x ∈ l, x ≤ m) : maxI l = some m := by
  cases l with
  | nil => cases h1
  | cons a l =>
    have h3 := maxI_mx a l
    obtain ⟨h4, h5⟩ := maxI_is _ _ h3
    rw [h3]
    exact congrArg some (Int.le_antisymm (h2 _ h4) (h5 m h1))
theorem dMin_t (l : List Int) (m : Int) (h1 : m ∈ l) (h2 : ∀ x ∈ l, m ≤ x) : dMin [.tup (l.map D.int)] = some (.ok (.int m)) := by
  show (ints? (l.map D.int)).bind (fun ns => (minI ns).map fun m => (.ok (.int m) : Except EN D)) = _
  rw [ints?_map, Option.bind_some, minI_low h1 h2]
  rfl
theorem dMin_ll (l : List Int) (m : Int) (h1 : m ∈ l) (h2 : ∀ x ∈ l, m ≤ x) : dMin [.lst (l.map D.int)] = some (.ok (.int m)) := by
  show (ints? (l.map D.int)).bind (fun ns => (minI ns).map fun m => (.ok (.int m) : Except EN D)) = _
  rw [ints?_map, Option.bind_some, minI_low h1 h2]
  rfl
theorem mapD_list (f : Int → Int) (S : List Int) : dList [.dK (mapD f S)] = some (.ok (.lst (S.map D.int))) := by
  show some (Except.ok (D.lst ((mapD f S).map fun kd => kD kd.1))) = _
  unfold mapD
  rw [List.map_map]
  rfl
theorem mapD_put (f : Int → Int) (S : List Int) (x : Int) (h : x ∉ S) (hl : S.length < 1000000) : dSet (.dK (mapD f S)) (.int x) (.int (f x)) = some (.dK (mapD f (S ++ [x]))) := by
  unfold dSet
  show (some (Sum.inl x : Key)).bind (fun k => if (mapD f S).length < lim then some (D.dK (ptD (mapD f S) k (.int (f x)))) else none) = _
  rw [Option.bind_some, if_pos (show (mapD f S).length < lim by unfold mapD; rw [List.length_map]; exact hl), ptD_new]
  · unfold mapD
    rw [List.map_append]
    rfl
  · unfold mapD
    rw [List.map_map]
    intro z
    obtain ⟨y, hy, e⟩ := List.mem_map.mp z
    cases Sum.inl.inj e
    exact h hy
/-- one ring of a map -/
structure IsRing (f : Int → Int) (c : List Int) : Prop where
  ne : c ≠ []
  step : ∀ k, k + 1 < c.length → f (c.getD k 0) = c.getD (k + 1) 0
  last : f (c.getD (c.length - 1) 0) = c.getD 0 0
structure Rings (f : Int → Int) (S : List Int) (R : List (List Int)) : Prop where
  ring : ∀ c ∈ R, IsRing f c
  perm : R.flatten.Perm S
  low : ∀ c ∈ R, ∀ x ∈ c, c.getD 0 0 ≤ x
  asc : R.Pairwise fun c d => c.getD 0 0 < d.getD 0 0
/-- what leads into a ring lies in it -/
theorem IsRing.into {f : Int → Int} {c : List Int} (h : IsRing f c) {y : Int} (hy : y ∈ c) : ∃ z ∈ c, f z = y := by
  obtain ⟨k, hk, e⟩ := List.getElem_of_mem hy
  have e' : c.getD k 0 = y := by rw [List.getD_eq_getElem?_getD, List.getElem?_eq_getElem hk]; exact e
  cases k with
  | zero => exact ⟨_, getD_mem c (c.length - 1) 0 (by omega), by rw [h.last, e']⟩
  | succ k => exact ⟨_, getD_mem c k 0 (by omega), by rw [h.step k hk, e']⟩
theorem IsRing.out {f : Int → Int} {c : List Int} (h : IsRing f c) {y : Int} (hy : y ∈ c) : f y ∈ c := by
  obtain ⟨k, hk, e⟩ := List.getElem_of_mem hy
  have e' : c.getD k 0 = y := by rw [List.getD_eq_getElem?_getD, List.getElem?_eq_getElem hk]; exact e
  rw [← e']
  by_cases z : k + 1 < c.length
  · rw [h.step k z]
    exact getD_mem _ _ _ z
  · rw [show k = c.length - 1 by omega, h.last]
    exact getD_mem _ _ _ (by omega)
/-- a walk from a place on: a, f a, f (f a), .. -/
def orb (f : Int → Int) (a : Int) : Nat → List Int
  | 0 => []
  | m + 1 => a :: orb f (f a) m
def itf (f : Int → Int) (a : Int) : Nat → Int
  | 0 => a
  | m + 1 => f (itf f a m)
theorem itf_f (f : Int → Int) : ∀ (m : Nat) (a : Int), itf f (f a) m = f (itf f a m)
  | 0, _ => rfl
  | m + 1, a => congrArg f (itf_f f m a)
theorem orb_len (f : Int → Int) : ∀ (m : Nat) (a : Int), (orb f a m).length = m
  | 0, _ => rfl
  | m + 1, a => congrArg (· + 1) (orb_len f m (f a))
theorem orb_at (f : Int → Int) : ∀ (m : Nat) (a : Int) (k : Nat), k < m → (orb f a m).getD k 0 = itf f a k
  | m + 1, a, 0, _ => rfl
  | m + 1, a, k + 1, h => by
    show (a :: orb f (f a) m).getD (k + 1) 0 = _
    rw [List.getD_cons_succ, orb_at f m (f a) k (by omega), itf_f]
    rfl
theorem orb_snoc (f : Int → Int) : ∀ (m : Nat) (a : Int), orb f a m ++ [itf f a m] = orb f a (m + 1)
  | 0, _ => rfl
  | m + 1, a => by
    show a :: (orb f (f a) m ++ [itf f a (m + 1)]) = a :: orb f (f a) (m + 1)
    rw [← orb_snoc f m (f a), itf_f]
    rfl
theorem orb_mem {f : Int → Int} {m : Nat} {a x : Int} (h : x ∈ orb f a m) : ∃ k, k < m ∧ x = itf f a k := by
  obtain ⟨k, hk, e⟩ := List.getElem_of_mem h
  rw [orb_len] at hk
  refine ⟨k, hk, ?_⟩
  rw [← orb_at f m a k hk, ← e, List.getD_eq_getElem?_getD, List.getElem?_eq_getElem (by rw [orb_len]; exact hk)]
  rfl
/-- the walk closes at its start -/
theorem orb_ring {f : Int → Int} {S : List Int} (into : ∀ x ∈ S, f x ∈ S) (inj : ∀ x ∈ S, ∀ y ∈ S, f x = f y → x = y) {a : Int} {m : Nat} (hm : 0 < m) (ha : a ∈ S) (nd : (orb f a m).Nodup) (h : itf f a m ∈ orb f a m) : IsRing f (orb f a m) := by
  have inS : ∀ k, itf f a k ∈ S := fun k => by
    induction k with
    | zero => exact ha
    | succ k ih => exact into _ ih
  obtain ⟨j, hj, e⟩ := orb_mem h
  have j0 : j = 0 := by
    cases j with
    | zero => rfl
    | succ j =>
      obtain ⟨m', rfl⟩ : ∃ m', m = m' + 1 := ⟨m - 1, by omega⟩
      have := inj _ (inS m') _ (inS j) e
      have h1 := orb_at f (m' + 1) a m' (by omega)
      have h2 := orb_at f (m' + 1) a j (by omega)
      have := getD_inj nd (i := m') (j := j) (by rw [orb_len]; omega) (by rw [orb_len]; omega) 0 (by rw [h1, h2, this])
      omega
  subst j0
  refine ⟨fun z => ?_, fun k hk => ?_, ?_⟩
  · have := orb_len f m a
    rw [z] at this
    simp at this
    omega
  · rw [orb_len] at hk
    rw [orb_at f m a k (by omega), orb_at f m a (k + 1) hk]
    rfl
  · rw [orb_len, orb_at f m a (m - 1) (by omega), orb_at f m a 0 hm]
    have e2 : itf f a m = f (itf f a (m - 1)) := by
      obtain ⟨m', rfl⟩ : ∃ m', m = m' + 1 := ⟨m - 1, by omega⟩
      rfl
    rw [← e2, e]
end DL

set_option Elab.async false
set_option linter.all false
set_option maxRecDepth 100000
set_option maxHeartbeats 1000000
set_option autoImplicit false
/-! DLv: tuples of tuples; least and greatest of a list. -/
namespace DL
open PySem L2
def ttD (l : List (List Int)) : List D := l.map fun x => .tup (x.map D.int)
theorem ttD_len (l : List (List Int)) : (ttD l).length = l.length := by unfold ttD; simp
theorem ttD_app (l l' : List (List Int)) : ttD (l ++ l') = ttD l ++ ttD l' := by unfold ttD; rw [List.map_append]
theorem toPs_tt (n : Nat) : ∀ l : List (List Int), (ttD l).mapM (toP (n + 1)) = some (l.map fun x => PyData.tuple (x.map .int))
  | [] => rfl
  | a :: l => by
    show (D.tup (a.map D.int) :: ttD l).mapM (toP (n + 1)) = _
    rw [List.mapM_cons, toP_t, toPs_tt n l]
    rfl
theorem toP_tt (n : Nat) (l : List (List Int)) : toP (n + 2) (.tup (ttD l)) = some (.tuple (l.map fun x => PyData.tuple (x.map .int))) := by
  show ((ttD l).mapM (toP (n + 1))).map PyData.tuple = _
  rw [toPs_tt]
  rfl
theorem toP_lt (n : Nat) (l : List (List Int)) : toP (n + 2) (.lst (ttD l)) = some (.list (l.map fun x => PyData.tuple (x.map .int))) := by
  show ((ttD l).mapM (toP (n + 1))).map PyData.list = _
  rw [toPs_tt]
  rfl
theorem eqvAll_tt : ∀ l l' : List (List Int), PyData.eqvAll (l.map fun x => PyData.tuple (x.map .int)) (l'.map fun x => PyData.tuple (x.map .int)) = decide (l = l')
  | [], [] => by simp [PyData.eqvAll]
  | [], _ :: _ => by simp [PyData.eqvAll]
  | _ :: _, [] => by simp [PyData.eqvAll]
  | a :: l, b :: l' => by
    simp only [List.map_cons, PyData.eqvAll, PyData.eqv, eqvAll_ii, eqvAll_tt l l', List.cons.injEq]
    rw [Bool.decide_and]
theorem dEqv_tt (l l' : List (List Int)) : dEqv (.tup (ttD l)) (.tup (ttD l')) = some (decide (l = l')) := by
  unfold dEqv
  rw [toP_tt, toP_tt]
  show some (PyData.eqv _ _) = _
  rw [PyData.eqv, eqvAll_tt]
theorem dEqv_lt (l l' : List (List Int)) : dEqv (.lst (ttD l)) (.lst (ttD l')) = some (decide (l = l')) := by
  unfold dEqv
  rw [toP_lt, toP_lt]
  show some (PyData.eqv _ _) = _
  rw [PyData.eqv, eqvAll_tt]
theorem dEq_tt (l l' : List (List Int)) : dEq (.tup (ttD l)) (.tup (ttD l')) = some (.ok (.bl (decide (l = l')))) := dEq_of (dEqv_tt l l')
theorem dNe_tt (l l' : List (List Int)) : dNe (.tup (ttD l)) (.tup (ttD l')) = some (.ok (.bl (!decide (l = l')))) := dNe_of (dEqv_tt l l')
theorem dEq_lt (l l' : List (List Int)) : dEq (.lst (ttD l)) (.lst (ttD l')) = some (.ok (.bl (decide (l = l')))) := dEq_of (dEqv_lt l l')
theorem dNe_lt (l l' : List (List Int)) : dNe (.lst (ttD l)) (.lst (ttD l')) = some (.ok (.bl (!decide (l = l')))) := dNe_of (dEqv_lt l l')
/-! ### least and greatest -/
def mnL (l : List Int) : Int := mn (l.headD 0) l
def mxL (l : List Int) : Int := mx (l.headD 0) l
theorem mnL_is {l : List Int} (h : l ≠ []) : mnL l ∈ l ∧ ∀ x ∈ l, mnL l ≤ x := by
  cases l with
  | nil => exact absurd rfl h
  | cons a l =>
    have e : mnL (a :: l) = mn a l := by
      show mn a (a :: l) = mn a l
      unfold mn
      rw [if_neg (by omega)]
      cases l <;> rfl
    rw [e]
    exact minI_is _ _ (minI_mn a l)
theorem mxL_is {l : List Int} (h : l ≠ []) : mxL l ∈ l ∧ ∀ x ∈ l, x ≤ mxL l := by
  cases l with
  | nil => exact absurd rfl h
  | cons a l =>
    have e : mxL (a :: l) = mx a l := by
      show mx a (a :: l) = mx a l
      unfold mx
      rw [if_neg (by omega)]
      cases l <;> rfl
    rw [e]
    exact maxI_is _ _ (maxI_mx a l)
theorem mnL_eq {l : List Int} {m : Int} (h1 : m ∈ l) (h2 : ∀ x ∈ l, m ≤ x) : mnL l = m := by
  obtain ⟨h3, h4⟩ := mnL_is (List.ne_nil_of_mem h1)
  exact Int.le_antisymm (h4 m h1) (h2 _ h3)
theorem mxL_eq {l : List Int} {m : Int} (h1 : m ∈ l) (h2 : ∀ x ∈ l, x ≤ m) : mxL l = m := by
  obtain ⟨h3, h4⟩ := mxL_is (List.ne_nil_of_mem h1)
  exact Int.le_antisymm (h2 _ h3) (h4 m h1)
theorem isort_0 {l : List Int} (h : l ≠ []) : (isort l).getD 0 0 = mnL l := by
  have p := isort_perm l
  have hn : 0 < (isort l).length := by rw [p.length_eq]; exact List.length_pos_iff.mpr h
  refine (mnL_eq (p.mem_iff.mp (getD_mem _ _ _ hn)) fun x hx => ?_).symm
  obtain ⟨k, hk, e⟩ := List.getElem_of_mem (p.mem_iff.mpr hx)
  rw [List.getD_eq_getElem?_getD, List.getElem?_eq_getElem hn, ← e]
  rcases Nat.eq_zero_or_pos k with z | z
  · subst z
    exact Int.le_refl _
  · exact List.pairwise_iff_getElem.mp (isort_sorted l) 0 k hn hk z
theorem isort_last {l : List Int} (h : l ≠ []) : (isort l).getD ((isort l).length - 1) 0 = mxL l := by
  have p := isort_perm l
  have hn : 0 < (isort l).length := by rw [p.length_eq]; exact List.length_pos_iff.mpr h
  refine (mxL_eq (p.mem_iff.mp (getD_mem _ _ _ (by omega))) fun x hx => ?_).symm
  obtain ⟨k, hk, e⟩ := List.getElem_of_mem (p.mem_iff.mpr hx)
  rw [List.getD_eq_getElem?_getD, List.getElem?_eq_getElem (show (isort l).length - 1 < (isort l).length by omega), ← e]
  rcases Nat.lt_or_ge k ((isort l).length - 1) with z | z
  · exact List.pairwise_iff_getElem.mp (isort_sorted l) k _ hk (by omega) z
  · have : k = (isort l).length - 1 := by omega
    subst this
    exact Int.le_refl _
theorem range'_snoc (a n : Nat) : List.range' a (n + 1) = List.range' a n ++ [a + n] := by
  rw [List.range'_concat]
  simp
end DL

set_option Elab.async false
set_option linter.all false
set_option maxRecDepth 100000
set_option maxHeartbeats 1000000
set_option autoImplicit false
/-! DLw: loops with any target; rings along two kinds of lines by turns. -/
namespace DL
open PySem L2
theorem for_invG {g : MG} {body : MS} (I : Nat → Ro → Prop) : ∀ (xs : List D) (m : Nat), (∀ (k : Nat) (x : D) (ρ : Ro), xs[k]? = some x → I (m + k) ρ → ∃ ρ1 ρ', g x ρ = some ρ1 ∧ (body ρ1 = some (.nx ρ') ∨ body ρ1 = some (.ct ρ')) ∧ I (m + k + 1) ρ') → ∀ (ρ : Ro), I m ρ → ∃ ρ', forGo g body xs ρ = some (.nx ρ') ∧ I (m + xs.length) ρ'
  | [], m, _, ρ, h => ⟨ρ, rfl, h⟩
  | x :: xs, m, st, ρ, h => by
    obtain ⟨ρ0, ρ1, e0, e1, i1⟩ := st 0 x ρ rfl h
    obtain ⟨ρ2, e2, i2⟩ := for_invG I xs (m + 1) (fun k y ρ e i => by
      have := st (k + 1) y ρ (by simpa using e) (by rw [show m + (k + 1) = m + 1 + k by omega]; exact i)
      rw [show m + (k + 1) + 1 = m + 1 + k + 1 by omega] at this
      exact this) ρ1 i1
    refine ⟨ρ2, ?_, by rw [List.length_cons, show m + (xs.length + 1) = m + 1 + xs.length by omega]; exact i2⟩
    rw [forGo_cons, e0, Option.bind_some]
    rcases e1 with e1 | e1
    · rw [e1, forO_nx]; exact e2
    · rw [e1, forO_ct]; exact e2
theorem isort_eq {a b : List Int} (p : a.Perm b) : isort a = isort b := sorted_unique ((isort_perm a).trans (p.trans (isort_perm b).symm)) (isort_sorted a) (isort_sorted b)
theorem isort_id {a : List Int} (h : a.Pairwise (· ≤ ·)) : isort a = a := sorted_unique (isort_perm a) (isort_sorted a) h
def augO (s : Option (Option (D × Bool))) (i : Nat) (g : D → D → R D) (m : ME) (ρ : Ro) : Option Out := match s with
  | some (some (old, false)) => sE (m ρ) ρ fun d => sE (g old d) ρ fun new => some (.nx (ρ.set i (some (new, false))))
  | _ => none
theorem mAug_eq (i : Nat) (g : D → D → R D) (m : ME) (ρ : Ro) : mAug i g m ρ = augO (ρ[i]?) i g m ρ := (rfl)
theorem augO_s (d : D) (i : Nat) (g : D → D → R D) (m : ME) (ρ : Ro) : augO (some (some (d, false))) i g m ρ = sE (m ρ) ρ fun e => sE (g d e) ρ fun new => some (.nx (ρ.set i (some (new, false)))) := (rfl)
theorem dAddA_i (a b : Int) : dAddA (.int a) (.int b) = some (.ok (.int (a + b))) := (rfl)
theorem dIsN_b (a b : Bool) : dIsN (.bl a) (.bl b) = some (.ok (.bl (decide (a = b)))) := (rfl)
theorem dNotN_b (a b : Bool) : dNotN (.bl a) (.bl b) = some (.ok (.bl (!decide (a = b)))) := (rfl)
theorem any_ints (x : Int) : ∀ l : List Int, ((l.map PyData.int).any fun y => PyData.eqv y (.int x)) = decide (x ∈ l)
  | [] => by simp
  | a :: l => by
    rw [List.map_cons, List.any_cons, any_ints x l, eqv_ii, Bool.eq_iff_iff, Bool.or_eq_true, decide_eq_true_eq, decide_eq_true_eq, decide_eq_true_eq, List.mem_cons]
    exact ⟨fun h => h.imp Eq.symm id, fun h => h.imp Eq.symm id⟩
theorem dHas_l (l : List Int) (x : Int) : dHas (.int x) (.lst (l.map D.int)) = some (decide (x ∈ l)) := by
  have e : toPs 31 (l.map D.int) = some (l.map PyData.int) := toPs_i 31 l
  have e2 : toP 32 (.int x) = some (.int x) := toP_i 32 x
  show (match toP 32 (.int x), toPs 31 (l.map D.int) with | some p, some q => some (q.any fun y => PyData.eqv y p) | _, _ => none) = _
  rw [e, e2]
  exact congrArg some (any_ints x l)
theorem dHas_t (l : List Int) (x : Int) : dHas (.int x) (.tup (l.map D.int)) = some (decide (x ∈ l)) := by
  have e : toPs 31 (l.map D.int) = some (l.map PyData.int) := toPs_i 31 l
  have e2 : toP 32 (.int x) = some (.int x) := toP_i 32 x
  show (match toP 32 (.int x), toPs 31 (l.map D.int) with | some p, some q => some (q.any fun y => PyData.eqv y p) | _, _ => none) = _
  rw [e, e2]
  exact congrArg some (any_ints x l)
theorem dIn_l (l : List Int) (x : Int) : dIn (.int x) (.lst (l.map D.int)) = some (.ok (.bl (decide (x ∈ l)))) := by unfold dIn; rw [dHas_l]
theorem dNotIn_l (l : List Int) (x : Int) : dNotIn (.int x) (.lst (l.map D.int)) = some (.ok (.bl (!decide (x ∈ l)))) := by unfold dNotIn; rw [dHas_l]
theorem dIn_t (l : List Int) (x : Int) : dIn (.int x) (.tup (l.map D.int)) = some (.ok (.bl (decide (x ∈ l)))) := by unfold dIn; rw [dHas_t]
theorem dNotIn_t (l : List Int) (x : Int) : dNotIn (.int x) (.tup (l.map D.int)) = some (.ok (.bl (!decide (x ∈ l)))) := by unfold dNotIn; rw [dHas_t]
theorem seen_old (l : List Int) (x : Int) (h : x ∈ l) (hl : l.length < 1000000) : dSet (.dK (seenD l)) (.int x) (.bl true) = some (.dK (seenD l)) := by
  unfold dSet
  show (some (Sum.inl x : Key)).bind (fun k => if (seenD l).length < lim then some (D.dK (ptD (seenD l) k (.bl true))) else none) = _
  rw [Option.bind_some, if_pos (show (seenD l).length < lim by unfold seenD; rw [List.length_map]; exact hl)]
  unfold ptD
  rw [if_pos]
  · congr 2
    unfold seenD
    rw [List.map_map]
    refine List.map_congr_left fun y _ => ?_
    show (if (Sum.inl y : Key) = Sum.inl x then ((Sum.inl y : Key), D.bl true) else (Sum.inl y, D.bl true)) = _
    split <;> rfl
  · unfold seenD
    rw [List.any_eq_true]
    exact ⟨(Sum.inl x, D.bl true), List.mem_map.mpr ⟨x, h, rfl⟩, decide_eq_true rfl⟩
/-- a loop that may be left early -/
theorem for_invB {body : MS} {v : Nat} (I : Nat → Ro → Prop) (Q : Ro → Prop) : ∀ (xs : List D) (m : Nat), (∀ (k : Nat) (x : D) (ρ : Ro), xs[k]? = some x → I (m + k) ρ → (∃ ρ', (body (ρ.set v (some (x, false))) = some (.nx ρ') ∨ body (ρ.set v (some (x, false))) = some (.ct ρ')) ∧ I (m + k + 1) ρ') ∨ (∃ ρ', body (ρ.set v (some (x, false))) = some (.bk ρ') ∧ Q ρ')) → ∀ (ρ : Ro), I m ρ → ∃ ρ', forGo (gD v) body xs ρ = some (.nx ρ') ∧ (I (m + xs.length) ρ' ∨ Q ρ')
  | [], m, _, ρ, h => ⟨ρ, rfl, .inl h⟩
  | x :: xs, m, st, ρ, h => by
    rw [forGo_cons, gD_eq, Option.bind_some]
    rcases st 0 x ρ rfl h with ⟨ρ1, e1, i1⟩ | ⟨ρ1, e1, q1⟩
    · obtain ⟨ρ2, e2, i2⟩ := for_invB I Q xs (m + 1) (fun k y ρ e i => by
        have := st (k + 1) y ρ (by simpa using e) (by rw [show m + (k + 1) = m + 1 + k by omega]; exact i)
        rw [show m + (k + 1) + 1 = m + 1 + k + 1 by omega] at this
        exact this) ρ1 i1
      refine ⟨ρ2, ?_, by rw [List.length_cons, show m + (xs.length + 1) = m + 1 + xs.length by omega]; exact i2⟩
      rcases e1 with e1 | e1
      · rw [e1, forO_nx]; exact e2
      · rw [e1, forO_ct]; exact e2
    · exact ⟨ρ1, by rw [e1, forO_bk], .inr q1⟩
structure Invo (d : Int → Int) (S : List Int) : Prop where
  into : ∀ x ∈ S, d x ∈ S
  inv : ∀ x ∈ S, d (d x) = x
  ne : ∀ x ∈ S, d x ≠ x
def full (d : Int → Int) (b : List Int) : List Int := b.flatMap fun x => [x, d x]
theorem full_len (d : Int → Int) : ∀ b : List Int, (full d b).length = 2 * b.length
  | [] => rfl
  | x :: b => by
    have := full_len d b
    show (x :: d x :: full d b).length = _
    rw [List.length_cons, List.length_cons, List.length_cons, this]
    omega
theorem full_cons (d : Int → Int) (x : Int) (b : List Int) : full d (x :: b) = x :: d x :: full d b := rfl
theorem full_app (d : Int → Int) (b c : List Int) : full d (b ++ c) = full d b ++ full d c := by unfold full; rw [List.flatMap_append]
theorem full_mem {d : Int → Int} {b : List Int} {x : Int} : x ∈ full d b ↔ x ∈ b ∨ ∃ y ∈ b, x = d y := by
  unfold full
  rw [List.mem_flatMap]
  constructor
  · rintro ⟨y, hy, h⟩
    rcases List.mem_cons.mp h with e | h
    · subst e; exact .inl hy
    · rw [List.mem_singleton] at h
      exact .inr ⟨y, hy, h⟩
  · rintro (h | ⟨y, hy, e⟩)
    · exact ⟨x, h, by simp⟩
    · exact ⟨y, hy, by rw [e]; simp⟩
theorem full_even (d : Int → Int) : ∀ (b : List Int) (k : Nat), k < b.length → (full d b).getD (2 * k) 0 = b.getD k 0 ∧ (full d b).getD (2 * k + 1) 0 = d (b.getD k 0)
  | x :: b, 0, _ => ⟨rfl, rfl⟩
  | x :: b, k + 1, h => by
    have ih := full_even d b k (by simpa using h)
    rw [full_cons, show 2 * (k + 1) = 2 * k + 1 + 1 by omega]
    simp only [List.getD_cons_succ]
    exact ih
theorem full_sep {d : Int → Int} : ∀ {b : List Int}, (full d b).Nodup → (∀ x ∈ b, ∀ y ∈ b, x ≠ d y) ∧ b.Nodup
  | [], _ => ⟨fun x h => by simp at h, List.nodup_nil⟩
  | c :: b, nd => by
    rw [full_cons] at nd
    obtain ⟨n1, nd⟩ := List.nodup_cons.mp nd
    obtain ⟨n2, nd⟩ := List.nodup_cons.mp nd
    obtain ⟨ih, ihn⟩ := full_sep nd
    refine ⟨fun x hx y hy => ?_, List.nodup_cons.mpr ⟨fun z => n1 (List.mem_cons_of_mem _ (full_mem.mpr (.inl z))), ihn⟩⟩
    rcases List.mem_cons.mp hx with e1 | h1
    · rcases List.mem_cons.mp hy with e2 | h2
      · rw [e1, e2]
        exact fun z => n1 (by rw [← z]; exact List.mem_cons_self)
      · rw [e1]
        exact fun z => n1 (List.mem_cons_of_mem _ (full_mem.mpr (.inr ⟨y, h2, z⟩)))
    · rcases List.mem_cons.mp hy with e2 | h2
      · rw [e2]
        exact fun z => n2 (by rw [← z]; exact full_mem.mpr (.inl h1))
      · exact ih x h1 y h2
/-- the rings along d and l by turns; R tells each one's every second spot -/
structure DRings (d l : Int → Int) (S : List Int) (R : List (List Int)) : Prop where
  ring : ∀ b ∈ R, IsRing (fun x => l (d x)) b
  perm : (R.flatMap (full d)).Perm S
  low : ∀ b ∈ R, ∀ x ∈ full d b, b.getD 0 0 ≤ x
  asc : R.Pairwise fun b c => b.getD 0 0 < c.getD 0 0
theorem dring_close {d l : Int → Int} {S : List Int} (hd : Invo d S) (hl : Invo l S) {a : Int} {m : Nat} (hm : 0 < m) (ha : a ∈ S) (nd : (full d (orb (fun x => l (d x)) a m)).Nodup) (h : itf (fun x => l (d x)) a m ∈ full d (orb (fun x => l (d x)) a m)) : IsRing (fun x => l (d x)) (orb (fun x => l (d x)) a m) := by
  have gin : ∀ x ∈ S, l (d x) ∈ S := fun x hx => hl.into _ (hd.into x hx)
  have ginj : ∀ x ∈ S, ∀ y ∈ S, l (d x) = l (d y) → x = y := fun x hx y hy e => by
    have e1 := congrArg l e
    rw [hl.inv _ (hd.into x hx), hl.inv _ (hd.into y hy)] at e1
    have e2 := congrArg d e1
    rwa [hd.inv x hx, hd.inv y hy] at e2
  have inS : ∀ k, itf (fun x => l (d x)) a k ∈ S := fun k => by
    induction k with
    | zero => exact ha
    | succ k ih => exact gin _ ih
  obtain ⟨sep, nb⟩ := full_sep nd
  have inO : ∀ k, k < m → itf (fun x => l (d x)) a k ∈ orb (fun x => l (d x)) a m := fun k hk => by
    rw [← orb_at (fun x => l (d x)) m a k hk]
    exact getD_mem _ _ _ (by rw [orb_len]; exact hk)
  refine orb_ring gin ginj hm ha nb ?_
  rcases full_mem.mp h with h | ⟨y, hy, e⟩
  · exact h
  · exfalso
    obtain ⟨j, hj, rfl⟩ := orb_mem hy
    obtain ⟨m', rfl⟩ : ∃ m', m = m' + 1 := ⟨m - 1, by omega⟩
    have e : l (d (itf (fun x => l (d x)) a m')) = d (itf (fun x => l (d x)) a j) := e
    have e1 := congrArg l e
    rw [hl.inv _ (hd.into _ (inS m'))] at e1
    have e1 : d (itf (fun x => l (d x)) a m') = itf (fun x => l (d x)) a (j + 1) := e1
    by_cases z : j + 1 < m' + 1
    · exact sep _ (inO (j + 1) z) _ (inO m' (by omega)) e1.symm
    · have : j = m' := by omega
      subst this
      exact hl.ne _ (hd.into _ (inS j)) e1.symm
end DL

set_option Elab.async false
set_option linter.all false
set_option maxRecDepth 100000
set_option maxHeartbeats 1000000
set_option autoImplicit false
/-! DLx: pairs of a list that stand in some relation, counted. -/
namespace DL
open PySem L2
def cp (s : Int → Int → Bool) : List Int → Nat
  | [] => 0
  | x :: l => (l.filter (s x)).length + cp s l
theorem cp_map (s : Int → Int → Bool) (f : Int → Int) : ∀ l : List Int, cp s (l.map f) = cp (fun x y => s (f x) (f y)) l
  | [] => rfl
  | x :: l => by
    rw [List.map_cons]
    unfold cp
    rw [cp_map s f l, List.filter_map, List.length_map]
    rfl
theorem filter_len_congr {p q : Int → Bool} {l : List Int} (h : ∀ x ∈ l, p x = q x) : (l.filter p).length = (l.filter q).length := by
  rw [List.filter_congr h]
theorem cp_congr {s t : Int → Int → Bool} : ∀ {l : List Int}, l.Pairwise (fun x y => s x y = t x y) → cp s l = cp t l
  | [], _ => rfl
  | x :: l, h => by
    obtain ⟨h1, h2⟩ := List.pairwise_cons.mp h
    unfold cp
    rw [filter_len_congr h1, cp_congr h2]
theorem cp_le (s : Int → Int → Bool) : ∀ l : List Int, cp s l ≤ l.length * l.length
  | [] => Nat.le_refl _
  | x :: l => by
    have h1 := cp_le s l
    have h2 := List.length_filter_le (s x) l
    unfold cp
    rw [List.length_cons, Nat.add_mul, Nat.mul_add]
    omega
theorem cp_perm {s : Int → Int → Bool} {l l' : List Int} (p : l.Perm l') : l.Nodup → (∀ x ∈ l, ∀ y ∈ l, x ≠ y → s x y = s y x) → cp s l = cp s l' := by
  induction p with
  | nil => exact fun _ _ => rfl
  | cons x p ih =>
    intro nd h
    obtain ⟨n1, n2⟩ := List.nodup_cons.mp nd
    unfold cp
    rw [ih n2 fun a ha b hb => h a (List.mem_cons_of_mem _ ha) b (List.mem_cons_of_mem _ hb), (p.filter (s x)).length_eq]
  | swap x y l =>
    intro nd h
    have ne : y ≠ x := fun z => (List.nodup_cons.mp nd).1 (z ▸ List.mem_cons_self)
    have e := h y (by simp) x (by simp) ne
    simp only [cp, List.filter_cons]
    rw [e]
    cases s x y <;> simp <;> omega
  | trans p q a b =>
    intro nd h
    rw [a nd h]
    exact b (p.nodup_iff.mp nd) fun x hx y hy => h x (p.mem_iff.mpr hx) y (p.mem_iff.mpr hy)
/-- two neighbors exchanged -/
theorem cp_adj (s : Int → Int → Bool) (x y : Int) (l : List Int) : ∀ l1 : List Int, cp s (l1 ++ y :: x :: l) + (if s x y = true then 1 else 0) = cp s (l1 ++ x :: y :: l) + (if s y x = true then 1 else 0)
  | [] => by
    simp only [List.nil_append, cp, List.filter_cons]
    cases s x y <;> cases s y x <;> simp <;> omega
  | a :: l1 => by
    have ih := cp_adj s x y l l1
    have e : ((l1 ++ y :: x :: l).filter (s a)).length = ((l1 ++ x :: y :: l).filter (s a)).length := (((List.Perm.swap x y l).append_left l1).filter (s a)).length_eq
    simp only [List.cons_append, cp]
    omega
theorem idx_lt_of_before : ∀ {a : List Int}, a.Nodup → a.Pairwise fun x y => a.idxOf x < a.idxOf y := fun {a} nd => by
  rw [List.pairwise_iff_getElem]
  intro i j hi hj h
  rw [nd.idxOf_getElem i hi, nd.idxOf_getElem j hj]
  exact h
/-- the pairs that two rows hold in different order -/
def dis (a b : List Int) (x y : Int) : Bool := decide (a.idxOf x < a.idxOf y) != decide (b.idxOf x < b.idxOf y)
theorem idx_ne {a : List Int} {x y : Int} (hx : x ∈ a) (hy : y ∈ a) (h : x ≠ y) : a.idxOf x ≠ a.idxOf y := fun e => h (by
  have h1 := List.idxOf_lt_length_of_mem hx
  have h2 := List.idxOf_lt_length_of_mem hy
  have e1 : a[a.idxOf x] = x := by simp
  have e2 : a[a.idxOf y] = y := by simp
  have e3 : a[a.idxOf x]? = a[a.idxOf y]? := by rw [e]
  rw [List.getElem?_eq_getElem h1, List.getElem?_eq_getElem h2, e1, e2] at e3
  exact Option.some.inj e3)
theorem inv_dis {a b : List Int} (na : a.Nodup) (m : ∀ x ∈ a, x ∈ b) : cp (fun x y => decide (b.idxOf y < b.idxOf x)) a = cp (dis a b) a := by
  refine cp_congr ?_
  have h := idx_lt_of_before na
  refine (List.pairwise_iff_forall_sublist (R := fun x y => decide (b.idxOf y < b.idxOf x) = dis a b x y)).mpr fun {x y} hs => ?_
  have hxy := List.pairwise_iff_forall_sublist.mp h hs
  have hx : x ∈ a := hs.subset (by simp)
  have hy : y ∈ a := hs.subset (by simp)
  have ne : x ≠ y := fun z => by subst z; omega
  have ni := idx_ne (m x hx) (m y hy) ne
  unfold dis
  rw [decide_eq_true hxy]
  by_cases c : b.idxOf x < b.idxOf y
  · rw [decide_eq_true c, decide_eq_false (by omega)]
    rfl
  · rw [decide_eq_false c, decide_eq_true (by omega)]
    rfl
theorem dis_sym {a b : List Int} {x y : Int} (ha : x ∈ a) (hb : x ∈ b) (ka : y ∈ a) (kb : y ∈ b) (h : x ≠ y) : dis a b x y = dis a b y x := by
  have n1 := idx_ne ha ka h
  have n2 := idx_ne hb kb h
  unfold dis
  by_cases c1 : a.idxOf x < a.idxOf y <;> by_cases c2 : b.idxOf x < b.idxOf y
  · rw [decide_eq_true c1, decide_eq_true c2, decide_eq_false (by omega), decide_eq_false (by omega)]; rfl
  · rw [decide_eq_true c1, decide_eq_false c2, decide_eq_false (by omega), decide_eq_true (by omega)]; rfl
  · rw [decide_eq_false c1, decide_eq_true c2, decide_eq_true (by omega), decide_eq_false (by omega)]; rfl
  · rw [decide_eq_false c1, decide_eq_false c2, decide_eq_true (by omega), decide_eq_true (by omega)]; rfl
/-- the pairs in the wrong order are as many there as back -/
theorem inv_back {a b : List Int} (na : a.Nodup) (p : a.Perm b) : cp (fun x y => decide (b.idxOf y < b.idxOf x)) a = cp (fun x y => decide (a.idxOf y < a.idxOf x)) b := by
  have nb := p.nodup_iff.mp na
  rw [inv_dis na fun x hx => p.mem_iff.mp hx, inv_dis nb fun x hx => p.mem_iff.mpr hx]
  rw [cp_perm p na fun x hx y hy h => dis_sym hx (p.mem_iff.mp hx) hy (p.mem_iff.mp hy) h]
  have e : dis b a = dis a b := by
    funext x y
    unfold dis
    cases decide (b.idxOf x < b.idxOf y) <;> cases decide (a.idxOf x < a.idxOf y) <;> rfl
  rw [e]
end DL

set_option Elab.async false
set_option linter.all false
set_option maxRecDepth 100000
set_option maxHeartbeats 1000000
set_option autoImplicit false
/-! DLy: common choices of two rows. -/
namespace DL
open PySem L2
/-- what stands in order in a row is a choice of it -/
theorem sub_of_idx : ∀ {l c : List Int}, l.Nodup → (∀ x ∈ c, x ∈ l) → c.Pairwise (fun x y => l.idxOf x < l.idxOf y) → c.Sublist l
  | [], c, _, h, _ => by
    cases c with
    | nil => exact .slnil
    | cons x c => exact absurd (h x List.mem_cons_self) (by simp)
  | y :: l, [], _, _, _ => List.nil_sublist _
  | y :: l, x :: c, nd, h, p => by
    obtain ⟨n1, n2⟩ := List.nodup_cons.mp nd
    obtain ⟨p1, p2⟩ := List.pairwise_cons.mp p
    have idx : ∀ z, z ≠ y → (y :: l).idxOf z = l.idxOf z + 1 := fun z hz => by
      rw [List.idxOf_cons]
      have : (y == z) = false := by simpa using fun e => hz e.symm
      rw [this]
      rfl
    by_cases e : x = y
    · subst e
      have i0 : (x :: l).idxOf x = 0 := by simp
      have ne : ∀ z ∈ c, z ≠ x := fun z hz q => by
        have := p1 z hz
        rw [q] at this
        omega
      refine (sub_of_idx n2 (fun z hz => ?_) ?_).cons₂ x
      · rcases List.mem_cons.mp (h z (List.mem_cons_of_mem _ hz)) with q | q
        · exact absurd q (ne z hz)
        · exact q
      · refine p2.imp_of_mem fun {a b} ha hb hab => ?_
        rw [idx a (ne a ha), idx b (ne b hb)] at hab
        omega
    · have ne : ∀ z ∈ x :: c, z ≠ y := fun z hz q => by
        rcases List.mem_cons.mp hz with k | k
        · exact e (k ▸ q)
        · have := p1 z k
          rw [q] at this
          simp at this
      refine (sub_of_idx n2 (fun z hz => ?_) ?_).cons y
      · rcases List.mem_cons.mp (h z hz) with q | q
        · exact absurd q (ne z hz)
        · exact q
      · refine p.imp_of_mem fun {a b} ha hb hab => ?_
        rw [idx a (ne a ha), idx b (ne b hb)] at hab
        omega
theorem idx_of_sub {l c : List Int} (nd : l.Nodup) (s : c.Sublist l) : c.Pairwise (fun x y => l.idxOf x < l.idxOf y) := (idx_lt_of_before nd).sublist s
theorem map_sub {α β : Type} (f : α → β) {l l' : List α} (s : l.Sublist l') : (l.map f).Sublist (l'.map f) := s.map f
/-- erasing one thing keeps a choice -/
theorem erase_len {c : List Int} (x : Int) : c.length ≤ (c.erase x).length + 1 := by
  rw [List.length_erase]
  split <;> omega
end DL

set_option Elab.async false
set_option linter.all false
set_option maxRecDepth 100000
set_option maxHeartbeats 1000000
set_option autoImplicit false
/-! DLz: tuples that are known to be nothing but tuples: tuple(list), t.index(x). -/
namespace DL
open PySem L2
section
open PySem.Spec PyProof.Rows
variable {X : Cx}
theorem call_tuple_X : CallR X (.type "tuple") (fun xs H Q => ∃ p ys, xs = [.ref p] ∧ SqL X.K H p ys ∧ ∀ l o, H l = none → o.dict = none → Q (.ref l) (upd H l (.frz o (.tup ys)))) := by
  intro pins s σ H xs us Q I r h
  obtain ⟨p, ys, rfl, hq, q⟩ := h
  obtain ⟨u, rfl, rx⟩ := vals1 r
  cases rx
  obtain ⟨its, r', pl, hz⟩ := I.list hq
  have hlen := r'.length
  refine call_tuple_list pl.isList (fun h' kp => ?_) (by simp only [List.size_toArray] <;> omega)
  have I1 : Inv X pins σ H { s with heap := h' } := I.kept (t' := s.toks) kp
  have I2 : Inv X pins σ (upd H h'.objs.size (.frz { cls := .type "tuple", data := .seq its.toArray } (.tup ys))) { s with heap := h'.push { cls := .type "tuple", data := .seq its.toArray } } :=
    I1.laid (t' := s.toks) (fun b o e => Heap.get?_push_of_some _ e) (Nat.le_refl _) (show ObjOk X.prog X.w _ _ _ (.frz _ (.tup ys)) from ⟨Heap.get?_push_size _ rfl, hz, its, r', IsTup.new _ _⟩)
  exact ⟨.ref h'.objs.size, _, I2, rfl, q _ _ (I1.hok.fresh (Nat.le_refl _)) rfl⟩
/-- t.index(i), the first place, of ints -/
def rIndexT (K : PySem.W.Frag) : V → List V → Hp → VK → Prop := fun x xs H Q => ∃ p, ∃ ys : List Int, ∃ z j, x = .ref p ∧ xs = [.int z] ∧ SqT K H p (ys.map V.int) ∧ ys[j]? = some z ∧ (∀ m, m < j → ys[m]? ≠ some z) ∧ Q (.int (j : Nat)) H
theorem mt_tup_indexI : MtR X "tuple.index" (rIndexT X.K) := by
  intro pins s σ H x xs v us Q I rx rs h
  obtain ⟨p, ys, z, j, rfl, rfl, hq, hy, hno, q⟩ := h
  cases rx
  obtain ⟨u, rfl, t, rfl⟩ := vals1 rs
  obtain ⟨its, r, pl, hz⟩ := I.tuple hq
  obtain ⟨⟨cls, dd, dt, sl⟩, ho, hc, n, hd⟩ := pl
  simp only at hc hd
  subst hc
  subst hd
  have hl : its.toArray.size = ys.length := by rw [List.size_toArray, ← r.length, List.length_map]
  have hj : j < its.toArray.size := by rw [hl]; exact (List.getElem?_eq_some_iff.mp hy).1
  have at' : ∀ (m : Nat) (hm : m < its.toArray.size), ∃ y t', ys[m]? = some y ∧ its.toArray[m] = Value.int y t' := fun m hm => by
    have hm' : m < ys.length := by rw [← hl]; exact hm
    obtain ⟨w, hw, t', hw'⟩ := r.get (i := m) (x := .int ys[m]) (by simp [hm'])
    refine ⟨ys[m], t', List.getElem?_eq_getElem hm', ?_⟩
    have e := (List.getElem?_eq_some_iff.mp hw).2
    rw [← hw', ← e]
    simp
  refine call_meets PySem.F.slot_tuple_index ⟨_, ho, rfl⟩ PySem.F.entry_tuple_index (PySem.F.args_tuple_index_2 _ _) (TI.tuple_indexAt p its.toArray n dd sl (.int z t) (eqU (.int z)) j hj ?_ ?_)
    ⟨ho, fun w hw => mem_eqAt (x := .int z) ⟨t, rfl⟩ rfl r (DL.flat_ints ys) w (by simpa using hw), ⟨.int (j : Nat), H, I.tok _, ⟨_, rfl⟩, q⟩⟩
  · obtain ⟨y, t', h1, h2⟩ := at' j hj
    rw [hy] at h1
    cases h1
    rw [h2]
    show (z == z) = true
    exact beq_self_eq_true z
  · intro m hm hmj
    obtain ⟨y, t', h1, h2⟩ := at' m hm
    rw [h2]
    show (y == z) = false
    exact beq_eq_false_iff_ne.mpr fun e => hno m hmj (e ▸ h1)
/-- a method of a tuple that is known to be nothing but one -/
def tBX (K : PySem.W.Frag) (r : V → List V → Hp → VK → Prop) (to : TE) (t : TA) : TE := fun σ H Q => to σ H fun x H1 => (∃ p, x = .ref p ∧ ((∃ o us, o.dict = none ∧ H1 p = some (.frz o (.tup us))) ∨ ∃ o, K.lookup p = some o ∧ o.cls = .type "tuple" ∧ o.dict = none)) ∧ t σ H1 fun xs H2 => r x xs H2 Q
theorem pe_bmX {o e : Expr} {es : List Expr} {to : TE} {t : TA} {name : Str} {apos cpos : Pos} {id : String} {r : V → List V → Hp → VK → Prop} (pa : PlainAttrs "tuple") (slot : Slot "tuple" name id) (hty : typeOf (.builtin id) = pure (.type "method_descriptor")) (hm : MtR X id r) (ho : PE X o to) (ha : PA X (e :: es) t)
    (hbase : attributeBase o name X.env (eval o X.env) = eval o X.env := by rfl)
    (hfew : ((backTo cpos (starEach (e :: es) X.env)).all (fun x => !x.1) && (backToKw cpos (keywordEach [] X.env)).all (fun x => x.1.isSome)
      && decide ((e :: es).length + ([] : List Keyword).length + (if ([] : List Keyword).isEmpty then 0 else 1) < 30)) = true := by rfl)
    (hline : (apos.endLine == cpos.line) = true := by rfl) (hs : starEach (e :: es) X.env = (false, eval e X.env) :: starEach es X.env := by rfl) (hplain : (backTo cpos (starEach es X.env)).any (·.1) = false := by rfl) :
    PE X (.Call (.Attribute o name apos) (e :: es) [] cpos) (tBX X.K r to t) := by
  refine ⟨fun pins s σ H Q I h => ?_⟩
  refine wpAny_Call_method_late hbase hfew hline rfl (thn (ho.run pins s σ H _ I h) fun v s1 ⟨x, H1, I1, r1, ty, q1⟩ => ?_)
  obtain ⟨p, rfl, ty⟩ := ty
  cases r1
  have h12 : s1.TypeIs (.ref p) "tuple" ∧ ∀ a, Value.ref p = .ref a → ∃ ob, s1.heap.get? a = some ob ∧ ob.dict = none := by
    rcases ty with ⟨ob, us, hd, hp⟩ | ⟨ob, hk, hc, hd⟩
    · have hok : s1.heap.get? p = some ob ∧ us.length ≤ sizeLine ∧ ∃ its : List Value, Vals us its ∧ IsTup s1.heap p its.toArray := I1.hok p _ hp
      obtain ⟨g1, _, its, _, o2, g2, hc, _⟩ := hok
      exact ⟨⟨o2, g2, hc⟩, fun a e => by
        cases e
        exact ⟨ob, g1, hd⟩⟩
    · exact ⟨⟨ob, I1.kIn p ob hk, hc⟩, fun a e => by
        cases e
        exact ⟨ob, I1.kIn _ ob hk, hd⟩⟩
  obtain ⟨h1, h2⟩ := h12
  refine ⟨"tuple", id, pa, slot, hty, h1, h2, ?_⟩
  have hA := ha.run cpos pins s1 σ H1 _ I1 q1
  rw [hs] at hA ⊢
  refine Calls.callWith_builtin (by show (false || (backTo cpos (starEach es X.env)).any (·.1)) = false; rw [hplain] <;> rfl) (Calls.evalArgs_plain ?_)
  exact thn hA fun us s2 ⟨vs, H2, I2, r2, q2⟩ => hm pins s2 σ H2 (V.ref p) vs (.ref p) us Q I2 rfl r2 q2
end
section
variable {X : Cx} {c : Conf} {W : WX} {Γ : Gam} {σ : L2.St} {H : Hp} {ρ : Ro} {Q : VK}
theorem fin_fzT {us : List V} {ds : List D} {q : Addr} {o : Obj} (p : PostE c W .dur Γ σ ρ H Q (.ok (.fz true ds))) (e : ER c Γ σ H ρ) (r : Rp c (NN Γ σ ρ) H us ds) (hq : H q = none) (hd : o.dict = none) : Q (.ref q) (upd H q (.frz o (.tup us))) :=
  p _ _ (same_new hq) ⟨e.same (same_new hq), .fzT (.inl ⟨fun z => e.tracked z hq, o, hd, upd_same⟩) (r.same (same_new hq)) .nil⟩
/-- tuple(xs) of a list, known to be nothing but a tuple -/
def dTupX : List D → R D
  | [.lst ds] => ok (.fz true ds)
  | [.fz true ds] => ok (.fz true ds)
  | [.tup ds] => ok (.tup ds)
  | _ => none
theorem bi_tupX (hK : c.K = X.K := by rfl) : Bi X c W .dur (.type "tuple") dTupX := ⟨_, call_tuple_X.or call_tuple_of, by
  rw [← hK]
  intro Γ σ ρ H xs ds res Q er bx h p
  unfold dTupX at h
  split at h
  · cases h
    obtain ⟨x, rfl, a, us, rfl, e, r⟩ := bx.one
    exact .inl ⟨a, us, rfl, .of e, fun l o hl hd => fin_fzT p er r hl hd⟩
  · cases h
    obtain ⟨x, rfl, b⟩ := bx.one
    have b' : Re c (NN Γ σ ρ) H x (.fz true _) := b
    obtain ⟨a, us, rfl, e, r⟩ := b.fzT
    exact .inr ⟨a, us, rfl, .inr ⟨e, fin_re p er b'⟩⟩
  · cases h
    obtain ⟨x, rfl, b⟩ := bx.one
    obtain ⟨a, us, rfl, n, e, r⟩ := b.tup
    exact .inr ⟨a, us, rfl, .inr ⟨.of e, fin_re p er (.tup n e r .nil)⟩⟩
  · cases h⟩
/-- the first place of a number in such a tuple -/
def dIdxT : D → List D → R D
  | .fz true ds, [.int i] => (ints? ds).bind fun ns => if i ∈ ns then ok (.int (ns.idxOf i : Nat)) else none
  | _, _ => none
theorem Bor.exact {N : Addr → Prop} {v : V} {ds : List D} (h : Bor c N H v (.fz true ds)) : ∃ p, v = .ref p ∧ ((∃ o us, o.dict = none ∧ H p = some (.frz o (.tup us))) ∨ ∃ o, c.K.lookup p = some o ∧ o.cls = .type "tuple" ∧ o.dict = none) := by
  have h : Re c N H v (.fz true ds) := h
  cases h with
  | fzT q _ _ =>
    rcases q with ⟨_, o, hd, e⟩ | ⟨o, its, n, h1, h2, h3, _⟩
    · exact ⟨_, rfl, .inl ⟨o, _, hd, e⟩⟩
    · exact ⟨_, rfl, .inr ⟨o, h1, h2, h3⟩⟩
theorem i_idxT {o e : Expr} {mo : ME} {l : MA} {apos cpos : Pos} (ho : PE X o (tE c W .bor mo)) (ha : PA X [e] (tBo c W l)) (hbase : attributeBase o "index" X.env (eval o X.env) = eval o X.env := by rfl)
    (hfew : ((backTo cpos (starEach [e] X.env)).all (fun x => !x.1) && (backToKw cpos (keywordEach [] X.env)).all (fun x => x.1.isSome)
      && decide ([e].length + ([] : List Keyword).length + (if ([] : List Keyword).isEmpty then 0 else 1) < 30)) = true := by rfl)
    (hline : (apos.endLine == cpos.line) = true := by rfl) (hst : starEach [e] X.env = (false, eval e X.env) :: starEach [] X.env := by rfl) (hplain : (backTo cpos (starEach [] X.env)).any (·.1) = false := by rfl) (hK : c.K = X.K := by rfl) :
    PE X (.Call (.Attribute o "index" apos) [e] [] cpos) (tE c W .dur (mMeth dIdxT mo l)) :=
  (pe_bmX PySem.F.plainAttrs_tuple PySem.F.slot_tuple_index PySem.F.type_tuple_index mt_tup_indexI ho ha hbase hfew hline hst hplain).via fun σ H Q ⟨Γ, ρ, res, er, em, p⟩ => by
    rw [← hK]
    have em : bnd (mo ρ) (fun d => match l ρ with | some (.ok es) => dIdxT d es | _ => none) = some res := em
    refine use er em p.err fun d v H1 h1 s1 r1 => ?_
    cases q : l ρ with
    | none => rw [q] at h1; cases h1
    | some w =>
      cases w with
      | error x => rw [q] at h1; cases h1
      | ok es =>
        rw [q] at h1
        replace h1 : dIdxT d es = some res := h1
        unfold dIdxT at h1
        split at h1
        · rename_i ds i
          obtain ⟨ns, hn, h1⟩ := Option.bind_eq_some_iff.mp h1
          split at h1
          · rename_i hm
            cases h1
            refine ⟨Bor.exact r1.2, Γ, ρ, _, r1.1, q, fun vs H2 s2 e2 r2 => ?_⟩
            have bx := r1.2.same s2
            obtain ⟨a, us, rfl, e, r⟩ := bx.fzT
            have eu := r.ints? hn
            subst eu
            obtain ⟨v, rfl, b⟩ := r2.one
            have ev := b.int
            subst ev
            obtain ⟨g1, g2⟩ := idx_first hm
            refine ⟨a, ns, i, ns.idxOf i, rfl, rfl, e, g1, fun m hm hz => ?_, fin_int (p.mono (s1.trans s2)) e2⟩
            exact g2 m i hm hz rfl
          · cases h1
        · cases h1
end
def rowD (q : Bool) (l : List Int) : D := match q with
  | true => .fz true (l.map D.int)
  | false => .tup (l.map D.int)
theorem rowD_t (l : List Int) : rowD true l = .fz true (l.map D.int) := (rfl)
theorem rowD_f (l : List Int) : rowD false l = .tup (l.map D.int) := (rfl)
theorem dList_f (t : Bool) (l : List D) : dList [.fz t l] = some (.ok (.lst l)) := (rfl)
theorem dTupX_f (l : List D) : dTupX [.fz true l] = some (.ok (.fz true l)) := (rfl)
theorem dRev_f (l : List D) : dRev (.fz true l) = some (.ok (.tup l.reverse)) := (rfl)
theorem dSl_fz (lo hi : Option Int) (l : List D) : dSl lo hi (.fz true l) = if HT.sIx l.length 0 lo = 0 ∧ HT.sIx l.length l.length hi = l.length then some (.ok (.fz true l)) else some (.ok (.tup (cut l lo hi))) := (rfl)
theorem toP_f (n : Nat) (l : List Int) : toP (n + 1) (.fz true (l.map D.int)) = some (.tuple (l.map .int)) := by
  show ((l.map D.int).mapM (toP n)).map PyData.tuple = _
  rw [toPs_i]
  rfl
theorem toP_row (n : Nat) (q : Bool) (l : List Int) : toP (n + 1) (rowD q l) = some (.tuple (l.map .int)) := by
  cases q
  · exact toP_t n l
  · exact toP_f n l
theorem dEqv_row (q q' : Bool) (l l' : List Int) : dEqv (rowD q l) (rowD q' l') = some (decide (l = l')) := by
  unfold dEqv
  rw [toP_row, toP_row]
  show some (PyData.eqv _ _) = _
  rw [PyData.eqv, eqvAll_ii]
theorem dEq_row (q q' : Bool) (l l' : List Int) : dEq (rowD q l) (rowD q' l') = some (.ok (.bl (decide (l = l')))) := dEq_of (dEqv_row q q' l l')
theorem dNe_row (q q' : Bool) (l l' : List Int) : dNe (rowD q l) (rowD q' l') = some (.ok (.bl (!decide (l = l')))) := dNe_of (dEqv_row q q' l l')
theorem dSorted_f (l : List Int) : dSorted [.fz true (l.map D.int)] = some (.ok (.lst ((isort l).map D.int))) := by
  show (some (l.map D.int)).bind (fun ds => (ints? ds).map fun ns => (.ok (.lst ((isort ns).map D.int)) : Except EN D)) = _
  rw [Option.bind_some, ints?_map]
  rfl
theorem dTupX_t (ds : List D) : dTupX [.tup ds] = some (.ok (.tup ds)) := (rfl)
theorem dTupX_l (ds : List D) : dTupX [.lst ds] = some (.ok (.fz true ds)) := (rfl)
theorem dIdxT_i (ns : List Int) (i : Int) (h : i ∈ ns) : dIdxT (.fz true (ns.map D.int)) [.int i] = some (.ok (.int (ns.idxOf i : Nat))) := by
  show (ints? (ns.map D.int)).bind _ = _
  rw [ints?_map, Option.bind_some, if_pos h]
end DL

set_option Elab.async false
set_option linter.all false
set_option maxRecDepth 100000
set_option maxHeartbeats 2000000
set_option autoImplicit false
/-! DNa: for x in d, d a dict that a name holds: its keys; the dict is locked while the loop runs. -/
namespace DL
open PySem L2
def keyDat : Key → D
  | .inl i => .int i
  | .inr s => .str s
section
variable {c : Conf} {H : Hp} {a : Addr} {od : Obj} {kvs : List (Key × V)}
theorem Rp.lock (ha : H a = some (.dK kvs)) {N : Addr → Prop} {vs : List V} {ds : List D} (r : Rp c N H vs ds) : Rp c N (upd H a (.frz od (.dK kvs))) vs ds := by
  have ne : ∀ {b : Addr} {u : HO}, H b = some u → (∀ k, u ≠ .dK k) → b ≠ a := fun {b u} e n z => by
    rw [z, ha] at e
    cases e
    exact n _ rfl
  induction r with
  | nil => exact .nil
  | non _ ih => exact .non ih
  | bl _ ih => exact .bl ih
  | int _ ih => exact .int ih
  | str _ ih => exact .str ih
  | tup n q _ _ i1 i2 => exact .tup n (by rw [upd_ne (ne q fun _ z => nomatch z)]; exact q) i1 i2
  | lst n q _ _ i1 i2 => exact .lst n (by rw [upd_ne (ne q fun _ z => nomatch z)]; exact q) i1 i2
  | fzT q _ _ i1 i2 => exact .fzT (q.imp (fun ⟨n, o, hd, e⟩ => ⟨n, o, hd, by rw [upd_ne (ne e fun _ z => nomatch z)]; exact e⟩) id) i1 i2
  | fzL q _ _ i1 i2 => exact .fzL (q.imp (fun ⟨n, z⟩ => ⟨n, z.imp (fun e => by rw [upd_ne (ne e fun _ z => nomatch z)]; exact e) fun ⟨o, e⟩ => ⟨o, by rw [upd_ne (ne e fun _ z => nomatch z)]; exact e⟩⟩) id) i1 i2
  | @dK b kvs2 _ _ _ n q e _ _ i1 i2 =>
    refine .dK n ?_ e i1 i2
    by_cases z : b = a
    · rcases q with q | ⟨o, q⟩
      · rw [z, ha] at q
        cases q
        exact .inr ⟨od, by rw [z, upd_same]⟩
      · rw [z, ha] at q
        cases q
    · exact q.imp (fun q => by rw [upd_ne z]; exact q) fun ⟨o, q⟩ => ⟨o, by rw [upd_ne z]; exact q⟩
  | dT n q e _ _ i1 i2 => exact .dT n (q.imp (fun q => by rw [upd_ne (ne q fun _ z => nomatch z)]; exact q) fun ⟨o, q⟩ => ⟨o, by rw [upd_ne (ne q fun _ z => nomatch z)]; exact q⟩) e i1 i2
  | obj k n q e _ _ i1 i2 => exact .obj k n (by rw [upd_ne (ne q fun _ z => nomatch z)]; exact q) e i1 i2
  | fn k _ ih => exact .fn k ih
theorem Rp.unlock (ha : H a = some (.frz od (.dK kvs))) {N : Addr → Prop} {vs : List V} {ds : List D} (r : Rp c N H vs ds) : Rp c N (upd H a (.dK kvs)) vs ds := by
  have ne : ∀ {b : Addr} {u : HO}, H b = some u → (∀ o k, u ≠ .frz o (.dK k)) → b ≠ a := fun {b u} e n z => by
    rw [z, ha] at e
    cases e
    exact n _ _ rfl
  induction r with
  | nil => exact .nil
  | non _ ih => exact .non ih
  | bl _ ih => exact .bl ih
  | int _ ih => exact .int ih
  | str _ ih => exact .str ih
  | tup n q _ _ i1 i2 => exact .tup n (by rw [upd_ne (ne q fun _ _ z => nomatch z)]; exact q) i1 i2
  | lst n q _ _ i1 i2 => exact .lst n (by rw [upd_ne (ne q fun _ _ z => nomatch z)]; exact q) i1 i2
  | fzT q _ _ i1 i2 => exact .fzT (q.imp (fun ⟨n, o, hd, e⟩ => ⟨n, o, hd, by rw [upd_ne (ne e fun _ _ z => nomatch z)]; exact e⟩) id) i1 i2
  | fzL q _ _ i1 i2 => exact .fzL (q.imp (fun ⟨n, z⟩ => ⟨n, z.imp (fun e => by rw [upd_ne (ne e fun _ _ z => nomatch z)]; exact e) fun ⟨o, e⟩ => ⟨o, by rw [upd_ne (ne e fun _ _ z => nomatch z)]; exact e⟩⟩) id) i1 i2
  | @dK b kvs2 _ _ _ n q e _ _ i1 i2 =>
    refine .dK n ?_ e i1 i2
    by_cases z : b = a
    · rcases q with q | ⟨o, q⟩
      · rw [z, ha] at q
        cases q
      · rw [z, ha] at q
        cases q
        exact .inl (by rw [z, upd_same])
    · exact q.imp (fun q => by rw [upd_ne z]; exact q) fun ⟨o, q⟩ => ⟨o, by rw [upd_ne z]; exact q⟩
  | dT n q e _ _ i1 i2 => exact .dT n (q.imp (fun q => by rw [upd_ne (ne q fun _ _ z => nomatch z)]; exact q) fun ⟨o, q⟩ => ⟨o, by rw [upd_ne (ne q fun _ _ z => nomatch z)]; exact q⟩) e i1 i2
  | obj k n q e _ _ i1 i2 => exact .obj k n (by rw [upd_ne (ne q fun _ _ z => nomatch z)]; exact q) e i1 i2
  | fn k _ ih => exact .fn k ih
/-- an own thing, that is another one, while Rp goes over -/
theorem Own.other {N : Addr → Prop} {H' : Hp} {b : Addr} {d : D} (h : Own c N H b d) (e : H' b = H b) (k : ∀ vs ds, Rp c N H vs ds → Rp c N H' vs ds) : Own c N H' b d := by
  cases d with
  | lst es =>
    obtain ⟨us, q, r⟩ := h
    exact ⟨us, by rw [e]; exact q, k _ _ r⟩
  | dK kds =>
    obtain ⟨kvs, q, z, r⟩ := h
    exact ⟨kvs, by rw [e]; exact q, z, k _ _ r⟩
  | dT kds =>
    obtain ⟨kvs, q, z, r⟩ := h
    exact ⟨kvs, by rw [e]; exact q, z, k _ _ r⟩
  | _ => exact h.elim
def Gam.lock (Γ : Gam) (a : Addr) (u : HO) : Gam := ⟨Γ.U, upd Γ.H0 a u, Γ.held, (a, u) :: Γ.raw.filter fun p => decide (p.1 ≠ a)⟩
theorem nn_lock {Γ : Gam} {a : Addr} {u : HO} {σ : L2.St} {ρ : Ro} : NN (Γ.lock a u) σ ρ = NN Γ σ ρ := rfl
theorem ER.lock {Γ : Gam} {σ : L2.St} {ρ : Ro} (e : ER c Γ σ H ρ) (ha : H a = some (.dK kvs)) (na : ¬ NN Γ σ ρ a) : ER c (Γ.lock a (.frz od (.dK kvs))) σ (upd H a (.frz od (.dK kvs))) ρ where
  len := e.len
  ext := fun b u h => by
    have h : (upd Γ.H0 a (.frz od (.dK kvs))) b = some u := h
    by_cases z : b = a
    · subst z
      rw [upd_same] at h ⊢
      exact h
    · rw [upd_ne z] at h ⊢
      exact e.ext b u h
  utr := fun b h => by
    by_cases z : b = a
    · subst z; exact Mt.upd fun _ z => by cases z
    · exact (e.utr b h).off z
  held := fun p h => (e.held p h).lock ha
  raw := fun p h => by
    rcases List.mem_cons.mp h with h | h
    · subst h
      exact ⟨na, upd_same⟩
    · obtain ⟨h1, h2⟩ := List.mem_filter.mp h
      have := e.raw p h1
      exact ⟨this.1, by rw [upd_ne (of_decide_eq_true h2)]; exact this.2⟩
  fx := e.fx
  own := fun i d b h1 h2 => by
    obtain ⟨q1, q2⟩ := e.own i d b h1 h2
    have ne : b ≠ a := fun z => na (.inr ⟨i, d, h1, by rw [← z]; exact h2⟩)
    exact ⟨by show (upd Γ.H0 a _) b = none; rw [upd_ne ne]; exact q1, q2⟩
  dis := e.dis
  slot := fun i d h => let ⟨v, h1, h2⟩ := e.slot i d h; ⟨v, h1, Rp.lock ha h2⟩
  mine := fun i d h => by
    obtain ⟨b, h1, h2⟩ := e.mine i d h
    have ne : b ≠ a := fun z => na (.inr ⟨i, d, h, by rw [← z]; exact h1⟩)
    exact ⟨b, h1, h2.other (upd_ne ne) fun _ _ r => r.lock ha⟩
theorem ER.unlock {Γ : Gam} {σ : L2.St} {ρ : Ro} (e : ER c (Γ.lock a (.frz od (.dK kvs))) σ H ρ) (h0 : ∀ u, Γ.H0 a = some u → u = .dK kvs) (hr : ∀ p ∈ Γ.raw, p.1 = a → p.2 = .dK kvs) : ER c Γ σ (upd H a (.dK kvs)) ρ := by
  obtain ⟨na, ha⟩ := e.raw (a, .frz od (.dK kvs)) List.mem_cons_self
  exact {
    len := e.len
    ext := fun b u h => by
      by_cases z : b = a
      · subst z
        rw [upd_same, h0 u h]
      · rw [upd_ne z]
        exact e.ext b u (by show (upd Γ.H0 a _) b = some u; rw [upd_ne z]; exact h)
    utr := fun b h => by
      by_cases z : b = a
      · subst z; exact Mt.upd fun _ z => by cases z
      · exact (e.utr b h).off z
    held := fun p h => (e.held p h).unlock ha
    raw := fun p h => by
      by_cases z : p.1 = a
      · rw [z, upd_same, hr p h z]
        exact ⟨na, rfl⟩
      · have := e.raw p (List.mem_cons_of_mem _ (List.mem_filter.mpr ⟨h, decide_eq_true z⟩))
        exact ⟨this.1, by rw [upd_ne z]; exact this.2⟩
    fx := e.fx
    own := fun i d b h1 h2 => by
      obtain ⟨q1, q2⟩ := e.own i d b h1 h2
      have ne : b ≠ a := fun z => na (.inr ⟨i, d, h1, by rw [← z]; exact h2⟩)
      have q1 : (upd Γ.H0 a (.frz od (.dK kvs))) b = none := q1
      rw [upd_ne ne] at q1
      exact ⟨q1, q2⟩
    dis := e.dis
    slot := fun i d h => let ⟨v, h1, h2⟩ := e.slot i d h; ⟨v, h1, Rp.unlock ha h2⟩
    mine := fun i d h => by
      obtain ⟨b, h1, h2⟩ := e.mine i d h
      have ne : b ≠ a := fun z => na (.inr ⟨i, d, h, by rw [← z]; exact h1⟩)
      exact ⟨b, h1, h2.other (upd_ne ne) fun _ _ r => r.unlock ha⟩ }
theorem keys_rp : ∀ {kvs : List (Key × V)} {kds : List (Key × D)}, kvs.map (·.1) = kds.map (·.1) → ∀ (N : Addr → Prop) (H : Hp), Rp c N H (kvs.map fun p => kV p.1) (kds.map fun p => keyDat p.1)
  | [], [], _, _, _ => .nil
  | [], _ :: _, e, _, _ => by cases e
  | _ :: _, [], e, _, _ => by cases e
  | (k, v) :: kvs, (k2, d) :: kds, e, N, H => by
    simp only [List.map_cons, List.cons.injEq] at e
    obtain ⟨e1, e2⟩ := e
    subst e1
    have t := keys_rp e2 N H
    cases k with
    | inl i => exact Rp.int t
    | inr s => exact Rp.str t
theorem walks_keys (a : Addr) (o : Obj) (kvs : List (Key × V)) : Walks (Itk a o kvs) (fun H => H a = some (.frz o (.dK kvs))) (kvs.map fun p => kV p.1) where
  go := fun i H x hP hx => by
    rw [List.getElem?_map] at hx
    obtain ⟨⟨k, v⟩, h1, rfl⟩ := Option.map_eq_some_iff.mp hx
    obtain ⟨hl, _⟩ := List.getElem?_eq_some_iff.mp h1
    refine ⟨⟨hP, hl⟩, fun y H2 ⟨e, k', v', h2, h3⟩ => ⟨e, ?_⟩⟩
    rw [h1] at h2
    cases h2
    exact h3
  stop := fun i H hP hl => ⟨hP, by rwa [List.length_map] at hl⟩
end
/-- a name's dict, read -/
def slotK (ρ : Ro) (i : Nat) : Option (List (Key × D)) := match ρ[i]? with
  | some (some (.dK kds, false)) => some kds
  | _ => none
theorem slotK_at {ρ : Ro} {i : Nat} {kds : List (Key × D)} (h : slotK ρ i = some kds) : ρ[i]? = some (some (.dK kds, false)) := by
  unfold slotK at h
  split at h
  · cases h; assumption
  · cases h
def noEr : Option Out → Option Out
  | some (.er _ _) => none
  | o => o
/-- for x in d: its keys -/
def mForK (i : Nat) (g : MG) (body : MS) : MS := fun ρ => (slotK ρ i).bind fun kds => noEr (forGo g body (kds.map fun p => keyDat p.1) ρ)
section
variable {X : Cx} {c : Conf} {W : WX}
theorem _root_.L2.PS.or {st : Stmt} {t t' : TS} (h : PS X st t) (h' : PS X st t') : PS X st (fun D σ H => t D σ H ∨ t' D σ H) := ⟨fun pins s σ H D I q => q.elim (h.run pins s σ H D I) (h'.run pins s σ H D I)⟩
theorem forK_core {gg : TG} {g : MG} {is : List Nat} {s : MS} {i : Nat} {Dd : Ends} (hg : GOk c is gg g) {Γ : Gam} {σ : L2.St} {H : Hp} {ρ : Ro} {o : Out} {a : Addr} {od : Obj} {kvs : List (Key × V)} {kds : List (Key × D)} (er : ER c Γ σ H ρ)
    (ha : σ[i]? = some (some (V.ref a))) (hf : H a = some (.frz od (.dK kvs))) (ek : kvs.map (·.1) = kds.map (·.1)) (na : ¬ NN Γ σ ρ a) (em : forGo g s (kds.map fun p => keyDat p.1) ρ = some o) (ne : ∀ x ρ', o ≠ .er x ρ') (p : SPost c W Γ Dd o) :
    tFor (iKeys (tVar i)) gg (tS c W s) Dd σ H := by
  refine ⟨.ref a, ha, a, od, rfl, .inl ⟨kvs, hf, ?_⟩⟩
  have w1 := walks_keys a od kvs
  have r1 := keys_rp (c := c) ek (NN Γ σ ρ) H
  generalize kds.map (fun p => keyDat p.1) = ds at em r1
  generalize kvs.map (fun p => kV p.1) = us at w1 r1
  obtain ⟨ra, hra⟩ : ∃ ra : List (Addr × HO), ra = [(a, .frz od (.dK kvs))] := ⟨_, rfl⟩
  have q1 : ∀ p ∈ ra, ¬ NN Γ σ ρ p.1 ∧ H p.1 = some p.2 := fun p hp => by
    rw [hra, List.mem_singleton] at hp
    subst hp
    exact ⟨na, hf⟩
  have st : ∀ H' : Hp, (∀ p ∈ ra, H' p.1 = some p.2) → H' a = some (.frz od (.dK kvs)) := fun H' h => h (a, _) (by rw [hra]; exact List.mem_singleton.mpr rfl)
  have lu := r1.len
  refine ⟨fun i m σ H => m = ds.length - i ∧ i ≤ ds.length ∧ ∃ ρ', ER c (Γ.hold us ds ra) σ H ρ' ∧ forGo g s (ds.drop i) ρ' = some o, ⟨_, rfl, Nat.zero_le _, ρ, er.hold r1 q1, em⟩, ?_⟩
  rintro i m σ2 H2 ⟨rfl, hil, ρ2, e2, em2⟩
  have hP := st H2 fun p hp => (e2.raw p (List.mem_append_left _ hp)).2
  by_cases hlt : i < ds.length
  · have hx : us[i]? = some us[i] := List.getElem?_eq_getElem (by rw [lu]; exact hlt)
    obtain ⟨go, yl⟩ := w1.go i H2 _ hP hx
    refine .inr ⟨go, fun σ' H' => ∃ m', m' < ds.length - i ∧ m' = ds.length - (i + 1) ∧ ∃ ρ', ER c (Γ.hold us ds ra) σ' H' ρ' ∧ forGo g s (ds.drop (i + 1)) ρ' = some o, fun σ' H' ⟨m', h1, h2, h3⟩ => ⟨m', h1, h2, hlt, h3⟩, fun x H3 y3 => ?_⟩
    obtain ⟨eH, ex⟩ := yl x H3 y3
    subst eH ex
    rw [List.drop_eq_getElem_cons hlt] at em2
    unfold forGo at em2
    obtain ⟨ρ3, hg3, em3⟩ := Option.bind_eq_some_iff.mp em2
    have hr := e2.held (us, ds) List.mem_cons_self
    refine hg (Γ.hold us ds ra) σ2 H3 ρ2 ρ3 _ _ _ e2 (hr.at_ hx (List.getElem?_eq_getElem hlt)) hg3 fun σ4 e4 _ _ => ?_
    cases eb : s ρ3 with
    | none => rw [eb] at em3; cases em3
    | some q =>
      rw [eb] at em3
      refine ⟨Γ.hold us ds ra, ρ3, q, e4, eb, ?_⟩
      cases q with
      | nx ρ5 => exact fun σ5 H5 e5 => ⟨_, by omega, rfl, ρ5, e5, em3⟩
      | ct ρ5 => exact fun σ5 H5 e5 => ⟨_, by omega, rfl, ρ5, e5, em3⟩
      | bk ρ5 => cases em3; exact fun σ5 H5 e5 => p _ _ e5.unhold
      | rt d => cases em3; exact p
      | er x ρ5 => cases em3; exact absurd rfl (ne x ρ5)
  · have e : i = ds.length := by omega
    subst e
    rw [List.drop_length] at em2
    cases em2
    exact .inl ⟨w1.stop _ _ hP (by rw [lu]; exact Nat.le_refl _), p _ _ e2.unhold⟩
theorem s_forK (i : Nat) {tg : Expr} {x : Str} {body : List Stmt} {is : List Nat} {g : MG} {s : MS} {px pos : Pos} (hp : PassesOwn (model X.prog X.w) X.A X.env X.xe) (hc : X.calm = true) (hg : DG X c tg is g) (hb : PSs X body (tS c W s))
    (hN : X.N[i]? = some x := by rfl) (hv : Vis X.env.scope x := by first | exact Or.inl rfl | exact Or.inr (Or.inl rfl) | exact Or.inr (Or.inr rfl)) (hd : (x == ("__debug__" : Str)) = false := by decide)
    (hcd : (x == ("__classdict__" : Str)) = false := by decide) (hs : ∀ y, foldedSetIterable (.Name x px) X.env y = pure y := by intro _; rfl) : PS X (.For tg (.Name x px) body [] pos) (tS c W (mForK i g s)) := by
  obtain ⟨gg, pg, hg⟩ := hg.ex
  have base := ps_for hp hc (pi_keys (pv i hN hv hd hcd)) pg hb hs (pos := pos)
  refine (base.or (ps_lock base)).via fun Dd σ H ⟨Γ, ρ, o, er, em, p⟩ => ?_
  obtain ⟨kds, hk, em⟩ := Option.bind_eq_some_iff.mp em
  obtain ⟨em, ne⟩ : forGo g s (kds.map fun p => keyDat p.1) ρ = some o ∧ ∀ x ρ', o ≠ .er x ρ' := by
    cases z : forGo g s (kds.map fun p => keyDat p.1) ρ with
    | none => rw [z] at em; cases em
    | some q =>
      rw [z] at em
      cases q with
      | er x ρ5 => cases em
      | nx ρ5 => cases em; exact ⟨rfl, fun _ _ z => nomatch z⟩
      | ct ρ5 => cases em; exact ⟨rfl, fun _ _ z => nomatch z⟩
      | bk ρ5 => cases em; exact ⟨rfl, fun _ _ z => nomatch z⟩
      | rt d => cases em; exact ⟨rfl, fun _ _ z => nomatch z⟩
  obtain ⟨v, hv1, r⟩ := er.slot i _ (slotK_at hk)
  cases r with
  | @dK a kvs _ _ _ na rd ek rv _ =>
    rcases rd with rd | ⟨od, rd⟩
    · right
      refine ⟨a, .dK kvs, rd, trivial, fun od => ?_⟩
      have e2 := er.lock (od := od) rd na
      have h0 : ∀ u, Γ.H0 a = some u → u = .dK kvs := fun u h => by
        have := er.ext a u h
        rw [rd] at this
        cases this
        rfl
      have hr : ∀ p ∈ Γ.raw, p.1 = a → p.2 = .dK kvs := fun p h z => by
        have := (er.raw p h).2
        rw [z, rd] at this
        exact (Option.some.inj this).symm
      refine forK_core hg e2 hv1 upd_same ek na em ne ?_
      have fin : ∀ {σ' : L2.St} {H' : Hp} {ρ' : Ro}, ER c (Γ.lock a (.frz od (.dK kvs))) σ' H' ρ' → H' a = some (.frz od (.dK kvs)) ∧ ER c Γ σ' (upd H' a (.dK kvs)) ρ' := fun e => ⟨(e.raw _ List.mem_cons_self).2, e.unlock h0 hr⟩
      cases o with
      | nx ρ5 => exact fun σ' H' e => ⟨(fin e).1, p _ _ (fin e).2⟩
      | bk ρ5 => exact fun σ' H' e => ⟨(fin e).1, p _ _ (fin e).2⟩
      | ct ρ5 => exact fun σ' H' e => ⟨(fin e).1, p _ _ (fin e).2⟩
      | er x ρ5 => exact absurd rfl (ne x ρ5)
      | rt d =>
        intro v H' sm rr
        have ha : H' a = some (.frz od (.dK kvs)) := sm a _ upd_same
        refine ⟨ha, p v _ (fun b u h => ?_) (Rp.unlock ha rr)⟩
        by_cases z : b = a
        · subst z
          rw [upd_same, h0 u h]
        · rw [upd_ne z]
          exact sm b u (by show (upd Γ.H0 a _) b = some u; rw [upd_ne z]; exact h)
    · left
      exact forK_core hg er hv1 rd ek na em ne p
end
end DL

set_option Elab.async false
set_option linter.all false
set_option maxRecDepth 100000
set_option maxHeartbeats 2000000
set_option autoImplicit false
/-! DNb: a def that calls itself: at depth 0 it promises nothing. -/
namespace DL
open PySem L2
section
variable {P : Program} {w : World} {K : PySem.W.Frag} {mg : Str → Option Value} {base : Heap} {c : Conf}
theorem fn_none {x qual y : Str} {st : Stmt} {f : Addr} {fd : FuncData} {ps : List Str} {k : Nat} (F : Fun K x qual st f fd) (hm : mg y = some (.ref f)) (b : Binds K fd ps []) : FnAt P w K mg base c y k ps (fun _ => none) :=
  ⟨f, fd, ⟨fun _ _ _ _ h => (by obtain ⟨_, _, _, _, _, h, _⟩ := h; cases h), fun _ _ _ _ _ _ _ _ _ _ _ _ _ h => (by obtain ⟨_, _, _, _, _, h, _⟩ := h; cases h)⟩, hm, F.kp, b⟩
end
end DL

set_option Elab.async false
set_option linter.all false
set_option maxRecDepth 100000
set_option maxHeartbeats 2000000
set_option autoImplicit false
/-! DNc: dict comprehensions whose keys are tuples of ints and texts. -/
namespace DL
open PySem L2
open PySem.Spec PyProof.Rows
section
variable {X : Cx}
/-- the store of a comprehension's pair, the key a tuple -/
theorem put_dT {pins : List (Addr × Obj)} {σ : L2.St} {H : Hp} {s : Shared} {E : Value → Shared → Prop} {D b : Addr} {kvs : List (List Key × V)} {k : List Key} {v : V} {r : Value} {Q : Unit → Shared → Prop} (hu : X.A.units < cLine) (I : Inv X pins σ H s) (hD : H D = some (.dT kvs)) (hz : kvs.length < sizeLine)
    (hb : H b = some (.tup (k.map kV))) (rv : RelV v r) (h : ∀ s', Inv X pins σ (upd H D (.dT (putK kvs k v))) s' → Q () s') : wpAny (model X.prog X.w) X.A (dictSet D (.ref b) r) Q E s := by
  obtain ⟨z, hs, xs, rel, dd⟩ := dt_of I.hok hD
  have few : xs.length ≤ sizeLine := Nat.le_trans (Nat.le_of_eq (Paired.length rel).symm) z
  refine wpAny_dictSet_heap (hsz := few) (knd := tupleKind (mixKind X.prog X.w)) hu (key_of I.hok hb) dd fun h' dd' same => h _ ?_
  obtain ⟨q, es, ep, g1, g2, g3, g4, _, g6⟩ := dd'
  have rel2 := (rel.put k hb rv).keeps (H' := upd H D (.dT (putK kvs k v))) fun c ys ec => by
    rw [upd_ne fun w : c = D => by rw [w, hD] at ec; cases ec]
    exact ec
  exact d_write I (by rw [hD]; exact True.intro) same ⟨q, g1⟩ ⟨Nat.le_trans (length_putK kvs k v) hz, hs, _, rel2, q, es, ep, g1, g2, g3, g4, g6⟩
/-- the reading of {k: v for ..}: D the new dict -/
def tDcT (wi : TI) (g : TG) (tt : TT) (tk tv : TE) (vs : List Nat) : TE := fun σ H Q => wi σ H fun J H1 => ∀ D, H1 D = none → ∃ W : Nat → Nat → Hp → Prop, (∃ m, W 0 m (upd H1 D (.dT []))) ∧ ∀ i m H, W i m H →
  (J.stop i H ∧ Q (.ref D) H) ∨ (J.go i H ∧ ∃ Nx : Hp → Prop, (∀ H', Nx H' → ∃ m', m' < m ∧ W (i + 1) m' H') ∧ ∀ x H', J.yld i H x H' → g x (wipe σ vs) H' fun σ2 H2 => wipe σ2 vs = wipe σ vs ∧ tt σ2 H2 fun b H3 =>
    if b = true then tk σ2 H3 fun y H4 => tv σ2 H4 fun z H5 => ∃ kvs k b, y = .ref b ∧ H5 b = some (.tup (k.map kV)) ∧ H5 D = some (.dT kvs) ∧ kvs.length < sizeLine ∧ Nx (upd H5 D (.dT (putK kvs k z))) else Nx H3)
theorem run_dcT {pins : List (Addr × Obj)} {s : Shared} {σ : L2.St} {H : Hp} {Q : VK} {kx vx tg iter : Expr} {ifs : List Expr} {scope : Scope} {own : List (Str × Nat)} {pos pos' : Pos} {wi : TI} {g : TG} {tt : TT} {tk tv : TE} {use : Option (Value → Sem Unit)} {Qf : Value → Shared → Prop}
    (hu : X.A.units < cLine) (hc : X.calm = true) (hN : X.N.Nodup) (I : Inv X pins σ H s) (hi : PI X tg iter wi) (ok : BlkOk X.N X.env.scope scope own)
    (hg : ∀ (s : Shared) (H : Hp) (C : Addr) (cl : List (Str × Addr)) (fp : List Addr), PG (X.blk s H scope (compEnvC scope cl C X.env) fp) tg g) (ht : ∀ (s : Shared) (H : Hp) (C : Addr) (cl : List (Str × Addr)) (fp : List Addr), PTs (X.blk s H scope (compEnvC scope cl C X.env) fp) ifs tt)
    (hk : ∀ (s : Shared) (H : Hp) (C : Addr) (cl : List (Str × Addr)) (fp : List Addr), PE (X.blk s H scope (compEnvC scope cl C X.env) fp) kx tk)
    (he : ∀ (s : Shared) (H : Hp) (C : Addr) (cl : List (Str × Addr)) (fp : List Addr), PE (X.blk s H scope (compEnvC scope cl C X.env) fp) vx tv) (hs : ∀ x, foldedSetIterable iter X.env x = pure x)
    (h : tDcT wi g tt tk tv (own.map (·.2)) σ H Q)
    (fin : ∀ D C s' m H', Inv X pins σ H' s' → Q (.ref D) H' → s'.heap.Ns C m → FpOk X pins H' C → compPost (model X.prog X.w) X.A X.xe use Qf (.ref D) C (.ok .next) s') :
    wpAny (model X.prog X.w) X.A (comprehension (.DictComp kx vx [⟨tg, iter, ifs, 0⟩] scope pos) scope X.env pos' newDict false (eval iter X.env) use) Qf X.xe s := by
  have cells : ∀ y ∈ scope.names, y.2 = .free → ∃ c, X.env.cells.lookup y.1 = some c := fun y hy e => I.ok.has _ ((ok.free y hy e).imp id id)
  refine wpAny_comprehension_free (use := use) rfl hs (closure_ok cells) ok.kind (fun y hy e => by rw [ok.uniq y hy, e]) (thn (hi.run pins s σ H _ I h) fun _ s1 a1 => thn a1 fun _ s2 a2 => ?_)
  obtain ⟨it, fp, tn, J, H2, rfl, I2, T, run2, off2, q⟩ := a2
  refine wpAny_newObj_type (newEnv_comp ?_)
  -- the new dict D, then the block's own frame
  obtain ⟨D, hD⟩ : ∃ D, D = s2.heap.objs.size := ⟨_, rfl⟩
  rw [← hD]
  have newD : H2 D = none := I2.hok.fresh (Nat.le_of_eq hD.symm)
  obtain ⟨W, ⟨m0, w0⟩, turn⟩ := q D newD
  obtain ⟨s3, hs3⟩ : ∃ s3 : Shared, s3 = { s2 with heap := s2.heap.push { cls := .type "dict", data := .dict #[] } } := ⟨_, rfl⟩
  have h3 : s3.heap = s2.heap.push { cls := .type "dict", data := .dict #[] } := by rw [hs3]
  have I3 : Inv X pins σ (upd H2 D (.dT [])) s3 := by
    have z := dt_empty (P := X.prog) (w := X.w) (H := upd H2 D (.dT [])) s2.heap I2.big
    rw [← hD] at z
    rw [hs3]
    exact I2.laid (t' := s2.toks) (fun b o e => Heap.get?_push_of_some _ e) (Nat.le_of_eq hD.symm) z
  have small : ∀ b ∈ fp, b < s2.heap.objs.size := fun b hb => let ⟨_, e, _⟩ := T.obj _ _ run2 b hb; Heap.lt_size e
  have off3 : ∀ b ∈ fp, FpOk X pins (upd H2 D (.dT [])) b ∧ b < s3.heap.objs.size := fun b hb => by
    have lt := small b hb
    have ne : b ≠ D := fun w => by rw [w, hD] at lt; exact Nat.lt_irrefl _ lt
    refine ⟨⟨by rw [upd_ne ne]; exact (off2 b hb).1, (off2 b hb).2⟩, ?_⟩
    rw [h3, Heap.size_push]
    exact Nat.lt_succ_of_lt lt
  have run3 : tn 0 s3.heap := T.keep _ _ _ run2 fun b _ o e => by rw [h3]; exact Heap.get?_push_of_some _ e
  have I4 := block_start I3 ok hN off3
  obtain ⟨cl, hcl⟩ : ∃ cl, cl = cellsFrom (s3.heap.objs.size + 1) scope.names (cloFrom X.env.cells scope.names []) := ⟨_, rfl⟩
  rw [← hcl] at I4
  have pg := hg s3 (upd H2 D (.dT [])) s3.heap.objs.size cl fp
  have pt := ht s3 (upd H2 D (.dT [])) s3.heap.objs.size cl fp
  have pk := hk s3 (upd H2 D (.dT [])) s3.heap.objs.size cl fp
  have pv := he s3 (upd H2 D (.dT [])) s3.heap.objs.size cl fp
  have blank : ∀ b ∈ fp, (upd H2 D (.dT [])) b = none := fun b hb => (off3 b hb).1.1
  obtain ⟨s4, hs4⟩ : ∃ s4 : Shared, s4 = { s3 with heap := pushCells (s3.heap.push { cls := .type "dict", data := .dict #[] }) scope.names } := ⟨_, rfl⟩
  rw [← hs4] at I4
  have goal : codeAny (model X.prog X.w) X.A (.compStart (.DictComp kx vx [⟨tg, iter, ifs, 0⟩] scope pos) 0 (.ref it) (.ref D) (compEnvC scope cl s3.heap.objs.size X.env)) (compPost (model X.prog X.w) X.A X.xe use Qf (.ref D) s3.heap.objs.size) s4 := by
    obtain ⟨ce, hce⟩ : ∃ ce, ce = compEnvC scope cl s3.heap.objs.size X.env := ⟨_, rfl⟩
    rw [← hce] at I4 pg pt pk pv ⊢
    have loc : ce.locals = s3.heap.objs.size := by rw [hce]; rfl
    obtain ⟨H3, hH3⟩ : ∃ H3, H3 = upd H2 D (.dT []) := ⟨_, rfl⟩
    rw [← hH3] at I3 I4 pg pt pk pv w0 blank off3
    have run4 : tn 0 s4.heap := T.keep _ _ _ run3 fun b _ o e => by rw [hs4]; exact pushCells_keeps _ _ _ _ (Heap.get?_push_of_some _ e)
    have rest : ∀ {σ' : L2.St} {H' : Hp} {s' : Shared}, Inv (X.blk s3 H3 scope ce fp) [] σ' H' s' → (∀ b ∈ fp, H' b = none) → ∀ b ∈ fp, FpOk (X.blk s3 H3 scope ce fp) [] H' b := fun I' hn b hb =>
      ⟨hn b hb, (I'.ok.exf b hb).1, I'.ok.exfs b hb, .inl hb, fun x c e => (I'.ok.exf b hb).2 x c e, fun p hp => nomatch (show p ∈ ([] : List (Addr × Obj)) from hp)⟩
    refine codeAny_compStart_dict (?_ : codeAny _ _ (.compLoop (.DictComp kx vx [⟨tg, iter, ifs, 0⟩] scope pos) 0 (.ref it) (.ref D) ce) _ s4) (T.self X.A 0 _ _ _ run4 ?_)
    all_goals
      refine compLoop_anyD (fun n s' => ∃ i H', Inv (X.blk s3 H3 scope ce fp) [] (wipe σ (own.map (·.2))) H' s' ∧ tn i s'.heap ∧ (∀ b ∈ fp, H' b = none) ∧ W i n H') ?_ m0 ⟨0, H3, I4, run4, blank, w0⟩
      rintro n s5 ⟨i, H5, I5, run5, blank5, w5⟩
      rcases turn i n H5 w5 with ⟨stop, qq⟩ | ⟨go, Nx, less, step⟩
      · refine thnF (T.done (X.blk s3 H3 scope ce fp) rfl rfl rfl hc i [] s5 _ H5 (fun _ _ => False) I5 (rest I5 blank5) run5 stop) fun _ s6 ⟨e6, I6⟩ => ?_
        subst e6
        have I7 : Inv X pins σ H5 s6 := I3.call' (ch := fp) I6.os I6.base I6.hok I6.bare fun b hb => let z := (off3 b hb).1; ⟨z.2.2.2.1, z.2.1, z.2.2.2.2.1, z.2.2.2.2.2⟩
        have noC : H5 s3.heap.objs.size = none := loc ▸ (show H5 ce.locals = none from I6.free)
        obtain ⟨m, ns, _⟩ := I6.loc
        exact fin D s3.heap.objs.size s6 m H5 I7 qq (loc ▸ (show s6.heap.Ns ce.locals m from ns)) (I3.fpOk (Nat.le_refl _) noC)
      · refine thnF (T.item (X.blk s3 H3 scope ce fp) rfl rfl rfl hc i [] s5 _ H5 (fun _ _ => False) I5 (rest I5 blank5) run5 go) fun _ s6 ⟨u, e6, a6⟩ => ?_
        subst e6
        refine thnF a6 fun _ s7 ⟨x, H7, I7, r7, y7, run7, blank7⟩ => ?_
        have pin7 := I7.pinned (rest I7 blank7) (T.obj _ _ run7)
        refine thnF (pg.run _ s7 _ H7 x u _ pin7 r7 (step x H7 y7)) fun _ s8 ⟨σ8, H8, I8, wi8, q8⟩ => ?_
        refine thnF (pt.run _ s8 σ8 H8 _ I8 q8) fun b s9 ⟨H9, I9, q9⟩ => ?_
        have again : ∀ {s' : Shared} {H' : Hp}, Inv (X.blk s3 H3 scope ce fp) ([] ++ pinsAt fp s7.heap) σ8 H' s' → Nx H' → ∃ m, m < n ∧ ∃ i H', Inv (X.blk s3 H3 scope ce fp) [] (wipe σ (own.map (·.2))) H' s' ∧ tn i s'.heap ∧ (∀ b ∈ fp, H' b = none) ∧ W i m H' := fun {s' H'} I' nx => by
          obtain ⟨m', lt, w'⟩ := less H' nx
          have pinned : ∀ b ∈ fp, ∀ o, s7.heap.get? b = some o → s'.heap.get? b = some o ∧ H' b = none := fun b hb o e => let z := I'.pin (b, o) (List.mem_append_right _ (List.mem_append_right _ (mem_pinsAt hb e))); ⟨z.1, z.2.1⟩
          have le : (wipe σ (own.map (·.2))).length = σ8.length := (congrArg List.length wi8).symm.trans (wipe_length _ _)
          refine ⟨m', lt, i + 1, H', (I'.unpinned (pins := [])).weak le (fun j v e => (wipe_some (wi8 ▸ e)).1), T.keep _ _ _ run7 fun b hb o e => (pinned b hb o e).1, fun b hb => ?_, w'⟩
          obtain ⟨o, e, _⟩ := T.obj _ _ run7 b hb
          exact (pinned b hb o e).2
        cases b with
        | false => exact again I9 (by simpa using q9)
        | true =>
          have q9 := (if_pos rfl).mp q9
          show (if true = true then _ else _)
          rw [if_pos rfl]
          refine thnF (pk.run _ s9 σ8 H9 _ I9 q9) fun z s10 ⟨yk, H10, I10, r10, q10⟩ => ?_
          refine thnF (pv.run _ s10 σ8 H10 _ I10 q10) fun z2 s11 ⟨yv, H11, I11, r11, kvs, k, b, ek, hb, hD11, hz11, nx⟩ => ?_
          subst ek
          cases r10
          exact put_dT (X := X.blk s3 H3 scope ce fp) hu I11 hD11 hz11 hb r11 fun s12 I12 => again I12 nx
  rw [hs4, hcl] at goal
  subst hs3
  exact goal
/-- as a value -/
theorem pe_dcT (hu : X.A.units < cLine) {kx vx tg iter : Expr} {ifs : List Expr} {scope : Scope} {own : List (Str × Nat)} {pos : Pos} {wi : TI} {g : TG} {tt : TT} {tk tv : TE} (hc : X.calm = true) (hN : X.N.Nodup) (hi : PI X tg iter wi) (ok : BlkOk X.N X.env.scope scope own)
    (hg : ∀ (s : Shared) (H : Hp) (C : Addr) (cl : List (Str × Addr)) (fp : List Addr), PG (X.blk s H scope (compEnvC scope cl C X.env) fp) tg g) (ht : ∀ (s : Shared) (H : Hp) (C : Addr) (cl : List (Str × Addr)) (fp : List Addr), PTs (X.blk s H scope (compEnvC scope cl C X.env) fp) ifs tt)
    (hk : ∀ (s : Shared) (H : Hp) (C : Addr) (cl : List (Str × Addr)) (fp : List Addr), PE (X.blk s H scope (compEnvC scope cl C X.env) fp) kx tk)
    (he : ∀ (s : Shared) (H : Hp) (C : Addr) (cl : List (Str × Addr)) (fp : List Addr), PE (X.blk s H scope (compEnvC scope cl C X.env) fp) vx tv) (hs : ∀ x, foldedSetIterable iter X.env x = pure x := by intro _; rfl) :
    PE X (.DictComp kx vx [⟨tg, iter, ifs, 0⟩] scope pos) (tDcT wi g tt tk tv (own.map (·.2))) := by
  refine ⟨fun pins s σ H Q I h => ?_⟩
  rw [arm_eval_DictComp]
  refine run_dcT hu hc hN I hi ok hg ht hk he hs h fun D C s' m H' I' q hn f => ⟨m, hn, fun h2 sb => ⟨.ref D, H', ?_, rfl, q⟩⟩
  exact I'.turned (t' := s'.toks) (fun b o hb e => (sb.2 b hb).trans e) f.1 f.2.1 f.2.2.2.1 f.2.2.2.2.1 f.2.2.2.2.2
end
/-! ### {k: v for t in it if ..} -/
def dcGoT (g : MG) (tt : MT) (mk mv : ME) (ρ : Ro) : List D → List (List Key × D) → Option (List (List Key × D))
  | [], acc => some acc
  | d :: ds, acc => (g d ρ).bind fun ρ1 => match tt ρ1 with
    | some (.ok true) => (match mk ρ1 with
      | some (.ok kd) => (match mv ρ1 with
        | some (.ok y) => (tkD kd).bind fun k => dcGoT g tt mk mv ρ ds (ptD acc k y)
        | _ => none)
      | _ => none)
    | some (.ok false) => dcGoT g tt mk mv ρ ds acc
    | _ => none
def mDcT (src : MI) (vs : List Nat) (g : MG) (tt : MT) (mk mv : ME) : ME := fun ρ => bnd (src ρ) fun ds => guard (noOwn ρ vs = true ∧ ds.length ≤ lim) ((dcGoT g tt mk mv (wipeR ρ vs) ds []).map fun ys => .ok (.dT ys))
section
variable {X : Cx} {c : Conf} {W : WX}
theorem dcT_ok {src : MI} {vs is : List Nat} {g : MG} {tt : MT} {mk mv : ME} {gg : TG} {X' : Cx} {tg : Expr} (hsub : ∀ i ∈ is, i ∈ vs) (kfx : vs.all (fun v => fxOk c.fx v) = true)
    (hg : GOk c is gg g)
    {σ : L2.St} {H : Hp} {Q : VK} (h : tE c W .own (mDcT src vs g tt mk mv) σ H Q) : tDcT (tI c W false src) gg (tT c W0 tt) (tE c W0 .bor mk) (tE c W0 .dur mv) vs σ H Q := by
  obtain ⟨Γ, ρ, r, er, em, p⟩ := h
  have em : bnd (src ρ) _ = some r := em
  cases q : src ρ with
  | none => rw [q] at em; cases em
  | some w =>
    rw [q] at em
    cases w with
    | error x =>
      cases em
      exact ⟨Γ, ρ, _, er, q, p⟩
    | ok ds =>
      obtain ⟨⟨no, hlim⟩, em⟩ := guard_ok em
      obtain ⟨ys, hys, rfl⟩ := Option.map_eq_some_iff.mp em
      refine ⟨Γ, ρ, _, er, q, fun J P us ra H1 s1 e1 r1 w1 q1 st D hD => ?_⟩
      have lu := r1.len
      have h0 : Γ.H0 D = none := e1.ext.free hD
      have nD : ¬ NN Γ σ ρ D := fun z => e1.tracked z hD
      refine ⟨fun i m H' => m = ds.length - i ∧ i ≤ ds.length ∧ ∃ (acc : List (List Key × V)) (ys1 : List (List Key × DL.D)), H' D = some (.dT acc) ∧ acc.map (·.1) = ys1.map (·.1) ∧ Rp c (NN (Γ.add D) σ ρ) H' (acc.map (·.2)) (ys1.map (·.2)) ∧ acc.length ≤ i ∧ Same H1 H' ∧ ER c (Γ.add D) σ H' ρ ∧ dcGoT g tt mk mv (wipeR ρ vs) (ds.drop i) ys1 = some ys,
        ⟨_, rfl, Nat.zero_le _, [], [], upd_same, rfl, .nil, Nat.le_refl _, same_new hD, e1.addU hD, hys⟩, ?_⟩
      rintro i m H2 ⟨rfl, hil, acc, ys1, hacc, kacc, racc, hal, s2, e2, em2⟩
      have hP : P H2 := st H2 fun p hp => s2 _ _ (q1 p hp).2
      by_cases hlt : i < ds.length
      · have hx : us[i]? = some us[i] := List.getElem?_eq_getElem (by rw [lu]; exact hlt)
        obtain ⟨go, yl⟩ := w1.go i H2 _ hP hx
        refine .inr ⟨go, fun H' => ∃ (acc : List (List Key × V)) (ys1 : List (List Key × DL.D)), H' D = some (.dT acc) ∧ acc.map (·.1) = ys1.map (·.1) ∧ Rp c (NN (Γ.add D) σ ρ) H' (acc.map (·.2)) (ys1.map (·.2)) ∧ acc.length ≤ i + 1 ∧ Same H1 H' ∧ ER c (Γ.add D) σ H' ρ ∧ dcGoT g tt mk mv (wipeR ρ vs) (ds.drop (i + 1)) ys1 = some ys,
          fun H' z => ⟨ds.length - (i + 1), by omega, rfl, hlt, z⟩, fun x H3 y3 => ?_⟩
        obtain ⟨eH, ex⟩ := yl x H3 y3
        subst eH ex
        rw [List.drop_eq_getElem_cons hlt] at em2
        unfold dcGoT at em2
        obtain ⟨ρ3, hg3, em3⟩ := Option.bind_eq_some_iff.mp em2
        have ew := e2.wipe kfx
        have nnw : ∀ a, NN (Γ.add D) (wipe σ vs) (wipeR ρ vs) a → NN (Γ.add D) σ ρ a := fun a h => by
          rcases h with h | ⟨j, f, h1, h2⟩
          · exact .inl h
          · exact .inr ⟨j, f, (wipeR_some h1).1, (wipe_some h2).1⟩
        have ri : Re c (NN (Γ.add D) (wipe σ vs) (wipeR ρ vs)) H3 us[i] ds[i] := by
          refine Rp.step (fun a o n hq => ?_) (r1.at_ hx (List.getElem?_eq_getElem hlt))
          refine ⟨s2 a o hq, fun z => ?_⟩
          rcases nnw a z with (z | z) | z
          · exact n (.inl z)
          · subst z; rw [hD] at hq; cases hq
          · exact n (.inr z)
        refine hg (Γ.add D) (wipe σ vs) H3 (wipeR ρ vs) ρ3 _ _ _ ew ri hg3 fun σ4 e4 l4 o4 => ⟨?_, ?_⟩
        · have : wipe σ4 vs = wipe (wipe σ vs) vs := wipe_set l4 fun j hj => (o4 j fun z => hj (hsub j z)).1
          rw [this]
          exact wipe_set (wipe_length σ vs) fun j hj => wipe_out hj
        have back : ∀ a, NN (Γ.add D) σ ρ a → NN (Γ.add D) σ4 ρ3 a := NN_blk hsub no o4
        cases et : tt ρ3 with
        | none => rw [et] at em3; cases em3
        | some w =>
          rw [et] at em3
          cases w with
          | error x => cases em3
          | ok b =>
            refine ⟨Γ.add D, ρ3, _, e4, et, fun H5 s5 e5 => ?_⟩
            cases b with
            | false =>
              rw [if_neg Bool.false_ne_true]
              exact ⟨acc, ys1, s5 _ _ hacc, kacc, racc.same s5, by omega, s2.trans s5, e2.same s5, em3⟩
            | true =>
              rw [if_pos rfl]
              dsimp only at em3
              cases ek : mk ρ3 with
              | none => rw [ek] at em3; cases em3
              | some w =>
                rw [ek] at em3
                cases w with
                | error x => cases em3
                | ok kd =>
                  dsimp only at em3
                  refine ⟨Γ.add D, ρ3, _, e5, ek, fun kv H6 s6 r6 => ?_⟩
                  cases ee : mv ρ3 with
                  | none => rw [ee] at em3; cases em3
                  | some w =>
                    rw [ee] at em3
                    cases w with
                    | error x => cases em3
                    | ok y =>
                      obtain ⟨k, hk, em4⟩ := Option.bind_eq_some_iff.mp em3
                      refine ⟨Γ.add D, ρ3, _, r6.1, ee, fun v H7 s7 r7 => ?_⟩
                      have sx : Same H3 H7 := (s5.trans s6).trans s7
                      have n2 : NN (Γ.add D) σ ρ D := .inl (.inr rfl)
                      obtain ⟨pk, pr⟩ := pt_rel kacc (racc.same sx) k (r7.2.less back)
                      have hl : (putK acc k v).length ≤ acc.length + 1 := length_putK acc k v
                      obtain ⟨b, eb, hb⟩ := tkD_v hk r6.2
                      refine ⟨acc, k, b, eb, s7 _ _ hb, sx _ _ hacc, Nat.lt_of_le_of_lt hal (Nat.lt_of_lt_of_le hlt (lim_ok hlim)), putK acc k v, ptD ys1 k y, upd_same, pk, ?_, by omega, ?_, ?_, em4⟩
                      · exact Rp.step (mut_step n2) pr
                      · intro a o ha
                        rw [upd_ne (ne_of_none ha hD)]
                        exact sx _ _ (s2 _ _ ha)
                      · have e6 : ER c (Γ.add D) σ H7 ρ := e2.same sx
                        have st' := mut_step (H := H7) (o := .dT (putK acc k v)) n2
                        exact {
                          len := e6.len
                          ext := fun a o ha => by
                            have ne : a ≠ D := fun z => by subst z; have := h0; rw [show Γ.H0 a = some o from ha] at this; cases this
                            rw [upd_ne ne]; exact e6.ext a o ha
                          utr := fun a ha => by
                            by_cases z : a = D
                            · subst z; exact Mt.upd fun _ z => by cases z
                            · exact (e6.utr a ha).off z
                          held := fun p hp => (e6.held p hp).step st'
                          raw := fun p hp => let z := st' _ _ (e6.raw p hp).1 (e6.raw p hp).2; ⟨z.2, z.1⟩
                          fx := e6.fx
                          own := e6.own
                          dis := e6.dis
                          slot := fun j f hf => let ⟨v, h1, h2⟩ := e6.slot j f hf; ⟨v, h1, h2.step st'⟩
                          mine := fun j f hf => let ⟨b, h1, h2⟩ := e6.mine j f hf; ⟨b, h1, h2.step (fun o ho => by
                            have ne : b ≠ D := fun z => by subst z; exact (e6.own j f b hf h1).2 (.inr rfl)
                            rw [upd_ne ne]; exact ho) st'⟩ }
      · have e : i = ds.length := by omega
        subst e
        rw [List.drop_length] at em2
        cases em2
        exact .inl ⟨w1.stop _ _ hP (by rw [lu]; exact Nat.le_refl _), p (.ref D) H2 (s1.trans s2) ⟨D, rfl, h0, nD, e2, acc, hacc, kacc, racc⟩⟩
variable {kx vx tg iter : Expr} {ifs : List Expr} {scope : Scope} {own : List (Str × Nat)} {pos : Pos} {src : MI} {is : List Nat} {g : MG} {tt : MT} {mk mv : ME}
theorem d_dcT (hu : X.A.units + 64 < cLine) (own : List (Str × Nat)) (hc : X.calm = true) (hN : X.N.Nodup) (hi : PI X tg iter (tI c W false src)) (ok : blkC X.N X.env.scope scope own = true)
    {gg : TG} (pg : ∀ (s : Shared) (H : Hp) (C : Addr) (cl : List (Str × Addr)) (fp : List Addr), PG (X.blk s H scope (compEnvC scope cl C X.env) fp) tg gg) (hgg : GOk c is gg g)
    (ht : ∀ (s : Shared) (H : Hp) (C : Addr) (cl : List (Str × Addr)) (fp : List Addr), PTs (X.blk s H scope (compEnvC scope cl C X.env) fp) ifs (tT c W0 tt))
    (hk : ∀ (s : Shared) (H : Hp) (C : Addr) (cl : List (Str × Addr)) (fp : List Addr), PE (X.blk s H scope (compEnvC scope cl C X.env) fp) kx (tE c W0 .bor mk))
    (he : ∀ (s : Shared) (H : Hp) (C : Addr) (cl : List (Str × Addr)) (fp : List Addr), PE (X.blk s H scope (compEnvC scope cl C X.env) fp) vx (tE c W0 .dur mv)) (hsub : ∀ i ∈ is, i ∈ own.map (·.2) := by decide)
    (kfx : (own.map (·.2)).all (fun v => fxOk c.fx v) = true := by rfl) (hs : ∀ x, foldedSetIterable iter X.env x = pure x := by intro _; rfl) :
    PE X (.DictComp kx vx [⟨tg, iter, ifs, 0⟩] scope pos) (tE c W .own (mDcT src (own.map (·.2)) g tt mk mv)) :=
  (pe_dcT (by omega) hc hN hi (blkOk_by ok) pg ht hk he hs).via fun σ H Q h => dcT_ok (X' := X) (tg := tg) hsub kfx hgg h
open PySem.Spec PyProof.Rows in
theorem ps_setDcT (hu : X.A.units < cLine) {i : Nat} {y : Str} {py : Pos} {kx vx tg iter : Expr} {ifs : List Expr} {scope : Scope} {own : List (Str × Nat)} {pos spos : Pos} {wi : TI} {g : TG} {tt : TT} {tk tv : TE} (hc : X.calm = true) (hN : X.N.Nodup) (hy : X.N[i]? = some y) (hyl : X.env.scope.names.lookup y = some .local)
    (hsw : swapsWith (.DictComp kx vx [⟨tg, iter, ifs, 0⟩] scope pos) (some (.Name y py)) spos.line X.env = pure true) (hi : PI X tg iter wi) (ok : BlkOk X.N X.env.scope scope own)
    (hg : ∀ (s : Shared) (H : Hp) (C : Addr) (cl : List (Str × Addr)) (fp : List Addr), PG (X.blk s H scope (compEnvC scope cl C X.env) fp) tg g) (ht : ∀ (s : Shared) (H : Hp) (C : Addr) (cl : List (Str × Addr)) (fp : List Addr), PTs (X.blk s H scope (compEnvC scope cl C X.env) fp) ifs tt)
    (hk : ∀ (s : Shared) (H : Hp) (C : Addr) (cl : List (Str × Addr)) (fp : List Addr), PE (X.blk s H scope (compEnvC scope cl C X.env) fp) kx tk)
    (he : ∀ (s : Shared) (H : Hp) (C : Addr) (cl : List (Str × Addr)) (fp : List Addr), PE (X.blk s H scope (compEnvC scope cl C X.env) fp) vx tv) (hs : ∀ x, foldedSetIterable iter X.env x = pure x := by intro _; rfl) :
    PS X (.Assign [.Name y py] (.DictComp kx vx [⟨tg, iter, ifs, 0⟩] scope pos) spos) (tAsg (tDcT wi g tt tk tv (own.map (·.2))) (gName i)) := by
  refine ⟨fun pins s σ H D I h => ?_⟩
  rw [exec_Assign_Name_used _ _ _ _ hsw]
  refine wpAny_bind (wpAny_standAt (wpAny_bind ?_))
  show wpAny _ X.A (do let _ ← comprehension (.DictComp kx vx [⟨tg, iter, ifs, 0⟩] scope pos) scope X.env (firstIterPos [⟨tg, iter, ifs, 0⟩] pos) newDict false (eval iter X.env) (some (assign (.Name y py) X.env))) _ _ s
  have h : tDcT wi g tt tk tv (own.map (·.2)) σ H (fun x H1 => gName i x σ H1 D.nx) := h
  refine wpAny_bind (thn (run_dcT hu (Qf := fun _ s' => SP X pins D .next s') hc hN I hi ok hg ht hk he hs h fun L C s' m H' I' q hn f => ?_) fun _ s' hq => wpAny_pure (wpAny_pure hq))
  show wpAny _ _ (assign (.Name y py) X.env (.ref L)) _ _ _
  refine wpAny_assign_Name (store_ok2 (v := V.ref L) I' hN hy (.inl hyl) rfl (fun s2 I2 ⟨a, sb, ha⟩ => ?_) (.inr hyl))
  obtain ⟨f0, f1, f2, f3, f4, f5⟩ := f
  have haC : C ≠ a := by
    rcases ha with z | z
    · rw [z]; exact f1
    · exact fun e => f4 y a z e.symm
  refine ⟨m, hn.sameBut sb haC, fun h3 sb3 => ?_⟩
  exact ⟨_, H', I2.turned (t' := s2.toks) (fun b o hb e => (sb3.2 b hb).trans e) f0 f1 f3 f4 f5, q⟩
/-- y = {k: v for ..} on one line -/
theorem s_setDcT (hu : X.A.units + 64 < cLine) (j : Nat) {y : Str} {py spos : Pos} (own : List (Str × Nat)) (hc : X.calm = true) (hN : X.N.Nodup) (hsw : swapsWith (.DictComp kx vx [⟨tg, iter, ifs, 0⟩] scope pos) (some (.Name y py)) spos.line X.env = pure true)
    (hi : PI X tg iter (tI c W false src)) (ok : blkC X.N X.env.scope scope own = true)
    {gg : TG} (pg : ∀ (s : Shared) (H : Hp) (C : Addr) (cl : List (Str × Addr)) (fp : List Addr), PG (X.blk s H scope (compEnvC scope cl C X.env) fp) tg gg) (hgg : GOk c is gg g)
    (ht : ∀ (s : Shared) (H : Hp) (C : Addr) (cl : List (Str × Addr)) (fp : List Addr), PTs (X.blk s H scope (compEnvC scope cl C X.env) fp) ifs (tT c W0 tt))
    (hk : ∀ (s : Shared) (H : Hp) (C : Addr) (cl : List (Str × Addr)) (fp : List Addr), PE (X.blk s H scope (compEnvC scope cl C X.env) fp) kx (tE c W0 .bor mk))
    (he : ∀ (s : Shared) (H : Hp) (C : Addr) (cl : List (Str × Addr)) (fp : List Addr), PE (X.blk s H scope (compEnvC scope cl C X.env) fp) vx (tE c W0 .dur mv)) (hsub : ∀ i ∈ is, i ∈ own.map (·.2) := by decide)
    (kfx : (own.map (·.2)).all (fun v => fxOk c.fx v) = true := by rfl) (hs : ∀ x, foldedSetIterable iter X.env x = pure x := by intro _; rfl) (hy : X.N[j]? = some y := by rfl) (hyl : X.env.scope.names.lookup y = some .local := by rfl) (k : fxOk c.fx j = true := by rfl) :
    PS X (.Assign [.Name y py] (.DictComp kx vx [⟨tg, iter, ifs, 0⟩] scope pos) spos) (tS c W (mSet j true (mDcT src (own.map (·.2)) g tt mk mv))) :=
  (ps_setDcT (by omega) hc hN hy hyl hsw hi (blkOk_by ok) pg ht hk he hs).via fun D σ H ⟨Γ, ρ, o, er, em, p⟩ => by
    refine dcT_ok (X' := X) (tg := tg) hsub kfx hgg (useS er em p fun d v H1 h1 s1 r1 => ?_)
    cases h1
    obtain ⟨a, rfl, h0, na, e1, ow⟩ := r1
    exact p _ _ (ER.setO e1 h0 na ow k)
end
end DL

set_option Elab.async false
set_option linter.all false
set_option maxRecDepth 100000
set_option maxHeartbeats 1000000
set_option autoImplicit false
/-! DNr: t + u, known to be nothing but a tuple. -/
namespace DL
open PySem L2
section
open PySem.Spec PyProof.Rows
variable {X : Cx}
def rCatX (K : PySem.W.Frag) : R2 := fun x y H Q => ∃ a b xs ys, x = .ref a ∧ y = .ref b ∧ SqT K H a xs ∧ SqT K H b ys ∧ xs ≠ [] ∧ xs.length + ys.length ≤ sizeLine ∧
  (ys = [] → Q (.ref a) H) ∧ (ys ≠ [] → ∀ p o, H p = none → o.dict = none → Q (.ref p) (upd H p (.frz o (.tup (xs ++ ys)))))
theorem op_catX : OpR X (binaryOp .Add) (rCatX X.K) := by
  intro pins s σ H x y v u Q I rx ry h
  obtain ⟨a, b, xs, ys, rfl, rfl, ha, hb, hx, hz, q1, q2⟩ := h
  cases rx
  cases ry
  obtain ⟨its, r1, p1, _⟩ := I.tuple ha
  obtain ⟨its2, r2, p2, _⟩ := I.tuple hb
  refine HT.cat_tup p1 p2 (fun z => hx (r1.nil_iff.mp z)) (fun z => ⟨.ref a, H, I, rfl, q1 (r2.nil_iff.mp z)⟩) (fun z => ?_) (by rw [← r1.length, ← r2.length]; exact hz)
  refine ⟨.ref s.heap.objs.size, _, I.laid (t' := s.toks) (o := .frz _ (.tup (xs ++ ys))) (fun b ob q => Heap.get?_push_of_some _ q) (Nat.le_refl _) (show ObjOk X.prog X.w _ _ _ (.frz _ (.tup (xs ++ ys))) from ⟨Heap.get?_push_size _ rfl, ?_⟩), rfl, q2 (fun w => z (r2.nil_iff.mpr w)) _ _ (I.hok.fresh (Nat.le_refl _)) rfl⟩
  exact ⟨by rw [List.length_append]; exact hz, _, r1.append r2, IsTup.new _ _⟩
end
section
variable {X : Cx} {c : Conf} {W : WX}
def tupQ : D → Option (List D)
  | .tup ds => some ds
  | .fz true ds => some ds
  | _ => none
theorem tupQ_re {N : Addr → Prop} {H : Hp} {v : V} {d : D} {ds : List D} (h : tupQ d = some ds) (b : Bor c N H v d) : ∃ a us, v = .ref a ∧ SqT c.K H a us ∧ Rp c N H us ds := by
  unfold tupQ at h
  split at h
  · cases h
    obtain ⟨a, us, e, n, h1, r⟩ := b.tup
    exact ⟨a, us, e, .of h1, r⟩
  · cases h
    exact b.fzT
  · cases h
/-- both are tuples, the first is not empty; the second one may be, if the first is known -/
def dAddX (x y : D) : R D := (tupQ x).bind fun a => (tupQ y).bind fun b => if a.length + b.length ≤ lim ∧ a.isEmpty = false then (match b with
    | [] => (match x with | .fz true a => ok (.fz true a) | _ => none)
    | e :: es => ok (.fz true (a ++ (e :: es)))) else none
theorem d_addX {a b : Expr} {ma mb : ME} {pos : Pos} (ha : PE X a (tE c W .bor ma)) (hb : PE X b (tE c W .bor mb)) (hK : c.K = X.K := by rfl) : PE X (.BinOp a .Add b pos) (tE c W .dur (mBin dAddX ma mb)) :=
  d_op op_catX (fun Γ σ ρ H x y d e res Q er hx hy h p => by
    unfold dAddX at h
    obtain ⟨da, ea, h⟩ := Option.bind_eq_some_iff.mp h
    obtain ⟨db, eb, h⟩ := Option.bind_eq_some_iff.mp h
    split at h
    · rename_i g
      obtain ⟨g1, g2⟩ := g
      obtain ⟨p1, us, ex, h1, r1⟩ := tupQ_re ea hx
      obtain ⟨p2, ws, ey, h2, r2⟩ := tupQ_re eb hy
      have l1 := r1.len
      have l2 := r2.len
      have nu : us ≠ [] := fun z => by
        subst z
        have z2 : da = [] := List.eq_nil_of_length_eq_zero (by simpa using l1.symm)
        rw [z2] at g2
        cases g2
      refine ⟨p1, p2, us, ws, ex, ey, hK ▸ h1, hK ▸ h2, nu, by rw [l1, l2]; exact lim_ok g1, fun z => ?_, fun nz q o hq ho => ?_⟩
      · subst z
        have z2 : db = [] := List.eq_nil_of_length_eq_zero (by simpa using l2.symm)
        subst z2
        split at h
        · split at h
          · cases h
            subst ex
            exact fin_re p er hx
          · cases h
        · rename_i z
          cases z
      · split at h
        · exact absurd (List.eq_nil_of_length_eq_zero (by simpa using l2)) nz
        · cases h
          exact fin_fzT p er (r1.app r2) hq ho
    · cases h) ha hb
end
theorem tupQ_t (l : List D) : tupQ (.tup l) = some l := (rfl)
theorem tupQ_f (l : List D) : tupQ (.fz true l) = some l := (rfl)
theorem dAddX_i {x y : D} {a b : List Int} (hx : tupQ x = some (a.map D.int)) (hy : tupQ y = some (b.map D.int)) (ha : a ≠ []) (hb : b ≠ []) (h : a.length + b.length ≤ 2000) : dAddX x y = some (.ok (.fz true ((a ++ b).map D.int))) := by
  unfold dAddX
  rw [hx, hy, Option.bind_some, Option.bind_some, if_pos ⟨by unfold lim; simp; omega, by cases a with | nil => exact absurd rfl ha | cons => rfl⟩]
  cases b with
  | nil => exact absurd rfl hb
  | cons e es => rw [List.map_append]; rfl
theorem dAddX_n {a : List Int} (ha : a ≠ []) (h : a.length ≤ 2000) : dAddX (.fz true (a.map D.int)) (.tup []) = some (.ok (.fz true (a.map D.int))) := by
  unfold dAddX
  rw [tupQ_f, tupQ_t, Option.bind_some, Option.bind_some, if_pos ⟨by unfold lim; simp; omega, by cases a with | nil => exact absurd rfl ha | cons => rfl⟩]
end DL

set_option autoImplicit false
namespace Lw
open PySem L2 DL
/-- check_row(row); slots: 0 row 1 n -/
def b_check_row : MS := mSeq (mSet 1 false (mCB dLen (mCons (mVar 0) (mNil)))) (mSeq (mIf (mOrT (mTst (mBin dGt (mVar 1) (mC (.int 40)))) (mTst (mBin dNe (mCB dSorted (mCons (mVar 0) (mNil))) (mRg2 .lst (mC (.int 1)) (mBin dAdd (mVar 1) (mC (.int 1))))))) (mRaise .row) (mSkip)) (mRet (mVar 0)))
def m_check_row : List D → R D := mDef 2 1 b_check_row
/-- sorted_row(n); slots: 0 n -/
def b_sorted_row : MS := mRet (mRg2 .tup (mC (.int 1)) (mBin dAdd (mVar 0) (mC (.int 1))))
def m_sorted_row : List D → R D := mDef 1 1 b_sorted_row
/-- need_same_length(first, second); slots: 0 first 1 second -/
def b_need_same_length : MS := mIf (mTst (mBin dNe (mCB dLen (mCons (mVar 0) (mNil))) (mCB dLen (mCons (mVar 1) (mNil))))) (mRaise .row) (mSkip)
def m_need_same_length : List D → R D := mDef 2 2 b_need_same_length
/-- relative_row(first, second); slots: 0 first 1 second 2 places 3 place 4 piece -/
def b_relative_row : MS := mSeq (mDrop (mCB m_check_row (mCons (mVarD 0) (mNil)))) (mSeq (mDrop (mCB m_check_row (mCons (mVarD 1) (mNil)))) (mSeq (mDrop (mCB m_need_same_length (mCons (mVarD 0) (mCons (mVarD 1) (mNil))))) (mSeq (mSet 2 true (mDc (mRgI1 (mCB dLen (mCons (mVar 1) (mNil)))) [3] (gD 3) (mYes) (mBin dIx (mVar 1) (mVar 3)) (mBin dAdd (mVar 3) (mC (.int 1))))) (mRet (mCB dTupX (mCons (mLc (mItems (mVar 0)) [4] (gD 4) (mYes) (mBin dIx (mVar 2) (mVar 4))) (mNil)))))))
def m_relative_row : List D → R D := mDef 5 2 b_relative_row
/-- rings_of(leads); slots: 0 leads 1 found 2 seen 3 start 4 ring 5 place -/
def lb_rings_of_2 : MS := mSeq (mSub 2 (mVar 5) (mC (.bl true))) (mSeq (mMut 4 fApp (mCons (mVarD 5) mNil)) (mSet 5 false (mBin dIx (mVar 0) (mVar 5))))
def lb_rings_of_1 : MS := mSeq (mSet 4 true (mLst (mNil))) (mSeq (mSet 5 false (mVarD 3)) (mSeq (mWhile bigN (mTst (mBin dNotIn (mVar 5) (mVar 2))) lb_rings_of_2) (mIf (mTst (mBin dNe (mVar 4) (mLst (mNil)))) (mMut 1 fApp (mCons (mCB dTuple (mCons (mVar 4) (mNil))) mNil)) (mSkip))))
def b_rings_of : MS := mSeq (mSet 1 true (mLst (mNil))) (mSeq (mSet 2 true (mC (.dK []))) (mSeq (mFor (mItems (mCB dSorted (mCons (mVar 0) (mNil)))) (gD 3) lb_rings_of_1) (mRet (mCB dTuple (mCons (mVar 1) (mNil))))))
def m_rings_of : List D → R D := mDef 6 1 b_rings_of
/-- block_leads(row); slots: 0 row 1 n 2 extended 3 index 4 k -/
def b_block_leads : MS := mSeq (mSet 1 false (mCB dLen (mCons (mVar 0) (mNil)))) (mSeq (mSet 2 false (mBin dAddX (mBin dAddX (mTup (mCons (mC (.int 0)) (mNil))) (mCB dTupX (mCons (mVar 0) (mNil)))) (mTup (mCons (mBin dAdd (mVar 1) (mC (.int 1))) (mNil))))) (mSeq (mSet 3 true (mDc (mRgI1 (mBin dAdd (mVar 1) (mC (.int 2)))) [4] (gD 4) (mYes) (mBin dIx (mVar 2) (mVar 4)) (mVarD 4))) (mRet (mDc (mRgI2 (mC (.int 1)) (mBin dAdd (mVar 1) (mC (.int 2)))) [4] (gD 4) (mYes) (mVar 4) (mBin dIx (mVar 3) (mBin dAdd (mBin dIx (mVar 2) (mBin dSub (mVar 4) (mC (.int 1)))) (mC (.int 1))))))))
def m_block_leads : List D → R D := mDef 5 1 b_block_leads
/-- block_rings(row); slots: 0 row -/
def b_block_rings : MS := mSeq (mDrop (mCB m_check_row (mCons (mVarD 0) (mNil)))) (mRet (mCB m_rings_of (mCons (mCB m_block_leads (mCons (mVarD 0) (mNil))) (mNil))))
def m_block_rings : List D → R D := mDef 1 1 b_block_rings
/-- exchanged(row, i, j, k, l); slots: 0 row 1 i 2 j 3 k 4 l -/
def b_exchanged : MS := mRet (mBin dAddX (mBin dAddX (mBin dAdd (mBin dAdd (mSl (mVar 0) (mNone) (mSome (mVar 1))) (mSl (mVar 0) (mSome (mVar 3)) (mSome (mVar 4)))) (mSl (mVar 0) (mSome (mVar 2)) (mSome (mVar 3)))) (mSl (mVar 0) (mSome (mVar 1)) (mSome (mVar 2)))) (mSl (mVar 0) (mSome (mVar 4)) (mNone)))
def m_exchanged : List D → R D := mDef 5 5 b_exchanged
/-- least_blocks(first, second); slots: 0 first 1 second 2 row -/
def b_least_blocks : MS := mSeq (mSet 2 false (mCB m_relative_row (mCons (mVarD 0) (mCons (mVarD 1) (mNil))))) (mRet (mBin dDiv (mBin dSub (mBin dAdd (mCB dLen (mCons (mVar 2) (mNil))) (mC (.int 1))) (mCB dLen (mCons (mCB m_block_rings (mCons (mVarD 2) (mNil))) (mNil)))) (mC (.int 2))))
def m_least_blocks : List D → R D := mDef 3 2 b_least_blocks
/-- next_exchange(row); slots: 0 row 1 n 2 i 3 k 4 greatest 5 j 6 place -/
def b_next_exchange : MS := mSeq (mSet 1 false (mCB dLen (mCons (mVar 0) (mNil)))) (mSeq (mSet 2 false (mCB dMin (mCons (mLc (mRgI1 (mVar 1)) [6] (gD 6) (mTst (mBin dNe (mBin dIx (mVar 0) (mVar 6)) (mBin dAdd (mVar 6) (mC (.int 1))))) (mVarD 6)) (mNil)))) (mSeq (mSet 3 false (mMeth dIdxT (mVar 0) (mCons (mBin dAdd (mVar 2) (mC (.int 1))) (mNil)))) (mSeq (mSet 4 false (mCB dMax (mCons (mSl (mVar 0) (mSome (mVar 2)) (mSome (mVar 3))) (mNil)))) (mSeq (mSet 5 false (mBin dAdd (mMeth dIdxT (mVar 0) (mCons (mVar 4) (mNil))) (mC (.int 1)))) (mSeq (mIf (mTst (mBin dEq (mVar 4) (mVar 1))) (mRet (mTup (mCons (mVarD 2) (mCons (mVarD 5) (mCons (mVarD 3) (mCons (mVarD 1) (mNil))))))) (mSkip)) (mRet (mTup (mCons (mVarD 2) (mCons (mVarD 5) (mCons (mVarD 3) (mCons (mMeth dIdxT (mVar 0) (mCons (mBin dAdd (mVar 4) (mC (.int 1))) (mNil))) (mNil))))))))))))
def m_next_exchange : List D → R D := mDef 7 1 b_next_exchange
/-- block_script(first, second); slots: 0 first 1 second 2 row 3 moves 4 i 5 j 6 k 7 l -/
def lb_block_script_1 : MS := mSeq (mUnp (gT [4, 5, 6, 7]) (mCB m_next_exchange (mCons (mVarD 2) (mNil)))) (mSeq (mSet 2 false (mCB m_exchanged (mCons (mVarD 2) (mCons (mVarD 4) (mCons (mVarD 5) (mCons (mVarD 6) (mCons (mVarD 7) (mNil)))))))) (mMut 3 fApp (mCons (mTup (mCons (mC (.str "blocks")) (mCons (mVarD 4) (mCons (mVarD 5) (mCons (mVarD 6) (mCons (mVarD 7) (mNil))))))) mNil)))
def b_block_script : MS := mSeq (mSet 2 false (mCB m_relative_row (mCons (mVarD 0) (mCons (mVarD 1) (mNil))))) (mSeq (mSet 3 true (mLst (mNil))) (mSeq (mWhile bigN (mTst (mBin dNe (mVar 2) (mCB m_sorted_row (mCons (mCB dLen (mCons (mVar 2) (mNil))) (mNil))))) lb_block_script_1) (mRet (mCB dTuple (mCons (mVar 3) (mNil))))))
def m_block_script : List D → R D := mDef 8 2 b_block_script
/-- _law_cell(_law_script, _law_k); slots: 0 _law_script 1 _law_k -/
def b__law_cell : MS := mSeq (mIf (mTst (mBin dLt (mVar 1) (mCB dLen (mCons (mVar 0) (mNil))))) (mRet (mBin dIx (mVar 0) (mVar 1))) (mSkip)) (mRet (mC (.int 0)))
def m__law_cell : List D → R D := mDef 2 2 b__law_cell
/-- _law_digits(_law_cell_here, _law_sizes); slots: 0 _law_cell_here 1 _law_sizes 2 _law_row_here 3 _law_size -/
def lb__law_digits_1 : MS := mSeq (mMut 2 fApp (mCons (mBin dMod (mCB dInt (mCons (mVar 0) (mNil))) (mVar 3)) mNil)) (mSet 0 false (mBin dDiv (mVar 0) (mVar 3)))
def b__law_digits : MS := mSeq (mSet 2 true (mLst (mNil))) (mSeq (mFor (mItems (mVarD 1)) (gD 3) lb__law_digits_1) (mRet (mVar 2)))
def m__law_digits : List D → R D := mDef 4 2 b__law_digits
/-- _law_rich(_law_cell_here); slots: 0 _law_cell_here 1 _law_low 2 _law_high -/
def b__law_rich : MS := mSeq (mIf (mTst (mBin dGe (mVar 0) (mBin dPow (mC (.int 10)) (mC (.int 18))))) (mRet (mVar 0)) (mSkip)) (mSeq (mSet 1 false (mBin dMod (mCB dInt (mCons (mBin dAdd (mBin dMul (mVar 0) (mC (.int 48271))) (mC (.int 11))) (mNil))) (mC (.int 2147483647)))) (mSeq (mSet 2 false (mBin dMod (mCB dInt (mCons (mBin dAdd (mBin dAdd (mBin dMul (mVar 1) (mC (.int 69621))) (mBin dDiv (mVar 0) (mC (.int 7)))) (mC (.int 5))) (mNil))) (mC (.int 2147483629)))) (mRet (mBin dAdd (mBin dMul (mVar 1) (mC (.int 2147483629))) (mVar 2)))))
def m__law_rich : List D → R D := mDef 3 1 b__law_rich
/-- _law_row(_law_cell_here, _law_n); slots: 0 _law_cell_here 1 _law_n 2 _law_left 3 _law_rest 4 _law_row_here 5 _law_k -/
def lb__law_row_1 : MS := mSeq (mAppPop 2 4 (mBin dMod (mCB dInt (mCons (mVar 3) (mNil))) (mBin dSub (mVar 1) (mVar 5)))) (mSet 3 false (mBin dDiv (mVar 3) (mBin dSub (mVar 1) (mVar 5))))
def b__law_row : MS := mSeq (mSet 2 true (mLc (mRgI1 (mVar 1)) [5] (gD 5) (mYes) (mBin dAdd (mVar 5) (mC (.int 1))))) (mSeq (mSet 3 false (mCB m__law_rich (mCons (mVarD 0) (mNil)))) (mSeq (mSet 4 true (mLst (mNil))) (mSeq (mFor (mRgI1 (mVar 1)) (gD 5) lb__law_row_1) (mRet (mCB dTuple (mCons (mVar 4) (mNil)))))))
def m__law_row : List D → R D := mDef 6 2 b__law_row
/-- _law_plain_move(_law_kind, _law_cell_here, _law_n); slots: 0 _law_kind 1 _law_cell_here 2 _law_n 3 _law_d 4 _law_i 5 _law_j 6 _law_a 7 _law_b 8 _law_c 9 _law_e -/
def b__law_plain_move : MS := mSeq (mSet 3 false (mCB m__law_digits (mCons (mCB m__law_rich (mCons (mVarD 1) (mNil))) (mCons (mLst (mCons (mVarD 2) (mCons (mBin dSub (mVar 2) (mC (.int 1))) (mCons (mBin dAdd (mVar 2) (mC (.int 1))) (mCons (mBin dAdd (mVar 2) (mC (.int 1))) (mCons (mBin dAdd (mVar 2) (mC (.int 1))) (mCons (mBin dAdd (mVar 2) (mC (.int 1))) (mNil)))))))) (mNil))))) (mSeq (mSet 4 false (mBin dIx (mVar 3) (mC (.int 0)))) (mSeq (mSet 5 false (mBin dAdd (mBin dIx (mVar 3) (mC (.int 1))) (mCB dInt (mCons (mBin dGe (mBin dIx (mVar 3) (mC (.int 1))) (mBin dIx (mVar 3) (mC (.int 0)))) (mNil))))) (mSeq (mIf (mTst (mBin dEq (mVar 0) (mC (.str "next")))) (mRet (mTup (mCons (mC (.str "next")) (mCons (mBin dIx (mVar 3) (mC (.int 1))) (mNil))))) (mSkip)) (mSeq (mIf (mTst (mBin dEq (mVar 0) (mC (.str "take")))) (mRet (mTup (mCons (mC (.str "take")) (mCons (mVarD 4) (mCons (mVarD 5) (mNil)))))) (mSkip)) (mSeq (mIf (mTst (mBin dEq (mVar 0) (mC (.str "blocks")))) (mSeq (mUnp (gT [6, 7, 8, 9]) (mCB dSorted (mCons (mLst (mCons (mBin dIx (mVar 3) (mC (.int 2))) (mCons (mBin dIx (mVar 3) (mC (.int 3))) (mCons (mBin dIx (mVar 3) (mC (.int 4))) (mCons (mBin dIx (mVar 3) (mC (.int 5))) (mNil)))))) (mNil)))) (mSeq (mIf (mTst (mBin dEq (mVar 6) (mVar 7))) (mRet (mTup (mCons (mC (.str "blocks")) (mCons (mC (.int 0)) (mCons (mC (.int 1)) (mCons (mC (.int 1)) (mCons (mVarD 2) (mNil)))))))) (mSkip)) (mSeq (mIf (mTst (mBin dEq (mVar 8) (mVar 9))) (mRet (mTup (mCons (mC (.str "blocks")) (mCons (mC (.int 0)) (mCons (mC (.int 1)) (mCons (mBin dSub (mVar 2) (mC (.int 1))) (mCons (mVarD 2) (mNil)))))))) (mSkip)) (mRet (mTup (mCons (mC (.str "blocks")) (mCons (mVarD 6) (mCons (mVarD 7) (mCons (mVarD 8) (mCons (mVarD 9) (mNil))))))))))) (mSkip)) (mRet (mTup (mCons (mVarD 0) (mCons (mCB dMin (mCons (mVar 4) (mCons (mVar 5) (mNil)))) (mCons (mCB dMax (mCons (mVar 4) (mCons (mVar 5) (mNil)))) (mNil)))))))))))
def m__law_plain_move : List D → R D := mDef 10 3 b__law_plain_move
/-- _law_moved(_law_row_here, _law_move); slots: 0 _law_row_here 1 _law_move 2 _law_cells 3 _law_k 4 _law_i 5 _law_j 6 _law_m -/
def lb__law_moved_1 : MS := mSub 2 (mVar 3) (mBin dIx (mVar 0) (mBin dSub (mBin dAdd (mBin dIx (mVar 1) (mC (.int 1))) (mBin dIx (mVar 1) (mC (.int 2)))) (mVar 3)))
def b__law_moved : MS := mSeq (mSet 2 true (mCB dList (mCons (mVar 0) (mNil)))) (mSeq (mIf (mTst (mBin dEq (mBin dIx (mVar 1) (mC (.int 0))) (mC (.str "swap")))) (mSeq (mSub 2 (mBin dIx (mVar 1) (mC (.int 1))) (mBin dIx (mVar 0) (mBin dIx (mVar 1) (mC (.int 2))))) (mSub 2 (mBin dIx (mVar 1) (mC (.int 2))) (mBin dIx (mVar 0) (mBin dIx (mVar 1) (mC (.int 1)))))) (mSkip)) (mSeq (mIf (mTst (mBin dEq (mBin dIx (mVar 1) (mC (.int 0))) (mC (.str "next")))) (mSeq (mSub 2 (mBin dIx (mVar 1) (mC (.int 1))) (mBin dIx (mVar 0) (mBin dAdd (mBin dIx (mVar 1) (mC (.int 1))) (mC (.int 1))))) (mSub 2 (mBin dAdd (mBin dIx (mVar 1) (mC (.int 1))) (mC (.int 1))) (mBin dIx (mVar 0) (mBin dIx (mVar 1) (mC (.int 1)))))) (mSkip)) (mSeq (mIf (mTst (mBin dEq (mBin dIx (mVar 1) (mC (.int 0))) (mC (.str "take")))) (mSeq (mPopK 2 (mBin dIx (mVar 1) (mC (.int 1))) kDrop) (mMut 2 fIns (mCons (mBin dIx (mVar 1) (mC (.int 2))) (mCons (mBin dIx (mVar 0) (mBin dIx (mVar 1) (mC (.int 1)))) mNil)))) (mSkip)) (mSeq (mIf (mTst (mBin dEq (mBin dIx (mVar 1) (mC (.int 0))) (mC (.str "flip")))) (mFor (mRgI2 (mBin dIx (mVar 1) (mC (.int 1))) (mBin dAdd (mBin dIx (mVar 1) (mC (.int 2))) (mC (.int 1)))) (gD 3) lb__law_moved_1) (mSkip)) (mSeq (mIf (mTst (mBin dEq (mBin dIx (mVar 1) (mC (.int 0))) (mC (.str "blocks")))) (mSeq (mUnp (gT [4, 5, 3, 6]) (mSl (mVar 1) (mSome (mC (.int 1))) (mNone))) (mSet 2 true (mCB dList (mCons (mBin dAdd (mBin dAdd (mBin dAdd (mBin dAdd (mSl (mVar 0) (mNone) (mSome (mVar 4))) (mSl (mVar 0) (mSome (mVar 3)) (mSome (mVar 6)))) (mSl (mVar 0) (mSome (mVar 5)) (mSome (mVar 3)))) (mSl (mVar 0) (mSome (mVar 4)) (mSome (mVar 5)))) (mSl (mVar 0) (mSome (mVar 6)) (mNone))) (mNil))))) (mSkip)) (mRet (mCB dTuple (mCons (mVar 2) (mNil)))))))))
def m__law_moved : List D → R D := mDef 7 2 b__law_moved
/-- _law_is_integer(_law_actual); slots: 0 _law_actual -/
def b__law_is_integer : MS := mRet (mAnd (mUn (dIsi "int") (mVar 0)) (mUn dNot (mUn (dIsi "bool") (mVar 0))))
def m__law_is_integer : List D → R D := mDef 1 1 b__law_is_integer
/-- _law_leads(_law_first, _law_second, _law_moves); slots: 0 _law_first 1 _law_second 2 _law_moves 3 _law_row_here 4 _law_move 5 _law_place -/
def lb__law_leads_1 : MS := mSeq (mIf (mOrT (mNotT (mTst (mUn (dIsi "tuple") (mVar 4)))) (mOrT (mTst (mBin dLt (mCB dLen (mCons (mVar 4) (mNil))) (mC (.int 2)))) (mTst (mBin dNe (mBin dIx (mVar 4) (mC (.int 0))) (mC (.str "blocks")))))) (mRet (mC (.bl false))) (mSkip)) (mSeq (mIf (mTst (mBin dNe (mLc (mItems (mSl (mVar 4) (mSome (mC (.int 1))) (mNone))) [5] (gD 5) (mOrT (mNotT (mTst (mCB m__law_is_integer (mCons (mVarD 5) (mNil))))) (mOrT (mTst (mBin dLt (mVar 5) (mC (.int 0)))) (mTst (mBin dGt (mVar 5) (mCB dLen (mCons (mVar 3) (mNil))))))) (mVarD 5)) (mLst (mNil)))) (mRet (mC (.bl false))) (mSkip)) (mSeq (mIf (mNotT (mAndT (mTst (mBin dLt (mBin dIx (mVar 4) (mC (.int 1))) (mBin dIx (mVar 4) (mC (.int 2))))) (mAndT (mTst (mBin dLe (mBin dIx (mVar 4) (mC (.int 2))) (mBin dIx (mVar 4) (mC (.int 3))))) (mTst (mBin dLt (mBin dIx (mVar 4) (mC (.int 3))) (mBin dIx (mVar 4) (mC (.int 4)))))))) (mRet (mC (.bl false))) (mSkip)) (mSet 3 false (mCB m__law_moved (mCons (mVarD 3) (mCons (mVarD 4) (mNil)))))))
def b__law_leads : MS := mSeq (mSet 3 false (mVarD 0)) (mSeq (mFor (mItems (mVarD 2)) (gD 4) lb__law_leads_1) (mRet (mBin dEq (mVar 3) (mVar 1))))
def m__law_leads : List D → R D := mDef 6 3 b__law_leads
/-- law(_law_script); slots: 0 _law_script 1 _law_d 2 _law_n 3 _law_first 4 _law_second 5 _law_many 6 _law_k 7 _law_one 8 _law_other 9 _law_told 10 _law_moves -/
def st_law_1 : MS := mSet 1 false (mCB m__law_digits (mCons (mCB m__law_rich (mCons (mCB m__law_cell (mCons (mVarD 0) (mCons (mC (.int 0)) (mNil)))) (mNil))) (mCons (mLst (mCons (mC (.int 11)) (mCons (mC (.int 5)) (mCons (mC (.int 8)) (mNil))))) (mNil))))
def st_law_2 : MS := mSet 2 false (mBin dIx (mLst (mCons (mBin dAdd (mC (.int 2)) (mBin dIx (mVar 1) (mC (.int 0)))) (mCons (mC (.int 40)) (mNil)))) (mCB dInt (mCons (mBin dEq (mBin dIx (mVar 1) (mC (.int 2))) (mC (.int 0))) (mNil))))
def st_law_3 : MS := mSet 3 false (mCB m__law_row (mCons (mCB m__law_cell (mCons (mVarD 0) (mCons (mC (.int 1)) (mNil)))) (mCons (mVarD 2) (mNil))))
def st_law_4 : MS := mSet 4 false (mVarD 3)
def st_law_5 : MS := mSet 5 false (mC (.int 0))
def lb_law_1_1 : MS := mIf (mTst (mBin dGe (mBin dAdd (mC (.int 2)) (mVar 6)) (mCB dLen (mCons (mVar 0) (mNil))))) (mBrk) (mSkip)
def lb_law_1_2 : MS := mSet 4 false (mCB m__law_moved (mCons (mVarD 4) (mCons (mCB m__law_plain_move (mCons (mC (.str "blocks")) (mCons (mBin dAdd (mCB m__law_cell (mCons (mVarD 0) (mCons (mBin dAdd (mC (.int 2)) (mVar 6)) (mNil)))) (mVar 6)) (mCons (mVarD 2) (mNil))))) (mNil))))
def lb_law_1_3 : MS := mSet 5 false (mBin dAdd (mVar 5) (mC (.int 1)))
def lb_law_1 : MS := mSeq (lb_law_1_1) (mSeq (lb_law_1_2) (lb_law_1_3))
def st_law_6 : MS := mFor (mRgI1 (mC (.int 10))) (gD 6) lb_law_1
def st_law_7 : MS := mIf (mTst (mBin dEq (mBin dIx (mVar 1) (mC (.int 1))) (mC (.int 0)))) (mSeq (mSet 4 false (mCB m__law_row (mCons (mBin dAdd (mCB m__law_cell (mCons (mVarD 0) (mCons (mC (.int 2)) (mNil)))) (mC (.int 1))) (mCons (mVarD 2) (mNil))))) (mSet 5 false (mBin dMul (mVar 2) (mVar 2)))) (mSkip)
def lb_law_2_1 : MS := mSet 9 false (mCB m_least_blocks (mCons (mVarD 7) (mCons (mVarD 8) (mNil))))
def lb_law_2_2 : MS := mIf (mOrT (mNotT (mTst (mCB m__law_is_integer (mCons (mVarD 9) (mNil))))) (mOrT (mTst (mBin dLt (mVar 9) (mC (.int 0)))) (mTst (mBin dGt (mVar 9) (mVar 5))))) (mRet (mC (.bl false))) (mSkip)
def lb_law_2_3 : MS := mSet 10 false (mCB m_block_script (mCons (mVarD 7) (mCons (mVarD 8) (mNil))))
def lb_law_2_4 : MS := mIf (mOrT (mNotT (mTst (mUn (dIsi "tuple") (mVar 10)))) (mOrT (mTst (mBin dNe (mCB dLen (mCons (mVar 10) (mNil))) (mVar 9))) (mNotT (mTst (mCB m__law_leads (mCons (mVarD 7) (mCons (mVarD 8) (mCons (mVarD 10) (mNil))))))))) (mRet (mC (.bl false))) (mSkip)
def lb_law_2 : MS := mSeq (lb_law_2_1) (mSeq (lb_law_2_2) (mSeq (lb_law_2_3) (lb_law_2_4)))
def st_law_8 : MS := mFor (mItems (mLst (mCons (mTup (mCons (mVarD 3) (mCons (mVarD 4) (mNil)))) (mCons (mTup (mCons (mVarD 4) (mCons (mVarD 3) (mNil)))) (mNil))))) (gT [7, 8]) lb_law_2
def st_law_9 : MS := mRet (mBin dEq (mCB m_least_blocks (mCons (mVarD 3) (mCons (mVarD 3) (mNil)))) (mC (.int 0)))
def b_law : MS := mSeq (st_law_1) (mSeq (st_law_2) (mSeq (st_law_3) (mSeq (st_law_4) (mSeq (st_law_5) (mSeq (st_law_6) (mSeq (st_law_7) (mSeq (st_law_8) (st_law_9))))))))
def m_law : List D → R D := mDef 11 1 b_law
end Lw

set_option Elab.async false
set_option linter.all false
set_option maxRecDepth 100000
set_option maxHeartbeats 4000000
set_option autoImplicit false
namespace Lw
open PySem L2 DL
/-! ### the script's cells, digits, rows -/
def cellP (ns : List Int) (k : Nat) : Int := ns.getD k 0
theorem cell_ok (ns : List Int) (k : Nat) : m__law_cell [.fz false (ns.map D.int), .int k] = some (.ok (.int (cellP ns k))) := by
  unfold m__law_cell b__law_cell
  simp only [bnd_ok, bnd_er, sE_ok, sE_er, mSeq_eq, seqO_nx, seqO_rt, seqO_er, seqO_bk, seqO_ct, mIf_eq, ifO_ok, ifO_er, mVar_z, mVar_s, mVarD_z, mVarD_s, mC_eq, mBin_eq, mUn_eq, mCB_eq, mNil_eq, mCons_eq, mSet_eq, mRet_eq, mSkip_eq, mBrk_eq, mCnt_eq, mRaise_eq, mRetN_eq, mDrop_eq, mTst_eq, tstO_bl, tstO_er, mAndT_eq, andT_ok, andT_f, andT_t, andT_er, mOrT_eq, orT_ok, orT_f, orT_t, orT_er, mNotT_eq, mAnd_eq, andD_ok, andD_f, andD_t, andD_er, mOr_eq, orD_ok, orD_f, orD_t, orD_er, dNot_bl, dAdd_i, dSub_i, dNeg_i, dCmp_i, dInt_i, dInt_b, dAbs_i, dMax_i, dMin_i, dLen_l, dLen_t, dLen_f, dList_l, dList_t, dTuple_l, dTuple_t, dRev_l, dRev_t, dIx_l, dIx_t, dIx_f, dIsN_n, dNotN_n, mTup_eq, mLst_eq, mSl_eq, mNone_eq, mSome_eq, someO_i, dSl_t, dSl_l, mFor_eq, mItems_eq, itemsO_l, itemsO_t, itemsO_f, mRgI1_eq, mRgI2_eq, outR_nx, outR_rt, outR_er, run1, run2, run3, run4, forGo_nil, forGo_cons, forO_nx, forO_ct, forO_bk, forO_rt, forO_er, gD_eq, mMut_eq, mutO_l, subO_eq, ownD_z, ownD_s, dSet_l, List.set_cons_zero, List.set_cons_succ, List.getElem?_cons_zero, List.getElem?_cons_succ, List.replicate_succ, List.replicate_zero, Nat.reduceSub, Nat.reduceAdd, List.length_cons, List.length_nil, Option.bind_some, Option.map_some, Bool.false_eq_true, if_true, if_false, reduceIte, Bool.and_true, Bool.true_and, Bool.and_false, Bool.false_and, Bool.or_true, Bool.true_or, Bool.or_false, Bool.false_or, Bool.not_true, Bool.not_false, DL.isNon, isSub, reduceCtorEq, decide_true, decide_false, clrO, Bool.or_self, Bool.and_self, Nat.reduceLT, Int.reduceLT, Int.reduceLE, Int.reduceAdd, Int.reduceSub, Int.reduceNeg, Int.reduceMul, Int.reduceEq, Int.cast_ofNat_Int, gk0, gk1, gk2, gk3, gk4, gk5, gk6, gk7, gk8, gk9, gk10, gk11, gk12, mMeth_eq, methO_ok, mRgI3_eq, mFrz_eq, frzO_s, mAug_eq, augO_s, dAddA_i, dTupX_l, dTupX_t, rowD_t, rowD_f, dList_f, dTupX_f, dRev_f, List.length_map]
  by_cases h : k < ns.length
  · have h1 : decide ((k : Int) < (ns.length : Int)) = true := decide_eq_true (by omega)
    have h2 := atI_nat (ns.map D.int) k (by simpa using h)
    have h3 : cellP ns k = ns[k] := by unfold cellP; rw [List.getD_eq_getElem?_getD, List.getElem?_eq_getElem h]; rfl
    simp only [bnd_ok, bnd_er, sE_ok, sE_er, mSeq_eq, seqO_nx, seqO_rt, seqO_er, seqO_bk, seqO_ct, mIf_eq, ifO_ok, ifO_er, mVar_z, mVar_s, mVarD_z, mVarD_s, mC_eq, mBin_eq, mUn_eq, mCB_eq, mNil_eq, mCons_eq, mSet_eq, mRet_eq, mSkip_eq, mBrk_eq, mCnt_eq, mRaise_eq, mRetN_eq, mDrop_eq, mTst_eq, tstO_bl, tstO_er, mAndT_eq, andT_ok, andT_f, andT_t, andT_er, mOrT_eq, orT_ok, orT_f, orT_t, orT_er, mNotT_eq, mAnd_eq, andD_ok, andD_f, andD_t, andD_er, mOr_eq, orD_ok, orD_f, orD_t, orD_er, dNot_bl, dAdd_i, dSub_i, dNeg_i, dCmp_i, dInt_i, dInt_b, dAbs_i, dMax_i, dMin_i, dLen_l, dLen_t, dLen_f, dList_l, dList_t, dTuple_l, dTuple_t, dRev_l, dRev_t, dIx_l, dIx_t, dIx_f, dIsN_n, dNotN_n, mTup_eq, mLst_eq, mSl_eq, mNone_eq, mSome_eq, someO_i, dSl_t, dSl_l, mFor_eq, mItems_eq, itemsO_l, itemsO_t, itemsO_f, mRgI1_eq, mRgI2_eq, outR_nx, outR_rt, outR_er, run1, run2, run3, run4, forGo_nil, forGo_cons, forO_nx, forO_ct, forO_bk, forO_rt, forO_er, gD_eq, mMut_eq, mutO_l, subO_eq, ownD_z, ownD_s, dSet_l, List.set_cons_zero, List.set_cons_succ, List.getElem?_cons_zero, List.getElem?_cons_succ, List.replicate_succ, List.replicate_zero, Nat.reduceSub, Nat.reduceAdd, List.length_cons, List.length_nil, Option.bind_some, Option.map_some, Bool.false_eq_true, if_true, if_false, reduceIte, Bool.and_true, Bool.true_and, Bool.and_false, Bool.false_and, Bool.or_true, Bool.true_or, Bool.or_false, Bool.false_or, Bool.not_true, Bool.not_false, DL.isNon, isSub, reduceCtorEq, decide_true, decide_false, clrO, Bool.or_self, Bool.and_self, Nat.reduceLT, Int.reduceLT, Int.reduceLE, Int.reduceAdd, Int.reduceSub, Int.reduceNeg, Int.reduceMul, Int.reduceEq, Int.cast_ofNat_Int, gk0, gk1, gk2, gk3, gk4, gk5, gk6, gk7, gk8, gk9, gk10, gk11, gk12, mMeth_eq, methO_ok, mRgI3_eq, mFrz_eq, frzO_s, mAug_eq, augO_s, dAddA_i, dTupX_l, dTupX_t, rowD_t, rowD_f, dList_f, dTupX_f, dRev_f, h1, h2, List.getElem_map, h3]
  · have h1 : decide ((k : Int) < (ns.length : Int)) = false := decide_eq_false (by omega)
    have h3 : cellP ns k = 0 := by unfold cellP; rw [List.getD_eq_getElem?_getD, List.getElem?_eq_none (by omega)]; rfl
    simp only [bnd_ok, bnd_er, sE_ok, sE_er, mSeq_eq, seqO_nx, seqO_rt, seqO_er, seqO_bk, seqO_ct, mIf_eq, ifO_ok, ifO_er, mVar_z, mVar_s, mVarD_z, mVarD_s, mC_eq, mBin_eq, mUn_eq, mCB_eq, mNil_eq, mCons_eq, mSet_eq, mRet_eq, mSkip_eq, mBrk_eq, mCnt_eq, mRaise_eq, mRetN_eq, mDrop_eq, mTst_eq, tstO_bl, tstO_er, mAndT_eq, andT_ok, andT_f, andT_t, andT_er, mOrT_eq, orT_ok, orT_f, orT_t, orT_er, mNotT_eq, mAnd_eq, andD_ok, andD_f, andD_t, andD_er, mOr_eq, orD_ok, orD_f, orD_t, orD_er, dNot_bl, dAdd_i, dSub_i, dNeg_i, dCmp_i, dInt_i, dInt_b, dAbs_i, dMax_i, dMin_i, dLen_l, dLen_t, dLen_f, dList_l, dList_t, dTuple_l, dTuple_t, dRev_l, dRev_t, dIx_l, dIx_t, dIx_f, dIsN_n, dNotN_n, mTup_eq, mLst_eq, mSl_eq, mNone_eq, mSome_eq, someO_i, dSl_t, dSl_l, mFor_eq, mItems_eq, itemsO_l, itemsO_t, itemsO_f, mRgI1_eq, mRgI2_eq, outR_nx, outR_rt, outR_er, run1, run2, run3, run4, forGo_nil, forGo_cons, forO_nx, forO_ct, forO_bk, forO_rt, forO_er, gD_eq, mMut_eq, mutO_l, subO_eq, ownD_z, ownD_s, dSet_l, List.set_cons_zero, List.set_cons_succ, List.getElem?_cons_zero, List.getElem?_cons_succ, List.replicate_succ, List.replicate_zero, Nat.reduceSub, Nat.reduceAdd, List.length_cons, List.length_nil, Option.bind_some, Option.map_some, Bool.false_eq_true, if_true, if_false, reduceIte, Bool.and_true, Bool.true_and, Bool.and_false, Bool.false_and, Bool.or_true, Bool.true_or, Bool.or_false, Bool.false_or, Bool.not_true, Bool.not_false, DL.isNon, isSub, reduceCtorEq, decide_true, decide_false, clrO, Bool.or_self, Bool.and_self, Nat.reduceLT, Int.reduceLT, Int.reduceLE, Int.reduceAdd, Int.reduceSub, Int.reduceNeg, Int.reduceMul, Int.reduceEq, Int.cast_ofNat_Int, gk0, gk1, gk2, gk3, gk4, gk5, gk6, gk7, gk8, gk9, gk10, gk11, gk12, mMeth_eq, methO_ok, mRgI3_eq, mFrz_eq, frzO_s, mAug_eq, augO_s, dAddA_i, dTupX_l, dTupX_t, rowD_t, rowD_f, dList_f, dTupX_f, dRev_f, h1, h3]
def digs : Int → List Int → List Int
  | _, [] => []
  | c, s :: ss => c % s :: digs (c / s) ss
theorem digs_len : ∀ (c : Int) (ss : List Int), (digs c ss).length = ss.length
  | _, [] => rfl
  | c, s :: ss => by simp [digs, digs_len]
theorem digs_go (s1 : Option (D × Bool)) : ∀ (ss : List Int) (c : Int) (acc : List D) (s3 : Option (D × Bool)), (∀ s ∈ ss, 0 < s ∧ s < 9223372036854775808) → acc.length + ss.length ≤ 1000 →
    ∃ c' s3', forGo (gD 3) lb__law_digits_1 (ss.map D.int) [some (.int c, false), s1, some (.lst acc, true), s3] = some (.nx [some (.int c', false), s1, some (.lst (acc ++ (digs c ss).map D.int), true), s3'])
  | [], c, acc, s3, _, _ => ⟨c, s3, by simp only [bnd_ok, bnd_er, sE_ok, sE_er, mSeq_eq, seqO_nx, seqO_rt, seqO_er, seqO_bk, seqO_ct, mIf_eq, ifO_ok, ifO_er, mVar_z, mVar_s, mVarD_z, mVarD_s, mC_eq, mBin_eq, mUn_eq, mCB_eq, mNil_eq, mCons_eq, mSet_eq, mRet_eq, mSkip_eq, mBrk_eq, mCnt_eq, mRaise_eq, mRetN_eq, mDrop_eq, mTst_eq, tstO_bl, tstO_er, mAndT_eq, andT_ok, andT_f, andT_t, andT_er, mOrT_eq, orT_ok, orT_f, orT_t, orT_er, mNotT_eq, mAnd_eq, andD_ok, andD_f, andD_t, andD_er, mOr_eq, orD_ok, orD_f, orD_t, orD_er, dNot_bl, dAdd_i, dSub_i, dNeg_i, dCmp_i, dInt_i, dInt_b, dAbs_i, dMax_i, dMin_i, dLen_l, dLen_t, dLen_f, dList_l, dList_t, dTuple_l, dTuple_t, dRev_l, dRev_t, dIx_l, dIx_t, dIx_f, dIsN_n, dNotN_n, mTup_eq, mLst_eq, mSl_eq, mNone_eq, mSome_eq, someO_i, dSl_t, dSl_l, mFor_eq, mItems_eq, itemsO_l, itemsO_t, itemsO_f, mRgI1_eq, mRgI2_eq, outR_nx, outR_rt, outR_er, run1, run2, run3, run4, forGo_nil, forGo_cons, forO_nx, forO_ct, forO_bk, forO_rt, forO_er, gD_eq, mMut_eq, mutO_l, subO_eq, ownD_z, ownD_s, dSet_l, List.set_cons_zero, List.set_cons_succ, List.getElem?_cons_zero, List.getElem?_cons_succ, List.replicate_succ, List.replicate_zero, Nat.reduceSub, Nat.reduceAdd, List.length_cons, List.length_nil, Option.bind_some, Option.map_some, Bool.false_eq_true, if_true, if_false, reduceIte, Bool.and_true, Bool.true_and, Bool.and_false, Bool.false_and, Bool.or_true, Bool.true_or, Bool.or_false, Bool.false_or, Bool.not_true, Bool.not_false, DL.isNon, isSub, reduceCtorEq, decide_true, decide_false, clrO, Bool.or_self, Bool.and_self, Nat.reduceLT, Int.reduceLT, Int.reduceLE, Int.reduceAdd, Int.reduceSub, Int.reduceNeg, Int.reduceMul, Int.reduceEq, Int.cast_ofNat_Int, gk0, gk1, gk2, gk3, gk4, gk5, gk6, gk7, gk8, gk9, gk10, gk11, gk12, mMeth_eq, methO_ok, mRgI3_eq, mFrz_eq, frzO_s, mAug_eq, augO_s, dAddA_i, dTupX_l, dTupX_t, rowD_t, rowD_f, dList_f, dTupX_f, dRev_f, List.map_nil, digs, List.append_nil]⟩
  | s :: ss, c, acc, s3, h, hl => by
    obtain ⟨p, q⟩ := h s List.mem_cons_self
    simp only [List.length_cons] at hl
    obtain ⟨c', s3', e⟩ := digs_go s1 ss (c / s) (acc ++ [.int (c % s)]) (some (.int s, false)) (fun z hz => h z (List.mem_cons_of_mem _ hz)) (by simp; omega)
    refine ⟨c', s3', ?_⟩
    have la : acc.length < 1000000 := by omega
    rw [List.map_cons]
    simp only [bnd_ok, bnd_er, sE_ok, sE_er, mSeq_eq, seqO_nx, seqO_rt, seqO_er, seqO_bk, seqO_ct, mIf_eq, ifO_ok, ifO_er, mVar_z, mVar_s, mVarD_z, mVarD_s, mC_eq, mBin_eq, mUn_eq, mCB_eq, mNil_eq, mCons_eq, mSet_eq, mRet_eq, mSkip_eq, mBrk_eq, mCnt_eq, mRaise_eq, mRetN_eq, mDrop_eq, mTst_eq, tstO_bl, tstO_er, mAndT_eq, andT_ok, andT_f, andT_t, andT_er, mOrT_eq, orT_ok, orT_f, orT_t, orT_er, mNotT_eq, mAnd_eq, andD_ok, andD_f, andD_t, andD_er, mOr_eq, orD_ok, orD_f, orD_t, orD_er, dNot_bl, dAdd_i, dSub_i, dNeg_i, dCmp_i, dInt_i, dInt_b, dAbs_i, dMax_i, dMin_i, dLen_l, dLen_t, dLen_f, dList_l, dList_t, dTuple_l, dTuple_t, dRev_l, dRev_t, dIx_l, dIx_t, dIx_f, dIsN_n, dNotN_n, mTup_eq, mLst_eq, mSl_eq, mNone_eq, mSome_eq, someO_i, dSl_t, dSl_l, mFor_eq, mItems_eq, itemsO_l, itemsO_t, itemsO_f, mRgI1_eq, mRgI2_eq, outR_nx, outR_rt, outR_er, run1, run2, run3, run4, forGo_nil, forGo_cons, forO_nx, forO_ct, forO_bk, forO_rt, forO_er, gD_eq, mMut_eq, mutO_l, subO_eq, ownD_z, ownD_s, dSet_l, List.set_cons_zero, List.set_cons_succ, List.getElem?_cons_zero, List.getElem?_cons_succ, List.replicate_succ, List.replicate_zero, Nat.reduceSub, Nat.reduceAdd, List.length_cons, List.length_nil, Option.bind_some, Option.map_some, Bool.false_eq_true, if_true, if_false, reduceIte, Bool.and_true, Bool.true_and, Bool.and_false, Bool.false_and, Bool.or_true, Bool.true_or, Bool.or_false, Bool.false_or, Bool.not_true, Bool.not_false, DL.isNon, isSub, reduceCtorEq, decide_true, decide_false, clrO, Bool.or_self, Bool.and_self, Nat.reduceLT, Int.reduceLT, Int.reduceLE, Int.reduceAdd, Int.reduceSub, Int.reduceNeg, Int.reduceMul, Int.reduceEq, Int.cast_ofNat_Int, gk0, gk1, gk2, gk3, gk4, gk5, gk6, gk7, gk8, gk9, gk10, gk11, gk12, mMeth_eq, methO_ok, mRgI3_eq, mFrz_eq, frzO_s, mAug_eq, augO_s, dAddA_i, dTupX_l, dTupX_t, rowD_t, rowD_f, dList_f, dTupX_f, dRev_f, lb__law_digits_1, dMod_i _ _ p, dDiv_i _ _ p q, fApp_1 _ _ la]
    unfold lb__law_digits_1 at e
    rw [e]
    simp [digs]
theorem digs_ok (c : Int) (ss : List Int) (h : ∀ s ∈ ss, 0 < s ∧ s < 9223372036854775808) (hl : ss.length ≤ 1000) : m__law_digits [.int c, .lst (ss.map D.int)] = some (.ok (.lst ((digs c ss).map D.int))) := by
  obtain ⟨c', s3', e⟩ := digs_go (some (.lst (ss.map D.int), false)) ss c [] none h (by simpa using hl)
  unfold m__law_digits b__law_digits
  simp only [bnd_ok, bnd_er, sE_ok, sE_er, mSeq_eq, seqO_nx, seqO_rt, seqO_er, seqO_bk, seqO_ct, mIf_eq, ifO_ok, ifO_er, mVar_z, mVar_s, mVarD_z, mVarD_s, mC_eq, mBin_eq, mUn_eq, mCB_eq, mNil_eq, mCons_eq, mSet_eq, mRet_eq, mSkip_eq, mBrk_eq, mCnt_eq, mRaise_eq, mRetN_eq, mDrop_eq, mTst_eq, tstO_bl, tstO_er, mAndT_eq, andT_ok, andT_f, andT_t, andT_er, mOrT_eq, orT_ok, orT_f, orT_t, orT_er, mNotT_eq, mAnd_eq, andD_ok, andD_f, andD_t, andD_er, mOr_eq, orD_ok, orD_f, orD_t, orD_er, dNot_bl, dAdd_i, dSub_i, dNeg_i, dCmp_i, dInt_i, dInt_b, dAbs_i, dMax_i, dMin_i, dLen_l, dLen_t, dLen_f, dList_l, dList_t, dTuple_l, dTuple_t, dRev_l, dRev_t, dIx_l, dIx_t, dIx_f, dIsN_n, dNotN_n, mTup_eq, mLst_eq, mSl_eq, mNone_eq, mSome_eq, someO_i, dSl_t, dSl_l, mFor_eq, mItems_eq, itemsO_l, itemsO_t, itemsO_f, mRgI1_eq, mRgI2_eq, outR_nx, outR_rt, outR_er, run1, run2, run3, run4, forGo_nil, forGo_cons, forO_nx, forO_ct, forO_bk, forO_rt, forO_er, gD_eq, mMut_eq, mutO_l, subO_eq, ownD_z, ownD_s, dSet_l, List.set_cons_zero, List.set_cons_succ, List.getElem?_cons_zero, List.getElem?_cons_succ, List.replicate_succ, List.replicate_zero, Nat.reduceSub, Nat.reduceAdd, List.length_cons, List.length_nil, Option.bind_some, Option.map_some, Bool.false_eq_true, if_true, if_false, reduceIte, Bool.and_true, Bool.true_and, Bool.and_false, Bool.false_and, Bool.or_true, Bool.true_or, Bool.or_false, Bool.false_or, Bool.not_true, Bool.not_false, DL.isNon, isSub, reduceCtorEq, decide_true, decide_false, clrO, Bool.or_self, Bool.and_self, Nat.reduceLT, Int.reduceLT, Int.reduceLE, Int.reduceAdd, Int.reduceSub, Int.reduceNeg, Int.reduceMul, Int.reduceEq, Int.cast_ofNat_Int, gk0, gk1, gk2, gk3, gk4, gk5, gk6, gk7, gk8, gk9, gk10, gk11, gk12, mMeth_eq, methO_ok, mRgI3_eq, mFrz_eq, frzO_s, mAug_eq, augO_s, dAddA_i, dTupX_l, dTupX_t, rowD_t, rowD_f, dList_f, dTupX_f, dRev_f, guard_0, e, List.nil_append]
def richP (c : Int) : Int := if 1000000000000000000 ≤ c then c else
  ((c * 48271 + 11) % 2147483647) * 2147483629 + (((c * 48271 + 11) % 2147483647) * 69621 + c / 7 + 5) % 2147483629
theorem pow18 : dPow (.int 10) (.int 18) = some (.ok (.int 1000000000000000000)) := by rfl
theorem rich_ok (c : Int) : m__law_rich [.int c] = some (.ok (.int (richP c))) := by
  unfold m__law_rich b__law_rich
  by_cases h : 1000000000000000000 ≤ c
  · have h1 : decide ((1000000000000000000 : Int) ≤ c) = true := decide_eq_true h
    have h3 : richP c = c := by unfold richP; rw [if_pos h]
    simp only [bnd_ok, bnd_er, sE_ok, sE_er, mSeq_eq, seqO_nx, seqO_rt, seqO_er, seqO_bk, seqO_ct, mIf_eq, ifO_ok, ifO_er, mVar_z, mVar_s, mVarD_z, mVarD_s, mC_eq, mBin_eq, mUn_eq, mCB_eq, mNil_eq, mCons_eq, mSet_eq, mRet_eq, mSkip_eq, mBrk_eq, mCnt_eq, mRaise_eq, mRetN_eq, mDrop_eq, mTst_eq, tstO_bl, tstO_er, mAndT_eq, andT_ok, andT_f, andT_t, andT_er, mOrT_eq, orT_ok, orT_f, orT_t, orT_er, mNotT_eq, mAnd_eq, andD_ok, andD_f, andD_t, andD_er, mOr_eq, orD_ok, orD_f, orD_t, orD_er, dNot_bl, dAdd_i, dSub_i, dNeg_i, dCmp_i, dInt_i, dInt_b, dAbs_i, dMax_i, dMin_i, dLen_l, dLen_t, dLen_f, dList_l, dList_t, dTuple_l, dTuple_t, dRev_l, dRev_t, dIx_l, dIx_t, dIx_f, dIsN_n, dNotN_n, mTup_eq, mLst_eq, mSl_eq, mNone_eq, mSome_eq, someO_i, dSl_t, dSl_l, mFor_eq, mItems_eq, itemsO_l, itemsO_t, itemsO_f, mRgI1_eq, mRgI2_eq, outR_nx, outR_rt, outR_er, run1, run2, run3, run4, forGo_nil, forGo_cons, forO_nx, forO_ct, forO_bk, forO_rt, forO_er, gD_eq, mMut_eq, mutO_l, subO_eq, ownD_z, ownD_s, dSet_l, List.set_cons_zero, List.set_cons_succ, List.getElem?_cons_zero, List.getElem?_cons_succ, List.replicate_succ, List.replicate_zero, Nat.reduceSub, Nat.reduceAdd, List.length_cons, List.length_nil, Option.bind_some, Option.map_some, Bool.false_eq_true, if_true, if_false, reduceIte, Bool.and_true, Bool.true_and, Bool.and_false, Bool.false_and, Bool.or_true, Bool.true_or, Bool.or_false, Bool.false_or, Bool.not_true, Bool.not_false, DL.isNon, isSub, reduceCtorEq, decide_true, decide_false, clrO, Bool.or_self, Bool.and_self, Nat.reduceLT, Int.reduceLT, Int.reduceLE, Int.reduceAdd, Int.reduceSub, Int.reduceNeg, Int.reduceMul, Int.reduceEq, Int.cast_ofNat_Int, gk0, gk1, gk2, gk3, gk4, gk5, gk6, gk7, gk8, gk9, gk10, gk11, gk12, mMeth_eq, methO_ok, mRgI3_eq, mFrz_eq, frzO_s, mAug_eq, augO_s, dAddA_i, dTupX_l, dTupX_t, rowD_t, rowD_f, dList_f, dTupX_f, dRev_f, pow18, h1, h3]
  · have h1 : decide ((1000000000000000000 : Int) ≤ c) = false := decide_eq_false h
    have h3 : richP c = ((c * 48271 + 11) % 2147483647) * 2147483629 + (((c * 48271 + 11) % 2147483647) * 69621 + c / 7 + 5) % 2147483629 := by unfold richP; rw [if_neg h]
    simp only [bnd_ok, bnd_er, sE_ok, sE_er, mSeq_eq, seqO_nx, seqO_rt, seqO_er, seqO_bk, seqO_ct, mIf_eq, ifO_ok, ifO_er, mVar_z, mVar_s, mVarD_z, mVarD_s, mC_eq, mBin_eq, mUn_eq, mCB_eq, mNil_eq, mCons_eq, mSet_eq, mRet_eq, mSkip_eq, mBrk_eq, mCnt_eq, mRaise_eq, mRetN_eq, mDrop_eq, mTst_eq, tstO_bl, tstO_er, mAndT_eq, andT_ok, andT_f, andT_t, andT_er, mOrT_eq, orT_ok, orT_f, orT_t, orT_er, mNotT_eq, mAnd_eq, andD_ok, andD_f, andD_t, andD_er, mOr_eq, orD_ok, orD_f, orD_t, orD_er, dNot_bl, dAdd_i, dSub_i, dNeg_i, dCmp_i, dInt_i, dInt_b, dAbs_i, dMax_i, dMin_i, dLen_l, dLen_t, dLen_f, dList_l, dList_t, dTuple_l, dTuple_t, dRev_l, dRev_t, dIx_l, dIx_t, dIx_f, dIsN_n, dNotN_n, mTup_eq, mLst_eq, mSl_eq, mNone_eq, mSome_eq, someO_i, dSl_t, dSl_l, mFor_eq, mItems_eq, itemsO_l, itemsO_t, itemsO_f, mRgI1_eq, mRgI2_eq, outR_nx, outR_rt, outR_er, run1, run2, run3, run4, forGo_nil, forGo_cons, forO_nx, forO_ct, forO_bk, forO_rt, forO_er, gD_eq, mMut_eq, mutO_l, subO_eq, ownD_z, ownD_s, dSet_l, List.set_cons_zero, List.set_cons_succ, List.getElem?_cons_zero, List.getElem?_cons_succ, List.replicate_succ, List.replicate_zero, Nat.reduceSub, Nat.reduceAdd, List.length_cons, List.length_nil, Option.bind_some, Option.map_some, Bool.false_eq_true, if_true, if_false, reduceIte, Bool.and_true, Bool.true_and, Bool.and_false, Bool.false_and, Bool.or_true, Bool.true_or, Bool.or_false, Bool.false_or, Bool.not_true, Bool.not_false, DL.isNon, isSub, reduceCtorEq, decide_true, decide_false, clrO, Bool.or_self, Bool.and_self, Nat.reduceLT, Int.reduceLT, Int.reduceLE, Int.reduceAdd, Int.reduceSub, Int.reduceNeg, Int.reduceMul, Int.reduceEq, Int.cast_ofNat_Int, gk0, gk1, gk2, gk3, gk4, gk5, gk6, gk7, gk8, gk9, gk10, gk11, gk12, mMeth_eq, methO_ok, mRgI3_eq, mFrz_eq, frzO_s, mAug_eq, augO_s, dAddA_i, dTupX_l, dTupX_t, rowD_t, rowD_f, dList_f, dTupX_f, dRev_f, pow18, h1, h3, dMul_i _ 48271 (mulOk_r _ _ (by decide)), dMul_i _ 69621 (mulOk_r _ _ (by decide)), dMul_i _ 2147483629 (mulOk_r _ _ (by decide)), dMod_i _ 2147483647 (by decide), dMod_i _ 2147483629 (by decide), dDiv_i _ 7 (by decide) (by decide)]
theorem row_go (s0 : Option (D × Bool)) (n : Nat) (hn : n ≤ 900) : ∀ (m : Nat) (left acc : List Int) (rest : Int) (s5 : Option (D × Bool)), m ≤ n → left.length = m → acc.length + m ≤ 900 →
    ∃ (l' : List Int) (rest' : Int) (left' : List D) (s5' : Option (D × Bool)), forGo (gD 5) lb__law_row_1 ((List.range' (n - m) m).map fun i : Nat => D.int (i : Int)) [s0, some (.int n, false), some (.lst (left.map D.int), true), some (.int rest, false), some (.lst (acc.map D.int), true), s5] = some (.nx [s0, some (.int n, false), some (.lst left', true), some (.int rest', false), some (.lst (l'.map D.int), true), s5']) ∧ l'.Perm (acc ++ left)
  | 0, left, acc, rest, s5, _, hl, _ => by
    have e : left = [] := List.length_eq_zero_iff.mp hl
    subst e
    exact ⟨acc, rest, [], s5, rfl, by rw [List.append_nil]⟩
  | m + 1, left, acc, rest, s5, hm, hl, ha => by
    have hp : (0 : Int) < (n : Int) - ((n - (m + 1) : Nat) : Int) := by omega
    have hz0 : 0 ≤ rest % ((n : Int) - ((n - (m + 1) : Nat) : Int)) := Int.emod_nonneg _ (by omega)
    have hz1 : rest % ((n : Int) - ((n - (m + 1) : Nat) : Int)) < (n : Int) - ((n - (m + 1) : Nat) : Int) := Int.emod_lt_of_pos _ hp
    obtain ⟨k, hk⟩ := Int.eq_ofNat_of_zero_le hz0
    have hkl : k < left.length := by omega
    obtain ⟨l', rest', left', s5', e, pm⟩ := row_go s0 n hn m (left.eraseIdx k) (acc ++ [left[k]]) (rest / ((n : Int) - ((n - (m + 1) : Nat) : Int))) (some (.int ((n - (m + 1) : Nat) : Int), false)) (by omega) (by rw [List.length_eraseIdx]; simp [hkl]; omega) (by simp; omega)
    refine ⟨l', rest', left', s5', ?_, pm.trans ?_⟩
    · have hp2 := popD_nat (left.map D.int) k (by simpa using hkl) (by simp; omega)
      have la : (acc.map D.int).length < lim := Nat.lt_of_le_of_lt (m := 900) (by simp; omega) (by decide)
      have r1 : List.range' (n - (m + 1)) (m + 1) = (n - (m + 1)) :: List.range' (n - m) m := by
        rw [List.range'_succ]
        congr 2
        omega
      rw [r1, List.map_cons]
      simp only [bnd_ok, bnd_er, sE_ok, sE_er, mSeq_eq, seqO_nx, seqO_rt, seqO_er, seqO_bk, seqO_ct, mIf_eq, ifO_ok, ifO_er, mVar_z, mVar_s, mVarD_z, mVarD_s, mC_eq, mBin_eq, mUn_eq, mCB_eq, mNil_eq, mCons_eq, mSet_eq, mRet_eq, mSkip_eq, mBrk_eq, mCnt_eq, mRaise_eq, mRetN_eq, mDrop_eq, mTst_eq, tstO_bl, tstO_er, mAndT_eq, andT_ok, andT_f, andT_t, andT_er, mOrT_eq, orT_ok, orT_f, orT_t, orT_er, mNotT_eq, mAnd_eq, andD_ok, andD_f, andD_t, andD_er, mOr_eq, orD_ok, orD_f, orD_t, orD_er, dNot_bl, dAdd_i, dSub_i, dNeg_i, dCmp_i, dInt_i, dInt_b, dAbs_i, dMax_i, dMin_i, dLen_l, dLen_t, dLen_f, dList_l, dList_t, dTuple_l, dTuple_t, dRev_l, dRev_t, dIx_l, dIx_t, dIx_f, dIsN_n, dNotN_n, mTup_eq, mLst_eq, mSl_eq, mNone_eq, mSome_eq, someO_i, dSl_t, dSl_l, mFor_eq, mItems_eq, itemsO_l, itemsO_t, itemsO_f, mRgI1_eq, mRgI2_eq, outR_nx, outR_rt, outR_er, run1, run2, run3, run4, forGo_nil, forGo_cons, forO_nx, forO_ct, forO_bk, forO_rt, forO_er, gD_eq, mMut_eq, mutO_l, subO_eq, ownD_z, ownD_s, dSet_l, List.set_cons_zero, List.set_cons_succ, List.getElem?_cons_zero, List.getElem?_cons_succ, List.replicate_succ, List.replicate_zero, Nat.reduceSub, Nat.reduceAdd, List.length_cons, List.length_nil, Option.bind_some, Option.map_some, Bool.false_eq_true, if_true, if_false, reduceIte, Bool.and_true, Bool.true_and, Bool.and_false, Bool.false_and, Bool.or_true, Bool.true_or, Bool.or_false, Bool.false_or, Bool.not_true, Bool.not_false, DL.isNon, isSub, reduceCtorEq, decide_true, decide_false, clrO, Bool.or_self, Bool.and_self, Nat.reduceLT, Int.reduceLT, Int.reduceLE, Int.reduceAdd, Int.reduceSub, Int.reduceNeg, Int.reduceMul, Int.reduceEq, Int.cast_ofNat_Int, gk0, gk1, gk2, gk3, gk4, gk5, gk6, gk7, gk8, gk9, gk10, gk11, gk12, mMeth_eq, methO_ok, mRgI3_eq, mFrz_eq, frzO_s, mAug_eq, augO_s, dAddA_i, dTupX_l, dTupX_t, rowD_t, rowD_f, dList_f, dTupX_f, dRev_f, lb__law_row_1, mAppPop, mPopK, dMod_i _ _ hp, hk, hp2, kApp, la, dDiv_i _ _ hp (show (n : Int) - ((n - (m + 1) : Nat) : Int) < 9223372036854775808 by omega)]
      unfold lb__law_row_1 at e
      rw [List.map_append, map_erase] at e
      rw [List.getElem_map]
      exact e
    · rw [List.append_assoc]
      exact List.Perm.append_left acc (erase_perm hkl)
theorem row_ok (c : Int) (n : Nat) (hn : n ≤ 900) : ∃ l : List Int, m__law_row [.int c, .int n] = some (.ok (.tup (l.map D.int))) ∧ l.Perm (upto n) := by
  obtain ⟨l', rest', left', s5', e, pm⟩ := row_go (some (.int c, false)) n hn n (upto n) [] (richP c) none (Nat.le_refl _) (by unfold upto; simp) (by simp; omega)
  refine ⟨l', ?_, by simpa using pm⟩
  have r0 : List.range' (n - n) n = List.range n := by rw [Nat.sub_self, List.range_eq_range']
  rw [r0] at e
  have e1 : lcGo (gD 5) mYes (mBin dAdd (mVar 5) (mC (.int 1))) [some (.int c, false), some (.int n, false), none, none, none, none] ((List.range n).map fun i : Nat => D.int (i : Int)) = some ((upto n).map D.int) := by
    rw [lc_map (fun d => match d with | .int i => .int (i + 1) | d => d)]
    · unfold upto
      rw [List.map_map, List.map_map]
      rfl
    · intro d hd
      obtain ⟨i, _, rfl⟩ := List.mem_map.mp hd
      exact ⟨_, rfl, rfl⟩
  unfold m__law_row b__law_row
  simp only [bnd_ok, bnd_er, sE_ok, sE_er, mSeq_eq, seqO_nx, seqO_rt, seqO_er, seqO_bk, seqO_ct, mIf_eq, ifO_ok, ifO_er, mVar_z, mVar_s, mVarD_z, mVarD_s, mC_eq, mBin_eq, mUn_eq, mCB_eq, mNil_eq, mCons_eq, mSet_eq, mRet_eq, mSkip_eq, mBrk_eq, mCnt_eq, mRaise_eq, mRetN_eq, mDrop_eq, mTst_eq, tstO_bl, tstO_er, mAndT_eq, andT_ok, andT_f, andT_t, andT_er, mOrT_eq, orT_ok, orT_f, orT_t, orT_er, mNotT_eq, mAnd_eq, andD_ok, andD_f, andD_t, andD_er, mOr_eq, orD_ok, orD_f, orD_t, orD_er, dNot_bl, dAdd_i, dSub_i, dNeg_i, dCmp_i, dInt_i, dInt_b, dAbs_i, dMax_i, dMin_i, dLen_l, dLen_t, dLen_f, dList_l, dList_t, dTuple_l, dTuple_t, dRev_l, dRev_t, dIx_l, dIx_t, dIx_f, dIsN_n, dNotN_n, mTup_eq, mLst_eq, mSl_eq, mNone_eq, mSome_eq, someO_i, dSl_t, dSl_l, mFor_eq, mItems_eq, itemsO_l, itemsO_t, itemsO_f, mRgI1_eq, mRgI2_eq, outR_nx, outR_rt, outR_er, run1, run2, run3, run4, forGo_nil, forGo_cons, forO_nx, forO_ct, forO_bk, forO_rt, forO_er, gD_eq, mMut_eq, mutO_l, subO_eq, ownD_z, ownD_s, dSet_l, List.set_cons_zero, List.set_cons_succ, List.getElem?_cons_zero, List.getElem?_cons_succ, List.replicate_succ, List.replicate_zero, Nat.reduceSub, Nat.reduceAdd, List.length_cons, List.length_nil, Option.bind_some, Option.map_some, Bool.false_eq_true, if_true, if_false, reduceIte, Bool.and_true, Bool.true_and, Bool.and_false, Bool.false_and, Bool.or_true, Bool.true_or, Bool.or_false, Bool.false_or, Bool.not_true, Bool.not_false, DL.isNon, isSub, reduceCtorEq, decide_true, decide_false, clrO, Bool.or_self, Bool.and_self, Nat.reduceLT, Int.reduceLT, Int.reduceLE, Int.reduceAdd, Int.reduceSub, Int.reduceNeg, Int.reduceMul, Int.reduceEq, Int.cast_ofNat_Int, gk0, gk1, gk2, gk3, gk4, gk5, gk6, gk7, gk8, gk9, gk10, gk11, gk12, mMeth_eq, methO_ok, mRgI3_eq, mFrz_eq, frzO_s, mAug_eq, augO_s, dAddA_i, dTupX_l, dTupX_t, rowD_t, rowD_f, dList_f, dTupX_f, dRev_f, rgI1_i _ (show 0 ≤ (n : Int) ∧ (n : Int) ≤ 1000 by omega), rgD_nat, mLc_eq, wipeR]
  rw [guard_t ⟨rfl, Nat.le_trans (m := 900) (by simp; omega) (by decide)⟩, e1]
  simp only [bnd_ok, bnd_er, sE_ok, sE_er, mSeq_eq, seqO_nx, seqO_rt, seqO_er, seqO_bk, seqO_ct, mIf_eq, ifO_ok, ifO_er, mVar_z, mVar_s, mVarD_z, mVarD_s, mC_eq, mBin_eq, mUn_eq, mCB_eq, mNil_eq, mCons_eq, mSet_eq, mRet_eq, mSkip_eq, mBrk_eq, mCnt_eq, mRaise_eq, mRetN_eq, mDrop_eq, mTst_eq, tstO_bl, tstO_er, mAndT_eq, andT_ok, andT_f, andT_t, andT_er, mOrT_eq, orT_ok, orT_f, orT_t, orT_er, mNotT_eq, mAnd_eq, andD_ok, andD_f, andD_t, andD_er, mOr_eq, orD_ok, orD_f, orD_t, orD_er, dNot_bl, dAdd_i, dSub_i, dNeg_i, dCmp_i, dInt_i, dInt_b, dAbs_i, dMax_i, dMin_i, dLen_l, dLen_t, dLen_f, dList_l, dList_t, dTuple_l, dTuple_t, dRev_l, dRev_t, dIx_l, dIx_t, dIx_f, dIsN_n, dNotN_n, mTup_eq, mLst_eq, mSl_eq, mNone_eq, mSome_eq, someO_i, dSl_t, dSl_l, mFor_eq, mItems_eq, itemsO_l, itemsO_t, itemsO_f, mRgI1_eq, mRgI2_eq, outR_nx, outR_rt, outR_er, run1, run2, run3, run4, forGo_nil, forGo_cons, forO_nx, forO_ct, forO_bk, forO_rt, forO_er, gD_eq, mMut_eq, mutO_l, subO_eq, ownD_z, ownD_s, dSet_l, List.set_cons_zero, List.set_cons_succ, List.getElem?_cons_zero, List.getElem?_cons_succ, List.replicate_succ, List.replicate_zero, Nat.reduceSub, Nat.reduceAdd, List.length_cons, List.length_nil, Option.bind_some, Option.map_some, Bool.false_eq_true, if_true, if_false, reduceIte, Bool.and_true, Bool.true_and, Bool.and_false, Bool.false_and, Bool.or_true, Bool.true_or, Bool.or_false, Bool.false_or, Bool.not_true, Bool.not_false, DL.isNon, isSub, reduceCtorEq, decide_true, decide_false, clrO, Bool.or_self, Bool.and_self, Nat.reduceLT, Int.reduceLT, Int.reduceLE, Int.reduceAdd, Int.reduceSub, Int.reduceNeg, Int.reduceMul, Int.reduceEq, Int.cast_ofNat_Int, gk0, gk1, gk2, gk3, gk4, gk5, gk6, gk7, gk8, gk9, gk10, gk11, gk12, mMeth_eq, methO_ok, mRgI3_eq, mFrz_eq, frzO_s, mAug_eq, augO_s, dAddA_i, dTupX_l, dTupX_t, rowD_t, rowD_f, dList_f, dTupX_f, dRev_f, rich_ok, guard_0, rgI1_i _ (show 0 ≤ (n : Int) ∧ (n : Int) ≤ 1000 by omega), rgD_nat]
  rw [show (some (D.lst [], true) : Option (D × Bool)) = some (D.lst (([] : List Int).map D.int), true) from rfl, e]
  simp only [bnd_ok, bnd_er, sE_ok, sE_er, mSeq_eq, seqO_nx, seqO_rt, seqO_er, seqO_bk, seqO_ct, mIf_eq, ifO_ok, ifO_er, mVar_z, mVar_s, mVarD_z, mVarD_s, mC_eq, mBin_eq, mUn_eq, mCB_eq, mNil_eq, mCons_eq, mSet_eq, mRet_eq, mSkip_eq, mBrk_eq, mCnt_eq, mRaise_eq, mRetN_eq, mDrop_eq, mTst_eq, tstO_bl, tstO_er, mAndT_eq, andT_ok, andT_f, andT_t, andT_er, mOrT_eq, orT_ok, orT_f, orT_t, orT_er, mNotT_eq, mAnd_eq, andD_ok, andD_f, andD_t, andD_er, mOr_eq, orD_ok, orD_f, orD_t, orD_er, dNot_bl, dAdd_i, dSub_i, dNeg_i, dCmp_i, dInt_i, dInt_b, dAbs_i, dMax_i, dMin_i, dLen_l, dLen_t, dLen_f, dList_l, dList_t, dTuple_l, dTuple_t, dRev_l, dRev_t, dIx_l, dIx_t, dIx_f, dIsN_n, dNotN_n, mTup_eq, mLst_eq, mSl_eq, mNone_eq, mSome_eq, someO_i, dSl_t, dSl_l, mFor_eq, mItems_eq, itemsO_l, itemsO_t, itemsO_f, mRgI1_eq, mRgI2_eq, outR_nx, outR_rt, outR_er, run1, run2, run3, run4, forGo_nil, forGo_cons, forO_nx, forO_ct, forO_bk, forO_rt, forO_er, gD_eq, mMut_eq, mutO_l, subO_eq, ownD_z, ownD_s, dSet_l, List.set_cons_zero, List.set_cons_succ, List.getElem?_cons_zero, List.getElem?_cons_succ, List.replicate_succ, List.replicate_zero, Nat.reduceSub, Nat.reduceAdd, List.length_cons, List.length_nil, Option.bind_some, Option.map_some, Bool.false_eq_true, if_true, if_false, reduceIte, Bool.and_true, Bool.true_and, Bool.and_false, Bool.false_and, Bool.or_true, Bool.true_or, Bool.or_false, Bool.false_or, Bool.not_true, Bool.not_false, DL.isNon, isSub, reduceCtorEq, decide_true, decide_false, clrO, Bool.or_self, Bool.and_self, Nat.reduceLT, Int.reduceLT, Int.reduceLE, Int.reduceAdd, Int.reduceSub, Int.reduceNeg, Int.reduceMul, Int.reduceEq, Int.cast_ofNat_Int, gk0, gk1, gk2, gk3, gk4, gk5, gk6, gk7, gk8, gk9, gk10, gk11, gk12, mMeth_eq, methO_ok, mRgI3_eq, mFrz_eq, frzO_s, mAug_eq, augO_s, dAddA_i, dTupX_l, dTupX_t, rowD_t, rowD_f, dList_f, dTupX_f, dRev_f]
end Lw

set_option Elab.async false
set_option linter.all false
set_option maxRecDepth 100000
set_option maxHeartbeats 4000000
set_option autoImplicit false
namespace Lw
open PySem L2 DL
/-! ### check_row -/
def goodR (l : List Int) : Prop := l.length ≤ 40 ∧ isort l = upto l.length
instance (l : List Int) : Decidable (goodR l) := by unfold goodR; infer_instance
theorem checkR_val (l : List Int) (hl : l.length ≤ 900) : m_check_row [.tup (l.map D.int)] = if goodR l then some (.ok (.tup (l.map D.int))) else some (.error .row) := by
  have e2 : mRg2 .lst (mC (.int 1)) (mBin dAdd (mVar 1) (mC (.int 1))) [some (D.tup (l.map D.int), false), some (.int l.length, false)] = some (.ok (.lst ((upto l.length).map D.int))) := by
    rw [mRg2_ok _ _ _ _ 1 (l.length + 1) (by omega) rfl rfl, rgD_1]
  unfold m_check_row b_check_row
  simp only [bnd_ok, bnd_er, sE_ok, sE_er, mSeq_eq, seqO_nx, seqO_rt, seqO_er, seqO_bk, seqO_ct, mIf_eq, ifO_ok, ifO_er, mVar_z, mVar_s, mVarD_z, mVarD_s, mC_eq, mBin_eq, mUn_eq, mCB_eq, mNil_eq, mCons_eq, mSet_eq, mRet_eq, mSkip_eq, mBrk_eq, mCnt_eq, mRaise_eq, mRetN_eq, mDrop_eq, mTst_eq, tstO_bl, tstO_er, mAndT_eq, andT_ok, andT_f, andT_t, andT_er, mOrT_eq, orT_ok, orT_f, orT_t, orT_er, mNotT_eq, mAnd_eq, andD_ok, andD_f, andD_t, andD_er, mOr_eq, orD_ok, orD_f, orD_t, orD_er, dNot_bl, dAdd_i, dSub_i, dNeg_i, dCmp_i, dInt_i, dInt_b, dAbs_i, dMax_i, dMin_i, dLen_l, dLen_t, dLen_f, dList_l, dList_t, dTuple_l, dTuple_t, dRev_l, dRev_t, dIx_l, dIx_t, dIx_f, dIsN_n, dNotN_n, mTup_eq, mLst_eq, mSl_eq, mNone_eq, mSome_eq, someO_i, dSl_t, dSl_l, mFor_eq, mItems_eq, itemsO_l, itemsO_t, itemsO_f, mRgI1_eq, mRgI2_eq, outR_nx, outR_rt, outR_er, run1, run2, run3, run4, forGo_nil, forGo_cons, forO_nx, forO_ct, forO_bk, forO_rt, forO_er, gD_eq, mMut_eq, mutO_l, subO_eq, ownD_z, ownD_s, dSet_l, List.set_cons_zero, List.set_cons_succ, List.getElem?_cons_zero, List.getElem?_cons_succ, List.replicate_succ, List.replicate_zero, Nat.reduceSub, Nat.reduceAdd, List.length_cons, List.length_nil, Option.bind_some, Option.map_some, Bool.false_eq_true, if_true, if_false, reduceIte, Bool.and_true, Bool.true_and, Bool.and_false, Bool.false_and, Bool.or_true, Bool.true_or, Bool.or_false, Bool.false_or, Bool.not_true, Bool.not_false, DL.isNon, isSub, reduceCtorEq, decide_true, decide_false, clrO, Bool.or_self, Bool.and_self, Nat.reduceLT, Int.reduceLT, Int.reduceLE, Int.reduceAdd, Int.reduceSub, Int.reduceNeg, Int.reduceMul, Int.reduceEq, Int.cast_ofNat_Int, gk0, gk1, gk2, gk3, gk4, gk5, gk6, gk7, gk8, gk9, gk10, gk11, gk12, mMeth_eq, methO_ok, mRgI3_eq, mFrz_eq, frzO_s, mAug_eq, augO_s, dAddA_i, dTupX_l, dTupX_t, rowD_t, rowD_f, dList_f, dTupX_f, dRev_f, e2, List.length_map, dSorted_t, dNe_l]
  by_cases h1 : l.length ≤ 40
  · have g1 : decide ((40 : Int) < (l.length : Int)) = false := decide_eq_false (by omega)
    by_cases h2 : isort l = upto l.length
    · have hg : goodR l := ⟨h1, h2⟩
      simp only [bnd_ok, bnd_er, sE_ok, sE_er, mSeq_eq, seqO_nx, seqO_rt, seqO_er, seqO_bk, seqO_ct, mIf_eq, ifO_ok, ifO_er, mVar_z, mVar_s, mVarD_z, mVarD_s, mC_eq, mBin_eq, mUn_eq, mCB_eq, mNil_eq, mCons_eq, mSet_eq, mRet_eq, mSkip_eq, mBrk_eq, mCnt_eq, mRaise_eq, mRetN_eq, mDrop_eq, mTst_eq, tstO_bl, tstO_er, mAndT_eq, andT_ok, andT_f, andT_t, andT_er, mOrT_eq, orT_ok, orT_f, orT_t, orT_er, mNotT_eq, mAnd_eq, andD_ok, andD_f, andD_t, andD_er, mOr_eq, orD_ok, orD_f, orD_t, orD_er, dNot_bl, dAdd_i, dSub_i, dNeg_i, dCmp_i, dInt_i, dInt_b, dAbs_i, dMax_i, dMin_i, dLen_l, dLen_t, dLen_f, dList_l, dList_t, dTuple_l, dTuple_t, dRev_l, dRev_t, dIx_l, dIx_t, dIx_f, dIsN_n, dNotN_n, mTup_eq, mLst_eq, mSl_eq, mNone_eq, mSome_eq, someO_i, dSl_t, dSl_l, mFor_eq, mItems_eq, itemsO_l, itemsO_t, itemsO_f, mRgI1_eq, mRgI2_eq, outR_nx, outR_rt, outR_er, run1, run2, run3, run4, forGo_nil, forGo_cons, forO_nx, forO_ct, forO_bk, forO_rt, forO_er, gD_eq, mMut_eq, mutO_l, subO_eq, ownD_z, ownD_s, dSet_l, List.set_cons_zero, List.set_cons_succ, List.getElem?_cons_zero, List.getElem?_cons_succ, List.replicate_succ, List.replicate_zero, Nat.reduceSub, Nat.reduceAdd, List.length_cons, List.length_nil, Option.bind_some, Option.map_some, Bool.false_eq_true, if_true, if_false, reduceIte, Bool.and_true, Bool.true_and, Bool.and_false, Bool.false_and, Bool.or_true, Bool.true_or, Bool.or_false, Bool.false_or, Bool.not_true, Bool.not_false, DL.isNon, isSub, reduceCtorEq, decide_true, decide_false, clrO, Bool.or_self, Bool.and_self, Nat.reduceLT, Int.reduceLT, Int.reduceLE, Int.reduceAdd, Int.reduceSub, Int.reduceNeg, Int.reduceMul, Int.reduceEq, Int.cast_ofNat_Int, gk0, gk1, gk2, gk3, gk4, gk5, gk6, gk7, gk8, gk9, gk10, gk11, gk12, mMeth_eq, methO_ok, mRgI3_eq, mFrz_eq, frzO_s, mAug_eq, augO_s, dAddA_i, dTupX_l, dTupX_t, rowD_t, rowD_f, dList_f, dTupX_f, dRev_f, g1, h2, hg]
    · have hg : ¬ goodR l := fun h => h2 h.2
      simp only [bnd_ok, bnd_er, sE_ok, sE_er, mSeq_eq, seqO_nx, seqO_rt, seqO_er, seqO_bk, seqO_ct, mIf_eq, ifO_ok, ifO_er, mVar_z, mVar_s, mVarD_z, mVarD_s, mC_eq, mBin_eq, mUn_eq, mCB_eq, mNil_eq, mCons_eq, mSet_eq, mRet_eq, mSkip_eq, mBrk_eq, mCnt_eq, mRaise_eq, mRetN_eq, mDrop_eq, mTst_eq, tstO_bl, tstO_er, mAndT_eq, andT_ok, andT_f, andT_t, andT_er, mOrT_eq, orT_ok, orT_f, orT_t, orT_er, mNotT_eq, mAnd_eq, andD_ok, andD_f, andD_t, andD_er, mOr_eq, orD_ok, orD_f, orD_t, orD_er, dNot_bl, dAdd_i, dSub_i, dNeg_i, dCmp_i, dInt_i, dInt_b, dAbs_i, dMax_i, dMin_i, dLen_l, dLen_t, dLen_f, dList_l, dList_t, dTuple_l, dTuple_t, dRev_l, dRev_t, dIx_l, dIx_t, dIx_f, dIsN_n, dNotN_n, mTup_eq, mLst_eq, mSl_eq, mNone_eq, mSome_eq, someO_i, dSl_t, dSl_l, mFor_eq, mItems_eq, itemsO_l, itemsO_t, itemsO_f, mRgI1_eq, mRgI2_eq, outR_nx, outR_rt, outR_er, run1, run2, run3, run4, forGo_nil, forGo_cons, forO_nx, forO_ct, forO_bk, forO_rt, forO_er, gD_eq, mMut_eq, mutO_l, subO_eq, ownD_z, ownD_s, dSet_l, List.set_cons_zero, List.set_cons_succ, List.getElem?_cons_zero, List.getElem?_cons_succ, List.replicate_succ, List.replicate_zero, Nat.reduceSub, Nat.reduceAdd, List.length_cons, List.length_nil, Option.bind_some, Option.map_some, Bool.false_eq_true, if_true, if_false, reduceIte, Bool.and_true, Bool.true_and, Bool.and_false, Bool.false_and, Bool.or_true, Bool.true_or, Bool.or_false, Bool.false_or, Bool.not_true, Bool.not_false, DL.isNon, isSub, reduceCtorEq, decide_true, decide_false, clrO, Bool.or_self, Bool.and_self, Nat.reduceLT, Int.reduceLT, Int.reduceLE, Int.reduceAdd, Int.reduceSub, Int.reduceNeg, Int.reduceMul, Int.reduceEq, Int.cast_ofNat_Int, gk0, gk1, gk2, gk3, gk4, gk5, gk6, gk7, gk8, gk9, gk10, gk11, gk12, mMeth_eq, methO_ok, mRgI3_eq, mFrz_eq, frzO_s, mAug_eq, augO_s, dAddA_i, dTupX_l, dTupX_t, rowD_t, rowD_f, dList_f, dTupX_f, dRev_f, g1, h2, hg]
  · have g1 : decide ((40 : Int) < (l.length : Int)) = true := decide_eq_true (by omega)
    have hg : ¬ goodR l := fun h => h1 h.1
    simp only [bnd_ok, bnd_er, sE_ok, sE_er, mSeq_eq, seqO_nx, seqO_rt, seqO_er, seqO_bk, seqO_ct, mIf_eq, ifO_ok, ifO_er, mVar_z, mVar_s, mVarD_z, mVarD_s, mC_eq, mBin_eq, mUn_eq, mCB_eq, mNil_eq, mCons_eq, mSet_eq, mRet_eq, mSkip_eq, mBrk_eq, mCnt_eq, mRaise_eq, mRetN_eq, mDrop_eq, mTst_eq, tstO_bl, tstO_er, mAndT_eq, andT_ok, andT_f, andT_t, andT_er, mOrT_eq, orT_ok, orT_f, orT_t, orT_er, mNotT_eq, mAnd_eq, andD_ok, andD_f, andD_t, andD_er, mOr_eq, orD_ok, orD_f, orD_t, orD_er, dNot_bl, dAdd_i, dSub_i, dNeg_i, dCmp_i, dInt_i, dInt_b, dAbs_i, dMax_i, dMin_i, dLen_l, dLen_t, dLen_f, dList_l, dList_t, dTuple_l, dTuple_t, dRev_l, dRev_t, dIx_l, dIx_t, dIx_f, dIsN_n, dNotN_n, mTup_eq, mLst_eq, mSl_eq, mNone_eq, mSome_eq, someO_i, dSl_t, dSl_l, mFor_eq, mItems_eq, itemsO_l, itemsO_t, itemsO_f, mRgI1_eq, mRgI2_eq, outR_nx, outR_rt, outR_er, run1, run2, run3, run4, forGo_nil, forGo_cons, forO_nx, forO_ct, forO_bk, forO_rt, forO_er, gD_eq, mMut_eq, mutO_l, subO_eq, ownD_z, ownD_s, dSet_l, List.set_cons_zero, List.set_cons_succ, List.getElem?_cons_zero, List.getElem?_cons_succ, List.replicate_succ, List.replicate_zero, Nat.reduceSub, Nat.reduceAdd, List.length_cons, List.length_nil, Option.bind_some, Option.map_some, Bool.false_eq_true, if_true, if_false, reduceIte, Bool.and_true, Bool.true_and, Bool.and_false, Bool.false_and, Bool.or_true, Bool.true_or, Bool.or_false, Bool.false_or, Bool.not_true, Bool.not_false, DL.isNon, isSub, reduceCtorEq, decide_true, decide_false, clrO, Bool.or_self, Bool.and_self, Nat.reduceLT, Int.reduceLT, Int.reduceLE, Int.reduceAdd, Int.reduceSub, Int.reduceNeg, Int.reduceMul, Int.reduceEq, Int.cast_ofNat_Int, gk0, gk1, gk2, gk3, gk4, gk5, gk6, gk7, gk8, gk9, gk10, gk11, gk12, mMeth_eq, methO_ok, mRgI3_eq, mFrz_eq, frzO_s, mAug_eq, augO_s, dAddA_i, dTupX_l, dTupX_t, rowD_t, rowD_f, dList_f, dTupX_f, dRev_f, g1, hg]
theorem checkR_good (l : List Int) (h : goodR l) : m_check_row [.tup (l.map D.int)] = some (.ok (.tup (l.map D.int))) := by
  rw [checkR_val l (by have := h.1; omega), if_pos h]
theorem checkR_bad (l : List Int) (hl : l.length ≤ 900) (h : ¬ goodR l) : m_check_row [.tup (l.map D.int)] = some (.error .row) := by
  rw [checkR_val l hl, if_neg h]
theorem goodR_of {l : List Int} {n : Nat} (hn : n ≤ 40) (p : l.Perm (upto n)) : goodR l := by
  have e : l.length = n := by rw [p.length_eq, upto_len]
  exact ⟨by omega, by rw [e]; exact isort_upto p⟩
theorem goodR_perm {l : List Int} (h : goodR l) : l.Perm (upto l.length) := by
  rw [← h.2]
  exact (isort_perm _).symm
theorem goodR_nodup {l : List Int} (h : goodR l) : l.Nodup := (goodR_perm h).nodup_iff.mpr (upto_nodup _)
theorem goodR_mem {l : List Int} (h : goodR l) {x : Int} : x ∈ l ↔ 1 ≤ x ∧ x ≤ l.length := (goodR_perm h).mem_iff.trans mem_upto
end Lw

set_option Elab.async false
set_option linter.all false
set_option maxRecDepth 100000
set_option maxHeartbeats 4000000
set_option autoImplicit false
namespace Lw
open PySem L2 DL
/-! ### relative_row -/
def relP (a b : List Int) : List Int := a.map fun x => ((b.idxOf x : Nat) : Int) + 1
theorem rel_ok (a b : List Int) (ha : goodR a) (hb : goodR b) (e : a.length = b.length) : m_relative_row [.tup (a.map D.int), .tup (b.map D.int)] = some (.ok (.fz true ((relP a b).map D.int))) := by
  have la := ha.1
  have lb := hb.1
  have n1 : m_need_same_length [.tup (a.map D.int), .tup (b.map D.int)] = some (.ok .non) := by
    unfold m_need_same_length b_need_same_length
    simp only [bnd_ok, bnd_er, sE_ok, sE_er, mSeq_eq, seqO_nx, seqO_rt, seqO_er, seqO_bk, seqO_ct, mIf_eq, ifO_ok, ifO_er, mVar_z, mVar_s, mVarD_z, mVarD_s, mC_eq, mBin_eq, mUn_eq, mCB_eq, mNil_eq, mCons_eq, mSet_eq, mRet_eq, mSkip_eq, mBrk_eq, mCnt_eq, mRaise_eq, mRetN_eq, mDrop_eq, mTst_eq, tstO_bl, tstO_er, mAndT_eq, andT_ok, andT_f, andT_t, andT_er, mOrT_eq, orT_ok, orT_f, orT_t, orT_er, mNotT_eq, mAnd_eq, andD_ok, andD_f, andD_t, andD_er, mOr_eq, orD_ok, orD_f, orD_t, orD_er, dNot_bl, dAdd_i, dSub_i, dNeg_i, dCmp_i, dInt_i, dInt_b, dAbs_i, dMax_i, dMin_i, dLen_l, dLen_t, dLen_f, dList_l, dList_t, dTuple_l, dTuple_t, dRev_l, dRev_t, dIx_l, dIx_t, dIx_f, dIsN_n, dNotN_n, mTup_eq, mLst_eq, mSl_eq, mNone_eq, mSome_eq, someO_i, dSl_t, dSl_l, mFor_eq, mItems_eq, itemsO_l, itemsO_t, itemsO_f, mRgI1_eq, mRgI2_eq, outR_nx, outR_rt, outR_er, run1, run2, run3, run4, forGo_nil, forGo_cons, forO_nx, forO_ct, forO_bk, forO_rt, forO_er, gD_eq, mMut_eq, mutO_l, subO_eq, ownD_z, ownD_s, dSet_l, List.set_cons_zero, List.set_cons_succ, List.getElem?_cons_zero, List.getElem?_cons_succ, List.replicate_succ, List.replicate_zero, Nat.reduceSub, Nat.reduceAdd, List.length_cons, List.length_nil, Option.bind_some, Option.map_some, Bool.false_eq_true, if_true, if_false, reduceIte, Bool.and_true, Bool.true_and, Bool.and_false, Bool.false_and, Bool.or_true, Bool.true_or, Bool.or_false, Bool.false_or, Bool.not_true, Bool.not_false, DL.isNon, isSub, reduceCtorEq, decide_true, decide_false, clrO, Bool.or_self, Bool.and_self, Nat.reduceLT, Int.reduceLT, Int.reduceLE, Int.reduceAdd, Int.reduceSub, Int.reduceNeg, Int.reduceMul, Int.reduceEq, Int.cast_ofNat_Int, gk0, gk1, gk2, gk3, gk4, gk5, gk6, gk7, gk8, gk9, gk10, gk11, gk12, mMeth_eq, methO_ok, mRgI3_eq, mFrz_eq, frzO_s, mAug_eq, augO_s, dAddA_i, dTupX_l, dTupX_t, rowD_t, rowD_f, dList_f, dTupX_f, dRev_f, List.length_map, e, dNe_i]
  have d1 : mDc (mRgI1 (mCB dLen (mCons (mVar 1) mNil))) [3] (gD 3) mYes (mBin dIx (mVar 1) (mVar 3)) (mBin dAdd (mVar 3) (mC (.int 1))) [some (.tup (a.map D.int), false), some (.tup (b.map D.int), false), none, none, none] = some (.ok (.dK (plcs b 0))) := by
    rw [dc_is (fun d => match d with | .int i => .int (b.getD i.toNat 0) | d => d) (fun d => match d with | .int i => .int (i + 1) | d => d) (fun d => match d with | .int i => .inl (b.getD i.toNat 0) | _ => .inl 0) (ds := (List.range b.length).map fun i : Nat => D.int (i : Int))
      (by simp only [bnd_ok, bnd_er, sE_ok, sE_er, mSeq_eq, seqO_nx, seqO_rt, seqO_er, seqO_bk, seqO_ct, mIf_eq, ifO_ok, ifO_er, mVar_z, mVar_s, mVarD_z, mVarD_s, mC_eq, mBin_eq, mUn_eq, mCB_eq, mNil_eq, mCons_eq, mSet_eq, mRet_eq, mSkip_eq, mBrk_eq, mCnt_eq, mRaise_eq, mRetN_eq, mDrop_eq, mTst_eq, tstO_bl, tstO_er, mAndT_eq, andT_ok, andT_f, andT_t, andT_er, mOrT_eq, orT_ok, orT_f, orT_t, orT_er, mNotT_eq, mAnd_eq, andD_ok, andD_f, andD_t, andD_er, mOr_eq, orD_ok, orD_f, orD_t, orD_er, dNot_bl, dAdd_i, dSub_i, dNeg_i, dCmp_i, dInt_i, dInt_b, dAbs_i, dMax_i, dMin_i, dLen_l, dLen_t, dLen_f, dList_l, dList_t, dTuple_l, dTuple_t, dRev_l, dRev_t, dIx_l, dIx_t, dIx_f, dIsN_n, dNotN_n, mTup_eq, mLst_eq, mSl_eq, mNone_eq, mSome_eq, someO_i, dSl_t, dSl_l, mFor_eq, mItems_eq, itemsO_l, itemsO_t, itemsO_f, mRgI1_eq, mRgI2_eq, outR_nx, outR_rt, outR_er, run1, run2, run3, run4, forGo_nil, forGo_cons, forO_nx, forO_ct, forO_bk, forO_rt, forO_er, gD_eq, mMut_eq, mutO_l, subO_eq, ownD_z, ownD_s, dSet_l, List.set_cons_zero, List.set_cons_succ, List.getElem?_cons_zero, List.getElem?_cons_succ, List.replicate_succ, List.replicate_zero, Nat.reduceSub, Nat.reduceAdd, List.length_cons, List.length_nil, Option.bind_some, Option.map_some, Bool.false_eq_true, if_true, if_false, reduceIte, Bool.and_true, Bool.true_and, Bool.and_false, Bool.false_and, Bool.or_true, Bool.true_or, Bool.or_false, Bool.false_or, Bool.not_true, Bool.not_false, DL.isNon, isSub, reduceCtorEq, decide_true, decide_false, clrO, Bool.or_self, Bool.and_self, Nat.reduceLT, Int.reduceLT, Int.reduceLE, Int.reduceAdd, Int.reduceSub, Int.reduceNeg, Int.reduceMul, Int.reduceEq, Int.cast_ofNat_Int, gk0, gk1, gk2, gk3, gk4, gk5, gk6, gk7, gk8, gk9, gk10, gk11, gk12, mMeth_eq, methO_ok, mRgI3_eq, mFrz_eq, frzO_s, mAug_eq, augO_s, dAddA_i, dTupX_l, dTupX_t, rowD_t, rowD_f, dList_f, dTupX_f, dRev_f, List.length_map, rgI1_i _ (show 0 ≤ (b.length : Int) ∧ (b.length : Int) ≤ 1000 by omega), rgD_nat]) rfl (by simp; omega) ?_ ?_]
    · have h := plcs_rng b 0 (Nat.zero_le _)
      rw [Nat.sub_zero, List.drop_zero, ← List.range_eq_range'] at h
      rw [List.map_map, ← h]
      rfl
    · have hk : (((List.range b.length).map fun i : Nat => D.int (i : Int)).map fun d => match d with | .int i => (Sum.inl (b.getD i.toNat 0) : Key) | _ => .inl 0) = b.map Sum.inl := by
        have h := congrArg (List.map (·.1)) (plcs_rng b 0 (Nat.zero_le _))
        rw [Nat.sub_zero, List.drop_zero, ← List.range_eq_range', plcs_keys, List.map_map] at h
        rw [List.map_map, ← h]
        rfl
      rw [hk]
      exact List.Pairwise.map _ (fun x y h z => h (Sum.inl.inj z)) (goodR_nodup hb)
    · intro d hd
      obtain ⟨i, hi, rfl⟩ := List.mem_map.mp hd
      have hi := List.mem_range.mp hi
      have k2 : L2.atI (b.map D.int) (i : Int) = some (.int (b.getD i 0)) := by
        rw [atI_nat _ _ (by simpa using hi), List.getElem_map, List.getD_eq_getElem?_getD, List.getElem?_eq_getElem hi]
        rfl
      refine ⟨_, rfl, ?_, rfl, ?_⟩
      · simp only [bnd_ok, bnd_er, sE_ok, sE_er, mSeq_eq, seqO_nx, seqO_rt, seqO_er, seqO_bk, seqO_ct, mIf_eq, ifO_ok, ifO_er, mVar_z, mVar_s, mVarD_z, mVarD_s, mC_eq, mBin_eq, mUn_eq, mCB_eq, mNil_eq, mCons_eq, mSet_eq, mRet_eq, mSkip_eq, mBrk_eq, mCnt_eq, mRaise_eq, mRetN_eq, mDrop_eq, mTst_eq, tstO_bl, tstO_er, mAndT_eq, andT_ok, andT_f, andT_t, andT_er, mOrT_eq, orT_ok, orT_f, orT_t, orT_er, mNotT_eq, mAnd_eq, andD_ok, andD_f, andD_t, andD_er, mOr_eq, orD_ok, orD_f, orD_t, orD_er, dNot_bl, dAdd_i, dSub_i, dNeg_i, dCmp_i, dInt_i, dInt_b, dAbs_i, dMax_i, dMin_i, dLen_l, dLen_t, dLen_f, dList_l, dList_t, dTuple_l, dTuple_t, dRev_l, dRev_t, dIx_l, dIx_t, dIx_f, dIsN_n, dNotN_n, mTup_eq, mLst_eq, mSl_eq, mNone_eq, mSome_eq, someO_i, dSl_t, dSl_l, mFor_eq, mItems_eq, itemsO_l, itemsO_t, itemsO_f, mRgI1_eq, mRgI2_eq, outR_nx, outR_rt, outR_er, run1, run2, run3, run4, forGo_nil, forGo_cons, forO_nx, forO_ct, forO_bk, forO_rt, forO_er, gD_eq, mMut_eq, mutO_l, subO_eq, ownD_z, ownD_s, dSet_l, List.set_cons_zero, List.set_cons_succ, List.getElem?_cons_zero, List.getElem?_cons_succ, List.replicate_succ, List.replicate_zero, Nat.reduceSub, Nat.reduceAdd, List.length_cons, List.length_nil, Option.bind_some, Option.map_some, Bool.false_eq_true, if_true, if_false, reduceIte, Bool.and_true, Bool.true_and, Bool.and_false, Bool.false_and, Bool.or_true, Bool.true_or, Bool.or_false, Bool.false_or, Bool.not_true, Bool.not_false, DL.isNon, isSub, reduceCtorEq, decide_true, decide_false, clrO, Bool.or_self, Bool.and_self, Nat.reduceLT, Int.reduceLT, Int.reduceLE, Int.reduceAdd, Int.reduceSub, Int.reduceNeg, Int.reduceMul, Int.reduceEq, Int.cast_ofNat_Int, gk0, gk1, gk2, gk3, gk4, gk5, gk6, gk7, gk8, gk9, gk10, gk11, gk12, mMeth_eq, methO_ok, mRgI3_eq, mFrz_eq, frzO_s, mAug_eq, augO_s, dAddA_i, dTupX_l, dTupX_t, rowD_t, rowD_f, dList_f, dTupX_f, dRev_f, wipeR, k2]
        rfl
      · simp only [bnd_ok, bnd_er, sE_ok, sE_er, mSeq_eq, seqO_nx, seqO_rt, seqO_er, seqO_bk, seqO_ct, mIf_eq, ifO_ok, ifO_er, mVar_z, mVar_s, mVarD_z, mVarD_s, mC_eq, mBin_eq, mUn_eq, mCB_eq, mNil_eq, mCons_eq, mSet_eq, mRet_eq, mSkip_eq, mBrk_eq, mCnt_eq, mRaise_eq, mRetN_eq, mDrop_eq, mTst_eq, tstO_bl, tstO_er, mAndT_eq, andT_ok, andT_f, andT_t, andT_er, mOrT_eq, orT_ok, orT_f, orT_t, orT_er, mNotT_eq, mAnd_eq, andD_ok, andD_f, andD_t, andD_er, mOr_eq, orD_ok, orD_f, orD_t, orD_er, dNot_bl, dAdd_i, dSub_i, dNeg_i, dCmp_i, dInt_i, dInt_b, dAbs_i, dMax_i, dMin_i, dLen_l, dLen_t, dLen_f, dList_l, dList_t, dTuple_l, dTuple_t, dRev_l, dRev_t, dIx_l, dIx_t, dIx_f, dIsN_n, dNotN_n, mTup_eq, mLst_eq, mSl_eq, mNone_eq, mSome_eq, someO_i, dSl_t, dSl_l, mFor_eq, mItems_eq, itemsO_l, itemsO_t, itemsO_f, mRgI1_eq, mRgI2_eq, outR_nx, outR_rt, outR_er, run1, run2, run3, run4, forGo_nil, forGo_cons, forO_nx, forO_ct, forO_bk, forO_rt, forO_er, gD_eq, mMut_eq, mutO_l, subO_eq, ownD_z, ownD_s, dSet_l, List.set_cons_zero, List.set_cons_succ, List.getElem?_cons_zero, List.getElem?_cons_succ, List.replicate_succ, List.replicate_zero, Nat.reduceSub, Nat.reduceAdd, List.length_cons, List.length_nil, Option.bind_some, Option.map_some, Bool.false_eq_true, if_true, if_false, reduceIte, Bool.and_true, Bool.true_and, Bool.and_false, Bool.false_and, Bool.or_true, Bool.true_or, Bool.or_false, Bool.false_or, Bool.not_true, Bool.not_false, DL.isNon, isSub, reduceCtorEq, decide_true, decide_false, clrO, Bool.or_self, Bool.and_self, Nat.reduceLT, Int.reduceLT, Int.reduceLE, Int.reduceAdd, Int.reduceSub, Int.reduceNeg, Int.reduceMul, Int.reduceEq, Int.cast_ofNat_Int, gk0, gk1, gk2, gk3, gk4, gk5, gk6, gk7, gk8, gk9, gk10, gk11, gk12, mMeth_eq, methO_ok, mRgI3_eq, mFrz_eq, frzO_s, mAug_eq, augO_s, dAddA_i, dTupX_l, dTupX_t, rowD_t, rowD_f, dList_f, dTupX_f, dRev_f, wipeR]
  have d2 : mLc (mItems (mVar 0)) [4] (gD 4) mYes (mBin dIx (mVar 2) (mVar 4)) [some (.tup (a.map D.int), false), some (.tup (b.map D.int), false), some (.dK (plcs b 0), true), none, none] = some (.ok (.lst ((relP a b).map D.int))) := by
    rw [lc_is (fun d => match d with | .int x => .int (((b.idxOf x : Nat) : Int) + 1) | d => d) (ds := a.map D.int) rfl rfl (by simp; omega) ?_]
    · unfold relP
      rw [List.map_map, List.map_map]
      rfl
    · intro d hd
      obtain ⟨x, hx, rfl⟩ := List.mem_map.mp hd
      have hm : x ∈ b := by
        rw [goodR_mem hb]
        have h := (goodR_mem ha).mp hx
        omega
      have h := plcs_at b 0 x hm
      rw [Nat.zero_add] at h
      refine ⟨_, rfl, ?_⟩
      simp only [bnd_ok, bnd_er, sE_ok, sE_er, mSeq_eq, seqO_nx, seqO_rt, seqO_er, seqO_bk, seqO_ct, mIf_eq, ifO_ok, ifO_er, mVar_z, mVar_s, mVarD_z, mVarD_s, mC_eq, mBin_eq, mUn_eq, mCB_eq, mNil_eq, mCons_eq, mSet_eq, mRet_eq, mSkip_eq, mBrk_eq, mCnt_eq, mRaise_eq, mRetN_eq, mDrop_eq, mTst_eq, tstO_bl, tstO_er, mAndT_eq, andT_ok, andT_f, andT_t, andT_er, mOrT_eq, orT_ok, orT_f, orT_t, orT_er, mNotT_eq, mAnd_eq, andD_ok, andD_f, andD_t, andD_er, mOr_eq, orD_ok, orD_f, orD_t, orD_er, dNot_bl, dAdd_i, dSub_i, dNeg_i, dCmp_i, dInt_i, dInt_b, dAbs_i, dMax_i, dMin_i, dLen_l, dLen_t, dLen_f, dList_l, dList_t, dTuple_l, dTuple_t, dRev_l, dRev_t, dIx_l, dIx_t, dIx_f, dIsN_n, dNotN_n, mTup_eq, mLst_eq, mSl_eq, mNone_eq, mSome_eq, someO_i, dSl_t, dSl_l, mFor_eq, mItems_eq, itemsO_l, itemsO_t, itemsO_f, mRgI1_eq, mRgI2_eq, outR_nx, outR_rt, outR_er, run1, run2, run3, run4, forGo_nil, forGo_cons, forO_nx, forO_ct, forO_bk, forO_rt, forO_er, gD_eq, mMut_eq, mutO_l, subO_eq, ownD_z, ownD_s, dSet_l, List.set_cons_zero, List.set_cons_succ, List.getElem?_cons_zero, List.getElem?_cons_succ, List.replicate_succ, List.replicate_zero, Nat.reduceSub, Nat.reduceAdd, List.length_cons, List.length_nil, Option.bind_some, Option.map_some, Bool.false_eq_true, if_true, if_false, reduceIte, Bool.and_true, Bool.true_and, Bool.and_false, Bool.false_and, Bool.or_true, Bool.true_or, Bool.or_false, Bool.false_or, Bool.not_true, Bool.not_false, DL.isNon, isSub, reduceCtorEq, decide_true, decide_false, clrO, Bool.or_self, Bool.and_self, Nat.reduceLT, Int.reduceLT, Int.reduceLE, Int.reduceAdd, Int.reduceSub, Int.reduceNeg, Int.reduceMul, Int.reduceEq, Int.cast_ofNat_Int, gk0, gk1, gk2, gk3, gk4, gk5, gk6, gk7, gk8, gk9, gk10, gk11, gk12, mMeth_eq, methO_ok, mRgI3_eq, mFrz_eq, frzO_s, mAug_eq, augO_s, dAddA_i, dTupX_l, dTupX_t, rowD_t, rowD_f, dList_f, dTupX_f, dRev_f, wipeR]
      show ((some (Sum.inl x : Key)).bind (lkD (plcs b 0))).map Except.ok = _
      rw [Option.bind_some, h]
      rfl
  unfold m_relative_row b_relative_row
  simp only [bnd_ok, bnd_er, sE_ok, sE_er, mSeq_eq, seqO_nx, seqO_rt, seqO_er, seqO_bk, seqO_ct, mIf_eq, ifO_ok, ifO_er, mVar_z, mVar_s, mVarD_z, mVarD_s, mC_eq, mBin_eq, mUn_eq, mCB_eq, mNil_eq, mCons_eq, mSet_eq, mRet_eq, mSkip_eq, mBrk_eq, mCnt_eq, mRaise_eq, mRetN_eq, mDrop_eq, mTst_eq, tstO_bl, tstO_er, mAndT_eq, andT_ok, andT_f, andT_t, andT_er, mOrT_eq, orT_ok, orT_f, orT_t, orT_er, mNotT_eq, mAnd_eq, andD_ok, andD_f, andD_t, andD_er, mOr_eq, orD_ok, orD_f, orD_t, orD_er, dNot_bl, dAdd_i, dSub_i, dNeg_i, dCmp_i, dInt_i, dInt_b, dAbs_i, dMax_i, dMin_i, dLen_l, dLen_t, dLen_f, dList_l, dList_t, dTuple_l, dTuple_t, dRev_l, dRev_t, dIx_l, dIx_t, dIx_f, dIsN_n, dNotN_n, mTup_eq, mLst_eq, mSl_eq, mNone_eq, mSome_eq, someO_i, dSl_t, dSl_l, mFor_eq, mItems_eq, itemsO_l, itemsO_t, itemsO_f, mRgI1_eq, mRgI2_eq, outR_nx, outR_rt, outR_er, run1, run2, run3, run4, forGo_nil, forGo_cons, forO_nx, forO_ct, forO_bk, forO_rt, forO_er, gD_eq, mMut_eq, mutO_l, subO_eq, ownD_z, ownD_s, dSet_l, List.set_cons_zero, List.set_cons_succ, List.getElem?_cons_zero, List.getElem?_cons_succ, List.replicate_succ, List.replicate_zero, Nat.reduceSub, Nat.reduceAdd, List.length_cons, List.length_nil, Option.bind_some, Option.map_some, Bool.false_eq_true, if_true, if_false, reduceIte, Bool.and_true, Bool.true_and, Bool.and_false, Bool.false_and, Bool.or_true, Bool.true_or, Bool.or_false, Bool.false_or, Bool.not_true, Bool.not_false, DL.isNon, isSub, reduceCtorEq, decide_true, decide_false, clrO, Bool.or_self, Bool.and_self, Nat.reduceLT, Int.reduceLT, Int.reduceLE, Int.reduceAdd, Int.reduceSub, Int.reduceNeg, Int.reduceMul, Int.reduceEq, Int.cast_ofNat_Int, gk0, gk1, gk2, gk3, gk4, gk5, gk6, gk7, gk8, gk9, gk10, gk11, gk12, mMeth_eq, methO_ok, mRgI3_eq, mFrz_eq, frzO_s, mAug_eq, augO_s, dAddA_i, dTupX_l, dTupX_t, rowD_t, rowD_f, dList_f, dTupX_f, dRev_f, checkR_good a ha, checkR_good b hb, n1, d1, d2, dTupX_l]
end Lw

set_option Elab.async false
set_option linter.all false
set_option maxRecDepth 100000
set_option maxHeartbeats 1000000
set_option autoImplicit false
namespace Lw
open PySem L2 DL
/-! ### rings_of -/
theorem rgs_inner (f : Int → Int) (S : List Int) (hS : S.length ≤ 60) (into : ∀ x ∈ S, f x ∈ S) (inj : ∀ x ∈ S, ∀ y ∈ S, f x = f y → x = y) (s1 : Option (D × Bool)) (old : List Int) (on : old.Nodup) (os : ∀ x ∈ old, x ∈ S) (oc : ∀ x ∈ S, f x ∈ old → x ∈ old) (a : Int) (ha : a ∈ S) (hn : a ∉ old) :
    ∃ m, 0 < m ∧ IsRing f (orb f a m) ∧ (old ++ orb f a m).Nodup ∧ (∀ x ∈ orb f a m, x ∈ S) ∧
      mWhile bigN (mTst (mBin dNotIn (mVar 5) (mVar 2))) lb_rings_of_2 [some (.dK (mapD f S), false), s1, some (.dK (seenD old), true), some (.int a, false), some (.lst [], true), some (.int a, false)] = some (.nx [some (.dK (mapD f S), false), s1, some (.dK (seenD (old ++ orb f a m)), true), some (.int a, false), some (.lst ((orb f a m).map D.int), true), some (.int (itf f a m), false)]) := by
  have inS : ∀ k, itf f a k ∈ S := fun k => by
    induction k with
    | zero => exact ha
    | succ k ih => exact into _ ih
  have bound : ∀ m, (old ++ orb f a m).Nodup → old.length + m ≤ S.length := fun m nd => by
    have := List.Nodup.length_le_of_subset nd (l₂ := S) fun x hx => by
      rcases List.mem_append.mp hx with h | h
      · exact os x h
      · obtain ⟨k, _, rfl⟩ := orb_mem h
        exact inS k
    rwa [List.length_append, orb_len] at this
  obtain ⟨ρ', m', e, ⟨m, em, er, nd⟩, ft⟩ := while_inv (t := mTst (mBin dNotIn (mVar 5) (mVar 2))) (s := lb_rings_of_2) (fun k ρ => ∃ m, k = S.length - m ∧ ρ = [some (.dK (mapD f S), false), s1, some (.dK (seenD (old ++ orb f a m)), true), some (.int a, false), some (.lst ((orb f a m).map D.int), true), some (.int (itf f a m), false)] ∧ (old ++ orb f a m).Nodup) bigN S.length
    [some (.dK (mapD f S), false), s1, some (.dK (seenD old), true), some (.int a, false), some (.lst [], true), some (.int a, false)] (Nat.lt_of_le_of_lt hS (by decide)) ⟨0, rfl, by rw [show old ++ orb f a 0 = old from List.append_nil _]; rfl, by rw [show old ++ orb f a 0 = old from List.append_nil _]; exact on⟩ (fun k ρ ⟨m, ek, er, nd⟩ => by
      subst er
      have bd := bound m nd
      by_cases h : itf f a m ∈ old ++ orb f a m
      · refine .inl ?_
        simp only [bnd_ok, bnd_er, sE_ok, sE_er, mSeq_eq, seqO_nx, seqO_rt, seqO_er, seqO_bk, seqO_ct, mIf_eq, ifO_ok, ifO_er, mVar_z, mVar_s, mVarD_z, mVarD_s, mC_eq, mBin_eq, mUn_eq, mCB_eq, mNil_eq, mCons_eq, mSet_eq, mRet_eq, mSkip_eq, mBrk_eq, mCnt_eq, mRaise_eq, mRetN_eq, mDrop_eq, mTst_eq, tstO_bl, tstO_er, mAndT_eq, andT_ok, andT_f, andT_t, andT_er, mOrT_eq, orT_ok, orT_f, orT_t, orT_er, mNotT_eq, mAnd_eq, andD_ok, andD_f, andD_t, andD_er, mOr_eq, orD_ok, orD_f, orD_t, orD_er, dNot_bl, dAdd_i, dSub_i, dNeg_i, dCmp_i, dInt_i, dInt_b, dAbs_i, dMax_i, dMin_i, dLen_l, dLen_t, dLen_f, dList_l, dList_t, dTuple_l, dTuple_t, dRev_l, dRev_t, dIx_l, dIx_t, dIx_f, dIsN_n, dNotN_n, mTup_eq, mLst_eq, mSl_eq, mNone_eq, mSome_eq, someO_i, dSl_t, dSl_l, mFor_eq, mItems_eq, itemsO_l, itemsO_t, itemsO_f, mRgI1_eq, mRgI2_eq, outR_nx, outR_rt, outR_er, run1, run2, run3, run4, forGo_nil, forGo_cons, forO_nx, forO_ct, forO_bk, forO_rt, forO_er, gD_eq, mMut_eq, mutO_l, subO_eq, ownD_z, ownD_s, dSet_l, List.set_cons_zero, List.set_cons_succ, List.getElem?_cons_zero, List.getElem?_cons_succ, List.replicate_succ, List.replicate_zero, Nat.reduceSub, Nat.reduceAdd, List.length_cons, List.length_nil, Option.bind_some, Option.map_some, Bool.false_eq_true, if_true, if_false, reduceIte, Bool.and_true, Bool.true_and, Bool.and_false, Bool.false_and, Bool.or_true, Bool.true_or, Bool.or_false, Bool.false_or, Bool.not_true, Bool.not_false, DL.isNon, isSub, reduceCtorEq, decide_true, decide_false, clrO, Bool.or_self, Bool.and_self, Nat.reduceLT, Int.reduceLT, Int.reduceLE, Int.reduceAdd, Int.reduceSub, Int.reduceNeg, Int.reduceMul, Int.reduceEq, Int.cast_ofNat_Int, gk0, gk1, gk2, gk3, gk4, gk5, gk6, gk7, gk8, gk9, gk10, gk11, gk12, mMeth_eq, methO_ok, mRgI3_eq, mFrz_eq, frzO_s, mAug_eq, augO_s, dAddA_i, dTupX_l, dTupX_t, rowD_t, rowD_f, dList_f, dTupX_f, dRev_f, seen_notIn, decide_eq_true h]
      · refine .inr ⟨by simp only [bnd_ok, bnd_er, sE_ok, sE_er, mSeq_eq, seqO_nx, seqO_rt, seqO_er, seqO_bk, seqO_ct, mIf_eq, ifO_ok, ifO_er, mVar_z, mVar_s, mVarD_z, mVarD_s, mC_eq, mBin_eq, mUn_eq, mCB_eq, mNil_eq, mCons_eq, mSet_eq, mRet_eq, mSkip_eq, mBrk_eq, mCnt_eq, mRaise_eq, mRetN_eq, mDrop_eq, mTst_eq, tstO_bl, tstO_er, mAndT_eq, andT_ok, andT_f, andT_t, andT_er, mOrT_eq, orT_ok, orT_f, orT_t, orT_er, mNotT_eq, mAnd_eq, andD_ok, andD_f, andD_t, andD_er, mOr_eq, orD_ok, orD_f, orD_t, orD_er, dNot_bl, dAdd_i, dSub_i, dNeg_i, dCmp_i, dInt_i, dInt_b, dAbs_i, dMax_i, dMin_i, dLen_l, dLen_t, dLen_f, dList_l, dList_t, dTuple_l, dTuple_t, dRev_l, dRev_t, dIx_l, dIx_t, dIx_f, dIsN_n, dNotN_n, mTup_eq, mLst_eq, mSl_eq, mNone_eq, mSome_eq, someO_i, dSl_t, dSl_l, mFor_eq, mItems_eq, itemsO_l, itemsO_t, itemsO_f, mRgI1_eq, mRgI2_eq, outR_nx, outR_rt, outR_er, run1, run2, run3, run4, forGo_nil, forGo_cons, forO_nx, forO_ct, forO_bk, forO_rt, forO_er, gD_eq, mMut_eq, mutO_l, subO_eq, ownD_z, ownD_s, dSet_l, List.set_cons_zero, List.set_cons_succ, List.getElem?_cons_zero, List.getElem?_cons_succ, List.replicate_succ, List.replicate_zero, Nat.reduceSub, Nat.reduceAdd, List.length_cons, List.length_nil, Option.bind_some, Option.map_some, Bool.false_eq_true, if_true, if_false, reduceIte, Bool.and_true, Bool.true_and, Bool.and_false, Bool.false_and, Bool.or_true, Bool.true_or, Bool.or_false, Bool.false_or, Bool.not_true, Bool.not_false, DL.isNon, isSub, reduceCtorEq, decide_true, decide_false, clrO, Bool.or_self, Bool.and_self, Nat.reduceLT, Int.reduceLT, Int.reduceLE, Int.reduceAdd, Int.reduceSub, Int.reduceNeg, Int.reduceMul, Int.reduceEq, Int.cast_ofNat_Int, gk0, gk1, gk2, gk3, gk4, gk5, gk6, gk7, gk8, gk9, gk10, gk11, gk12, mMeth_eq, methO_ok, mRgI3_eq, mFrz_eq, frzO_s, mAug_eq, augO_s, dAddA_i, dTupX_l, dTupX_t, rowD_t, rowD_f, dList_f, dTupX_f, dRev_f, seen_notIn, decide_eq_false h], _, S.length - (m + 1), .inl ?_, ⟨m + 1, rfl, rfl, ?_⟩, ?_⟩
        · have e1 := seen_put (old ++ orb f a m) (itf f a m) h (by rw [List.length_append, orb_len]; omega)
          have e2 : dIx (.dK (mapD f S)) (.int (itf f a m)) = _ := mapD_at f S _ (inS m)
          simp only [bnd_ok, bnd_er, sE_ok, sE_er, mSeq_eq, seqO_nx, seqO_rt, seqO_er, seqO_bk, seqO_ct, mIf_eq, ifO_ok, ifO_er, mVar_z, mVar_s, mVarD_z, mVarD_s, mC_eq, mBin_eq, mUn_eq, mCB_eq, mNil_eq, mCons_eq, mSet_eq, mRet_eq, mSkip_eq, mBrk_eq, mCnt_eq, mRaise_eq, mRetN_eq, mDrop_eq, mTst_eq, tstO_bl, tstO_er, mAndT_eq, andT_ok, andT_f, andT_t, andT_er, mOrT_eq, orT_ok, orT_f, orT_t, orT_er, mNotT_eq, mAnd_eq, andD_ok, andD_f, andD_t, andD_er, mOr_eq, orD_ok, orD_f, orD_t, orD_er, dNot_bl, dAdd_i, dSub_i, dNeg_i, dCmp_i, dInt_i, dInt_b, dAbs_i, dMax_i, dMin_i, dLen_l, dLen_t, dLen_f, dList_l, dList_t, dTuple_l, dTuple_t, dRev_l, dRev_t, dIx_l, dIx_t, dIx_f, dIsN_n, dNotN_n, mTup_eq, mLst_eq, mSl_eq, mNone_eq, mSome_eq, someO_i, dSl_t, dSl_l, mFor_eq, mItems_eq, itemsO_l, itemsO_t, itemsO_f, mRgI1_eq, mRgI2_eq, outR_nx, outR_rt, outR_er, run1, run2, run3, run4, forGo_nil, forGo_cons, forO_nx, forO_ct, forO_bk, forO_rt, forO_er, gD_eq, mMut_eq, mutO_l, subO_eq, ownD_z, ownD_s, dSet_l, List.set_cons_zero, List.set_cons_succ, List.getElem?_cons_zero, List.getElem?_cons_succ, List.replicate_succ, List.replicate_zero, Nat.reduceSub, Nat.reduceAdd, List.length_cons, List.length_nil, Option.bind_some, Option.map_some, Bool.false_eq_true, if_true, if_false, reduceIte, Bool.and_true, Bool.true_and, Bool.and_false, Bool.false_and, Bool.or_true, Bool.true_or, Bool.or_false, Bool.false_or, Bool.not_true, Bool.not_false, DL.isNon, isSub, reduceCtorEq, decide_true, decide_false, clrO, Bool.or_self, Bool.and_self, Nat.reduceLT, Int.reduceLT, Int.reduceLE, Int.reduceAdd, Int.reduceSub, Int.reduceNeg, Int.reduceMul, Int.reduceEq, Int.cast_ofNat_Int, gk0, gk1, gk2, gk3, gk4, gk5, gk6, gk7, gk8, gk9, gk10, gk11, gk12, mMeth_eq, methO_ok, mRgI3_eq, mFrz_eq, frzO_s, mAug_eq, augO_s, dAddA_i, dTupX_l, dTupX_t, rowD_t, rowD_f, dList_f, dTupX_f, dRev_f, lb_rings_of_2, e1, e2, fApp_1 ((orb f a m).map D.int) _ (show _ < 1000000 by rw [List.length_map, orb_len]; omega)]
          rw [List.append_assoc, orb_snoc, ← orb_snoc f m a, List.map_append]
          rfl
        · rw [← orb_snoc, ← List.append_assoc]
          refine List.nodup_append.mpr ⟨nd, by simp, fun x hx y hy => ?_⟩
          rw [List.mem_singleton] at hy
          subst hy
          exact fun z => h (z ▸ hx)
        · have nd2 : (old ++ orb f a (m + 1)).Nodup := by
            rw [← orb_snoc, ← List.append_assoc]
            refine List.nodup_append.mpr ⟨nd, by simp, fun x hx y hy => ?_⟩
            rw [List.mem_singleton] at hy
            subst hy
            exact fun z => h (z ▸ hx)
          have := bound (m + 1) nd2
          omega)
  subst er
  have hin : itf f a m ∈ old ++ orb f a m := by
    refine Classical.byContradiction fun h => ?_
    simp only [bnd_ok, bnd_er, sE_ok, sE_er, mSeq_eq, seqO_nx, seqO_rt, seqO_er, seqO_bk, seqO_ct, mIf_eq, ifO_ok, ifO_er, mVar_z, mVar_s, mVarD_z, mVarD_s, mC_eq, mBin_eq, mUn_eq, mCB_eq, mNil_eq, mCons_eq, mSet_eq, mRet_eq, mSkip_eq, mBrk_eq, mCnt_eq, mRaise_eq, mRetN_eq, mDrop_eq, mTst_eq, tstO_bl, tstO_er, mAndT_eq, andT_ok, andT_f, andT_t, andT_er, mOrT_eq, orT_ok, orT_f, orT_t, orT_er, mNotT_eq, mAnd_eq, andD_ok, andD_f, andD_t, andD_er, mOr_eq, orD_ok, orD_f, orD_t, orD_er, dNot_bl, dAdd_i, dSub_i, dNeg_i, dCmp_i, dInt_i, dInt_b, dAbs_i, dMax_i, dMin_i, dLen_l, dLen_t, dLen_f, dList_l, dList_t, dTuple_l, dTuple_t, dRev_l, dRev_t, dIx_l, dIx_t, dIx_f, dIsN_n, dNotN_n, mTup_eq, mLst_eq, mSl_eq, mNone_eq, mSome_eq, someO_i, dSl_t, dSl_l, mFor_eq, mItems_eq, itemsO_l, itemsO_t, itemsO_f, mRgI1_eq, mRgI2_eq, outR_nx, outR_rt, outR_er, run1, run2, run3, run4, forGo_nil, forGo_cons, forO_nx, forO_ct, forO_bk, forO_rt, forO_er, gD_eq, mMut_eq, mutO_l, subO_eq, ownD_z, ownD_s, dSet_l, List.set_cons_zero, List.set_cons_succ, List.getElem?_cons_zero, List.getElem?_cons_succ, List.replicate_succ, List.replicate_zero, Nat.reduceSub, Nat.reduceAdd, List.length_cons, List.length_nil, Option.bind_some, Option.map_some, Bool.false_eq_true, if_true, if_false, reduceIte, Bool.and_true, Bool.true_and, Bool.and_false, Bool.false_and, Bool.or_true, Bool.true_or, Bool.or_false, Bool.false_or, Bool.not_true, Bool.not_false, DL.isNon, isSub, reduceCtorEq, decide_true, decide_false, clrO, Bool.or_self, Bool.and_self, Nat.reduceLT, Int.reduceLT, Int.reduceLE, Int.reduceAdd, Int.reduceSub, Int.reduceNeg, Int.reduceMul, Int.reduceEq, Int.cast_ofNat_Int, gk0, gk1, gk2, gk3, gk4, gk5, gk6, gk7, gk8, gk9, gk10, gk11, gk12, mMeth_eq, methO_ok, mRgI3_eq, mFrz_eq, frzO_s, mAug_eq, augO_s, dAddA_i, dTupX_l, dTupX_t, rowD_t, rowD_f, dList_f, dTupX_f, dRev_f, seen_notIn, decide_eq_false h] at ft
    cases ft
  have nd' := List.nodup_append.mp nd
  have no : ∀ k, k ≤ m → itf f a k ∉ old := fun k => by
    induction k with
    | zero => exact fun _ => hn
    | succ k ih => exact fun hk z => ih (by omega) (oc _ (inS k) z)
  have m0 : 0 < m := by
    cases m with
    | zero =>
      rcases List.mem_append.mp hin with z | z
      · exact absurd z hn
      · cases z
    | succ m => omega
  have hin2 : itf f a m ∈ orb f a m := by
    rcases List.mem_append.mp hin with z | z
    · exact absurd z (no m (Nat.le_refl _))
    · exact z
  refine ⟨m, m0, orb_ring into inj m0 ha nd'.2.1 hin2, nd, fun x hx => ?_, e⟩
  obtain ⟨k, _, rfl⟩ := orb_mem hx
  exact inS k
def tupsD (R : List (List Int)) : List D := R.map fun c => .tup (c.map D.int)
theorem tupsD_len (R : List (List Int)) : (tupsD R).length = R.length := by unfold tupsD; simp
theorem rings_of_ok (f : Int → Int) (S : List Int) (hS : S.length ≤ 60) (nS : S.Nodup) (into : ∀ x ∈ S, f x ∈ S) (inj : ∀ x ∈ S, ∀ y ∈ S, f x = f y → x = y) :
    ∃ R, m_rings_of [.dK (mapD f S)] = some (.ok (.tup (tupsD R))) ∧ Rings f S R := by
  have so := isort_sorted S
  have sp := isort_perm S
  have sn : (isort S).Nodup := sp.nodup_iff.mpr nS
  obtain ⟨ρ', e, R, old, s3, s4, s5, er, h1, h2, h3, h4, h5⟩ := for_inv (body := lb_rings_of_1) (v := 3) (fun k ρ => ∃ (R : List (List Int)) (old : List Int) (s3 s4 s5 : Option (D × Bool)), ρ = [some (.dK (mapD f S), false), some (.lst (tupsD R), true), some (.dK (seenD old), true), s3, s4, s5] ∧ R.flatten = old ∧ old.Nodup ∧ (∀ c ∈ R, IsRing f c ∧ (∀ x ∈ c, x ∈ S ∧ c.getD 0 0 ≤ x) ∧ c.getD 0 0 ∈ (isort S).take k) ∧ (R.Pairwise fun c d => c.getD 0 0 < d.getD 0 0) ∧ (∀ x ∈ (isort S).take k, x ∈ old)) ((isort S).map D.int) 0 (fun k x ρ ex ⟨R, old, s3, s4, s5, er, h1, h2, h3, h4, h5⟩ => by
    subst er
    rw [Nat.zero_add] at h3 h5 ⊢
    obtain ⟨hk, ex⟩ := List.getElem?_eq_some_iff.mp ex
    rw [List.length_map] at hk
    rw [List.getElem_map] at ex
    subst ex
    obtain ⟨a, ea⟩ : ∃ a, (isort S)[k] = a := ⟨_, rfl⟩
    rw [ea]
    have ha : a ∈ S := sp.mem_iff.mp (ea ▸ List.getElem_mem hk)
    have tk : (isort S).take (k + 1) = (isort S).take k ++ [a] := by rw [List.take_succ, List.getElem?_eq_getElem hk, ea]; rfl
    have os : ∀ x ∈ old, x ∈ S := fun x hx => by
      rw [← h1] at hx
      obtain ⟨c, hc, hx⟩ := List.mem_flatten.mp hx
      exact ((h3 c hc).2.1 x hx).1
    have oc : ∀ x ∈ S, f x ∈ old → x ∈ old := fun x hx hf => by
      rw [← h1] at hf ⊢
      obtain ⟨c, hc, hf⟩ := List.mem_flatten.mp hf
      obtain ⟨z, hz, e⟩ := (h3 c hc).1.into hf
      have := inj z ((h3 c hc).2.1 z hz).1 x hx e
      subst this
      exact List.mem_flatten.mpr ⟨c, hc, hz⟩
    have lR : R.length ≤ 60 := by
      have nn : R.length ≤ R.flatten.length := by
        have : ∀ (Q : List (List Int)), (∀ c ∈ Q, c ≠ []) → Q.length ≤ Q.flatten.length := by
          intro Q
          induction Q with
          | nil => simp
          | cons c Q ih =>
            intro hq
            have := ih fun d hd => hq d (List.mem_cons_of_mem _ hd)
            have := List.length_pos_iff.mpr (hq c List.mem_cons_self)
            simp only [List.length_cons, List.flatten_cons, List.length_append]
            omega
        exact this R fun c hc => (h3 c hc).1.ne
      have := List.Nodup.length_le_of_subset h2 os
      rw [h1] at nn
      omega
    by_cases hn : a ∈ old
    · refine ⟨[some (.dK (mapD f S), false), some (.lst (tupsD R), true), some (.dK (seenD old), true), some (.int a, false), some (.lst [], true), some (.int a, false)], .inl ?_, R, old, _, _, _, rfl, h1, h2, fun c hc => ?_, h4, fun x hx => ?_⟩
      · have wh : mWhile bigN (mTst (mBin dNotIn (mVar 5) (mVar 2))) lb_rings_of_2 [some (.dK (mapD f S), false), some (.lst (tupsD R), true), some (.dK (seenD old), true), some (.int a, false), some (.lst [], true), some (.int a, false)] = some (.nx [some (.dK (mapD f S), false), some (.lst (tupsD R), true), some (.dK (seenD old), true), some (.int a, false), some (.lst [], true), some (.int a, false)]) := by
          obtain ⟨ρ1, m1, e1, i1, _⟩ := while_inv (t := mTst (mBin dNotIn (mVar 5) (mVar 2))) (s := lb_rings_of_2) (fun _ ρ => ρ = [some (.dK (mapD f S), false), some (.lst (tupsD R), true), some (.dK (seenD old), true), some (.int a, false), some (.lst [], true), some (.int a, false)]) bigN 0 _ (by decide) rfl (fun m ρ e => .inl (by
            subst e
            simp only [bnd_ok, bnd_er, sE_ok, sE_er, mSeq_eq, seqO_nx, seqO_rt, seqO_er, seqO_bk, seqO_ct, mIf_eq, ifO_ok, ifO_er, mVar_z, mVar_s, mVarD_z, mVarD_s, mC_eq, mBin_eq, mUn_eq, mCB_eq, mNil_eq, mCons_eq, mSet_eq, mRet_eq, mSkip_eq, mBrk_eq, mCnt_eq, mRaise_eq, mRetN_eq, mDrop_eq, mTst_eq, tstO_bl, tstO_er, mAndT_eq, andT_ok, andT_f, andT_t, andT_er, mOrT_eq, orT_ok, orT_f, orT_t, orT_er, mNotT_eq, mAnd_eq, andD_ok, andD_f, andD_t, andD_er, mOr_eq, orD_ok, orD_f, orD_t, orD_er, dNot_bl, dAdd_i, dSub_i, dNeg_i, dCmp_i, dInt_i, dInt_b, dAbs_i, dMax_i, dMin_i, dLen_l, dLen_t, dLen_f, dList_l, dList_t, dTuple_l, dTuple_t, dRev_l, dRev_t, dIx_l, dIx_t, dIx_f, dIsN_n, dNotN_n, mTup_eq, mLst_eq, mSl_eq, mNone_eq, mSome_eq, someO_i, dSl_t, dSl_l, mFor_eq, mItems_eq, itemsO_l, itemsO_t, itemsO_f, mRgI1_eq, mRgI2_eq, outR_nx, outR_rt, outR_er, run1, run2, run3, run4, forGo_nil, forGo_cons, forO_nx, forO_ct, forO_bk, forO_rt, forO_er, gD_eq, mMut_eq, mutO_l, subO_eq, ownD_z, ownD_s, dSet_l, List.set_cons_zero, List.set_cons_succ, List.getElem?_cons_zero, List.getElem?_cons_succ, List.replicate_succ, List.replicate_zero, Nat.reduceSub, Nat.reduceAdd, List.length_cons, List.length_nil, Option.bind_some, Option.map_some, Bool.false_eq_true, if_true, if_false, reduceIte, Bool.and_true, Bool.true_and, Bool.and_false, Bool.false_and, Bool.or_true, Bool.true_or, Bool.or_false, Bool.false_or, Bool.not_true, Bool.not_false, DL.isNon, isSub, reduceCtorEq, decide_true, decide_false, clrO, Bool.or_self, Bool.and_self, Nat.reduceLT, Int.reduceLT, Int.reduceLE, Int.reduceAdd, Int.reduceSub, Int.reduceNeg, Int.reduceMul, Int.reduceEq, Int.cast_ofNat_Int, gk0, gk1, gk2, gk3, gk4, gk5, gk6, gk7, gk8, gk9, gk10, gk11, gk12, mMeth_eq, methO_ok, mRgI3_eq, mFrz_eq, frzO_s, mAug_eq, augO_s, dAddA_i, dTupX_l, dTupX_t, rowD_t, rowD_f, dList_f, dTupX_f, dRev_f, seen_notIn, decide_eq_true hn]))
          subst i1
          exact e1
        have n0 : dNe (.lst []) (.lst []) = some (.ok (.bl false)) := dNe_l [] []
        simp only [bnd_ok, bnd_er, sE_ok, sE_er, mSeq_eq, seqO_nx, seqO_rt, seqO_er, seqO_bk, seqO_ct, mIf_eq, ifO_ok, ifO_er, mVar_z, mVar_s, mVarD_z, mVarD_s, mC_eq, mBin_eq, mUn_eq, mCB_eq, mNil_eq, mCons_eq, mSet_eq, mRet_eq, mSkip_eq, mBrk_eq, mCnt_eq, mRaise_eq, mRetN_eq, mDrop_eq, mTst_eq, tstO_bl, tstO_er, mAndT_eq, andT_ok, andT_f, andT_t, andT_er, mOrT_eq, orT_ok, orT_f, orT_t, orT_er, mNotT_eq, mAnd_eq, andD_ok, andD_f, andD_t, andD_er, mOr_eq, orD_ok, orD_f, orD_t, orD_er, dNot_bl, dAdd_i, dSub_i, dNeg_i, dCmp_i, dInt_i, dInt_b, dAbs_i, dMax_i, dMin_i, dLen_l, dLen_t, dLen_f, dList_l, dList_t, dTuple_l, dTuple_t, dRev_l, dRev_t, dIx_l, dIx_t, dIx_f, dIsN_n, dNotN_n, mTup_eq, mLst_eq, mSl_eq, mNone_eq, mSome_eq, someO_i, dSl_t, dSl_l, mFor_eq, mItems_eq, itemsO_l, itemsO_t, itemsO_f, mRgI1_eq, mRgI2_eq, outR_nx, outR_rt, outR_er, run1, run2, run3, run4, forGo_nil, forGo_cons, forO_nx, forO_ct, forO_bk, forO_rt, forO_er, gD_eq, mMut_eq, mutO_l, subO_eq, ownD_z, ownD_s, dSet_l, List.set_cons_zero, List.set_cons_succ, List.getElem?_cons_zero, List.getElem?_cons_succ, List.replicate_succ, List.replicate_zero, Nat.reduceSub, Nat.reduceAdd, List.length_cons, List.length_nil, Option.bind_some, Option.map_some, Bool.false_eq_true, if_true, if_false, reduceIte, Bool.and_true, Bool.true_and, Bool.and_false, Bool.false_and, Bool.or_true, Bool.true_or, Bool.or_false, Bool.false_or, Bool.not_true, Bool.not_false, DL.isNon, isSub, reduceCtorEq, decide_true, decide_false, clrO, Bool.or_self, Bool.and_self, Nat.reduceLT, Int.reduceLT, Int.reduceLE, Int.reduceAdd, Int.reduceSub, Int.reduceNeg, Int.reduceMul, Int.reduceEq, Int.cast_ofNat_Int, gk0, gk1, gk2, gk3, gk4, gk5, gk6, gk7, gk8, gk9, gk10, gk11, gk12, mMeth_eq, methO_ok, mRgI3_eq, mFrz_eq, frzO_s, mAug_eq, augO_s, dAddA_i, dTupX_l, dTupX_t, rowD_t, rowD_f, dList_f, dTupX_f, dRev_f, lb_rings_of_1, wh, n0]
      · obtain ⟨g1, g2, g3⟩ := h3 c hc
        exact ⟨g1, g2, by rw [tk]; exact List.mem_append_left _ g3⟩
      · rw [tk] at hx
        rcases List.mem_append.mp hx with z | z
        · exact h5 x z
        · rw [List.mem_singleton] at z
          rw [z]
          exact hn
    · obtain ⟨m, m0, ir, nd, hm, ew⟩ := rgs_inner f S hS into inj (some (.lst (tupsD R), true)) old h2 os oc a ha hn
      have h0 : (orb f a m).getD 0 0 = a := orb_at f m a 0 m0
      refine ⟨[some (.dK (mapD f S), false), some (.lst (tupsD (R ++ [orb f a m])), true), some (.dK (seenD (old ++ orb f a m)), true), some (.int a, false), some (.lst ((orb f a m).map D.int), true), some (.int (itf f a m), false)], .inl ?_, R ++ [orb f a m], old ++ orb f a m, _, _, _, rfl, by rw [List.flatten_append, h1]; simp, nd, fun c hc => ?_, ?_, fun x hx => ?_⟩
      · have n1 : dNe (.lst ((orb f a m).map D.int)) (.lst []) = some (.ok (.bl true)) := by
          have := dNe_l (orb f a m) []
          rw [decide_eq_false ir.ne] at this
          exact this
        simp only [bnd_ok, bnd_er, sE_ok, sE_er, mSeq_eq, seqO_nx, seqO_rt, seqO_er, seqO_bk, seqO_ct, mIf_eq, ifO_ok, ifO_er, mVar_z, mVar_s, mVarD_z, mVarD_s, mC_eq, mBin_eq, mUn_eq, mCB_eq, mNil_eq, mCons_eq, mSet_eq, mRet_eq, mSkip_eq, mBrk_eq, mCnt_eq, mRaise_eq, mRetN_eq, mDrop_eq, mTst_eq, tstO_bl, tstO_er, mAndT_eq, andT_ok, andT_f, andT_t, andT_er, mOrT_eq, orT_ok, orT_f, orT_t, orT_er, mNotT_eq, mAnd_eq, andD_ok, andD_f, andD_t, andD_er, mOr_eq, orD_ok, orD_f, orD_t, orD_er, dNot_bl, dAdd_i, dSub_i, dNeg_i, dCmp_i, dInt_i, dInt_b, dAbs_i, dMax_i, dMin_i, dLen_l, dLen_t, dLen_f, dList_l, dList_t, dTuple_l, dTuple_t, dRev_l, dRev_t, dIx_l, dIx_t, dIx_f, dIsN_n, dNotN_n, mTup_eq, mLst_eq, mSl_eq, mNone_eq, mSome_eq, someO_i, dSl_t, dSl_l, mFor_eq, mItems_eq, itemsO_l, itemsO_t, itemsO_f, mRgI1_eq, mRgI2_eq, outR_nx, outR_rt, outR_er, run1, run2, run3, run4, forGo_nil, forGo_cons, forO_nx, forO_ct, forO_bk, forO_rt, forO_er, gD_eq, mMut_eq, mutO_l, subO_eq, ownD_z, ownD_s, dSet_l, List.set_cons_zero, List.set_cons_succ, List.getElem?_cons_zero, List.getElem?_cons_succ, List.replicate_succ, List.replicate_zero, Nat.reduceSub, Nat.reduceAdd, List.length_cons, List.length_nil, Option.bind_some, Option.map_some, Bool.false_eq_true, if_true, if_false, reduceIte, Bool.and_true, Bool.true_and, Bool.and_false, Bool.false_and, Bool.or_true, Bool.true_or, Bool.or_false, Bool.false_or, Bool.not_true, Bool.not_false, DL.isNon, isSub, reduceCtorEq, decide_true, decide_false, clrO, Bool.or_self, Bool.and_self, Nat.reduceLT, Int.reduceLT, Int.reduceLE, Int.reduceAdd, Int.reduceSub, Int.reduceNeg, Int.reduceMul, Int.reduceEq, Int.cast_ofNat_Int, gk0, gk1, gk2, gk3, gk4, gk5, gk6, gk7, gk8, gk9, gk10, gk11, gk12, mMeth_eq, methO_ok, mRgI3_eq, mFrz_eq, frzO_s, mAug_eq, augO_s, dAddA_i, dTupX_l, dTupX_t, rowD_t, rowD_f, dList_f, dTupX_f, dRev_f, lb_rings_of_1, ew, n1, fApp_1 (tupsD R) (.tup ((orb f a m).map D.int)) (by rw [tupsD_len]; omega)]
        unfold tupsD
        rw [List.map_append]
        rfl
      · rcases List.mem_append.mp hc with hc | hc
        · obtain ⟨g1, g2, g3⟩ := h3 c hc
          exact ⟨g1, g2, by rw [tk]; exact List.mem_append_left _ g3⟩
        · rw [List.mem_singleton] at hc
          subst hc
          refine ⟨ir, fun x hx => ⟨hm x hx, ?_⟩, by rw [tk, h0]; exact List.mem_append_right _ (by simp)⟩
          rw [h0]
          have xo : x ∉ old := fun z => (List.nodup_append.mp nd).2.2 x z x hx rfl
          have xs : x ∈ isort S := sp.mem_iff.mpr (hm x hx)
          obtain ⟨j, hj, ej⟩ := List.getElem_of_mem xs
          have hkj : k ≤ j := by
            refine Classical.byContradiction fun z => xo (h5 x ?_)
            rw [← ej]
            exact List.mem_take_iff_getElem.mpr ⟨j, by omega, rfl⟩
          rcases Nat.lt_or_eq_of_le hkj with z | z
          · have := List.pairwise_iff_getElem.mp so k j hk hj z
            rw [ea, ej] at this
            exact this
          · subst z
            rw [← ej, ea]
            exact Int.le_refl _
      · refine List.pairwise_append.mpr ⟨h4, List.pairwise_singleton _ _, fun c hc d hd => ?_⟩
        rw [List.mem_singleton] at hd
        subst hd
        rw [h0]
        obtain ⟨g1, g2, g3⟩ := h3 c hc
        obtain ⟨j, hj, ej⟩ := List.mem_take_iff_getElem.mp g3
        have := List.pairwise_iff_getElem.mp so j k (by omega) hk (by omega)
        rw [ej, ea] at this
        rcases Int.lt_or_eq_of_le this with z | z
        · exact z
        · exfalso
          have := (List.getElem_inj sn).mp (show (isort S)[j] = (isort S)[k] by rw [ej, ea, z])
          omega
      · rw [tk] at hx
        rcases List.mem_append.mp hx with z | z
        · exact List.mem_append_left _ (h5 x z)
        · rw [List.mem_singleton] at z
          rw [z]
          refine List.mem_append_right _ ?_
          have := getD_mem (orb f a m) 0 0 (by rw [orb_len]; exact m0)
          rwa [h0] at this) [some (.dK (mapD f S), false), some (.lst [], true), some (.dK [], true), none, none, none] ⟨[], [], none, none, none, rfl, rfl, List.nodup_nil, fun c hc => by simp at hc, List.Pairwise.nil, fun x hx => by simp at hx⟩
  subst er
  rw [List.length_map, Nat.zero_add, List.take_of_length_le (Nat.le_refl _)] at h5
  refine ⟨R, ?_, ⟨fun c hc => (h3 c hc).1, ?_, fun c hc x hx => ((h3 c hc).2.1 x hx).2, h4⟩⟩
  · have sd : dSorted [.dK (mapD f S)] = some (.ok (.lst ((isort S).map D.int))) := by
      show ((mapD f S).mapM fun kd => inlD kd.1).bind (fun ns => DL.guard (ns.length < 64) (some (Except.ok (D.lst ((isort ns).map D.int))))) = _
      rw [mapD_keys, Option.bind_some, guard_t (show S.length < 64 by omega)]
    unfold m_rings_of b_rings_of
    simp only [bnd_ok, bnd_er, sE_ok, sE_er, mSeq_eq, seqO_nx, seqO_rt, seqO_er, seqO_bk, seqO_ct, mIf_eq, ifO_ok, ifO_er, mVar_z, mVar_s, mVarD_z, mVarD_s, mC_eq, mBin_eq, mUn_eq, mCB_eq, mNil_eq, mCons_eq, mSet_eq, mRet_eq, mSkip_eq, mBrk_eq, mCnt_eq, mRaise_eq, mRetN_eq, mDrop_eq, mTst_eq, tstO_bl, tstO_er, mAndT_eq, andT_ok, andT_f, andT_t, andT_er, mOrT_eq, orT_ok, orT_f, orT_t, orT_er, mNotT_eq, mAnd_eq, andD_ok, andD_f, andD_t, andD_er, mOr_eq, orD_ok, orD_f, orD_t, orD_er, dNot_bl, dAdd_i, dSub_i, dNeg_i, dCmp_i, dInt_i, dInt_b, dAbs_i, dMax_i, dMin_i, dLen_l, dLen_t, dLen_f, dList_l, dList_t, dTuple_l, dTuple_t, dRev_l, dRev_t, dIx_l, dIx_t, dIx_f, dIsN_n, dNotN_n, mTup_eq, mLst_eq, mSl_eq, mNone_eq, mSome_eq, someO_i, dSl_t, dSl_l, mFor_eq, mItems_eq, itemsO_l, itemsO_t, itemsO_f, mRgI1_eq, mRgI2_eq, outR_nx, outR_rt, outR_er, run1, run2, run3, run4, forGo_nil, forGo_cons, forO_nx, forO_ct, forO_bk, forO_rt, forO_er, gD_eq, mMut_eq, mutO_l, subO_eq, ownD_z, ownD_s, dSet_l, List.set_cons_zero, List.set_cons_succ, List.getElem?_cons_zero, List.getElem?_cons_succ, List.replicate_succ, List.replicate_zero, Nat.reduceSub, Nat.reduceAdd, List.length_cons, List.length_nil, Option.bind_some, Option.map_some, Bool.false_eq_true, if_true, if_false, reduceIte, Bool.and_true, Bool.true_and, Bool.and_false, Bool.false_and, Bool.or_true, Bool.true_or, Bool.or_false, Bool.false_or, Bool.not_true, Bool.not_false, DL.isNon, isSub, reduceCtorEq, decide_true, decide_false, clrO, Bool.or_self, Bool.and_self, Nat.reduceLT, Int.reduceLT, Int.reduceLE, Int.reduceAdd, Int.reduceSub, Int.reduceNeg, Int.reduceMul, Int.reduceEq, Int.cast_ofNat_Int, gk0, gk1, gk2, gk3, gk4, gk5, gk6, gk7, gk8, gk9, gk10, gk11, gk12, mMeth_eq, methO_ok, mRgI3_eq, mFrz_eq, frzO_s, mAug_eq, augO_s, dAddA_i, dTupX_l, dTupX_t, rowD_t, rowD_f, dList_f, dTupX_f, dRev_f, sd, e]
  · rw [h1]
    refine (List.perm_ext_iff_of_nodup h2 nS).mpr fun x => ⟨fun hx => ?_, fun hx => h5 x (sp.mem_iff.mpr hx)⟩
    rw [← h1] at hx
    obtain ⟨c, hc, hx⟩ := List.mem_flatten.mp hx
    exact ((h3 c hc).2.1 x hx).1
end Lw

set_option Elab.async false
set_option linter.all false
set_option maxRecDepth 100000
set_option maxHeartbeats 1000000
set_option autoImplicit false
namespace Lw
open PySem L2 DL
/-! ### rings and block_rings of a row -/
def plc (n : Nat) : List Int := (List.range n).map fun i : Nat => (i : Int)
theorem mem_plc {n : Nat} {x : Int} : x ∈ plc n ↔ ∃ k : Nat, k < n ∧ x = k := by
  unfold plc
  simp only [List.mem_map, List.mem_range]
  constructor
  · rintro ⟨k, h, rfl⟩; exact ⟨k, h, rfl⟩
  · rintro ⟨k, h, rfl⟩; exact ⟨k, h, rfl⟩
theorem plc_nodup (n : Nat) : (plc n).Nodup := by
  unfold plc
  refine List.Pairwise.map _ (fun a b h => ?_) (List.nodup_range (n := n))
  omega
theorem plc_len (n : Nat) : (plc n).length = n := by unfold plc; simp
theorem rng_plc (n : Nat) : rng n = (plc n).map D.int := by unfold rng plc; rw [List.map_map]; rfl
def rf (r : List Int) (z : Int) : Int := r.getD z.toNat 0 - 1
theorem rf_into {r : List Int} (h : goodR r) : ∀ x ∈ plc r.length, rf r x ∈ plc r.length := fun x hx => by
  obtain ⟨k, hk, rfl⟩ := mem_plc.mp hx
  have := (goodR_mem h).mp (getD_mem r k 0 hk)
  refine mem_plc.mpr ⟨(r.getD k 0 - 1).toNat, by omega, ?_⟩
  unfold rf
  rw [Int.toNat_natCast]
  omega
theorem rf_inj {r : List Int} (h : goodR r) : ∀ x ∈ plc r.length, ∀ y ∈ plc r.length, rf r x = rf r y → x = y := fun x hx y hy e => by
  obtain ⟨k, hk, rfl⟩ := mem_plc.mp hx
  obtain ⟨j, hj, rfl⟩ := mem_plc.mp hy
  unfold rf at e
  rw [Int.toNat_natCast, Int.toNat_natCast] at e
  rw [getD_inj (goodR_nodup h) hk hj 0 (by omega)]
def ext (r : List Int) : List Int := [0] ++ r ++ [(r.length : Int) + 1]
theorem ext_len (r : List Int) : (ext r).length = r.length + 2 := by unfold ext; simp
theorem ext_mem {r : List Int} (h : goodR r) {x : Int} : x ∈ ext r ↔ 0 ≤ x ∧ x ≤ r.length + 1 := by
  unfold ext
  simp only [List.mem_append, List.mem_singleton, goodR_mem h]
  omega
theorem ext_nodup {r : List Int} (h : goodR r) : (ext r).Nodup := by
  unfold ext
  refine List.nodup_append.mpr ⟨List.nodup_append.mpr ⟨by simp, goodR_nodup h, fun a ha b hb => ?_⟩, by simp, fun a ha b hb => ?_⟩
  · rw [List.mem_singleton] at ha
    have := (goodR_mem h).mp hb
    omega
  · rw [List.mem_singleton] at hb
    rcases List.mem_append.mp ha with z | z
    · rw [List.mem_singleton] at z
      omega
    · have := (goodR_mem h).mp z
      omega
theorem ext_0 (r : List Int) : (ext r).getD 0 0 = 0 := rfl
theorem ext_at (r : List Int) (k : Nat) (h : k < r.length) : (ext r).getD (k + 1) 0 = r.getD k 0 := by
  unfold ext
  rw [List.append_assoc, List.singleton_append, List.getD_cons_succ, getD_app_l _ _ _ _ h]
theorem ext_low {r : List Int} (h : goodR r) (k : Nat) (hk : k ≤ r.length) : 0 ≤ (ext r).getD k 0 ∧ (ext r).getD k 0 ≤ r.length := by
  cases k with
  | zero => rw [ext_0]; omega
  | succ k =>
    rw [ext_at r k hk]
    have := (goodR_mem h).mp (getD_mem r k 0 hk)
    omega
def bf (r : List Int) (z : Int) : Int := (((ext r).idxOf ((ext r).getD (z - 1).toNat 0 + 1) : Nat) : Int)
theorem idx_at {l : List Int} {x : Int} (h : x ∈ l) : l.getD (l.idxOf x) 0 = x ∧ l.idxOf x < l.length := by
  have hl := List.idxOf_lt_length_of_mem h
  refine ⟨?_, hl⟩
  rw [List.getD_eq_getElem?_getD, List.getElem?_eq_getElem hl]
  simp
theorem bf_into {r : List Int} (h : goodR r) : ∀ x ∈ upto (r.length + 1), bf r x ∈ upto (r.length + 1) := fun x hx => by
  have hx := mem_upto.mp hx
  have h1 := ext_low h (x - 1).toNat (by omega)
  have hm : (ext r).getD (x - 1).toNat 0 + 1 ∈ ext r := (ext_mem h).mpr (by omega)
  obtain ⟨h2, h3⟩ := idx_at hm
  rw [ext_len] at h3
  refine mem_upto.mpr ⟨?_, ?_⟩
  · unfold bf
    rcases Nat.eq_zero_or_pos ((ext r).idxOf ((ext r).getD (x - 1).toNat 0 + 1)) with z | z
    · rw [z, ext_0] at h2
      omega
    · omega
  · unfold bf
    omega
theorem bf_inj {r : List Int} (h : goodR r) : ∀ x ∈ upto (r.length + 1), ∀ y ∈ upto (r.length + 1), bf r x = bf r y → x = y := fun x hx y hy e => by
  have hx := mem_upto.mp hx
  have hy := mem_upto.mp hy
  have h1 := ext_low h (x - 1).toNat (by omega)
  have h2 := ext_low h (y - 1).toNat (by omega)
  obtain ⟨h3, _⟩ := idx_at ((ext_mem h (x := (ext r).getD (x - 1).toNat 0 + 1)).mpr (by omega))
  obtain ⟨h4, _⟩ := idx_at ((ext_mem h (x := (ext r).getD (y - 1).toNat 0 + 1)).mpr (by omega))
  unfold bf at e
  rw [show (ext r).idxOf ((ext r).getD (x - 1).toNat 0 + 1) = (ext r).idxOf ((ext r).getD (y - 1).toNat 0 + 1) by omega, h4] at h3
  have := getD_inj (ext_nodup h) (i := (x - 1).toNat) (j := (y - 1).toNat) (by rw [ext_len]; omega) (by rw [ext_len]; omega) 0 (by omega)
  omega
theorem checkR_goodF (l : List Int) (h : goodR l) : m_check_row [.fz true (l.map D.int)] = some (.ok (.fz true (l.map D.int))) := by
  have hl := h.1
  have e2 : mRg2 .lst (mC (.int 1)) (mBin dAdd (mVar 1) (mC (.int 1))) [some (D.fz true (l.map D.int), false), some (.int l.length, false)] = some (.ok (.lst ((upto l.length).map D.int))) := by
    rw [mRg2_ok _ _ _ _ 1 (l.length + 1) (by omega) rfl rfl, rgD_1]
  have g1 : decide ((40 : Int) < (l.length : Int)) = false := decide_eq_false (by omega)
  unfold m_check_row b_check_row
  simp only [bnd_ok, bnd_er, sE_ok, sE_er, mSeq_eq, seqO_nx, seqO_rt, seqO_er, seqO_bk, seqO_ct, mIf_eq, ifO_ok, ifO_er, mVar_z, mVar_s, mVarD_z, mVarD_s, mC_eq, mBin_eq, mUn_eq, mCB_eq, mNil_eq, mCons_eq, mSet_eq, mRet_eq, mSkip_eq, mBrk_eq, mCnt_eq, mRaise_eq, mRetN_eq, mDrop_eq, mTst_eq, tstO_bl, tstO_er, mAndT_eq, andT_ok, andT_f, andT_t, andT_er, mOrT_eq, orT_ok, orT_f, orT_t, orT_er, mNotT_eq, mAnd_eq, andD_ok, andD_f, andD_t, andD_er, mOr_eq, orD_ok, orD_f, orD_t, orD_er, dNot_bl, dAdd_i, dSub_i, dNeg_i, dCmp_i, dInt_i, dInt_b, dAbs_i, dMax_i, dMin_i, dLen_l, dLen_t, dLen_f, dList_l, dList_t, dTuple_l, dTuple_t, dRev_l, dRev_t, dIx_l, dIx_t, dIx_f, dIsN_n, dNotN_n, mTup_eq, mLst_eq, mSl_eq, mNone_eq, mSome_eq, someO_i, dSl_t, dSl_l, mFor_eq, mItems_eq, itemsO_l, itemsO_t, itemsO_f, mRgI1_eq, mRgI2_eq, outR_nx, outR_rt, outR_er, run1, run2, run3, run4, forGo_nil, forGo_cons, forO_nx, forO_ct, forO_bk, forO_rt, forO_er, gD_eq, mMut_eq, mutO_l, subO_eq, ownD_z, ownD_s, dSet_l, List.set_cons_zero, List.set_cons_succ, List.getElem?_cons_zero, List.getElem?_cons_succ, List.replicate_succ, List.replicate_zero, Nat.reduceSub, Nat.reduceAdd, List.length_cons, List.length_nil, Option.bind_some, Option.map_some, Bool.false_eq_true, if_true, if_false, reduceIte, Bool.and_true, Bool.true_and, Bool.and_false, Bool.false_and, Bool.or_true, Bool.true_or, Bool.or_false, Bool.false_or, Bool.not_true, Bool.not_false, DL.isNon, isSub, reduceCtorEq, decide_true, decide_false, clrO, Bool.or_self, Bool.and_self, Nat.reduceLT, Int.reduceLT, Int.reduceLE, Int.reduceAdd, Int.reduceSub, Int.reduceNeg, Int.reduceMul, Int.reduceEq, Int.cast_ofNat_Int, gk0, gk1, gk2, gk3, gk4, gk5, gk6, gk7, gk8, gk9, gk10, gk11, gk12, mMeth_eq, methO_ok, mRgI3_eq, mFrz_eq, frzO_s, mAug_eq, augO_s, dAddA_i, dTupX_l, dTupX_t, rowD_t, rowD_f, dList_f, dTupX_f, dRev_f, e2, List.length_map, dSorted_f, dNe_l, g1, h.2]
theorem bleads_ok (r : List Int) (h : goodR r) (hr : r ≠ []) : m_block_leads [.fz true (r.map D.int)] = some (.ok (.dK (mapD (bf r) (upto (r.length + 1))))) := by
  have hl := h.1
  have a1 : dAddX (.tup [.int 0]) (.fz true (r.map D.int)) = some (.ok (.fz true (([0] ++ r).map D.int))) := dAddX_i (a := [0]) rfl rfl (by simp) hr (by simp; omega)
  have a2 : dAddX (.fz true (([0] ++ r).map D.int)) (.tup [.int ((r.length : Int) + 1)]) = some (.ok (.fz true ((ext r).map D.int))) := dAddX_i (b := [(r.length : Int) + 1]) rfl rfl (by simp) (by simp) (by simp; omega)
  have d1 : mDc (mRgI1 (mBin dAdd (mVar 1) (mC (.int 2)))) [4] (gD 4) mYes (mBin dIx (mVar 2) (mVar 4)) (mVarD 4) [some (.fz true (r.map D.int), false), some (.int (r.length : Int), false), some (.fz true ((ext r).map D.int), false), none, none] = some (.ok (.dK (idxD (ext r) 0))) := by
    rw [dcx_is (List.range (r.length + 2)) (fun i : Nat => D.int (i : Int)) (fun i : Nat => (ext r).getD i 0) (fun i : Nat => .int (i : Int)) ?_ rfl (by simp; omega) ?_ fun i hi => ⟨?_, by simp only [bnd_ok, bnd_er, sE_ok, sE_er, mSeq_eq, seqO_nx, seqO_rt, seqO_er, seqO_bk, seqO_ct, mIf_eq, ifO_ok, ifO_er, mVar_z, mVar_s, mVarD_z, mVarD_s, mC_eq, mBin_eq, mUn_eq, mCB_eq, mNil_eq, mCons_eq, mSet_eq, mRet_eq, mSkip_eq, mBrk_eq, mCnt_eq, mRaise_eq, mRetN_eq, mDrop_eq, mTst_eq, tstO_bl, tstO_er, mAndT_eq, andT_ok, andT_f, andT_t, andT_er, mOrT_eq, orT_ok, orT_f, orT_t, orT_er, mNotT_eq, mAnd_eq, andD_ok, andD_f, andD_t, andD_er, mOr_eq, orD_ok, orD_f, orD_t, orD_er, dNot_bl, dAdd_i, dSub_i, dNeg_i, dCmp_i, dInt_i, dInt_b, dAbs_i, dMax_i, dMin_i, dLen_l, dLen_t, dLen_f, dList_l, dList_t, dTuple_l, dTuple_t, dRev_l, dRev_t, dIx_l, dIx_t, dIx_f, dIsN_n, dNotN_n, mTup_eq, mLst_eq, mSl_eq, mNone_eq, mSome_eq, someO_i, dSl_t, dSl_l, mFor_eq, mItems_eq, itemsO_l, itemsO_t, itemsO_f, mRgI1_eq, mRgI2_eq, outR_nx, outR_rt, outR_er, run1, run2, run3, run4, forGo_nil, forGo_cons, forO_nx, forO_ct, forO_bk, forO_rt, forO_er, gD_eq, mMut_eq, mutO_l, subO_eq, ownD_z, ownD_s, dSet_l, List.set_cons_zero, List.set_cons_succ, List.getElem?_cons_zero, List.getElem?_cons_succ, List.replicate_succ, List.replicate_zero, Nat.reduceSub, Nat.reduceAdd, List.length_cons, List.length_nil, Option.bind_some, Option.map_some, Bool.false_eq_true, if_true, if_false, reduceIte, Bool.and_true, Bool.true_and, Bool.and_false, Bool.false_and, Bool.or_true, Bool.true_or, Bool.or_false, Bool.false_or, Bool.not_true, Bool.not_false, DL.isNon, isSub, reduceCtorEq, decide_true, decide_false, clrO, Bool.or_self, Bool.and_self, Nat.reduceLT, Int.reduceLT, Int.reduceLE, Int.reduceAdd, Int.reduceSub, Int.reduceNeg, Int.reduceMul, Int.reduceEq, Int.cast_ofNat_Int, gk0, gk1, gk2, gk3, gk4, gk5, gk6, gk7, gk8, gk9, gk10, gk11, gk12, mMeth_eq, methO_ok, mRgI3_eq, mFrz_eq, frzO_s, mAug_eq, augO_s, dAddA_i, dTupX_l, dTupX_t, rowD_t, rowD_f, dList_f, dTupX_f, dRev_f, wipeR]⟩]
    · rw [← idxD_rng0, ext_len]
    · simp only [bnd_ok, bnd_er, sE_ok, sE_er, mSeq_eq, seqO_nx, seqO_rt, seqO_er, seqO_bk, seqO_ct, mIf_eq, ifO_ok, ifO_er, mVar_z, mVar_s, mVarD_z, mVarD_s, mC_eq, mBin_eq, mUn_eq, mCB_eq, mNil_eq, mCons_eq, mSet_eq, mRet_eq, mSkip_eq, mBrk_eq, mCnt_eq, mRaise_eq, mRetN_eq, mDrop_eq, mTst_eq, tstO_bl, tstO_er, mAndT_eq, andT_ok, andT_f, andT_t, andT_er, mOrT_eq, orT_ok, orT_f, orT_t, orT_er, mNotT_eq, mAnd_eq, andD_ok, andD_f, andD_t, andD_er, mOr_eq, orD_ok, orD_f, orD_t, orD_er, dNot_bl, dAdd_i, dSub_i, dNeg_i, dCmp_i, dInt_i, dInt_b, dAbs_i, dMax_i, dMin_i, dLen_l, dLen_t, dLen_f, dList_l, dList_t, dTuple_l, dTuple_t, dRev_l, dRev_t, dIx_l, dIx_t, dIx_f, dIsN_n, dNotN_n, mTup_eq, mLst_eq, mSl_eq, mNone_eq, mSome_eq, someO_i, dSl_t, dSl_l, mFor_eq, mItems_eq, itemsO_l, itemsO_t, itemsO_f, mRgI1_eq, mRgI2_eq, outR_nx, outR_rt, outR_er, run1, run2, run3, run4, forGo_nil, forGo_cons, forO_nx, forO_ct, forO_bk, forO_rt, forO_er, gD_eq, mMut_eq, mutO_l, subO_eq, ownD_z, ownD_s, dSet_l, List.set_cons_zero, List.set_cons_succ, List.getElem?_cons_zero, List.getElem?_cons_succ, List.replicate_succ, List.replicate_zero, Nat.reduceSub, Nat.reduceAdd, List.length_cons, List.length_nil, Option.bind_some, Option.map_some, Bool.false_eq_true, if_true, if_false, reduceIte, Bool.and_true, Bool.true_and, Bool.and_false, Bool.false_and, Bool.or_true, Bool.true_or, Bool.or_false, Bool.false_or, Bool.not_true, Bool.not_false, DL.isNon, isSub, reduceCtorEq, decide_true, decide_false, clrO, Bool.or_self, Bool.and_self, Nat.reduceLT, Int.reduceLT, Int.reduceLE, Int.reduceAdd, Int.reduceSub, Int.reduceNeg, Int.reduceMul, Int.reduceEq, Int.cast_ofNat_Int, gk0, gk1, gk2, gk3, gk4, gk5, gk6, gk7, gk8, gk9, gk10, gk11, gk12, mMeth_eq, methO_ok, mRgI3_eq, mFrz_eq, frzO_s, mAug_eq, augO_s, dAddA_i, dTupX_l, dTupX_t, rowD_t, rowD_f, dList_f, dTupX_f, dRev_f]
      rw [show ((r.length : Int) + 2) = ((r.length + 2 : Nat) : Int) by omega, rgI1_i _ (by omega), rgD_nat]
    · have e : ((List.range (r.length + 2)).map fun i : Nat => (ext r).getD i 0) = ext r := by
        refine List.ext_getElem (by rw [List.length_map, List.length_range, ext_len]) fun i h1 h2 => ?_
        rw [List.getElem_map, List.getElem_range, List.getD_eq_getElem?_getD, List.getElem?_eq_getElem h2]
        rfl
      rw [e]
      exact ext_nodup h
    · have hi := List.mem_range.mp hi
      simp only [bnd_ok, bnd_er, sE_ok, sE_er, mSeq_eq, seqO_nx, seqO_rt, seqO_er, seqO_bk, seqO_ct, mIf_eq, ifO_ok, ifO_er, mVar_z, mVar_s, mVarD_z, mVarD_s, mC_eq, mBin_eq, mUn_eq, mCB_eq, mNil_eq, mCons_eq, mSet_eq, mRet_eq, mSkip_eq, mBrk_eq, mCnt_eq, mRaise_eq, mRetN_eq, mDrop_eq, mTst_eq, tstO_bl, tstO_er, mAndT_eq, andT_ok, andT_f, andT_t, andT_er, mOrT_eq, orT_ok, orT_f, orT_t, orT_er, mNotT_eq, mAnd_eq, andD_ok, andD_f, andD_t, andD_er, mOr_eq, orD_ok, orD_f, orD_t, orD_er, dNot_bl, dAdd_i, dSub_i, dNeg_i, dCmp_i, dInt_i, dInt_b, dAbs_i, dMax_i, dMin_i, dLen_l, dLen_t, dLen_f, dList_l, dList_t, dTuple_l, dTuple_t, dRev_l, dRev_t, dIx_l, dIx_t, dIx_f, dIsN_n, dNotN_n, mTup_eq, mLst_eq, mSl_eq, mNone_eq, mSome_eq, someO_i, dSl_t, dSl_l, mFor_eq, mItems_eq, itemsO_l, itemsO_t, itemsO_f, mRgI1_eq, mRgI2_eq, outR_nx, outR_rt, outR_er, run1, run2, run3, run4, forGo_nil, forGo_cons, forO_nx, forO_ct, forO_bk, forO_rt, forO_er, gD_eq, mMut_eq, mutO_l, subO_eq, ownD_z, ownD_s, dSet_l, List.set_cons_zero, List.set_cons_succ, List.getElem?_cons_zero, List.getElem?_cons_succ, List.replicate_succ, List.replicate_zero, Nat.reduceSub, Nat.reduceAdd, List.length_cons, List.length_nil, Option.bind_some, Option.map_some, Bool.false_eq_true, if_true, if_false, reduceIte, Bool.and_true, Bool.true_and, Bool.and_false, Bool.false_and, Bool.or_true, Bool.true_or, Bool.or_false, Bool.false_or, Bool.not_true, Bool.not_false, DL.isNon, isSub, reduceCtorEq, decide_true, decide_false, clrO, Bool.or_self, Bool.and_self, Nat.reduceLT, Int.reduceLT, Int.reduceLE, Int.reduceAdd, Int.reduceSub, Int.reduceNeg, Int.reduceMul, Int.reduceEq, Int.cast_ofNat_Int, gk0, gk1, gk2, gk3, gk4, gk5, gk6, gk7, gk8, gk9, gk10, gk11, gk12, mMeth_eq, methO_ok, mRgI3_eq, mFrz_eq, frzO_s, mAug_eq, augO_s, dAddA_i, dTupX_l, dTupX_t, rowD_t, rowD_f, dList_f, dTupX_f, dRev_f, wipeR, at_getD (ext r) i (by rw [ext_len]; omega)]
  have d2 : mDc (mRgI2 (mC (.int 1)) (mBin dAdd (mVar 1) (mC (.int 2)))) [4] (gD 4) mYes (mVar 4) (mBin dIx (mVar 3) (mBin dAdd (mBin dIx (mVar 2) (mBin dSub (mVar 4) (mC (.int 1)))) (mC (.int 1)))) [some (.fz true (r.map D.int), false), some (.int (r.length : Int), false), some (.fz true ((ext r).map D.int), false), some (.dK (idxD (ext r) 0), true), none] = some (.ok (.dK (mapD (bf r) (upto (r.length + 1))))) := by
    rw [dcx_is (upto (r.length + 1)) D.int id (fun x => .int (bf r x)) ?_ rfl (by rw [upto_len]; omega) (by rw [List.map_id]; exact upto_nodup _) fun x hx => ⟨by simp only [bnd_ok, bnd_er, sE_ok, sE_er, mSeq_eq, seqO_nx, seqO_rt, seqO_er, seqO_bk, seqO_ct, mIf_eq, ifO_ok, ifO_er, mVar_z, mVar_s, mVarD_z, mVarD_s, mC_eq, mBin_eq, mUn_eq, mCB_eq, mNil_eq, mCons_eq, mSet_eq, mRet_eq, mSkip_eq, mBrk_eq, mCnt_eq, mRaise_eq, mRetN_eq, mDrop_eq, mTst_eq, tstO_bl, tstO_er, mAndT_eq, andT_ok, andT_f, andT_t, andT_er, mOrT_eq, orT_ok, orT_f, orT_t, orT_er, mNotT_eq, mAnd_eq, andD_ok, andD_f, andD_t, andD_er, mOr_eq, orD_ok, orD_f, orD_t, orD_er, dNot_bl, dAdd_i, dSub_i, dNeg_i, dCmp_i, dInt_i, dInt_b, dAbs_i, dMax_i, dMin_i, dLen_l, dLen_t, dLen_f, dList_l, dList_t, dTuple_l, dTuple_t, dRev_l, dRev_t, dIx_l, dIx_t, dIx_f, dIsN_n, dNotN_n, mTup_eq, mLst_eq, mSl_eq, mNone_eq, mSome_eq, someO_i, dSl_t, dSl_l, mFor_eq, mItems_eq, itemsO_l, itemsO_t, itemsO_f, mRgI1_eq, mRgI2_eq, outR_nx, outR_rt, outR_er, run1, run2, run3, run4, forGo_nil, forGo_cons, forO_nx, forO_ct, forO_bk, forO_rt, forO_er, gD_eq, mMut_eq, mutO_l, subO_eq, ownD_z, ownD_s, dSet_l, List.set_cons_zero, List.set_cons_succ, List.getElem?_cons_zero, List.getElem?_cons_succ, List.replicate_succ, List.replicate_zero, Nat.reduceSub, Nat.reduceAdd, List.length_cons, List.length_nil, Option.bind_some, Option.map_some, Bool.false_eq_true, if_true, if_false, reduceIte, Bool.and_true, Bool.true_and, Bool.and_false, Bool.false_and, Bool.or_true, Bool.true_or, Bool.or_false, Bool.false_or, Bool.not_true, Bool.not_false, DL.isNon, isSub, reduceCtorEq, decide_true, decide_false, clrO, Bool.or_self, Bool.and_self, Nat.reduceLT, Int.reduceLT, Int.reduceLE, Int.reduceAdd, Int.reduceSub, Int.reduceNeg, Int.reduceMul, Int.reduceEq, Int.cast_ofNat_Int, gk0, gk1, gk2, gk3, gk4, gk5, gk6, gk7, gk8, gk9, gk10, gk11, gk12, mMeth_eq, methO_ok, mRgI3_eq, mFrz_eq, frzO_s, mAug_eq, augO_s, dAddA_i, dTupX_l, dTupX_t, rowD_t, rowD_f, dList_f, dTupX_f, dRev_f, wipeR]; rfl, ?_⟩]
    · rfl
    · simp only [bnd_ok, bnd_er, sE_ok, sE_er, mSeq_eq, seqO_nx, seqO_rt, seqO_er, seqO_bk, seqO_ct, mIf_eq, ifO_ok, ifO_er, mVar_z, mVar_s, mVarD_z, mVarD_s, mC_eq, mBin_eq, mUn_eq, mCB_eq, mNil_eq, mCons_eq, mSet_eq, mRet_eq, mSkip_eq, mBrk_eq, mCnt_eq, mRaise_eq, mRetN_eq, mDrop_eq, mTst_eq, tstO_bl, tstO_er, mAndT_eq, andT_ok, andT_f, andT_t, andT_er, mOrT_eq, orT_ok, orT_f, orT_t, orT_er, mNotT_eq, mAnd_eq, andD_ok, andD_f, andD_t, andD_er, mOr_eq, orD_ok, orD_f, orD_t, orD_er, dNot_bl, dAdd_i, dSub_i, dNeg_i, dCmp_i, dInt_i, dInt_b, dAbs_i, dMax_i, dMin_i, dLen_l, dLen_t, dLen_f, dList_l, dList_t, dTuple_l, dTuple_t, dRev_l, dRev_t, dIx_l, dIx_t, dIx_f, dIsN_n, dNotN_n, mTup_eq, mLst_eq, mSl_eq, mNone_eq, mSome_eq, someO_i, dSl_t, dSl_l, mFor_eq, mItems_eq, itemsO_l, itemsO_t, itemsO_f, mRgI1_eq, mRgI2_eq, outR_nx, outR_rt, outR_er, run1, run2, run3, run4, forGo_nil, forGo_cons, forO_nx, forO_ct, forO_bk, forO_rt, forO_er, gD_eq, mMut_eq, mutO_l, subO_eq, ownD_z, ownD_s, dSet_l, List.set_cons_zero, List.set_cons_succ, List.getElem?_cons_zero, List.getElem?_cons_succ, List.replicate_succ, List.replicate_zero, Nat.reduceSub, Nat.reduceAdd, List.length_cons, List.length_nil, Option.bind_some, Option.map_some, Bool.false_eq_true, if_true, if_false, reduceIte, Bool.and_true, Bool.true_and, Bool.and_false, Bool.false_and, Bool.or_true, Bool.true_or, Bool.or_false, Bool.false_or, Bool.not_true, Bool.not_false, DL.isNon, isSub, reduceCtorEq, decide_true, decide_false, clrO, Bool.or_self, Bool.and_self, Nat.reduceLT, Int.reduceLT, Int.reduceLE, Int.reduceAdd, Int.reduceSub, Int.reduceNeg, Int.reduceMul, Int.reduceEq, Int.cast_ofNat_Int, gk0, gk1, gk2, gk3, gk4, gk5, gk6, gk7, gk8, gk9, gk10, gk11, gk12, mMeth_eq, methO_ok, mRgI3_eq, mFrz_eq, frzO_s, mAug_eq, augO_s, dAddA_i, dTupX_l, dTupX_t, rowD_t, rowD_f, dList_f, dTupX_f, dRev_f, rgI2_i 1 ((r.length : Int) + 2) (by omega)]
      rw [show ((r.length : Int) + 2) = ((r.length + 1 : Nat) : Int) + 1 by omega, rgD_1]
    · have hx := mem_upto.mp hx
      have k1 := at_getD (ext r) (x - 1).toNat (by rw [ext_len]; omega)
      rw [show (((x - 1).toNat : Nat) : Int) = x - 1 by omega] at k1
      have h1 := ext_low h (x - 1).toNat (by omega)
      have hm : (ext r).getD (x - 1).toNat 0 + 1 ∈ ext r := (ext_mem h).mpr (by omega)
      simp only [bnd_ok, bnd_er, sE_ok, sE_er, mSeq_eq, seqO_nx, seqO_rt, seqO_er, seqO_bk, seqO_ct, mIf_eq, ifO_ok, ifO_er, mVar_z, mVar_s, mVarD_z, mVarD_s, mC_eq, mBin_eq, mUn_eq, mCB_eq, mNil_eq, mCons_eq, mSet_eq, mRet_eq, mSkip_eq, mBrk_eq, mCnt_eq, mRaise_eq, mRetN_eq, mDrop_eq, mTst_eq, tstO_bl, tstO_er, mAndT_eq, andT_ok, andT_f, andT_t, andT_er, mOrT_eq, orT_ok, orT_f, orT_t, orT_er, mNotT_eq, mAnd_eq, andD_ok, andD_f, andD_t, andD_er, mOr_eq, orD_ok, orD_f, orD_t, orD_er, dNot_bl, dAdd_i, dSub_i, dNeg_i, dCmp_i, dInt_i, dInt_b, dAbs_i, dMax_i, dMin_i, dLen_l, dLen_t, dLen_f, dList_l, dList_t, dTuple_l, dTuple_t, dRev_l, dRev_t, dIx_l, dIx_t, dIx_f, dIsN_n, dNotN_n, mTup_eq, mLst_eq, mSl_eq, mNone_eq, mSome_eq, someO_i, dSl_t, dSl_l, mFor_eq, mItems_eq, itemsO_l, itemsO_t, itemsO_f, mRgI1_eq, mRgI2_eq, outR_nx, outR_rt, outR_er, run1, run2, run3, run4, forGo_nil, forGo_cons, forO_nx, forO_ct, forO_bk, forO_rt, forO_er, gD_eq, mMut_eq, mutO_l, subO_eq, ownD_z, ownD_s, dSet_l, List.set_cons_zero, List.set_cons_succ, List.getElem?_cons_zero, List.getElem?_cons_succ, List.replicate_succ, List.replicate_zero, Nat.reduceSub, Nat.reduceAdd, List.length_cons, List.length_nil, Option.bind_some, Option.map_some, Bool.false_eq_true, if_true, if_false, reduceIte, Bool.and_true, Bool.true_and, Bool.and_false, Bool.false_and, Bool.or_true, Bool.true_or, Bool.or_false, Bool.false_or, Bool.not_true, Bool.not_false, DL.isNon, isSub, reduceCtorEq, decide_true, decide_false, clrO, Bool.or_self, Bool.and_self, Nat.reduceLT, Int.reduceLT, Int.reduceLE, Int.reduceAdd, Int.reduceSub, Int.reduceNeg, Int.reduceMul, Int.reduceEq, Int.cast_ofNat_Int, gk0, gk1, gk2, gk3, gk4, gk5, gk6, gk7, gk8, gk9, gk10, gk11, gk12, mMeth_eq, methO_ok, mRgI3_eq, mFrz_eq, frzO_s, mAug_eq, augO_s, dAddA_i, dTupX_l, dTupX_t, rowD_t, rowD_f, dList_f, dTupX_f, dRev_f, wipeR, k1, idxD_get (ext r) _ hm]
      rfl
  unfold m_block_leads b_block_leads
  simp only [bnd_ok, bnd_er, sE_ok, sE_er, mSeq_eq, seqO_nx, seqO_rt, seqO_er, seqO_bk, seqO_ct, mIf_eq, ifO_ok, ifO_er, mVar_z, mVar_s, mVarD_z, mVarD_s, mC_eq, mBin_eq, mUn_eq, mCB_eq, mNil_eq, mCons_eq, mSet_eq, mRet_eq, mSkip_eq, mBrk_eq, mCnt_eq, mRaise_eq, mRetN_eq, mDrop_eq, mTst_eq, tstO_bl, tstO_er, mAndT_eq, andT_ok, andT_f, andT_t, andT_er, mOrT_eq, orT_ok, orT_f, orT_t, orT_er, mNotT_eq, mAnd_eq, andD_ok, andD_f, andD_t, andD_er, mOr_eq, orD_ok, orD_f, orD_t, orD_er, dNot_bl, dAdd_i, dSub_i, dNeg_i, dCmp_i, dInt_i, dInt_b, dAbs_i, dMax_i, dMin_i, dLen_l, dLen_t, dLen_f, dList_l, dList_t, dTuple_l, dTuple_t, dRev_l, dRev_t, dIx_l, dIx_t, dIx_f, dIsN_n, dNotN_n, mTup_eq, mLst_eq, mSl_eq, mNone_eq, mSome_eq, someO_i, dSl_t, dSl_l, mFor_eq, mItems_eq, itemsO_l, itemsO_t, itemsO_f, mRgI1_eq, mRgI2_eq, outR_nx, outR_rt, outR_er, run1, run2, run3, run4, forGo_nil, forGo_cons, forO_nx, forO_ct, forO_bk, forO_rt, forO_er, gD_eq, mMut_eq, mutO_l, subO_eq, ownD_z, ownD_s, dSet_l, List.set_cons_zero, List.set_cons_succ, List.getElem?_cons_zero, List.getElem?_cons_succ, List.replicate_succ, List.replicate_zero, Nat.reduceSub, Nat.reduceAdd, List.length_cons, List.length_nil, Option.bind_some, Option.map_some, Bool.false_eq_true, if_true, if_false, reduceIte, Bool.and_true, Bool.true_and, Bool.and_false, Bool.false_and, Bool.or_true, Bool.true_or, Bool.or_false, Bool.false_or, Bool.not_true, Bool.not_false, DL.isNon, isSub, reduceCtorEq, decide_true, decide_false, clrO, Bool.or_self, Bool.and_self, Nat.reduceLT, Int.reduceLT, Int.reduceLE, Int.reduceAdd, Int.reduceSub, Int.reduceNeg, Int.reduceMul, Int.reduceEq, Int.cast_ofNat_Int, gk0, gk1, gk2, gk3, gk4, gk5, gk6, gk7, gk8, gk9, gk10, gk11, gk12, mMeth_eq, methO_ok, mRgI3_eq, mFrz_eq, frzO_s, mAug_eq, augO_s, dAddA_i, dTupX_l, dTupX_t, rowD_t, rowD_f, dList_f, dTupX_f, dRev_f, List.length_map, dTupX_f, a1, a2, d1, d2]
theorem brings_ok (r : List Int) (h : goodR r) (hr : r ≠ []) : ∃ R, m_block_rings [.fz true (r.map D.int)] = some (.ok (.tup (tupsD R))) ∧ Rings (bf r) (upto (r.length + 1)) R := by
  have hl := h.1
  obtain ⟨R, e, hR⟩ := rings_of_ok (bf r) (upto (r.length + 1)) (by rw [upto_len]; omega) (upto_nodup _) (bf_into h) (bf_inj h)
  refine ⟨R, ?_, hR⟩
  unfold m_block_rings b_block_rings
  simp only [bnd_ok, bnd_er, sE_ok, sE_er, mSeq_eq, seqO_nx, seqO_rt, seqO_er, seqO_bk, seqO_ct, mIf_eq, ifO_ok, ifO_er, mVar_z, mVar_s, mVarD_z, mVarD_s, mC_eq, mBin_eq, mUn_eq, mCB_eq, mNil_eq, mCons_eq, mSet_eq, mRet_eq, mSkip_eq, mBrk_eq, mCnt_eq, mRaise_eq, mRetN_eq, mDrop_eq, mTst_eq, tstO_bl, tstO_er, mAndT_eq, andT_ok, andT_f, andT_t, andT_er, mOrT_eq, orT_ok, orT_f, orT_t, orT_er, mNotT_eq, mAnd_eq, andD_ok, andD_f, andD_t, andD_er, mOr_eq, orD_ok, orD_f, orD_t, orD_er, dNot_bl, dAdd_i, dSub_i, dNeg_i, dCmp_i, dInt_i, dInt_b, dAbs_i, dMax_i, dMin_i, dLen_l, dLen_t, dLen_f, dList_l, dList_t, dTuple_l, dTuple_t, dRev_l, dRev_t, dIx_l, dIx_t, dIx_f, dIsN_n, dNotN_n, mTup_eq, mLst_eq, mSl_eq, mNone_eq, mSome_eq, someO_i, dSl_t, dSl_l, mFor_eq, mItems_eq, itemsO_l, itemsO_t, itemsO_f, mRgI1_eq, mRgI2_eq, outR_nx, outR_rt, outR_er, run1, run2, run3, run4, forGo_nil, forGo_cons, forO_nx, forO_ct, forO_bk, forO_rt, forO_er, gD_eq, mMut_eq, mutO_l, subO_eq, ownD_z, ownD_s, dSet_l, List.set_cons_zero, List.set_cons_succ, List.getElem?_cons_zero, List.getElem?_cons_succ, List.replicate_succ, List.replicate_zero, Nat.reduceSub, Nat.reduceAdd, List.length_cons, List.length_nil, Option.bind_some, Option.map_some, Bool.false_eq_true, if_true, if_false, reduceIte, Bool.and_true, Bool.true_and, Bool.and_false, Bool.false_and, Bool.or_true, Bool.true_or, Bool.or_false, Bool.false_or, Bool.not_true, Bool.not_false, DL.isNon, isSub, reduceCtorEq, decide_true, decide_false, clrO, Bool.or_self, Bool.and_self, Nat.reduceLT, Int.reduceLT, Int.reduceLE, Int.reduceAdd, Int.reduceSub, Int.reduceNeg, Int.reduceMul, Int.reduceEq, Int.cast_ofNat_Int, gk0, gk1, gk2, gk3, gk4, gk5, gk6, gk7, gk8, gk9, gk10, gk11, gk12, mMeth_eq, methO_ok, mRgI3_eq, mFrz_eq, frzO_s, mAug_eq, augO_s, dAddA_i, dTupX_l, dTupX_t, rowD_t, rowD_f, dList_f, dTupX_f, dRev_f, checkR_goodF r h, bleads_ok r h hr, e]
end Lw

set_option Elab.async false
set_option linter.all false
set_option maxRecDepth 100000
set_option maxHeartbeats 1000000
set_option autoImplicit false
namespace Lw
open PySem L2 DL
/-! ### the number of rings -/
theorem idx_get {l : List Int} {x : Int} (h : x ∈ l) : l.getD (l.idxOf x) 0 = x ∧ l.idxOf x < l.length := idx_at h
theorem get_idx {l : List Int} (nd : l.Nodup) (k : Nat) (h : k < l.length) : l.idxOf (l.getD k 0) = k := by
  rw [List.getD_eq_getElem?_getD, List.getElem?_eq_getElem h]
  exact nd.idxOf_getElem k h
/-- a labeling that the map keeps tells no more labels than there are rings -/
theorem ring_lab {f : Int → Int} {c : List Int} (h : IsRing f c) (L : Int → Int) (hL : ∀ x ∈ c, L (f x) = L x) : ∀ x ∈ c, L x = L (c.getD 0 0) := by
  have : ∀ k, k < c.length → L (c.getD k 0) = L (c.getD 0 0) := fun k => by
    induction k with
    | zero => exact fun _ => rfl
    | succ k ih =>
      intro hk
      rw [← h.step k hk, hL _ (getD_mem _ _ _ (by omega)), ih (by omega)]
  intro x hx
  obtain ⟨k, hk, e⟩ := List.getElem_of_mem hx
  have e' : c.getD k 0 = x := by rw [List.getD_eq_getElem?_getD, List.getElem?_eq_getElem hk]; exact e
  rw [← e']
  exact this k hk
theorem lab_le {f : Int → Int} {S : List Int} {R : List (List Int)} (h : Rings f S R) (L : Int → Int) (hL : ∀ x ∈ S, L (f x) = L x) (T : List Int) (nd : T.Nodup) (hT : ∀ t ∈ T, ∃ x ∈ S, L x = t) : T.length ≤ R.length := by
  have := List.Nodup.length_le_of_subset nd (l₂ := R.map fun c => L (c.getD 0 0)) fun t ht => by
    obtain ⟨x, hx, rfl⟩ := hT t ht
    obtain ⟨c, hc, hx⟩ := List.mem_flatten.mp (h.perm.mem_iff.mpr hx)
    refine List.mem_map.mpr ⟨c, hc, ?_⟩
    exact (ring_lab (h.ring c hc) L (fun y hy => hL y (h.perm.mem_iff.mp (List.mem_flatten.mpr ⟨c, hc, hy⟩))) x hx).symm
  rwa [List.length_map] at this
theorem find_ring {x : Int} {c : List Int} : ∀ {R : List (List Int)}, R.flatten.Nodup → c ∈ R → x ∈ c → R.find? (fun c => decide (x ∈ c)) = some c
  | d :: R, nf, hc, hx => by
    rw [List.flatten_cons] at nf
    obtain ⟨n1, n2, n3⟩ := List.nodup_append.mp nf
    rw [List.find?_cons]
    rcases List.mem_cons.mp hc with e | hc
    · subst e
      rw [decide_eq_true hx]
    · have : x ∉ d := fun z => n3 x z x (List.mem_flatten.mpr ⟨c, hc, hx⟩) rfl
      rw [decide_eq_false this]
      exact find_ring n2 hc hx
theorem lab_ex {f : Int → Int} {S : List Int} {R : List (List Int)} (h : Rings f S R) (nS : S.Nodup) : ∃ (L : Int → Int) (T : List Int), (∀ x ∈ S, L (f x) = L x) ∧ T.Nodup ∧ (∀ t ∈ T, t ∈ S ∧ L t = t) ∧ (∀ x ∈ S, L x ∈ T) ∧ T.length = R.length := by
  have nf : R.flatten.Nodup := h.perm.nodup_iff.mpr nS
  obtain ⟨L, hLd⟩ : ∃ L : Int → Int, L = fun x => ((R.find? fun c => decide (x ∈ c)).map fun c => c.getD 0 0).getD 0 := ⟨_, rfl⟩
  have key : ∀ c ∈ R, ∀ x ∈ c, L x = c.getD 0 0 := fun c hc x hx => by
    rw [hLd]
    show ((R.find? fun c => decide (x ∈ c)).map fun c => c.getD 0 0).getD 0 = _
    rw [find_ring nf hc hx]
    rfl
  have inr : ∀ x ∈ S, ∃ c ∈ R, x ∈ c := fun x hx => List.mem_flatten.mp (h.perm.mem_iff.mpr hx)
  have h0 : ∀ c ∈ R, c.getD 0 0 ∈ c := fun c hc => getD_mem _ _ _ (List.length_pos_iff.mpr (h.ring c hc).ne)
  refine ⟨L, R.map fun c => c.getD 0 0, fun x hx => ?_, ?_, fun t ht => ?_, fun x hx => ?_, by rw [List.length_map]⟩
  · obtain ⟨c, hc, hx⟩ := inr x hx
    rw [key c hc x hx, key c hc _ ((h.ring c hc).out hx)]
  · unfold List.Nodup
    rw [List.pairwise_map]
    exact h.asc.imp fun h => by omega
  · obtain ⟨c, hc, rfl⟩ := List.mem_map.mp ht
    exact ⟨h.perm.mem_iff.mp (List.mem_flatten.mpr ⟨c, hc, h0 c hc⟩), key c hc _ (h0 c hc)⟩
  · obtain ⟨c, hc, hx⟩ := inr x hx
    rw [key c hc x hx]
    exact List.mem_map.mpr ⟨c, hc, rfl⟩
/-! ### there and back -/
theorem relP_self {a : List Int} (na : a.Nodup) : relP a a = upto a.length := by
  unfold relP upto
  refine List.ext_getElem (by simp) fun i h1 h2 => ?_
  simp only [List.getElem_map, List.getElem_range]
  rw [na.idxOf_getElem i (by simpa using h1)]
theorem relP_len (a b : List Int) : (relP a b).length = a.length := by unfold relP; simp
theorem relP_good {a b : List Int} (ha : goodR a) (hb : goodR b) (e : a.length = b.length) : goodR (relP a b) := by
  have p : a.Perm b := (goodR_perm ha).trans (by rw [e]; exact (goodR_perm hb).symm)
  refine goodR_of (n := a.length) ha.1 ?_
  have h1 : (relP a b).Perm (relP b b) := p.map _
  rw [relP_self (goodR_nodup hb), ← e] at h1
  exact h1
theorem rf_rel {a b : List Int} (ha : goodR a) (hb : goodR b) (e : a.length = b.length) (k : Nat) (hk : k < a.length) : rf (relP a b) (k : Int) = ((b.idxOf (a.getD k 0) : Nat) : Int) ∧ b.idxOf (a.getD k 0) < a.length ∧ rf (relP b a) ((b.idxOf (a.getD k 0) : Nat) : Int) = (k : Int) := by
  have hm : a.getD k 0 ∈ b := by
    rw [goodR_mem hb, ← e]
    exact (goodR_mem ha).mp (getD_mem _ _ _ hk)
  obtain ⟨w1, w2⟩ := idx_get hm
  have gd : ∀ (x y : List Int) (q : Nat), q < x.length → rf (relP x y) (q : Int) = ((y.idxOf (x.getD q 0) : Nat) : Int) := fun x y q hq => by
    unfold rf relP
    rw [Int.toNat_natCast, List.getD_eq_getElem?_getD, List.getElem?_map, List.getElem?_eq_getElem hq, List.getD_eq_getElem?_getD, List.getElem?_eq_getElem hq]
    show ((y.idxOf x[q] : Nat) : Int) + 1 - 1 = _
    rw [Int.add_sub_cancel]
    rfl
  refine ⟨gd a b k hk, by omega, ?_⟩
  rw [gd b a _ w2, w1, get_idx (goodR_nodup ha) k hk]
end Lw

set_option Elab.async false
set_option linter.all false
set_option maxRecDepth 100000
set_option maxHeartbeats 1000000
set_option autoImplicit false
namespace Lw
open PySem L2 DL
/-! ### block rings, there and back -/
theorem ext_inv {a b : List Int} (ha : goodR a) (hb : goodR b) (e : a.length = b.length) (k : Nat) (hk : k < a.length + 2) : ∃ m : Nat, m < a.length + 2 ∧ (ext (relP a b)).getD k 0 = (m : Int) ∧ (ext (relP b a)).getD m 0 = (k : Int) := by
  have l1 := relP_len a b
  have l2 := relP_len b a
  have g1 := relP_good ha hb e
  have g2 := relP_good hb ha e.symm
  rcases (show k = 0 ∨ k = a.length + 1 ∨ ∃ i, k = i + 1 ∧ i < a.length by
    by_cases h0 : k = 0
    · exact .inl h0
    · by_cases h1 : k = a.length + 1
      · exact .inr (.inl h1)
      · exact .inr (.inr ⟨k - 1, by omega, by omega⟩)) with rfl | rfl | ⟨i, rfl, hi⟩
  · exact ⟨0, by omega, by rw [ext_0]; rfl, by rw [ext_0]; rfl⟩
  · have last : ∀ r : List Int, r.length = a.length → (ext r).getD (a.length + 1) 0 = ((a.length + 1 : Nat) : Int) := fun r hr => by
      unfold ext
      rw [List.getD_eq_getElem?_getD, List.getElem?_append_right (by simp; omega)]
      simp [hr]
    exact ⟨a.length + 1, by omega, last _ (by omega), last _ (by omega)⟩
  · obtain ⟨w1, w2, w3⟩ := rf_rel ha hb e i hi
    refine ⟨b.idxOf (a.getD i 0) + 1, by omega, ?_, ?_⟩
    · rw [ext_at _ i (by omega)]
      unfold rf at w1
      rw [Int.toNat_natCast] at w1
      omega
    · rw [ext_at _ _ (by omega)]
      unfold rf at w3
      rw [Int.toNat_natCast] at w3
      omega
def bcN (r : List Int) : Nat := match m_block_rings [.fz true (r.map D.int)] with
  | some (.ok (.tup ds)) => ds.length
  | _ => 0
theorem bc_is {r : List Int} (g : goodR r) (hr : r ≠ []) : ∃ R, m_block_rings [.fz true (r.map D.int)] = some (.ok (.tup (tupsD R))) ∧ Rings (bf r) (upto (r.length + 1)) R ∧ bcN r = R.length := by
  obtain ⟨R, e, h⟩ := brings_ok r g hr
  refine ⟨R, e, h, ?_⟩
  unfold bcN
  rw [e]
  exact tupsD_len R
theorem bf_at {a b : List Int} (ha : goodR a) (hb : goodR b) (e : a.length = b.length) {z m q : Nat} (hz : 1 ≤ z) (hm : (ext (relP a b)).getD (z - 1) 0 = (m : Int)) (hm2 : m + 1 < a.length + 2) (hq : (ext (relP b a)).getD (m + 1) 0 = (q : Int)) : bf (relP a b) (z : Int) = (q : Int) := by
  obtain ⟨q', h1, h2, h3⟩ := ext_inv hb ha e.symm (m + 1) (by omega)
  have eq : q' = q := by rw [hq] at h2; omega
  subst eq
  unfold bf
  rw [show ((z : Int) - 1).toNat = z - 1 by omega, hm]
  have := get_idx (ext_nodup (relP_good ha hb e)) q' (by rw [ext_len, relP_len]; omega)
  rw [h3, Int.natCast_add] at this
  rw [← this]
  rfl
theorem relP_ne {a b : List Int} (na : a ≠ []) : relP a b ≠ [] := fun z => na (List.eq_nil_of_length_eq_zero (by rw [← relP_len a b, z]; rfl))
theorem bc_back_le {a b : List Int} (ha : goodR a) (hb : goodR b) (e : a.length = b.length) (na : a ≠ []) : bcN (relP a b) ≤ bcN (relP b a) := by
  have nr1 : relP a b ≠ [] := relP_ne na
  have nr2 : relP b a ≠ [] := relP_ne fun z => na (List.eq_nil_of_length_eq_zero (by rw [e, z]; rfl))
  obtain ⟨R, _, hR, e1⟩ := bc_is (relP_good ha hb e) nr1
  obtain ⟨R', _, hR', e2⟩ := bc_is (relP_good hb ha e.symm) nr2
  rw [relP_len] at hR hR'
  obtain ⟨L, T, h1, h2, h3, h4, h5⟩ := lab_ex hR (upto_nodup _)
  have := lab_le hR' (fun y => L ((ext (relP b a)).getD y.toNat 0)) (fun x hx => by
    have hx := mem_upto.mp hx
    obtain ⟨z, rfl⟩ : ∃ z : Nat, x = z := ⟨x.toNat, by omega⟩
    -- y - 1 -> m, m + 1 -> q
    obtain ⟨m, m1, m2, m3⟩ := ext_inv hb ha e.symm (z - 1) (by omega)
    have lo := ext_low (relP_good hb ha e.symm) (z - 1) (by rw [relP_len]; omega)
    rw [m2, relP_len] at lo
    obtain ⟨q, q1, q2, q3⟩ := ext_inv ha hb e (m + 1) (by omega)
    have b1 := bf_at hb ha e.symm (z := z) (by omega) m2 (by omega) q2
    rw [b1]
    show L ((ext (relP b a)).getD ((q : Nat) : Int).toNat 0) = L ((ext (relP b a)).getD ((z : Nat) : Int).toNat 0)
    rw [Int.toNat_natCast, Int.toNat_natCast, q3]
    -- now: bf (relP a b) (m + 1) is what stands at z
    obtain ⟨p, p1, p2, p3⟩ := ext_inv hb ha e.symm z (by omega)
    rw [p2]
    have b2 := bf_at ha hb e (z := m + 1) (m := z - 1) (q := p) (by omega) (by rw [Nat.add_sub_cancel]; exact m3) (by omega) (by rw [show z - 1 + 1 = z by omega]; exact p2)
    have := h1 ((m + 1 : Nat) : Int) (mem_upto.mpr (by omega))
    rw [b2] at this
    exact this.symm) T h2 fun t ht => by
      have tm := mem_upto.mp (h3 t ht).1
      obtain ⟨z, rfl⟩ : ∃ z : Nat, t = z := ⟨t.toNat, by omega⟩
      obtain ⟨m, m1, m2, m3⟩ := ext_inv ha hb e z (by omega)
      have mz : m ≠ 0 := fun c => by
        rw [c, ext_0] at m3
        omega
      refine ⟨(m : Int), mem_upto.mpr ?_, ?_⟩
      · omega
      · show L ((ext (relP b a)).getD ((m : Nat) : Int).toNat 0) = _
        rw [Int.toNat_natCast, m3]
        exact (h3 _ ht).2
  omega
theorem bc_back {a b : List Int} (ha : goodR a) (hb : goodR b) (e : a.length = b.length) (na : a ≠ []) : bcN (relP a b) = bcN (relP b a) := Nat.le_antisymm (bc_back_le ha hb e na) (bc_back_le hb ha e.symm fun z => na (List.eq_nil_of_length_eq_zero (by rw [e, z]; rfl)))
end Lw

set_option Elab.async false
set_option linter.all false
set_option maxRecDepth 100000
set_option maxHeartbeats 1000000
set_option autoImplicit false
namespace Lw
open PySem L2 DL
/-! ### two images exchanged: one ring more or one less -/
def swapA (f : Int → Int) (i j : Int) (x : Int) : Int := if x = i then f j else if x = j then f i else f x
theorem rings_congr {f g : Int → Int} {S : List Int} {R : List (List Int)} (h : Rings f S R) (e : ∀ x ∈ S, f x = g x) : Rings g S R := by
  have inS : ∀ c ∈ R, ∀ x ∈ c, x ∈ S := fun c hc x hx => h.perm.mem_iff.mp (List.mem_flatten.mpr ⟨c, hc, hx⟩)
  refine ⟨fun c hc => ⟨(h.ring c hc).ne, fun k hk => ?_, ?_⟩, h.perm, h.low, h.asc⟩
  · rw [← e _ (inS c hc _ (getD_mem _ _ _ (by omega)))]
    exact (h.ring c hc).step k hk
  · have := List.length_pos_iff.mpr (h.ring c hc).ne
    rw [← e _ (inS c hc _ (getD_mem _ _ _ (by omega)))]
    exact (h.ring c hc).last
section
variable {f : Int → Int} {S : List Int} {i j : Int}
theorem swapA_i : swapA f i j i = f j := if_pos rfl
theorem swapA_j : swapA f i j j = f i := by
  unfold swapA
  by_cases c : j = i
  · rw [if_pos c, c]
  · rw [if_neg c, if_pos rfl]
theorem swapA_o {x : Int} (h1 : x ≠ i) (h2 : x ≠ j) : swapA f i j x = f x := by unfold swapA; rw [if_neg h1, if_neg h2]
theorem swapA_into (into : ∀ x ∈ S, f x ∈ S) (hi : i ∈ S) (hj : j ∈ S) : ∀ x ∈ S, swapA f i j x ∈ S := fun x hx => by
  unfold swapA
  split
  · exact into j hj
  · split
    · exact into i hi
    · exact into x hx
theorem swapA_inj (inj : ∀ x ∈ S, ∀ y ∈ S, f x = f y → x = y) (hi : i ∈ S) (hj : j ∈ S) : ∀ x ∈ S, ∀ y ∈ S, swapA f i j x = swapA f i j y → x = y := fun x hx y hy h => by
  unfold swapA at h
  by_cases a : x = i <;> by_cases b : y = i
  · rw [a, b]
  · rw [if_pos a, if_neg b] at h
    by_cases c : y = j
    · rw [if_pos c] at h
      have := inj j hj i hi h
      rw [a, c, this]
    · rw [if_neg c] at h
      exact absurd (inj j hj y hy h).symm c
  · rw [if_neg a, if_pos b] at h
    by_cases c : x = j
    · rw [if_pos c] at h
      have := inj i hi j hj h
      rw [b, c, this]
    · rw [if_neg c] at h
      exact absurd (inj x hx j hj h) c
  · rw [if_neg a, if_neg b] at h
    by_cases c : x = j <;> by_cases d : y = j
    · rw [c, d]
    · rw [if_pos c, if_neg d] at h
      exact absurd (inj i hi y hy h).symm b
    · rw [if_neg c, if_pos d] at h
      exact absurd (inj x hx i hi h) a
    · rw [if_neg c, if_neg d] at h
      exact inj x hx y hy h
theorem swapA_back (ne : i ≠ j) : ∀ x, swapA (swapA f i j) j i x = f x := fun x => by
  by_cases a : x = j
  · rw [a, swapA_i, swapA_i]
  · by_cases b : x = i
    · rw [b, swapA_j, swapA_j]
    · rw [swapA_o a b, swapA_o b a]
/-- at most one more -/
theorem rings_le {R R' : List (List Int)} (nS : S.Nodup) (hi : i ∈ S) (hj : j ∈ S) (ne : i ≠ j) (h : Rings f S R) (h' : Rings (swapA f i j) S R') : R'.length ≤ R.length + 1 := by
  obtain ⟨L, T, h1, h2, h3, h4, h5⟩ := lab_ex h' nS
  have g1 := h1 i hi
  have g2 := h1 j hj
  rw [swapA_i] at g1
  rw [swapA_j] at g2
  have := lab_le h (fun x => if L x = L j then L i else L x) (fun x hx => by
    by_cases a : x = i
    · subst a
      show (if L (f x) = L j then L x else L (f x)) = (if L x = L j then L x else L x)
      rw [g2, if_pos rfl]
      split <;> rfl
    · by_cases b : x = j
      · subst b
        show (if L (f x) = L x then L i else L (f x)) = (if L x = L x then L i else L x)
        rw [g1, if_pos rfl]
        split <;> rfl
      · have := h1 x hx
        rw [swapA_o a b] at this
        show (if L (f x) = L j then L i else L (f x)) = (if L x = L j then L i else L x)
        rw [this]) (T.erase (L j)) (h2.erase _) fun t ht => by
      have m := (h2.mem_erase_iff.mp ht)
      refine ⟨t, (h3 t m.2).1, ?_⟩
      show (if L t = L j then L i else L t) = t
      rw [(h3 t m.2).2, if_neg m.1]
  rw [List.length_erase_of_mem (h4 j hj), h5] at this
  omega
/-- the two in one ring: it is split -/
theorem rings_split {R R' : List (List Int)} (nS : S.Nodup) (inj : ∀ x ∈ S, ∀ y ∈ S, f x = f y → x = y) (into : ∀ x ∈ S, f x ∈ S) (hi : i ∈ S) (ne : i ≠ j) (h : Rings f S R) (h' : Rings (swapA f i j) S R')
    (d : Nat) (hd : itf f i d = j) (mi : ∀ k, k < d → itf f i k ≠ j) (z : Int) (hz : z ∉ S) (ring : ∀ k, 1 ≤ k → k ≤ d → itf f i k ≠ i) : R.length + 1 ≤ R'.length := by
  have inS : ∀ k, itf f i k ∈ S := fun k => by
    induction k with
    | zero => exact hi
    | succ k ih => exact into _ ih
  have hj : j ∈ S := by rw [← hd]; exact inS d
  have d0 : 1 ≤ d := by
    cases d with
    | zero => exact absurd hd ne
    | succ d => omega
  obtain ⟨L, T, h1, h2, h3, h4, h5⟩ := lab_ex h nS
  have Lk : ∀ k, L (itf f i k) = L i := fun k => by
    induction k with
    | zero => rfl
    | succ k ih =>
      show L (f (itf f i k)) = _
      rw [h1 _ (inS k), ih]
  have Lj : L j = L i := by rw [← hd]; exact Lk d
  let A : Int → Prop := fun x => ∃ k, 1 ≤ k ∧ k ≤ d ∧ itf f i k = x
  have iA : ¬ A i := fun ⟨k, a, b, c⟩ => ring k a b c
  have jA : A j := ⟨d, d0, Nat.le_refl _, hd⟩
  have back : ∀ x ∈ S, A (f x) → x = i ∨ (A x ∧ x ≠ j) := fun x hx ⟨k, a, b, c⟩ => by
    obtain ⟨k, rfl⟩ : ∃ q, k = q + 1 := ⟨k - 1, by omega⟩
    have e : itf f i k = x := inj _ (inS k) x hx c
    cases k with
    | zero => exact .inl e.symm
    | succ k => exact .inr ⟨⟨k + 1, by omega, by omega, e⟩, by rw [← e]; exact mi (k + 1) (by omega)⟩
  have dA : ∀ x, Decidable (A x) := fun x => Classical.propDecidable _
  have key := lab_le h' (fun x => if A x then z else L x) (fun x hx => by
    by_cases a : x = i
    · subst a
      rw [swapA_i]
      have n1 : ¬ A (f j) := fun q => by
        rcases back j hj q with e | ⟨_, e⟩
        · exact ne e.symm
        · exact e rfl
      show (if A (f j) then z else L (f j)) = (if A x then z else L x)
      rw [if_neg n1, if_neg iA, h1 j hj, Lj]
    · by_cases b : x = j
      · subst b
        rw [swapA_j]
        show (if A (f i) then z else L (f i)) = (if A x then z else L x)
        rw [if_pos (show A (f i) from ⟨1, by omega, d0, rfl⟩), if_pos jA]
      · rw [swapA_o a b]
        show (if A (f x) then z else L (f x)) = (if A x then z else L x)
        by_cases q : A x
        · obtain ⟨k, k1, k2, e⟩ := q
          have kd : k ≠ d := fun c => b (by rw [← e, c, hd])
          have q2 : A (f x) := ⟨k + 1, by omega, by omega, by show f (itf f i k) = _; rw [e]⟩
          rw [if_pos q2, if_pos ⟨k, k1, k2, e⟩]
        · have q2 : ¬ A (f x) := fun q3 => by
            rcases back x hx q3 with e | ⟨e, _⟩
            · exact a e
            · exact q e
          rw [if_neg q2, if_neg q, h1 x hx]) (z :: T) (List.nodup_cons.mpr ⟨fun m => hz (h3 z m).1, h2⟩) fun t ht => by
      rcases List.mem_cons.mp ht with e | m
      · exact ⟨j, hj, by show (if A j then z else L j) = t; rw [if_pos jA, e]⟩
      · by_cases q : A t
        · refine ⟨i, hi, ?_⟩
          show (if A i then z else L i) = t
          rw [if_neg iA]
          obtain ⟨k, _, _, e⟩ := q
          rw [← Lk k, e]
          exact (h3 t m).2
        · exact ⟨t, (h3 t m).1, by show (if A t then z else L t) = t; rw [if_neg q]; exact (h3 t m).2⟩
  rw [List.length_cons, h5] at key
  exact key
theorem least_nat {p : Nat → Prop} : ∀ {n : Nat}, p n → ∃ d, p d ∧ ∀ k, k < d → ¬ p k := fun {n} => by
  induction n using Nat.strongRecOn with
  | _ n ih =>
    intro hn
    by_cases c : ∃ k, k < n ∧ p k
    · obtain ⟨k, hk, pk⟩ := c
      exact ih k hk pk
    · exact ⟨n, hn, fun k hk pk => c ⟨k, hk, pk⟩⟩
theorem itf_add (f : Int → Int) (a : Int) (m : Nat) : ∀ k, itf f a (k + m) = itf f (itf f a m) k
  | 0 => by rw [Nat.zero_add]; rfl
  | k + 1 => by
    rw [show k + 1 + m = (k + m) + 1 by omega]
    show f (itf f a (k + m)) = f (itf f (itf f a m) k)
    rw [itf_add f a m k]
theorem itf_mul {f : Int → Int} {a : Int} {m : Nat} (h : itf f a m = a) (q k : Nat) : itf f a (k + q * m) = itf f a k := by
  induction q with
  | zero => rw [Nat.zero_mul, Nat.add_zero]
  | succ q ih =>
    rw [Nat.succ_mul, ← Nat.add_assoc, itf_add, h, ih]
/-- each place comes back -/
theorem comes_back (into : ∀ x ∈ S, f x ∈ S) (inj : ∀ x ∈ S, ∀ y ∈ S, f x = f y → x = y) {a : Int} (ha : a ∈ S) : ∃ m, 1 ≤ m ∧ itf f a m = a ∧ ∀ k, 1 ≤ k → k < m → itf f a k ≠ a := by
  have inS : ∀ k, itf f a k ∈ S := fun k => by
    induction k with
    | zero => exact ha
    | succ k ih => exact into _ ih
  have ex : ∃ m, 1 ≤ m ∧ itf f a m = a := by
    refine Classical.byContradiction fun no => ?_
    have nd : ∀ n, (orb f a n).Nodup := fun n => by
      induction n with
      | zero => exact List.nodup_nil
      | succ n ih =>
        rw [← orb_snoc]
        refine List.nodup_append.mpr ⟨ih, by simp, fun x hx y hy => ?_⟩
        rw [List.mem_singleton] at hy
        subst hy
        rintro rfl
        obtain ⟨k, hk, e⟩ := orb_mem hx
        -- itf n = itf k, k < n: so itf (n - k) = a
        have : ∀ (k n : Nat), k < n → itf f a n = itf f a k → itf f a (n - k) = a := fun k => by
          induction k with
          | zero => exact fun n _ e => e
          | succ k ih =>
            intro n hn e
            obtain ⟨q, rfl⟩ : ∃ q, n = q + 1 := ⟨n - 1, by omega⟩
            have := ih q (by omega) (inj _ (inS q) _ (inS k) e)
            rwa [show q + 1 - (k + 1) = q - k by omega]
        exact no ⟨n - k, by omega, this k n hk e⟩
    have := List.Nodup.length_le_of_subset (nd (S.length + 1)) (l₂ := S) fun x hx => by
      obtain ⟨k, _, rfl⟩ := orb_mem hx
      exact inS k
    rw [orb_len] at this
    omega
  obtain ⟨m, hm⟩ := ex
  obtain ⟨d, ⟨h1, h2⟩, h3⟩ := least_nat (p := fun m => 1 ≤ m ∧ itf f a m = a) hm
  exact ⟨d, h1, h2, fun k k1 k2 e => h3 k k2 ⟨k1, e⟩⟩
/-- EXACTLY ONE more or less -/
theorem rings_odd {R R' : List (List Int)} (nS : S.Nodup) (into : ∀ x ∈ S, f x ∈ S) (inj : ∀ x ∈ S, ∀ y ∈ S, f x = f y → x = y) (hi : i ∈ S) (hj : j ∈ S) (ne : i ≠ j) (z : Int) (hz : z ∉ S) (h : Rings f S R) (h' : Rings (swapA f i j) S R') : (R.length + R'.length) % 2 = 1 := by
  have le1 := rings_le nS hi hj ne h h'
  have hb : Rings (swapA (swapA f i j) j i) S R := rings_congr h fun x _ => (swapA_back ne x).symm
  have le2 := rings_le nS hj hi (Ne.symm ne) h' hb
  have split : ∀ {g : Int → Int} {a b : Int} {Q Q' : List (List Int)}, (∀ x ∈ S, g x ∈ S) → (∀ x ∈ S, ∀ y ∈ S, g x = g y → x = y) → a ∈ S → a ≠ b → Rings g S Q → Rings (swapA g a b) S Q' → (∃ n, itf g a n = b) → Q.length + 1 ≤ Q'.length := fun {g a b Q Q'} into inj ha ne hQ hQ' ⟨n, hn⟩ => by
    obtain ⟨d, hd, mi⟩ := least_nat (p := fun n => itf g a n = b) hn
    refine rings_split nS inj into ha ne hQ hQ' d hd mi z hz fun k k1 k2 e => ?_
    -- itf k = a with 1 ≤ k ≤ d: then b comes earlier
    refine mi (d - k) (by omega) ?_
    rw [← hd]
    have := itf_add g a k (d - k)
    rw [show d - k + k = d by omega, e] at this
    exact this.symm
  by_cases c : ∃ n, itf f i n = j
  · have := split into inj hi ne h h' c
    omega
  · have ra : ∃ n, itf (swapA f i j) j n = i := by
      obtain ⟨m, m1, m2, m3⟩ := comes_back into inj hi
      refine ⟨m, ?_⟩
      have : ∀ k, 1 ≤ k → k ≤ m → itf (swapA f i j) j k = itf f i k := fun k => by
        induction k with
        | zero => exact fun h => absurd h (by omega)
        | succ k ih =>
          intro _ hk
          cases k with
          | zero => exact swapA_j
          | succ k =>
            show swapA f i j (itf (swapA f i j) j (k + 1)) = f (itf f i (k + 1))
            rw [ih (by omega) (by omega), swapA_o (m3 (k + 1) (by omega) (by omega)) fun e => c ⟨_, e⟩]
      rw [this m m1 (Nat.le_refl _), m2]
    have := split (swapA_into into hi hj) (swapA_inj inj hi hj) hj (Ne.symm ne) h' hb ra
    omega
end
end Lw

set_option Elab.async false
set_option linter.all false
set_option maxRecDepth 100000
set_option maxHeartbeats 1000000
set_option autoImplicit false
namespace Lw
open PySem L2 DL
/-! ### an exchange of blocks: two images are exchanged twice -/
def blockP (l : List Int) (i j k m : Nat) : List Int := l.take i ++ (l.drop k).take (m - k) ++ (l.drop j).take (k - j) ++ (l.drop i).take (j - i) ++ l.drop m
theorem seg (l : List Int) (i j : Nat) (hij : i ≤ j) : (l.drop i).take (j - i) ++ l.drop j = l.drop i := by
  have h := List.take_append_drop (j - i) (l.drop i)
  rw [List.drop_drop, show i + (j - i) = j by omega] at h
  exact h
theorem block_perm (l : List Int) (i j k m : Nat) (h1 : i ≤ j) (h2 : j ≤ k) (h3 : k ≤ m) : (blockP l i j k m).Perm l := by
  have e : l = l.take i ++ ((l.drop i).take (j - i) ++ ((l.drop j).take (k - j) ++ ((l.drop k).take (m - k) ++ l.drop m))) := by
    rw [seg l k m h3, seg l j k h2, seg l i j h1, List.take_append_drop]
  unfold blockP
  conv => rhs; rw [e]
  simp only [List.append_assoc]
  refine List.Perm.append_left _ ?_
  generalize (l.drop i).take (j - i) = a
  generalize (l.drop j).take (k - j) = b
  generalize (l.drop k).take (m - k) = c
  generalize l.drop m = d
  rw [← List.append_assoc, ← List.append_assoc, ← List.append_assoc, ← List.append_assoc]
  refine List.Perm.append_right _ ?_
  refine (List.perm_append_comm (l₁ := c ++ b) (l₂ := a)).trans ?_
  rw [List.append_assoc]
  exact List.Perm.append_left _ List.perm_append_comm
/-- the four bounds -/
structure Bd (n i j k l : Nat) : Prop where
  ij : i < j
  jk : j ≤ k
  kl : k < l
  ln : l ≤ n
theorem blockP_len {r : List Int} {i j k l : Nat} (b : Bd r.length i j k l) : (blockP r i j k l).length = r.length := (block_perm r i j k l (by have := b.ij; omega) b.jk (by have := b.kl; omega)).length_eq
theorem blockP_good {r : List Int} {i j k l : Nat} (g : goodR r) (b : Bd r.length i j k l) : goodR (blockP r i j k l) := goodR_of (n := r.length) g.1 ((block_perm r i j k l (by have := b.ij; omega) b.jk (by have := b.kl; omega)).trans (goodR_perm g))
def sg (i j k l p : Nat) : Nat := if p ≤ i then p else if p ≤ i + (l - k) then p + k - i else if p ≤ i + (l - j) then p + j + k - i - l else if p ≤ l then p + j - l else p
def ti (i j k l p : Nat) : Nat := if p ≤ i then p else if p ≤ j then p + l - j else if p ≤ k then p + i + l - j - k else if p ≤ l then p + i - k else p
section
variable {n i j k l : Nat}
theorem sg_ti (b : Bd n i j k l) (p : Nat) : sg i j k l (ti i j k l p) = p := by
  obtain ⟨h1, h2, h3, h4⟩ := b
  unfold ti
  (repeat' split) <;> (unfold sg; (repeat' split) <;> omega)
theorem ti_sg (b : Bd n i j k l) (p : Nat) : ti i j k l (sg i j k l p) = p := by
  obtain ⟨h1, h2, h3, h4⟩ := b
  unfold sg
  (repeat' split) <;> (unfold ti; (repeat' split) <;> omega)
theorem sg_in (b : Bd n i j k l) {p : Nat} (h : 1 ≤ p ∧ p ≤ n + 1) : 1 ≤ sg i j k l p ∧ sg i j k l p ≤ n + 1 := by
  obtain ⟨h1, h2, h3, h4⟩ := b
  unfold sg
  (repeat' split) <;> omega
theorem ti_in (b : Bd n i j k l) {p : Nat} (h : 1 ≤ p ∧ p ≤ n + 1) : 1 ≤ ti i j k l p ∧ ti i j k l p ≤ n + 1 := by
  obtain ⟨h1, h2, h3, h4⟩ := b
  unfold ti
  (repeat' split) <;> omega
theorem mu_lt (b : Bd n i j k l) (c : j < k) {p : Nat} (h : 1 ≤ p) : sg i j k l (ti i j k l p - 1) + 1 = if p = j + 1 then l + 1 else if p = l + 1 then j + 1 else if p = i + 1 then k + 1 else if p = k + 1 then i + 1 else p := by
  obtain ⟨h1, h2, h3, h4⟩ := b
  unfold ti
  (repeat' split) <;> (unfold sg; (repeat' split) <;> omega)
theorem mu_eq (b : Bd n i k k l) {p : Nat} (h : 1 ≤ p) : sg i k k l (ti i k k l p - 1) + 1 = if p = k + 1 then i + 1 else if p = l + 1 then k + 1 else if p = i + 1 then l + 1 else p := by
  obtain ⟨h1, h2, h3, h4⟩ := b
  unfold ti
  (repeat' split) <;> (unfold sg; (repeat' split) <;> omega)
end
theorem blockP_at {r : List Int} {i j k l : Nat} (b : Bd r.length i j k l) (m : Nat) (hm : m < r.length) : (blockP r i j k l).getD m 0 = r.getD (sg i j k l (m + 1) - 1) 0 := by
  obtain ⟨h1, h2, h3, h4⟩ := b
  rw [List.getD_eq_getElem?_getD, List.getD_eq_getElem?_getD]
  congr 1
  unfold blockP sg
  simp only [List.getElem?_append, List.getElem?_take, List.getElem?_drop, List.length_append, List.length_take, List.length_drop]
  (repeat' split) <;> first | (exfalso; omega) | (exact congrArg (fun q => r[q]?) (by omega))
theorem ext_block {r : List Int} {i j k l : Nat} (b : Bd r.length i j k l) (p : Nat) (hp : p < r.length + 2) : (ext (blockP r i j k l)).getD p 0 = (ext r).getD (sg i j k l p) 0 := by
  have last : ∀ q : List Int, q.length = r.length → (ext q).getD (r.length + 1) 0 = (r.length : Int) + 1 := fun q hq => by
    unfold ext
    rw [List.getD_eq_getElem?_getD, List.getElem?_append_right (by simp; omega)]
    simp [hq]
  have lb := blockP_len b
  rcases (show p = 0 ∨ p = r.length + 1 ∨ ∃ m, p = m + 1 ∧ m < r.length by
    by_cases h0 : p = 0
    · exact .inl h0
    · by_cases h1 : p = r.length + 1
      · exact .inr (.inl h1)
      · exact .inr (.inr ⟨p - 1, by omega, by omega⟩)) with rfl | rfl | ⟨m, rfl, hm⟩
  · rw [show sg i j k l 0 = 0 by unfold sg; rw [if_pos (Nat.zero_le _)], ext_0, ext_0]
  · rw [show sg i j k l (r.length + 1) = r.length + 1 by obtain ⟨h1, h2, h3, h4⟩ := b; unfold sg; (repeat' split) <;> omega, last _ lb, last _ rfl]
  · have s1 : 1 ≤ sg i j k l (m + 1) ∧ sg i j k l (m + 1) ≤ r.length := by
      obtain ⟨h1, h2, h3, h4⟩ := b
      unfold sg
      (repeat' split) <;> omega
    rw [ext_at _ m (by omega), blockP_at b m hm]
    obtain ⟨q, hq⟩ : ∃ q, sg i j k l (m + 1) = q + 1 := ⟨sg i j k l (m + 1) - 1, by omega⟩
    rw [hq, ext_at _ q (by omega), Nat.add_sub_cancel]
/-- the new leads, by the old ones -/
theorem bf_block {r : List Int} {i j k l : Nat} (g : goodR r) (b : Bd r.length i j k l) (z : Nat) (h1 : 1 ≤ z) (h2 : z ≤ r.length + 1) :
    ∃ q : Nat, 1 ≤ q ∧ q ≤ r.length + 1 ∧ bf r ((sg i j k l (z - 1) + 1 : Nat) : Int) = (q : Int) ∧ bf (blockP r i j k l) (z : Int) = ((ti i j k l q : Nat) : Int) := by
  have sn : sg i j k l (z - 1) ≤ r.length := by
    obtain ⟨h1, h2, h3, h4⟩ := b
    unfold sg
    (repeat' split) <;> omega
  have g' := blockP_good g b
  have lb := blockP_len b
  have lo := ext_low g (sg i j k l (z - 1)) sn
  have hm : (ext r).getD (sg i j k l (z - 1)) 0 + 1 ∈ ext r := (ext_mem g).mpr (by omega)
  obtain ⟨w1, w2⟩ := idx_get hm
  rw [ext_len] at w2
  obtain ⟨q, hq⟩ : ∃ q, (ext r).idxOf ((ext r).getD (sg i j k l (z - 1)) 0 + 1) = q := ⟨_, rfl⟩
  rw [hq] at w1 w2
  have q1 : 1 ≤ q := by
    rcases Nat.eq_zero_or_pos q with e | e
    · rw [e, ext_0] at w1
      omega
    · exact e
  refine ⟨q, q1, by omega, ?_, ?_⟩
  · unfold bf
    rw [show (((sg i j k l (z - 1) + 1 : Nat) : Int) - 1).toNat = sg i j k l (z - 1) by omega, hq]
  · have tq := ti_in b (p := q) ⟨q1, by omega⟩
    have e2 := ext_block b (ti i j k l q) (by omega)
    rw [sg_ti b, w1] at e2
    have e1 := ext_block b (z - 1) (by omega)
    unfold bf
    rw [show ((z : Int) - 1).toNat = z - 1 by omega, e1, ← e2, get_idx (ext_nodup g') (ti i j k l q) (by rw [ext_len]; omega)]
theorem rings_conj {f g : Int → Int} {S : List Int} {R R' : List (List Int)} (nS : S.Nodup) (φ ψ : Int → Int) (hφ : ∀ x ∈ S, φ x ∈ S) (hψ : ∀ x ∈ S, ψ x ∈ S) (e1 : ∀ x ∈ S, φ (ψ x) = x) (e2 : ∀ x ∈ S, ψ (φ x) = x) (fS : ∀ x ∈ S, f x ∈ S)
    (c : ∀ x ∈ S, φ (f x) = g (φ x)) (h : Rings f S R) (h' : Rings g S R') : R.length = R'.length := by
  refine Nat.le_antisymm ?_ ?_
  · obtain ⟨L, T, h1, h2, h3, h4, h5⟩ := lab_ex h nS
    have := lab_le h' (fun y => L (ψ y)) (fun y hy => by
      show L (ψ (g y)) = L (ψ y)
      have := c (ψ y) (hψ y hy)
      rw [e1 y hy] at this
      rw [← this, e2 _ (fS _ (hψ y hy)), h1 _ (hψ y hy)]) T h2 fun t ht => ⟨φ t, hφ t (h3 t ht).1, by show L (ψ (φ t)) = t; rw [e2 t (h3 t ht).1]; exact (h3 t ht).2⟩
    omega
  · obtain ⟨L, T, h1, h2, h3, h4, h5⟩ := lab_ex h' nS
    have := lab_le h (fun x => L (φ x)) (fun x hx => by
      show L (φ (f x)) = L (φ x)
      rw [c x hx, h1 _ (hφ x hx)]) T h2 fun t ht => ⟨ψ t, hψ t (h3 t ht).1, by show L (φ (ψ t)) = t; rw [e1 t (h3 t ht).1]; exact (h3 t ht).2⟩
    omega
/-- the four places whose images are exchanged -/
def pA (i j k l : Nat) : Int := ((i + 1 : Nat) : Int)
def pB (i j k l : Nat) : Int := if j < k then ((k + 1 : Nat) : Int) else ((l + 1 : Nat) : Int)
def pC (i j k l : Nat) : Int := ((j + 1 : Nat) : Int)
def pD (i j k l : Nat) : Int := ((l + 1 : Nat) : Int)
theorem pins {n i j k l : Nat} (b : Bd n i j k l) : pA i j k l ∈ upto (n + 1) ∧ pB i j k l ∈ upto (n + 1) ∧ pC i j k l ∈ upto (n + 1) ∧ pD i j k l ∈ upto (n + 1) ∧ pA i j k l ≠ pB i j k l ∧ pC i j k l ≠ pD i j k l := by
  obtain ⟨h1, h2, h3, h4⟩ := b
  unfold pA pB pC pD
  refine ⟨mem_upto.mpr (by omega), ?_, mem_upto.mpr (by omega), mem_upto.mpr (by omega), ?_, by omega⟩
  · split
    · exact mem_upto.mpr (by omega)
    · exact mem_upto.mpr (by omega)
  · split <;> omega
def sw2 (f : Int → Int) (i j k l : Nat) : Int → Int := swapA (swapA f (pA i j k l) (pB i j k l)) (pC i j k l) (pD i j k l)
theorem sw2_val (f : Int → Int) {n i j k l : Nat} (b : Bd n i j k l) (y : Nat) (hy : 1 ≤ y) : sw2 f i j k l (y : Int) = f ((sg i j k l (ti i j k l y - 1) + 1 : Nat) : Int) := by
  have b' := b
  obtain ⟨h1, h2, h3, h4⟩ := b
  unfold sw2 swapA pA pB pC pD
  by_cases c : j < k
  · rw [mu_lt b' c hy]
    simp only [if_pos c]
    (repeat' split) <;> first | (exact absurd trivial (by assumption)) | (exfalso; omega) | rfl | (congr 1; omega)
  · have e : j = k := by omega
    subst e
    rw [mu_eq b' hy]
    simp only [if_neg c]
    (repeat' split) <;> first | (exact absurd trivial (by assumption)) | (exfalso; omega) | rfl | (congr 1; omega)
theorem bc_block {r : List Int} {i j k l : Nat} (g : goodR r) (nr : r ≠ []) (b : Bd r.length i j k l) {R : List (List Int)} (h : Rings (sw2 (bf r) i j k l) (upto (r.length + 1)) R) : bcN (blockP r i j k l) = R.length := by
  have g' := blockP_good g b
  have lb := blockP_len b
  have nr' : blockP r i j k l ≠ [] := fun z => nr (List.eq_nil_of_length_eq_zero (by rw [← lb, z]; rfl))
  obtain ⟨R', _, hR', e⟩ := bc_is g' nr'
  rw [lb] at hR'
  rw [e]
  have nat : ∀ x ∈ upto (r.length + 1), ∃ z : Nat, x = z ∧ 1 ≤ z ∧ z ≤ r.length + 1 := fun x hx => by
    have := mem_upto.mp hx
    exact ⟨x.toNat, by omega, by omega, by omega⟩
  have into := bf_into g'
  rw [lb] at into
  refine rings_conj (upto_nodup _) (fun x => ((sg i j k l x.toNat : Nat) : Int)) (fun x => ((ti i j k l x.toNat : Nat) : Int)) (fun x hx => ?_) (fun x hx => ?_) (fun x hx => ?_) (fun x hx => ?_) into (fun x hx => ?_) hR' h
  · obtain ⟨z, rfl, h1, h2⟩ := nat x hx
    have := sg_in b (p := z) ⟨h1, h2⟩
    exact mem_upto.mpr (by rw [Int.toNat_natCast]; omega)
  · obtain ⟨z, rfl, h1, h2⟩ := nat x hx
    have := ti_in b (p := z) ⟨h1, h2⟩
    exact mem_upto.mpr (by rw [Int.toNat_natCast]; omega)
  · obtain ⟨z, rfl, h1, h2⟩ := nat x hx
    show ((sg i j k l ((ti i j k l ((z : Nat) : Int).toNat : Nat) : Int).toNat : Nat) : Int) = _
    rw [Int.toNat_natCast, Int.toNat_natCast, sg_ti b]
  · obtain ⟨z, rfl, h1, h2⟩ := nat x hx
    show ((ti i j k l ((sg i j k l ((z : Nat) : Int).toNat : Nat) : Int).toNat : Nat) : Int) = _
    rw [Int.toNat_natCast, Int.toNat_natCast, ti_sg b]
  · obtain ⟨z, rfl, h1, h2⟩ := nat x hx
    obtain ⟨q, q1, q2, a1, a2⟩ := bf_block g b z h1 h2
    have si := sg_in b (p := z) ⟨h1, h2⟩
    show ((sg i j k l (bf (blockP r i j k l) (z : Int)).toNat : Nat) : Int) = sw2 (bf r) i j k l ((sg i j k l ((z : Nat) : Int).toNat : Nat) : Int)
    rw [a2, Int.toNat_natCast, Int.toNat_natCast, sg_ti b, sw2_val (bf r) b _ si.1, ti_sg b, a1]
/-- the rings in between -/
theorem mid {r : List Int} {i j k l : Nat} (g : goodR r) (nr : r ≠ []) (b : Bd r.length i j k l) : ∃ R0 R1 R2, Rings (bf r) (upto (r.length + 1)) R0 ∧ bcN r = R0.length ∧ Rings (swapA (bf r) (pA i j k l) (pB i j k l)) (upto (r.length + 1)) R1 ∧ Rings (sw2 (bf r) i j k l) (upto (r.length + 1)) R2 ∧ bcN (blockP r i j k l) = R2.length := by
  obtain ⟨a1, a2, a3, a4, a5, a6⟩ := pins b
  have hl := g.1
  have in1 := swapA_into (bf_into g) a1 a2
  have ij1 := swapA_inj (bf_inj g) a1 a2
  obtain ⟨R0, _, h0, e0⟩ := bc_is g nr
  obtain ⟨R1, _, h1⟩ := rings_of_ok _ (upto (r.length + 1)) (by rw [upto_len]; omega) (upto_nodup _) in1 ij1
  obtain ⟨R2, _, h2⟩ := rings_of_ok _ (upto (r.length + 1)) (by rw [upto_len]; omega) (upto_nodup _) (swapA_into in1 a3 a4) (swapA_inj ij1 a3 a4)
  exact ⟨R0, R1, R2, h0, e0, h1, h2, bc_block g nr b h2⟩
theorem bc_step {r : List Int} {i j k l : Nat} (g : goodR r) (nr : r ≠ []) (b : Bd r.length i j k l) : bcN r ≤ bcN (blockP r i j k l) + 2 := by
  obtain ⟨a1, a2, a3, a4, a5, a6⟩ := pins b
  obtain ⟨R0, R1, R2, h0, e0, h1, h2, e2⟩ := mid g nr b
  have b0 : Rings (swapA (swapA (bf r) (pA i j k l) (pB i j k l)) (pB i j k l) (pA i j k l)) (upto (r.length + 1)) R0 := rings_congr h0 fun x _ => (swapA_back a5 x).symm
  have b1 : Rings (swapA (sw2 (bf r) i j k l) (pD i j k l) (pC i j k l)) (upto (r.length + 1)) R1 := rings_congr h1 fun x _ => (swapA_back a6 x).symm
  have l1 := rings_le (upto_nodup _) a2 a1 (Ne.symm a5) h1 b0
  have l2 := rings_le (upto_nodup _) a4 a3 (Ne.symm a6) h2 b1
  omega
theorem bc_up2 {r : List Int} {i j k l : Nat} (g : goodR r) (nr : r ≠ []) (b : Bd r.length i j k l) (f1 : bf r ((i + 1 : Nat) : Int) = ((k + 1 : Nat) : Int)) (f2 : bf r ((j + 1 : Nat) : Int) = ((l + 1 : Nat) : Int)) : bcN r + 2 = bcN (blockP r i j k l) := by
  obtain ⟨a1, a2, a3, a4, a5, a6⟩ := pins b
  obtain ⟨R0, R1, R2, h0, e0, h1, h2, e2⟩ := mid g nr b
  have in0 := bf_into g
  have ij0 := bf_inj g
  have in1 := swapA_into in0 a1 a2
  have ij1 := swapA_inj ij0 a1 a2
  have z0 : (0 : Int) ∉ upto (r.length + 1) := fun z => by have := mem_upto.mp z; omega
  have l1 := rings_le (upto_nodup _) a1 a2 a5 h0 h1
  have l2 := rings_le (upto_nodup _) a3 a4 a6 h1 h2
  have b' := b
  obtain ⟨o1, o2, o3, o4⟩ := b
  by_cases c : j < k
  · have eB : pB i j k l = ((k + 1 : Nat) : Int) := if_pos c
    have s1 := rings_split (upto_nodup _) ij0 in0 a1 a5 h0 h1 1 (by rw [eB]; exact f1) (fun q hq => by
      obtain rfl : q = 0 := by omega
      exact a5) 0 z0 (fun q q1 q2 => by
      obtain rfl : q = 1 := by omega
      show bf r (pA i j k l) ≠ pA i j k l
      unfold pA
      rw [f1]
      omega)
    have v : swapA (bf r) (pA i j k l) (pB i j k l) (pC i j k l) = pD i j k l := by
      rw [swapA_o (by unfold pC pA; omega) (by rw [eB]; unfold pC; omega)]
      exact f2
    have s2 := rings_split (upto_nodup _) ij1 in1 a3 a6 h1 h2 1 v (fun q hq => by
      obtain rfl : q = 0 := by omega
      exact a6) 0 z0 (fun q q1 q2 => by
      obtain rfl : q = 1 := by omega
      show swapA (bf r) (pA i j k l) (pB i j k l) (pC i j k l) ≠ pC i j k l
      rw [v]
      exact Ne.symm a6)
    omega
  · obtain rfl : j = k := by omega
    have eB : pB i j j l = ((l + 1 : Nat) : Int) := if_neg c
    have t2 : itf (bf r) (pA i j j l) 2 = ((l + 1 : Nat) : Int) := by
      show bf r (bf r ((i + 1 : Nat) : Int)) = _
      rw [f1, f2]
    have t1 : itf (bf r) (pA i j j l) 1 = ((j + 1 : Nat) : Int) := f1
    have s1 := rings_split (upto_nodup _) ij0 in0 a1 a5 h0 h1 2 (by rw [eB]; exact t2) (fun q hq => by
      rcases (show q = 0 ∨ q = 1 by omega) with rfl | rfl
      · exact a5
      · rw [t1, eB]; omega) 0 z0 (fun q q1 q2 => by
      rcases (show q = 1 ∨ q = 2 by omega) with rfl | rfl
      · rw [t1]; unfold pA; omega
      · rw [t2]; unfold pA; omega)
    have v : swapA (bf r) (pA i j j l) (pB i j j l) (pC i j j l) = pD i j j l := by
      rw [swapA_o (by unfold pC pA; omega) (by rw [eB]; unfold pC; omega)]
      exact f2
    have s2 := rings_split (upto_nodup _) ij1 in1 a3 a6 h1 h2 1 v (fun q hq => by
      obtain rfl : q = 0 := by omega
      exact a6) 0 z0 (fun q q1 q2 => by
      obtain rfl : q = 1 := by omega
      show swapA (bf r) (pA i j j l) (pB i j j l) (pC i j j l) ≠ pC i j j l
      rw [v]
      exact Ne.symm a6)
    omega
theorem bc_le {r : List Int} (g : goodR r) (nr : r ≠ []) : bcN r ≤ r.length + 1 := by
  obtain ⟨R, _, h, e⟩ := bc_is g nr
  obtain ⟨L, T, h1, h2, h3, h4, h5⟩ := lab_ex h (upto_nodup _)
  have := List.Nodup.length_le_of_subset h2 (l₂ := upto (r.length + 1)) fun t ht => (h3 t ht).1
  rw [upto_len] at this
  omega
theorem upto_at (n q : Nat) (h : q < n) : (upto n).getD q 0 = (q : Int) + 1 := by
  rw [List.getD_eq_getElem?_getD, List.getElem?_eq_getElem (by rw [upto_len]; exact h)]
  simp [upto]
theorem ext_upto (n q : Nat) (h : q < n + 2) : (ext (upto n)).getD q 0 = (q : Int) := by
  rcases (show q = 0 ∨ q = n + 1 ∨ ∃ m, q = m + 1 ∧ m < n by
    by_cases h0 : q = 0
    · exact .inl h0
    · by_cases h1 : q = n + 1
      · exact .inr (.inl h1)
      · exact .inr (.inr ⟨q - 1, by omega, by omega⟩)) with rfl | rfl | ⟨m, rfl, hm⟩
  · rw [ext_0]; rfl
  · unfold ext
    rw [List.getD_eq_getElem?_getD, List.getElem?_append_right (by simp [upto_len])]
    simp [upto_len]
  · rw [ext_at _ m (by rw [upto_len]; exact hm), upto_at n m hm]
    omega
theorem bc_up (n : Nat) (hn : n ≤ 40) (n1 : 1 ≤ n) : bcN (upto n) = n + 1 := by
  have g : goodR (upto n) := goodR_of hn (.refl _)
  have nr : upto n ≠ [] := fun z => by
    have := upto_len n
    rw [z] at this
    exact absurd this (by show ¬ 0 = n; omega)
  obtain ⟨R, _, hR, e⟩ := bc_is g nr
  have le := bc_le g nr
  rw [upto_len] at hR le
  have f1 : ∀ x ∈ upto (n + 1), bf (upto n) x = x := fun x hx => by
    have := mem_upto.mp hx
    obtain ⟨z, rfl⟩ : ∃ z : Nat, x = z := ⟨x.toNat, by omega⟩
    unfold bf
    rw [show ((z : Int) - 1).toNat = z - 1 by omega, ext_upto n (z - 1) (by omega), show ((z - 1 : Nat) : Int) + 1 = (z : Int) by omega, ← ext_upto n z (by omega), get_idx (ext_nodup g) z (by rw [ext_len, upto_len]; omega)]
    rw [ext_upto n z (by omega)]
  have a := lab_le hR id (fun x hx => by show bf (upto n) x = x; exact f1 x hx) (upto (n + 1)) (upto_nodup _) fun t ht => ⟨t, ht, rfl⟩
  rw [upto_len] at a
  omega
end Lw

set_option Elab.async false
set_option linter.all false
set_option maxRecDepth 100000
set_option maxHeartbeats 1000000
set_option autoImplicit false
namespace Lw
open PySem L2 DL
/-! ### moves of blocks, as the law draws and makes them -/
theorem c0n (l : List Int) (j : Nat) (h : j ≤ l.length) : cut (l.map D.int) none (some (j : Int)) = (l.take j).map D.int := by rw [cut_0n _ _ (by simpa using h), List.map_take]
theorem cn0 (l : List Int) (j : Nat) (h : j ≤ l.length) : cut (l.map D.int) (some (j : Int)) none = (l.drop j).map D.int := by rw [cut_n0 _ _ (by simpa using h), List.map_drop]
theorem cnn (l : List Int) (i j : Nat) (h : i ≤ l.length) (h2 : j ≤ l.length) : cut (l.map D.int) (some (i : Int)) (some (j : Int)) = ((l.drop i).take (j - i)).map D.int := by rw [cut_nn _ _ _ (by simpa using h) (by simpa using h2), List.map_take, List.map_drop]
theorem n_bs : decide (("blocks" : Str) = "swap") = false := by decide +kernel
theorem n_bn : decide (("blocks" : Str) = "next") = false := by decide +kernel
theorem n_bt : decide (("blocks" : Str) = "take") = false := by decide +kernel
theorem n_bf : decide (("blocks" : Str) = "flip") = false := by decide +kernel
theorem at_hd (x : D) (xs : List D) : L2.atI (x :: xs) 0 = some x := by
  have h := atI_nat (x :: xs) 0 (by simp)
  simpa using h
theorem cut_tl (x : D) (xs : List D) : cut (x :: xs) (some 1) none = xs := by
  have h := cut_n0 (x :: xs) 1 (by simp)
  simpa using h
theorem lm_blocks (l : List Int) (i j k m : Nat) (h1 : i ≤ j) (h2 : j ≤ k) (h3 : k ≤ m) (h4 : m ≤ l.length) (hl : l.length ≤ 900) : m__law_moved [.tup (l.map D.int), .tup [.str "blocks", .int i, .int j, .int k, .int m]] = some (.ok (.tup ((blockP l i j k m).map D.int))) := by
  have a1 := dAdd_m (l.take i) ((l.drop k).take (m - k)) (by simp; omega)
  have a2 := dAdd_m (l.take i ++ (l.drop k).take (m - k)) ((l.drop j).take (k - j)) (by simp; omega)
  have a3 := dAdd_m (l.take i ++ (l.drop k).take (m - k) ++ (l.drop j).take (k - j)) ((l.drop i).take (j - i)) (by simp; omega)
  have a4 := dAdd_m (l.take i ++ (l.drop k).take (m - k) ++ (l.drop j).take (k - j) ++ (l.drop i).take (j - i)) (l.drop m) (by simp; omega)
  unfold m__law_moved b__law_moved
  simp only [bnd_ok, bnd_er, sE_ok, sE_er, mSeq_eq, seqO_nx, seqO_rt, seqO_er, seqO_bk, seqO_ct, mIf_eq, ifO_ok, ifO_er, mVar_z, mVar_s, mVarD_z, mVarD_s, mC_eq, mBin_eq, mUn_eq, mCB_eq, mNil_eq, mCons_eq, mSet_eq, mRet_eq, mSkip_eq, mBrk_eq, mCnt_eq, mRaise_eq, mRetN_eq, mDrop_eq, mTst_eq, tstO_bl, tstO_er, mAndT_eq, andT_ok, andT_f, andT_t, andT_er, mOrT_eq, orT_ok, orT_f, orT_t, orT_er, mNotT_eq, mAnd_eq, andD_ok, andD_f, andD_t, andD_er, mOr_eq, orD_ok, orD_f, orD_t, orD_er, dNot_bl, dAdd_i, dSub_i, dNeg_i, dCmp_i, dInt_i, dInt_b, dAbs_i, dMax_i, dMin_i, dLen_l, dLen_t, dLen_f, dList_l, dList_t, dTuple_l, dTuple_t, dRev_l, dRev_t, dIx_l, dIx_t, dIx_f, dIsN_n, dNotN_n, mTup_eq, mLst_eq, mSl_eq, mNone_eq, mSome_eq, someO_i, dSl_t, dSl_l, mFor_eq, mItems_eq, itemsO_l, itemsO_t, itemsO_f, mRgI1_eq, mRgI2_eq, outR_nx, outR_rt, outR_er, run1, run2, run3, run4, forGo_nil, forGo_cons, forO_nx, forO_ct, forO_bk, forO_rt, forO_er, gD_eq, mMut_eq, mutO_l, subO_eq, ownD_z, ownD_s, dSet_l, List.set_cons_zero, List.set_cons_succ, List.getElem?_cons_zero, List.getElem?_cons_succ, List.replicate_succ, List.replicate_zero, Nat.reduceSub, Nat.reduceAdd, List.length_cons, List.length_nil, Option.bind_some, Option.map_some, Bool.false_eq_true, if_true, if_false, reduceIte, Bool.and_true, Bool.true_and, Bool.and_false, Bool.false_and, Bool.or_true, Bool.true_or, Bool.or_false, Bool.false_or, Bool.not_true, Bool.not_false, DL.isNon, isSub, reduceCtorEq, decide_true, decide_false, clrO, Bool.or_self, Bool.and_self, Nat.reduceLT, Int.reduceLT, Int.reduceLE, Int.reduceAdd, Int.reduceSub, Int.reduceNeg, Int.reduceMul, Int.reduceEq, Int.cast_ofNat_Int, gk0, gk1, gk2, gk3, gk4, gk5, gk6, gk7, gk8, gk9, gk10, gk11, gk12, mMeth_eq, methO_ok, mRgI3_eq, mFrz_eq, frzO_s, mAug_eq, augO_s, dAddA_i, dTupX_l, dTupX_t, rowD_t, rowD_f, dList_f, dTupX_f, dRev_f, at_hd, cut_tl, dEq_s, n_bs, n_bn, n_bt, n_bf, mUnp, gT, gSets, c0n l i (by omega), cnn l k m (by omega) (by omega), cnn l j k (by omega) (by omega), cnn l i j (by omega) (by omega), cn0 l m (by omega), a1, a2, a3, a4]
  rfl

theorem pdig (c : Int) (n : Nat) (hn : 2 ≤ n) (hn2 : n ≤ 40) : ∃ e0 e1 e2 e3 e4 e5 : Int, m__law_digits [.int c, .lst [.int n, .int ((n : Int) - 1), .int ((n : Int) + 1), .int ((n : Int) + 1), .int ((n : Int) + 1), .int ((n : Int) + 1)]] = some (.ok (.lst [.int e0, .int e1, .int e2, .int e3, .int e4, .int e5])) ∧ (0 ≤ e0 ∧ e0 < n) ∧ (0 ≤ e1 ∧ e1 < (n : Int) - 1) ∧ (0 ≤ e2 ∧ e2 < (n : Int) + 1) ∧ (0 ≤ e3 ∧ e3 < (n : Int) + 1) ∧ (0 ≤ e4 ∧ e4 < (n : Int) + 1) ∧ (0 ≤ e5 ∧ e5 < (n : Int) + 1) := by
  have p : ∀ x y : Int, 0 < y → 0 ≤ x % y ∧ x % y < y := fun x y h => ⟨Int.emod_nonneg x (by omega), Int.emod_lt_of_pos x h⟩
  exact ⟨_, _, _, _, _, _, digs_ok c [n, (n : Int) - 1, (n : Int) + 1, (n : Int) + 1, (n : Int) + 1, (n : Int) + 1] (by intro s hs; simp at hs; omega) (by simp), p _ _ (by omega), p _ _ (by omega), p _ _ (by omega), p _ _ (by omega), p _ _ (by omega), p _ _ (by omega)⟩
theorem pm_blocks (c : Int) (n : Nat) (hn : 2 ≤ n) (hn2 : n ≤ 40) : ∃ i j k m : Nat, i < j ∧ j ≤ k ∧ k < m ∧ m ≤ n ∧ m__law_plain_move [.str "blocks", .int c, .int n] = some (.ok (.tup [.str "blocks", .int i, .int j, .int k, .int m])) := by
  obtain ⟨e0, e1, e2, e3, e4, e5, hd, b0, b1, b2, b3, b4, b5⟩ := pdig (richP c) n hn hn2
  have sl : (isort [e2, e3, e4, e5]).length = 4 := (isort_perm _).length_eq
  have so := isort_sorted [e2, e3, e4, e5]
  have sp := isort_perm [e2, e3, e4, e5]
  obtain ⟨a, b, d, e, hs⟩ : ∃ a b d e, isort [e2, e3, e4, e5] = [a, b, d, e] := by
    match h : isort [e2, e3, e4, e5] with
    | [a, b, d, e] => exact ⟨a, b, d, e, rfl⟩
    | [] => rw [h] at sl; simp at sl
    | [_] => rw [h] at sl; simp at sl
    | [_, _] => rw [h] at sl; simp at sl
    | [_, _, _] => rw [h] at sl; simp at sl
    | _ :: _ :: _ :: _ :: _ :: _ => rw [h] at sl; simp at sl
  rw [hs] at so sp
  have ds : dSorted [.lst [.int e2, .int e3, .int e4, .int e5]] = some (.ok (.lst [.int a, .int b, .int d, .int e])) := by
    have h := dSorted_i [e2, e3, e4, e5]
    rw [hs] at h
    exact h
  have bd : ∀ x ∈ [a, b, d, e], 0 ≤ x ∧ x ≤ n := fun x hx => by
    have := sp.mem_iff.mp hx
    simp only [List.mem_cons, List.not_mem_nil, or_false] at this
    omega
  have ba := bd a (by simp)
  have bb := bd b (by simp)
  have bdd := bd d (by simp)
  have be := bd e (by simp)
  simp only [List.pairwise_cons, List.mem_cons, List.not_mem_nil, or_false, forall_eq_or_imp, forall_eq] at so
  obtain ⟨a', rfl⟩ := Int.eq_ofNat_of_zero_le ba.1
  obtain ⟨b', rfl⟩ := Int.eq_ofNat_of_zero_le bb.1
  obtain ⟨d', rfl⟩ := Int.eq_ofNat_of_zero_le bdd.1
  obtain ⟨e', rfl⟩ := Int.eq_ofNat_of_zero_le be.1
  unfold m__law_plain_move b__law_plain_move
  by_cases h1 : (a' : Int) = b'
  · refine ⟨0, 1, 1, n, by omega, by omega, by omega, by omega, ?_⟩
    simp only [bnd_ok, bnd_er, sE_ok, sE_er, mSeq_eq, seqO_nx, seqO_rt, seqO_er, seqO_bk, seqO_ct, mIf_eq, ifO_ok, ifO_er, mVar_z, mVar_s, mVarD_z, mVarD_s, mC_eq, mBin_eq, mUn_eq, mCB_eq, mNil_eq, mCons_eq, mSet_eq, mRet_eq, mSkip_eq, mBrk_eq, mCnt_eq, mRaise_eq, mRetN_eq, mDrop_eq, mTst_eq, tstO_bl, tstO_er, mAndT_eq, andT_ok, andT_f, andT_t, andT_er, mOrT_eq, orT_ok, orT_f, orT_t, orT_er, mNotT_eq, mAnd_eq, andD_ok, andD_f, andD_t, andD_er, mOr_eq, orD_ok, orD_f, orD_t, orD_er, dNot_bl, dAdd_i, dSub_i, dNeg_i, dCmp_i, dInt_i, dInt_b, dAbs_i, dMax_i, dMin_i, dLen_l, dLen_t, dLen_f, dList_l, dList_t, dTuple_l, dTuple_t, dRev_l, dRev_t, dIx_l, dIx_t, dIx_f, dIsN_n, dNotN_n, mTup_eq, mLst_eq, mSl_eq, mNone_eq, mSome_eq, someO_i, dSl_t, dSl_l, mFor_eq, mItems_eq, itemsO_l, itemsO_t, itemsO_f, mRgI1_eq, mRgI2_eq, outR_nx, outR_rt, outR_er, run1, run2, run3, run4, forGo_nil, forGo_cons, forO_nx, forO_ct, forO_bk, forO_rt, forO_er, gD_eq, mMut_eq, mutO_l, subO_eq, ownD_z, ownD_s, dSet_l, List.set_cons_zero, List.set_cons_succ, List.getElem?_cons_zero, List.getElem?_cons_succ, List.replicate_succ, List.replicate_zero, Nat.reduceSub, Nat.reduceAdd, List.length_cons, List.length_nil, Option.bind_some, Option.map_some, Bool.false_eq_true, if_true, if_false, reduceIte, Bool.and_true, Bool.true_and, Bool.and_false, Bool.false_and, Bool.or_true, Bool.true_or, Bool.or_false, Bool.false_or, Bool.not_true, Bool.not_false, DL.isNon, isSub, reduceCtorEq, decide_true, decide_false, clrO, Bool.or_self, Bool.and_self, Nat.reduceLT, Int.reduceLT, Int.reduceLE, Int.reduceAdd, Int.reduceSub, Int.reduceNeg, Int.reduceMul, Int.reduceEq, Int.cast_ofNat_Int, gk0, gk1, gk2, gk3, gk4, gk5, gk6, gk7, gk8, gk9, gk10, gk11, gk12, mMeth_eq, methO_ok, mRgI3_eq, mFrz_eq, frzO_s, mAug_eq, augO_s, dAddA_i, dTupX_l, dTupX_t, rowD_t, rowD_f, dList_f, dTupX_f, dRev_f, rich_ok, hd, at6_0, at6_1, at6_2, at6_3, at6_4, at6_5, dEq_s, n_bn, n_bt, ds, mUnp, gT, gSets, dEq_i, decide_eq_true h1]
    all_goals rfl
  · by_cases h2 : (d' : Int) = e'
    · refine ⟨0, 1, n - 1, n, by omega, by omega, by omega, by omega, ?_⟩
      rw [show ((n - 1 : Nat) : Int) = (n : Int) - 1 by omega]
      simp only [bnd_ok, bnd_er, sE_ok, sE_er, mSeq_eq, seqO_nx, seqO_rt, seqO_er, seqO_bk, seqO_ct, mIf_eq, ifO_ok, ifO_er, mVar_z, mVar_s, mVarD_z, mVarD_s, mC_eq, mBin_eq, mUn_eq, mCB_eq, mNil_eq, mCons_eq, mSet_eq, mRet_eq, mSkip_eq, mBrk_eq, mCnt_eq, mRaise_eq, mRetN_eq, mDrop_eq, mTst_eq, tstO_bl, tstO_er, mAndT_eq, andT_ok, andT_f, andT_t, andT_er, mOrT_eq, orT_ok, orT_f, orT_t, orT_er, mNotT_eq, mAnd_eq, andD_ok, andD_f, andD_t, andD_er, mOr_eq, orD_ok, orD_f, orD_t, orD_er, dNot_bl, dAdd_i, dSub_i, dNeg_i, dCmp_i, dInt_i, dInt_b, dAbs_i, dMax_i, dMin_i, dLen_l, dLen_t, dLen_f, dList_l, dList_t, dTuple_l, dTuple_t, dRev_l, dRev_t, dIx_l, dIx_t, dIx_f, dIsN_n, dNotN_n, mTup_eq, mLst_eq, mSl_eq, mNone_eq, mSome_eq, someO_i, dSl_t, dSl_l, mFor_eq, mItems_eq, itemsO_l, itemsO_t, itemsO_f, mRgI1_eq, mRgI2_eq, outR_nx, outR_rt, outR_er, run1, run2, run3, run4, forGo_nil, forGo_cons, forO_nx, forO_ct, forO_bk, forO_rt, forO_er, gD_eq, mMut_eq, mutO_l, subO_eq, ownD_z, ownD_s, dSet_l, List.set_cons_zero, List.set_cons_succ, List.getElem?_cons_zero, List.getElem?_cons_succ, List.replicate_succ, List.replicate_zero, Nat.reduceSub, Nat.reduceAdd, List.length_cons, List.length_nil, Option.bind_some, Option.map_some, Bool.false_eq_true, if_true, if_false, reduceIte, Bool.and_true, Bool.true_and, Bool.and_false, Bool.false_and, Bool.or_true, Bool.true_or, Bool.or_false, Bool.false_or, Bool.not_true, Bool.not_false, DL.isNon, isSub, reduceCtorEq, decide_true, decide_false, clrO, Bool.or_self, Bool.and_self, Nat.reduceLT, Int.reduceLT, Int.reduceLE, Int.reduceAdd, Int.reduceSub, Int.reduceNeg, Int.reduceMul, Int.reduceEq, Int.cast_ofNat_Int, gk0, gk1, gk2, gk3, gk4, gk5, gk6, gk7, gk8, gk9, gk10, gk11, gk12, mMeth_eq, methO_ok, mRgI3_eq, mFrz_eq, frzO_s, mAug_eq, augO_s, dAddA_i, dTupX_l, dTupX_t, rowD_t, rowD_f, dList_f, dTupX_f, dRev_f, rich_ok, hd, at6_0, at6_1, at6_2, at6_3, at6_4, at6_5, dEq_s, n_bn, n_bt, ds, mUnp, gT, gSets, dEq_i, decide_eq_false h1, decide_eq_true h2]
      all_goals rfl
    · refine ⟨a', b', d', e', by omega, by omega, by omega, by omega, ?_⟩
      simp only [bnd_ok, bnd_er, sE_ok, sE_er, mSeq_eq, seqO_nx, seqO_rt, seqO_er, seqO_bk, seqO_ct, mIf_eq, ifO_ok, ifO_er, mVar_z, mVar_s, mVarD_z, mVarD_s, mC_eq, mBin_eq, mUn_eq, mCB_eq, mNil_eq, mCons_eq, mSet_eq, mRet_eq, mSkip_eq, mBrk_eq, mCnt_eq, mRaise_eq, mRetN_eq, mDrop_eq, mTst_eq, tstO_bl, tstO_er, mAndT_eq, andT_ok, andT_f, andT_t, andT_er, mOrT_eq, orT_ok, orT_f, orT_t, orT_er, mNotT_eq, mAnd_eq, andD_ok, andD_f, andD_t, andD_er, mOr_eq, orD_ok, orD_f, orD_t, orD_er, dNot_bl, dAdd_i, dSub_i, dNeg_i, dCmp_i, dInt_i, dInt_b, dAbs_i, dMax_i, dMin_i, dLen_l, dLen_t, dLen_f, dList_l, dList_t, dTuple_l, dTuple_t, dRev_l, dRev_t, dIx_l, dIx_t, dIx_f, dIsN_n, dNotN_n, mTup_eq, mLst_eq, mSl_eq, mNone_eq, mSome_eq, someO_i, dSl_t, dSl_l, mFor_eq, mItems_eq, itemsO_l, itemsO_t, itemsO_f, mRgI1_eq, mRgI2_eq, outR_nx, outR_rt, outR_er, run1, run2, run3, run4, forGo_nil, forGo_cons, forO_nx, forO_ct, forO_bk, forO_rt, forO_er, gD_eq, mMut_eq, mutO_l, subO_eq, ownD_z, ownD_s, dSet_l, List.set_cons_zero, List.set_cons_succ, List.getElem?_cons_zero, List.getElem?_cons_succ, List.replicate_succ, List.replicate_zero, Nat.reduceSub, Nat.reduceAdd, List.length_cons, List.length_nil, Option.bind_some, Option.map_some, Bool.false_eq_true, if_true, if_false, reduceIte, Bool.and_true, Bool.true_and, Bool.and_false, Bool.false_and, Bool.or_true, Bool.true_or, Bool.or_false, Bool.false_or, Bool.not_true, Bool.not_false, DL.isNon, isSub, reduceCtorEq, decide_true, decide_false, clrO, Bool.or_self, Bool.and_self, Nat.reduceLT, Int.reduceLT, Int.reduceLE, Int.reduceAdd, Int.reduceSub, Int.reduceNeg, Int.reduceMul, Int.reduceEq, Int.cast_ofNat_Int, gk0, gk1, gk2, gk3, gk4, gk5, gk6, gk7, gk8, gk9, gk10, gk11, gk12, mMeth_eq, methO_ok, mRgI3_eq, mFrz_eq, frzO_s, mAug_eq, augO_s, dAddA_i, dTupX_l, dTupX_t, rowD_t, rowD_f, dList_f, dTupX_f, dRev_f, rich_ok, hd, at6_0, at6_1, at6_2, at6_3, at6_4, at6_5, dEq_s, n_bn, n_bt, ds, mUnp, gT, gSets, dEq_i, decide_eq_false h1, decide_eq_false h2]
end Lw

set_option Elab.async false
set_option linter.all false
set_option maxRecDepth 100000
set_option maxHeartbeats 1000000
set_option autoImplicit false
namespace Lw
open PySem L2 DL
/-! ### next_exchange, exchanged -/
theorem six_n (n d i : Nat) (h : i ≤ n) : HT.sIx n d (some (i : Int)) = i := by
  unfold HT.sIx
  simp only [if_neg (show ¬ ((i : Int) < 0) by omega), Int.toNat_natCast, Nat.min_eq_left h]
theorem sl_nn (l : List Int) (i j : Nat) (hi : i ≤ l.length) (hj : j ≤ l.length) (h : ¬ (i = 0 ∧ j = l.length)) : dSl (some (i : Int)) (some (j : Int)) (.fz true (l.map D.int)) = some (.ok (.tup (((l.drop i).take (j - i)).map D.int))) := by
  rw [dSl_fz, List.length_map, six_n _ _ i hi, six_n _ _ j hj, if_neg h, cnn l i j hi hj]
theorem sl_0n (l : List Int) (j : Nat) (hj : j < l.length) : dSl none (some (j : Int)) (.fz true (l.map D.int)) = some (.ok (.tup ((l.take j).map D.int))) := by
  rw [dSl_fz, List.length_map, six_n _ _ j (by omega), if_neg (fun z => by have := z.2; omega), c0n l j (by omega)]
theorem sl_n0 (l : List Int) (j : Nat) (hj : j ≤ l.length) (h : j ≠ 0) : dSl (some (j : Int)) none (.fz true (l.map D.int)) = some (.ok (.tup ((l.drop j).map D.int))) := by
  rw [dSl_fz, List.length_map, six_n _ _ j hj, if_neg (fun z => h z.1), cn0 l j hj]
theorem ne_len {l : List Int} (h : 0 < l.length) : l ≠ [] := fun z => by rw [z] at h; exact absurd h (by simp)
theorem exch_ok (l : List Int) (i j k m : Nat) (b : Bd l.length i j k m) (hl : l.length ≤ 900) : m_exchanged [.fz true (l.map D.int), .int i, .int j, .int k, .int m] = some (.ok (.fz true ((blockP l i j k m).map D.int))) := by
  obtain ⟨h1, h2, h3, h4⟩ := b
  have a1 := dAdd_m (l.take i) ((l.drop k).take (m - k)) (by simp; omega)
  have a2 := dAdd_m (l.take i ++ (l.drop k).take (m - k)) ((l.drop j).take (k - j)) (by simp; omega)
  have a3 := dAddX_i (x := .tup ((l.take i ++ (l.drop k).take (m - k) ++ (l.drop j).take (k - j)).map D.int)) (y := .tup (((l.drop i).take (j - i)).map D.int)) rfl rfl (ne_len (by simp; omega)) (ne_len (by simp; omega)) (by simp; omega)
  have a4 : dAddX (.fz true ((l.take i ++ (l.drop k).take (m - k) ++ (l.drop j).take (k - j) ++ (l.drop i).take (j - i)).map D.int)) (.tup ((l.drop m).map D.int)) = some (.ok (.fz true ((blockP l i j k m).map D.int))) := by
    by_cases c : m < l.length
    · exact dAddX_i rfl rfl (ne_len (by simp; omega)) (ne_len (by simp; omega)) (by simp; omega)
    · have e : l.drop m = [] := List.drop_eq_nil_of_le (by omega)
      unfold blockP
      rw [e, List.append_nil]
      exact dAddX_n (ne_len (by simp; omega)) (by simp; omega)
  unfold m_exchanged
  rw [show mDef 5 5 b_exchanged [.fz true (l.map D.int), .int i, .int j, .int k, .int m] = outR (b_exchanged [some (.fz true (l.map D.int), false), some (.int i, false), some (.int j, false), some (.int k, false), some (.int m, false)]) from rfl]
  unfold b_exchanged
  simp only [bnd_ok, bnd_er, sE_ok, sE_er, mSeq_eq, seqO_nx, seqO_rt, seqO_er, seqO_bk, seqO_ct, mIf_eq, ifO_ok, ifO_er, mVar_z, mVar_s, mVarD_z, mVarD_s, mC_eq, mBin_eq, mUn_eq, mCB_eq, mNil_eq, mCons_eq, mSet_eq, mRet_eq, mSkip_eq, mBrk_eq, mCnt_eq, mRaise_eq, mRetN_eq, mDrop_eq, mTst_eq, tstO_bl, tstO_er, mAndT_eq, andT_ok, andT_f, andT_t, andT_er, mOrT_eq, orT_ok, orT_f, orT_t, orT_er, mNotT_eq, mAnd_eq, andD_ok, andD_f, andD_t, andD_er, mOr_eq, orD_ok, orD_f, orD_t, orD_er, dNot_bl, dAdd_i, dSub_i, dNeg_i, dCmp_i, dInt_i, dInt_b, dAbs_i, dMax_i, dMin_i, dLen_l, dLen_t, dLen_f, dList_l, dList_t, dTuple_l, dTuple_t, dRev_l, dRev_t, dIx_l, dIx_t, dIx_f, dIsN_n, dNotN_n, mTup_eq, mLst_eq, mSl_eq, mNone_eq, mSome_eq, someO_i, dSl_t, dSl_l, mFor_eq, mItems_eq, itemsO_l, itemsO_t, itemsO_f, mRgI1_eq, mRgI2_eq, outR_nx, outR_rt, outR_er, run1, run2, run3, run4, forGo_nil, forGo_cons, forO_nx, forO_ct, forO_bk, forO_rt, forO_er, gD_eq, mMut_eq, mutO_l, subO_eq, ownD_z, ownD_s, dSet_l, List.set_cons_zero, List.set_cons_succ, List.getElem?_cons_zero, List.getElem?_cons_succ, List.replicate_succ, List.replicate_zero, Nat.reduceSub, Nat.reduceAdd, List.length_cons, List.length_nil, Option.bind_some, Option.map_some, Bool.false_eq_true, if_true, if_false, reduceIte, Bool.and_true, Bool.true_and, Bool.and_false, Bool.false_and, Bool.or_true, Bool.true_or, Bool.or_false, Bool.false_or, Bool.not_true, Bool.not_false, DL.isNon, isSub, reduceCtorEq, decide_true, decide_false, clrO, Bool.or_self, Bool.and_self, Nat.reduceLT, Int.reduceLT, Int.reduceLE, Int.reduceAdd, Int.reduceSub, Int.reduceNeg, Int.reduceMul, Int.reduceEq, Int.cast_ofNat_Int, gk0, gk1, gk2, gk3, gk4, gk5, gk6, gk7, gk8, gk9, gk10, gk11, gk12, mMeth_eq, methO_ok, mRgI3_eq, mFrz_eq, frzO_s, mAug_eq, augO_s, dAddA_i, dTupX_l, dTupX_t, rowD_t, rowD_f, dList_f, dTupX_f, dRev_f, sl_0n l i (by omega), sl_nn l k m (by omega) (by omega) (by omega), sl_nn l j k (by omega) (by omega) (by omega), sl_nn l i j (by omega) (by omega) (by omega), sl_n0 l m (by omega) (by omega), a1, a2, a3, a4]
theorem ext_ix {r : List Int} (g : goodR r) (q : Nat) (v : Int) (h : q < r.length + 2) (e : (ext r).getD q 0 = v) : (ext r).idxOf v = q := by
  rw [← e]
  exact get_idx (ext_nodup g) q (by rw [ext_len]; exact h)
theorem nx_ok {r : List Int} (g : goodR r) (h : r ≠ upto r.length) : ∃ i j k l : Nat, Bd r.length i j k l ∧ m_next_exchange [.fz true (r.map D.int)] = some (.ok (.tup [.int i, .int j, .int k, .int l])) ∧ bf r ((i + 1 : Nat) : Int) = ((k + 1 : Nat) : Int) ∧ bf r ((j + 1 : Nat) : Int) = ((l + 1 : Nat) : Int) := by
  have hl := g.1
  have nd := goodR_nodup g
  obtain ⟨i, ⟨i1, i2⟩, i3⟩ : ∃ i, (i < r.length ∧ r.getD i 0 ≠ (i : Int) + 1) ∧ ∀ k, k < i → ¬ (k < r.length ∧ r.getD k 0 ≠ (k : Int) + 1) := by
    have ex : ∃ i, i < r.length ∧ r.getD i 0 ≠ (i : Int) + 1 := by
      refine Classical.byContradiction fun no => h ?_
      refine List.ext_getElem (by rw [upto_len]) fun q q1 q2 => ?_
      have : r.getD q 0 = (q : Int) + 1 := Classical.byContradiction fun z => no ⟨q, q1, z⟩
      rw [List.getD_eq_getElem?_getD, List.getElem?_eq_getElem q1] at this
      rw [show r[q] = (q : Int) + 1 from this]
      simp [upto]
    obtain ⟨n, hn⟩ := ex
    exact least_nat (p := fun i => i < r.length ∧ r.getD i 0 ≠ (i : Int) + 1) hn
  have low : ∀ p, p < i → r.getD p 0 = (p : Int) + 1 := fun p hp => Classical.byContradiction fun z => i3 p hp ⟨by omega, z⟩
  have km : (i : Int) + 1 ∈ r := (goodR_mem g).mpr (by omega)
  obtain ⟨k1, k2⟩ := idx_get km
  obtain ⟨k, hk⟩ : ∃ k, r.idxOf ((i : Int) + 1) = k := ⟨_, rfl⟩
  rw [hk] at k1 k2
  have ik : i < k := by
    rcases Nat.lt_trichotomy i k with z | z | z
    · exact z
    · subst z
      exact absurd k1 i2
    · have := low k z
      omega
  have mem_s : ∀ p, i ≤ p → p < k → r.getD p 0 ∈ (r.drop i).take (k - i) := fun p p1 p2 => by
    rw [List.getD_eq_getElem?_getD, List.getElem?_eq_getElem (by omega)]
    refine List.mem_take_iff_getElem.mpr ⟨p - i, by simp; omega, ?_⟩
    rw [List.getElem_drop]
    show _ = r[p]
    congr 1
    omega
  have s_mem : ∀ x ∈ (r.drop i).take (k - i), ∃ p, i ≤ p ∧ p < k ∧ r.getD p 0 = x := fun x hx => by
    obtain ⟨q, hq, e⟩ := List.mem_take_iff_getElem.mp hx
    rw [List.length_drop] at hq
    rw [List.getElem_drop] at e
    refine ⟨i + q, by omega, by omega, ?_⟩
    rw [List.getD_eq_getElem?_getD, List.getElem?_eq_getElem (by omega)]
    exact e
  obtain ⟨G, hG⟩ := maxI_some (l := (r.drop i).take (k - i)) (ne_len (by simp; omega))
  obtain ⟨g1, g2⟩ := maxI_is _ _ hG
  obtain ⟨j0, j1, j2, j3⟩ := s_mem G g1
  have ixG : r.idxOf G = j0 := by rw [← j3]; exact get_idx nd j0 (by omega)
  have mG : G ∈ r := by rw [← j3]; exact getD_mem _ _ _ (by omega)
  have bG := (goodR_mem g).mp mG
  have ri : (i : Int) + 2 ≤ r.getD i 0 := by
    have b := (goodR_mem g).mp (getD_mem r i 0 i1)
    refine Classical.byContradiction fun z => ?_
    have e := low (r.getD i 0 - 1).toNat (by omega)
    have := getD_inj nd (i := (r.getD i 0 - 1).toNat) (j := i) (by omega) i1 0 (by omega)
    omega
  have Gi := g2 _ (mem_s i (Nat.le_refl _) ik)
  -- the last bound
  have lc : mLc (mRgI1 (mVar 1)) [6] (gD 6) (mTst (mBin dNe (mBin dIx (mVar 0) (mVar 6)) (mBin dAdd (mVar 6) (mC (.int 1))))) (mVarD 6) [some (.fz true (r.map D.int), false), some (.int (r.length : Int), false), none, none, none, none, none] = some (.ok (.lst ((((List.range r.length).filter fun p : Nat => !decide (r.getD p 0 = (p : Int) + 1)).map fun p : Nat => (p : Int)).map D.int))) := by
    rw [lcx_is (List.range r.length) (fun i : Nat => D.int (i : Int)) (fun p : Nat => !decide (r.getD p 0 = (p : Int) + 1)) (fun i : Nat => D.int (i : Int)) (by simp only [bnd_ok, bnd_er, sE_ok, sE_er, mSeq_eq, seqO_nx, seqO_rt, seqO_er, seqO_bk, seqO_ct, mIf_eq, ifO_ok, ifO_er, mVar_z, mVar_s, mVarD_z, mVarD_s, mC_eq, mBin_eq, mUn_eq, mCB_eq, mNil_eq, mCons_eq, mSet_eq, mRet_eq, mSkip_eq, mBrk_eq, mCnt_eq, mRaise_eq, mRetN_eq, mDrop_eq, mTst_eq, tstO_bl, tstO_er, mAndT_eq, andT_ok, andT_f, andT_t, andT_er, mOrT_eq, orT_ok, orT_f, orT_t, orT_er, mNotT_eq, mAnd_eq, andD_ok, andD_f, andD_t, andD_er, mOr_eq, orD_ok, orD_f, orD_t, orD_er, dNot_bl, dAdd_i, dSub_i, dNeg_i, dCmp_i, dInt_i, dInt_b, dAbs_i, dMax_i, dMin_i, dLen_l, dLen_t, dLen_f, dList_l, dList_t, dTuple_l, dTuple_t, dRev_l, dRev_t, dIx_l, dIx_t, dIx_f, dIsN_n, dNotN_n, mTup_eq, mLst_eq, mSl_eq, mNone_eq, mSome_eq, someO_i, dSl_t, dSl_l, mFor_eq, mItems_eq, itemsO_l, itemsO_t, itemsO_f, mRgI1_eq, mRgI2_eq, outR_nx, outR_rt, outR_er, run1, run2, run3, run4, forGo_nil, forGo_cons, forO_nx, forO_ct, forO_bk, forO_rt, forO_er, gD_eq, mMut_eq, mutO_l, subO_eq, ownD_z, ownD_s, dSet_l, List.set_cons_zero, List.set_cons_succ, List.getElem?_cons_zero, List.getElem?_cons_succ, List.replicate_succ, List.replicate_zero, Nat.reduceSub, Nat.reduceAdd, List.length_cons, List.length_nil, Option.bind_some, Option.map_some, Bool.false_eq_true, if_true, if_false, reduceIte, Bool.and_true, Bool.true_and, Bool.and_false, Bool.false_and, Bool.or_true, Bool.true_or, Bool.or_false, Bool.false_or, Bool.not_true, Bool.not_false, DL.isNon, isSub, reduceCtorEq, decide_true, decide_false, clrO, Bool.or_self, Bool.and_self, Nat.reduceLT, Int.reduceLT, Int.reduceLE, Int.reduceAdd, Int.reduceSub, Int.reduceNeg, Int.reduceMul, Int.reduceEq, Int.cast_ofNat_Int, gk0, gk1, gk2, gk3, gk4, gk5, gk6, gk7, gk8, gk9, gk10, gk11, gk12, mMeth_eq, methO_ok, mRgI3_eq, mFrz_eq, frzO_s, mAug_eq, augO_s, dAddA_i, dTupX_l, dTupX_t, rowD_t, rowD_f, dList_f, dTupX_f, dRev_f, rgI1_i _ (show 0 ≤ (r.length : Int) ∧ (r.length : Int) ≤ 1000 by omega), rgD_nat]) rfl (by simp; omega) fun p hp => ⟨?_, fun _ => by simp only [bnd_ok, bnd_er, sE_ok, sE_er, mSeq_eq, seqO_nx, seqO_rt, seqO_er, seqO_bk, seqO_ct, mIf_eq, ifO_ok, ifO_er, mVar_z, mVar_s, mVarD_z, mVarD_s, mC_eq, mBin_eq, mUn_eq, mCB_eq, mNil_eq, mCons_eq, mSet_eq, mRet_eq, mSkip_eq, mBrk_eq, mCnt_eq, mRaise_eq, mRetN_eq, mDrop_eq, mTst_eq, tstO_bl, tstO_er, mAndT_eq, andT_ok, andT_f, andT_t, andT_er, mOrT_eq, orT_ok, orT_f, orT_t, orT_er, mNotT_eq, mAnd_eq, andD_ok, andD_f, andD_t, andD_er, mOr_eq, orD_ok, orD_f, orD_t, orD_er, dNot_bl, dAdd_i, dSub_i, dNeg_i, dCmp_i, dInt_i, dInt_b, dAbs_i, dMax_i, dMin_i, dLen_l, dLen_t, dLen_f, dList_l, dList_t, dTuple_l, dTuple_t, dRev_l, dRev_t, dIx_l, dIx_t, dIx_f, dIsN_n, dNotN_n, mTup_eq, mLst_eq, mSl_eq, mNone_eq, mSome_eq, someO_i, dSl_t, dSl_l, mFor_eq, mItems_eq, itemsO_l, itemsO_t, itemsO_f, mRgI1_eq, mRgI2_eq, outR_nx, outR_rt, outR_er, run1, run2, run3, run4, forGo_nil, forGo_cons, forO_nx, forO_ct, forO_bk, forO_rt, forO_er, gD_eq, mMut_eq, mutO_l, subO_eq, ownD_z, ownD_s, dSet_l, List.set_cons_zero, List.set_cons_succ, List.getElem?_cons_zero, List.getElem?_cons_succ, List.replicate_succ, List.replicate_zero, Nat.reduceSub, Nat.reduceAdd, List.length_cons, List.length_nil, Option.bind_some, Option.map_some, Bool.false_eq_true, if_true, if_false, reduceIte, Bool.and_true, Bool.true_and, Bool.and_false, Bool.false_and, Bool.or_true, Bool.true_or, Bool.or_false, Bool.false_or, Bool.not_true, Bool.not_false, DL.isNon, isSub, reduceCtorEq, decide_true, decide_false, clrO, Bool.or_self, Bool.and_self, Nat.reduceLT, Int.reduceLT, Int.reduceLE, Int.reduceAdd, Int.reduceSub, Int.reduceNeg, Int.reduceMul, Int.reduceEq, Int.cast_ofNat_Int, gk0, gk1, gk2, gk3, gk4, gk5, gk6, gk7, gk8, gk9, gk10, gk11, gk12, mMeth_eq, methO_ok, mRgI3_eq, mFrz_eq, frzO_s, mAug_eq, augO_s, dAddA_i, dTupX_l, dTupX_t, rowD_t, rowD_f, dList_f, dTupX_f, dRev_f, wipeR]⟩]
    · rw [List.map_map]
      rfl
    · have hp := List.mem_range.mp hp
      simp only [bnd_ok, bnd_er, sE_ok, sE_er, mSeq_eq, seqO_nx, seqO_rt, seqO_er, seqO_bk, seqO_ct, mIf_eq, ifO_ok, ifO_er, mVar_z, mVar_s, mVarD_z, mVarD_s, mC_eq, mBin_eq, mUn_eq, mCB_eq, mNil_eq, mCons_eq, mSet_eq, mRet_eq, mSkip_eq, mBrk_eq, mCnt_eq, mRaise_eq, mRetN_eq, mDrop_eq, mTst_eq, tstO_bl, tstO_er, mAndT_eq, andT_ok, andT_f, andT_t, andT_er, mOrT_eq, orT_ok, orT_f, orT_t, orT_er, mNotT_eq, mAnd_eq, andD_ok, andD_f, andD_t, andD_er, mOr_eq, orD_ok, orD_f, orD_t, orD_er, dNot_bl, dAdd_i, dSub_i, dNeg_i, dCmp_i, dInt_i, dInt_b, dAbs_i, dMax_i, dMin_i, dLen_l, dLen_t, dLen_f, dList_l, dList_t, dTuple_l, dTuple_t, dRev_l, dRev_t, dIx_l, dIx_t, dIx_f, dIsN_n, dNotN_n, mTup_eq, mLst_eq, mSl_eq, mNone_eq, mSome_eq, someO_i, dSl_t, dSl_l, mFor_eq, mItems_eq, itemsO_l, itemsO_t, itemsO_f, mRgI1_eq, mRgI2_eq, outR_nx, outR_rt, outR_er, run1, run2, run3, run4, forGo_nil, forGo_cons, forO_nx, forO_ct, forO_bk, forO_rt, forO_er, gD_eq, mMut_eq, mutO_l, subO_eq, ownD_z, ownD_s, dSet_l, List.set_cons_zero, List.set_cons_succ, List.getElem?_cons_zero, List.getElem?_cons_succ, List.replicate_succ, List.replicate_zero, Nat.reduceSub, Nat.reduceAdd, List.length_cons, List.length_nil, Option.bind_some, Option.map_some, Bool.false_eq_true, if_true, if_false, reduceIte, Bool.and_true, Bool.true_and, Bool.and_false, Bool.false_and, Bool.or_true, Bool.true_or, Bool.or_false, Bool.false_or, Bool.not_true, Bool.not_false, DL.isNon, isSub, reduceCtorEq, decide_true, decide_false, clrO, Bool.or_self, Bool.and_self, Nat.reduceLT, Int.reduceLT, Int.reduceLE, Int.reduceAdd, Int.reduceSub, Int.reduceNeg, Int.reduceMul, Int.reduceEq, Int.cast_ofNat_Int, gk0, gk1, gk2, gk3, gk4, gk5, gk6, gk7, gk8, gk9, gk10, gk11, gk12, mMeth_eq, methO_ok, mRgI3_eq, mFrz_eq, frzO_s, mAug_eq, augO_s, dAddA_i, dTupX_l, dTupX_t, rowD_t, rowD_f, dList_f, dTupX_f, dRev_f, wipeR, at_getD r p hp, dNe_i]
  have mn := dMin_ll (((List.range r.length).filter fun p : Nat => !decide (r.getD p 0 = (p : Int) + 1)).map fun p : Nat => (p : Int)) (i : Int) (List.mem_map.mpr ⟨i, List.mem_filter.mpr ⟨List.mem_range.mpr i1, by rw [decide_eq_false i2]; rfl⟩, rfl⟩) (fun x hx => by
    obtain ⟨p, hp, rfl⟩ := List.mem_map.mp hx
    obtain ⟨p1, p2⟩ := List.mem_filter.mp hp
    refine Classical.byContradiction fun z => ?_
    rw [decide_eq_true (low p (by omega))] at p2
    cases p2)
  have mx : dMax [.tup (((r.drop i).take (k - i)).map D.int)] = some (.ok (.int G)) := by
    show (ints? (((r.drop i).take (k - i)).map D.int)).bind (fun ns => (maxI ns).map fun m => (.ok (.int m) : Except EN D)) = _
    rw [ints?_map, Option.bind_some, hG]
    rfl
  have x1 := dIdxT_i r ((i : Int) + 1) km
  have x2 := dIdxT_i r G mG
  rw [hk] at x1
  rw [ixG] at x2
  have s1 := sl_nn r i k (by omega) (by omega) (by omega)
  have cj : (j0 : Int) + 1 = ((j0 + 1 : Nat) : Int) := by omega
  -- the leads
  have ei : (ext r).getD i 0 = (i : Int) := by
    rcases Nat.eq_zero_or_pos i with z | z
    · rw [z, ext_0]; rfl
    · obtain ⟨q, rfl⟩ : ∃ q, i = q + 1 := ⟨i - 1, by omega⟩
      rw [ext_at _ q (by omega), low q (by omega)]
      omega
  have f1 : bf r ((i + 1 : Nat) : Int) = ((k + 1 : Nat) : Int) := by
    unfold bf
    rw [show (((i + 1 : Nat) : Int) - 1).toNat = i by omega, ei, ext_ix g (k + 1) ((i : Int) + 1) (by omega) (by rw [ext_at _ k k2]; exact k1)]
  have f2 : ∀ l : Nat, l ≤ r.length → (ext r).getD (l + 1) 0 = G + 1 → bf r ((j0 + 1 + 1 : Nat) : Int) = ((l + 1 : Nat) : Int) := fun l hl2 el => by
    unfold bf
    rw [show (((j0 + 1 + 1 : Nat) : Int) - 1).toNat = j0 + 1 by omega, ext_at _ j0 (by omega), j3, ext_ix g (l + 1) (G + 1) (by omega) el]
  by_cases c : G = (r.length : Int)
  · refine ⟨i, j0 + 1, k, r.length, ⟨by omega, by omega, k2, Nat.le_refl _⟩, ?_, f1, f2 r.length (Nat.le_refl _) ?_⟩
    · unfold m_next_exchange b_next_exchange
      simp only [bnd_ok, bnd_er, sE_ok, sE_er, mSeq_eq, seqO_nx, seqO_rt, seqO_er, seqO_bk, seqO_ct, mIf_eq, ifO_ok, ifO_er, mVar_z, mVar_s, mVarD_z, mVarD_s, mC_eq, mBin_eq, mUn_eq, mCB_eq, mNil_eq, mCons_eq, mSet_eq, mRet_eq, mSkip_eq, mBrk_eq, mCnt_eq, mRaise_eq, mRetN_eq, mDrop_eq, mTst_eq, tstO_bl, tstO_er, mAndT_eq, andT_ok, andT_f, andT_t, andT_er, mOrT_eq, orT_ok, orT_f, orT_t, orT_er, mNotT_eq, mAnd_eq, andD_ok, andD_f, andD_t, andD_er, mOr_eq, orD_ok, orD_f, orD_t, orD_er, dNot_bl, dAdd_i, dSub_i, dNeg_i, dCmp_i, dInt_i, dInt_b, dAbs_i, dMax_i, dMin_i, dLen_l, dLen_t, dLen_f, dList_l, dList_t, dTuple_l, dTuple_t, dRev_l, dRev_t, dIx_l, dIx_t, dIx_f, dIsN_n, dNotN_n, mTup_eq, mLst_eq, mSl_eq, mNone_eq, mSome_eq, someO_i, dSl_t, dSl_l, mFor_eq, mItems_eq, itemsO_l, itemsO_t, itemsO_f, mRgI1_eq, mRgI2_eq, outR_nx, outR_rt, outR_er, run1, run2, run3, run4, forGo_nil, forGo_cons, forO_nx, forO_ct, forO_bk, forO_rt, forO_er, gD_eq, mMut_eq, mutO_l, subO_eq, ownD_z, ownD_s, dSet_l, List.set_cons_zero, List.set_cons_succ, List.getElem?_cons_zero, List.getElem?_cons_succ, List.replicate_succ, List.replicate_zero, Nat.reduceSub, Nat.reduceAdd, List.length_cons, List.length_nil, Option.bind_some, Option.map_some, Bool.false_eq_true, if_true, if_false, reduceIte, Bool.and_true, Bool.true_and, Bool.and_false, Bool.false_and, Bool.or_true, Bool.true_or, Bool.or_false, Bool.false_or, Bool.not_true, Bool.not_false, DL.isNon, isSub, reduceCtorEq, decide_true, decide_false, clrO, Bool.or_self, Bool.and_self, Nat.reduceLT, Int.reduceLT, Int.reduceLE, Int.reduceAdd, Int.reduceSub, Int.reduceNeg, Int.reduceMul, Int.reduceEq, Int.cast_ofNat_Int, gk0, gk1, gk2, gk3, gk4, gk5, gk6, gk7, gk8, gk9, gk10, gk11, gk12, mMeth_eq, methO_ok, mRgI3_eq, mFrz_eq, frzO_s, mAug_eq, augO_s, dAddA_i, dTupX_l, dTupX_t, rowD_t, rowD_f, dList_f, dTupX_f, dRev_f, List.length_map, lc, mn, x1, s1, mx, x2, dEq_i, decide_eq_true c, cj]
    · unfold ext
      rw [List.getD_eq_getElem?_getD, List.getElem?_append_right (by simp), c]
      simp
  · have m2 : G + 1 ∈ r := (goodR_mem g).mpr (by omega)
    obtain ⟨l1, l2⟩ := idx_get m2
    have x3 := dIdxT_i r (G + 1) m2
    obtain ⟨l, hll⟩ : ∃ l, r.idxOf (G + 1) = l := ⟨_, rfl⟩
    rw [hll] at l1 l2 x3
    have kl : k < l := by
      rcases Nat.lt_trichotomy k l with z | z | z
      · exact z
      · subst z
        omega
      · rcases Nat.lt_or_ge l i with z2 | z2
        · have := low l z2
          omega
        · have := g2 _ (mem_s l z2 z)
          omega
    refine ⟨i, j0 + 1, k, l, ⟨by omega, by omega, kl, by omega⟩, ?_, f1, f2 l (by omega) (by rw [ext_at _ l l2]; exact l1)⟩
    unfold m_next_exchange b_next_exchange
    simp only [bnd_ok, bnd_er, sE_ok, sE_er, mSeq_eq, seqO_nx, seqO_rt, seqO_er, seqO_bk, seqO_ct, mIf_eq, ifO_ok, ifO_er, mVar_z, mVar_s, mVarD_z, mVarD_s, mC_eq, mBin_eq, mUn_eq, mCB_eq, mNil_eq, mCons_eq, mSet_eq, mRet_eq, mSkip_eq, mBrk_eq, mCnt_eq, mRaise_eq, mRetN_eq, mDrop_eq, mTst_eq, tstO_bl, tstO_er, mAndT_eq, andT_ok, andT_f, andT_t, andT_er, mOrT_eq, orT_ok, orT_f, orT_t, orT_er, mNotT_eq, mAnd_eq, andD_ok, andD_f, andD_t, andD_er, mOr_eq, orD_ok, orD_f, orD_t, orD_er, dNot_bl, dAdd_i, dSub_i, dNeg_i, dCmp_i, dInt_i, dInt_b, dAbs_i, dMax_i, dMin_i, dLen_l, dLen_t, dLen_f, dList_l, dList_t, dTuple_l, dTuple_t, dRev_l, dRev_t, dIx_l, dIx_t, dIx_f, dIsN_n, dNotN_n, mTup_eq, mLst_eq, mSl_eq, mNone_eq, mSome_eq, someO_i, dSl_t, dSl_l, mFor_eq, mItems_eq, itemsO_l, itemsO_t, itemsO_f, mRgI1_eq, mRgI2_eq, outR_nx, outR_rt, outR_er, run1, run2, run3, run4, forGo_nil, forGo_cons, forO_nx, forO_ct, forO_bk, forO_rt, forO_er, gD_eq, mMut_eq, mutO_l, subO_eq, ownD_z, ownD_s, dSet_l, List.set_cons_zero, List.set_cons_succ, List.getElem?_cons_zero, List.getElem?_cons_succ, List.replicate_succ, List.replicate_zero, Nat.reduceSub, Nat.reduceAdd, List.length_cons, List.length_nil, Option.bind_some, Option.map_some, Bool.false_eq_true, if_true, if_false, reduceIte, Bool.and_true, Bool.true_and, Bool.and_false, Bool.false_and, Bool.or_true, Bool.true_or, Bool.or_false, Bool.false_or, Bool.not_true, Bool.not_false, DL.isNon, isSub, reduceCtorEq, decide_true, decide_false, clrO, Bool.or_self, Bool.and_self, Nat.reduceLT, Int.reduceLT, Int.reduceLE, Int.reduceAdd, Int.reduceSub, Int.reduceNeg, Int.reduceMul, Int.reduceEq, Int.cast_ofNat_Int, gk0, gk1, gk2, gk3, gk4, gk5, gk6, gk7, gk8, gk9, gk10, gk11, gk12, mMeth_eq, methO_ok, mRgI3_eq, mFrz_eq, frzO_s, mAug_eq, augO_s, dAddA_i, dTupX_l, dTupX_t, rowD_t, rowD_f, dList_f, dTupX_f, dRev_f, List.length_map, lc, mn, x1, s1, mx, x2, dEq_i, decide_eq_false c, cj, x3]
end Lw

set_option Elab.async false
set_option linter.all false
set_option maxRecDepth 100000
set_option maxHeartbeats 1000000
set_option autoImplicit false
namespace Lw
open PySem L2 DL
abbrev Qd := Nat × Nat × Nat × Nat
def bk (r : List Int) (q : Qd) : List Int := blockP r q.1 q.2.1 q.2.2.1 q.2.2.2
def okM (n : Nat) (q : Qd) : Prop := Bd n q.1 q.2.1 q.2.2.1 q.2.2.2
def appS (r : List Int) (ms : List Qd) : List Int := ms.foldl bk r
theorem appS_snoc (r : List Int) (ms : List Qd) (q : Qd) : appS r (ms ++ [q]) = bk (appS r ms) q := by unfold appS; rw [List.foldl_append]; rfl
theorem bk_len {r : List Int} {q : Qd} (h : okM r.length q) : (bk r q).length = r.length := blockP_len h
theorem appS_len : ∀ (ms : List Qd) (r : List Int), (∀ q ∈ ms, okM r.length q) → (appS r ms).length = r.length
  | [], _, _ => rfl
  | q :: ms, r, h => by
    have h0 := h q List.mem_cons_self
    show (appS (bk r q) ms).length = _
    rw [appS_len ms _ fun p hp => by rw [bk_len h0]; exact h p (List.mem_cons_of_mem _ hp)]
    exact bk_len h0
theorem appS_good : ∀ (ms : List Qd) (r : List Int), goodR r → (∀ q ∈ ms, okM r.length q) → goodR (appS r ms)
  | [], _, g, _ => g
  | q :: ms, r, g, h => by
    have h0 := h q List.mem_cons_self
    exact appS_good ms (bk r q) (blockP_good g h0) fun p hp => by rw [bk_len h0]; exact h p (List.mem_cons_of_mem _ hp)
theorem rel_bk (a b : List Int) (q : Qd) : relP (bk a q) b = bk (relP a b) q := by
  unfold relP bk blockP
  simp only [List.map_append, List.map_take, List.map_drop]
theorem appS_rel (b : List Int) : ∀ (ms : List Qd) (a : List Int), relP (appS a ms) b = appS (relP a b) ms
  | [], _ => rfl
  | q :: ms, a => by
    show relP (appS (bk a q) ms) b = appS (bk (relP a b) q) ms
    rw [appS_rel b ms (bk a q), rel_bk]
def mvS (q : Qd) : D := .tup [.str "blocks", .int q.1, .int q.2.1, .int q.2.2.1, .int q.2.2.2]
theorem sorted_row_val (n : Nat) (hn : n ≤ 900) : m_sorted_row [.int n] = some (.ok (.tup ((upto n).map D.int))) := by
  have e2 : mRg2 .tup (mC (.int 1)) (mBin dAdd (mVar 0) (mC (.int 1))) [some (.int n, false)] = some (.ok (.tup ((upto n).map D.int))) := by
    rw [mRg2_ok _ _ _ _ 1 (n + 1) (by omega) rfl rfl, rgD_1]
  unfold m_sorted_row b_sorted_row
  rw [run1]
  simp only [bnd_ok, bnd_er, sE_ok, sE_er, mSeq_eq, seqO_nx, seqO_rt, seqO_er, seqO_bk, seqO_ct, mIf_eq, ifO_ok, ifO_er, mVar_z, mVar_s, mVarD_z, mVarD_s, mC_eq, mBin_eq, mUn_eq, mCB_eq, mNil_eq, mCons_eq, mSet_eq, mRet_eq, mSkip_eq, mBrk_eq, mCnt_eq, mRaise_eq, mRetN_eq, mDrop_eq, mTst_eq, tstO_bl, tstO_er, mAndT_eq, andT_ok, andT_f, andT_t, andT_er, mOrT_eq, orT_ok, orT_f, orT_t, orT_er, mNotT_eq, mAnd_eq, andD_ok, andD_f, andD_t, andD_er, mOr_eq, orD_ok, orD_f, orD_t, orD_er, dNot_bl, dAdd_i, dSub_i, dNeg_i, dCmp_i, dInt_i, dInt_b, dAbs_i, dMax_i, dMin_i, dLen_l, dLen_t, dLen_f, dList_l, dList_t, dTuple_l, dTuple_t, dRev_l, dRev_t, dIx_l, dIx_t, dIx_f, dIsN_n, dNotN_n, mTup_eq, mLst_eq, mSl_eq, mNone_eq, mSome_eq, someO_i, dSl_t, dSl_l, mFor_eq, mItems_eq, itemsO_l, itemsO_t, itemsO_f, mRgI1_eq, mRgI2_eq, outR_nx, outR_rt, outR_er, run1, run2, run3, run4, forGo_nil, forGo_cons, forO_nx, forO_ct, forO_bk, forO_rt, forO_er, gD_eq, mMut_eq, mutO_l, subO_eq, ownD_z, ownD_s, dSet_l, List.set_cons_zero, List.set_cons_succ, List.getElem?_cons_zero, List.getElem?_cons_succ, List.replicate_succ, List.replicate_zero, Nat.reduceSub, Nat.reduceAdd, List.length_cons, List.length_nil, Option.bind_some, Option.map_some, Bool.false_eq_true, if_true, if_false, reduceIte, Bool.and_true, Bool.true_and, Bool.and_false, Bool.false_and, Bool.or_true, Bool.true_or, Bool.or_false, Bool.false_or, Bool.not_true, Bool.not_false, DL.isNon, isSub, reduceCtorEq, decide_true, decide_false, clrO, Bool.or_self, Bool.and_self, Nat.reduceLT, Int.reduceLT, Int.reduceLE, Int.reduceAdd, Int.reduceSub, Int.reduceNeg, Int.reduceMul, Int.reduceEq, Int.cast_ofNat_Int, gk0, gk1, gk2, gk3, gk4, gk5, gk6, gk7, gk8, gk9, gk10, gk11, gk12, mMeth_eq, methO_ok, mRgI3_eq, mFrz_eq, frzO_s, mAug_eq, augO_s, dAddA_i, dTupX_l, dTupX_t, rowD_t, rowD_f, dList_f, dTupX_f, dRev_f, e2]
theorem ne_of_len {r : List Int} {n : Nat} (h : r.length = n) (n1 : 1 ≤ n) : r ≠ [] := ne_len (by omega)
theorem bscript_ok (a b : List Int) (ha : goodR a) (hb : goodR b) (e : a.length = b.length) (n1 : 1 ≤ a.length) : ∃ ms : List Qd, m_block_script [.tup (a.map D.int), .tup (b.map D.int)] = some (.ok (.tup (ms.map mvS))) ∧ 2 * ms.length + bcN (relP a b) = a.length + 1 ∧ (∀ q ∈ ms, okM a.length q) ∧ appS a ms = b := by
  have la := ha.1
  have lr := relP_len a b
  have gr := relP_good ha hb e
  obtain ⟨r0, hr0⟩ : ∃ r0, relP a b = r0 := ⟨_, rfl⟩
  rw [hr0] at lr gr ⊢
  have nr := ne_of_len lr n1
  have le0 := bc_le gr nr
  have test : ∀ (row : List Int) (ms : List Qd) (s4 s5 s6 s7 : Option (D × Bool)), row.length = a.length → mTst (mBin dNe (mVar 2) (mCB m_sorted_row (mCons (mCB dLen (mCons (mVar 2) mNil)) mNil))) [some (.tup (a.map D.int), false), some (.tup (b.map D.int), false), some (.fz true (row.map D.int), false), some (.lst (ms.map mvS), true), s4, s5, s6, s7] = some (.ok (!decide (row = upto row.length))) := fun row ms s4 s5 s6 s7 lrow => by
    have sv := sorted_row_val row.length (by omega)
    have dn := dNe_row true false row (upto row.length)
    rw [rowD_t, rowD_f] at dn
    simp only [bnd_ok, bnd_er, sE_ok, sE_er, mSeq_eq, seqO_nx, seqO_rt, seqO_er, seqO_bk, seqO_ct, mIf_eq, ifO_ok, ifO_er, mVar_z, mVar_s, mVarD_z, mVarD_s, mC_eq, mBin_eq, mUn_eq, mCB_eq, mNil_eq, mCons_eq, mSet_eq, mRet_eq, mSkip_eq, mBrk_eq, mCnt_eq, mRaise_eq, mRetN_eq, mDrop_eq, mTst_eq, tstO_bl, tstO_er, mAndT_eq, andT_ok, andT_f, andT_t, andT_er, mOrT_eq, orT_ok, orT_f, orT_t, orT_er, mNotT_eq, mAnd_eq, andD_ok, andD_f, andD_t, andD_er, mOr_eq, orD_ok, orD_f, orD_t, orD_er, dNot_bl, dAdd_i, dSub_i, dNeg_i, dCmp_i, dInt_i, dInt_b, dAbs_i, dMax_i, dMin_i, dLen_l, dLen_t, dLen_f, dList_l, dList_t, dTuple_l, dTuple_t, dRev_l, dRev_t, dIx_l, dIx_t, dIx_f, dIsN_n, dNotN_n, mTup_eq, mLst_eq, mSl_eq, mNone_eq, mSome_eq, someO_i, dSl_t, dSl_l, mFor_eq, mItems_eq, itemsO_l, itemsO_t, itemsO_f, mRgI1_eq, mRgI2_eq, outR_nx, outR_rt, outR_er, run1, run2, run3, run4, forGo_nil, forGo_cons, forO_nx, forO_ct, forO_bk, forO_rt, forO_er, gD_eq, mMut_eq, mutO_l, subO_eq, ownD_z, ownD_s, dSet_l, List.set_cons_zero, List.set_cons_succ, List.getElem?_cons_zero, List.getElem?_cons_succ, List.replicate_succ, List.replicate_zero, Nat.reduceSub, Nat.reduceAdd, List.length_cons, List.length_nil, Option.bind_some, Option.map_some, Bool.false_eq_true, if_true, if_false, reduceIte, Bool.and_true, Bool.true_and, Bool.and_false, Bool.false_and, Bool.or_true, Bool.true_or, Bool.or_false, Bool.false_or, Bool.not_true, Bool.not_false, DL.isNon, isSub, reduceCtorEq, decide_true, decide_false, clrO, Bool.or_self, Bool.and_self, Nat.reduceLT, Int.reduceLT, Int.reduceLE, Int.reduceAdd, Int.reduceSub, Int.reduceNeg, Int.reduceMul, Int.reduceEq, Int.cast_ofNat_Int, gk0, gk1, gk2, gk3, gk4, gk5, gk6, gk7, gk8, gk9, gk10, gk11, gk12, mMeth_eq, methO_ok, mRgI3_eq, mFrz_eq, frzO_s, mAug_eq, augO_s, dAddA_i, dTupX_l, dTupX_t, rowD_t, rowD_f, dList_f, dTupX_f, dRev_f, List.length_map, sv, dn]
  obtain ⟨ρ', m', ew, ⟨ms, s4, s5, s6, s7, er, h1, h2, h3⟩, ft⟩ := while_inv (t := mTst (mBin dNe (mVar 2) (mCB m_sorted_row (mCons (mCB dLen (mCons (mVar 2) mNil)) mNil)))) (s := lb_block_script_1) (fun m ρ => ∃ (ms : List Qd) (s4 s5 s6 s7 : Option (D × Bool)), ρ = [some (.tup (a.map D.int), false), some (.tup (b.map D.int), false), some (.fz true ((appS r0 ms).map D.int), false), some (.lst (ms.map mvS), true), s4, s5, s6, s7] ∧ (∀ q ∈ ms, okM r0.length q) ∧ bcN (appS r0 ms) = bcN r0 + 2 * ms.length ∧ m + bcN (appS r0 ms) = r0.length + 1) bigN (r0.length + 1 - bcN r0) [some (.tup (a.map D.int), false), some (.tup (b.map D.int), false), some (.fz true (r0.map D.int), false), some (.lst [], true), none, none, none, none] (Nat.lt_of_le_of_lt (show r0.length + 1 - bcN r0 ≤ 800 by omega) (by decide)) ⟨[], none, none, none, none, rfl, fun q hq => by simp at hq, rfl, by show _ + bcN r0 = _; omega⟩ (fun m ρ ⟨ms, s4, s5, s6, s7, er, h1, h2, h3⟩ => by
    subst er
    have lap := appS_len ms r0 h1
    have gap := appS_good ms r0 gr h1
    have ex := test (appS r0 ms) ms s4 s5 s6 s7 (by omega)
    obtain ⟨row, hrow⟩ : ∃ row, appS r0 ms = row := ⟨_, rfl⟩
    rw [hrow] at lap gap h2 h3 ex ⊢
    by_cases c : row = upto row.length
    · rw [decide_eq_true c] at ex
      exact .inl ex
    · rw [decide_eq_false c] at ex
      obtain ⟨i, j, k, l, bd, nx, f1, f2⟩ := nx_ok gap c
      have up := bc_up2 gap (ne_of_len lap (by omega)) bd f1 f2
      have xo := exch_ok row i j k l bd (by omega)
      have ea : appS r0 (ms ++ [(i, j, k, l)]) = blockP row i j k l := by rw [appS_snoc, hrow]; rfl
      have lm : ms.length < 1000 := by
        have := bc_le gap (ne_of_len lap (by omega))
        omega
      have fa := fApp_1 (ms.map mvS) (.tup [.str "blocks", .int (i : Int), .int (j : Int), .int (k : Int), .int (l : Int)]) (show _ < 1000000 by rw [List.length_map]; omega)
      refine .inr ⟨ex, [some (.tup (a.map D.int), false), some (.tup (b.map D.int), false), some (.fz true ((appS r0 (ms ++ [(i, j, k, l)])).map D.int), false), some (.lst ((ms ++ [(i, j, k, l)]).map mvS), true), some (.int (i : Int), false), some (.int (j : Int), false), some (.int (k : Int), false), some (.int (l : Int), false)], m - 2, .inl ?_, ⟨ms ++ [(i, j, k, l)], _, _, _, _, rfl, ?_, ?_, ?_⟩, ?_⟩
      · simp only [bnd_ok, bnd_er, sE_ok, sE_er, mSeq_eq, seqO_nx, seqO_rt, seqO_er, seqO_bk, seqO_ct, mIf_eq, ifO_ok, ifO_er, mVar_z, mVar_s, mVarD_z, mVarD_s, mC_eq, mBin_eq, mUn_eq, mCB_eq, mNil_eq, mCons_eq, mSet_eq, mRet_eq, mSkip_eq, mBrk_eq, mCnt_eq, mRaise_eq, mRetN_eq, mDrop_eq, mTst_eq, tstO_bl, tstO_er, mAndT_eq, andT_ok, andT_f, andT_t, andT_er, mOrT_eq, orT_ok, orT_f, orT_t, orT_er, mNotT_eq, mAnd_eq, andD_ok, andD_f, andD_t, andD_er, mOr_eq, orD_ok, orD_f, orD_t, orD_er, dNot_bl, dAdd_i, dSub_i, dNeg_i, dCmp_i, dInt_i, dInt_b, dAbs_i, dMax_i, dMin_i, dLen_l, dLen_t, dLen_f, dList_l, dList_t, dTuple_l, dTuple_t, dRev_l, dRev_t, dIx_l, dIx_t, dIx_f, dIsN_n, dNotN_n, mTup_eq, mLst_eq, mSl_eq, mNone_eq, mSome_eq, someO_i, dSl_t, dSl_l, mFor_eq, mItems_eq, itemsO_l, itemsO_t, itemsO_f, mRgI1_eq, mRgI2_eq, outR_nx, outR_rt, outR_er, run1, run2, run3, run4, forGo_nil, forGo_cons, forO_nx, forO_ct, forO_bk, forO_rt, forO_er, gD_eq, mMut_eq, mutO_l, subO_eq, ownD_z, ownD_s, dSet_l, List.set_cons_zero, List.set_cons_succ, List.getElem?_cons_zero, List.getElem?_cons_succ, List.replicate_succ, List.replicate_zero, Nat.reduceSub, Nat.reduceAdd, List.length_cons, List.length_nil, Option.bind_some, Option.map_some, Bool.false_eq_true, if_true, if_false, reduceIte, Bool.and_true, Bool.true_and, Bool.and_false, Bool.false_and, Bool.or_true, Bool.true_or, Bool.or_false, Bool.false_or, Bool.not_true, Bool.not_false, DL.isNon, isSub, reduceCtorEq, decide_true, decide_false, clrO, Bool.or_self, Bool.and_self, Nat.reduceLT, Int.reduceLT, Int.reduceLE, Int.reduceAdd, Int.reduceSub, Int.reduceNeg, Int.reduceMul, Int.reduceEq, Int.cast_ofNat_Int, gk0, gk1, gk2, gk3, gk4, gk5, gk6, gk7, gk8, gk9, gk10, gk11, gk12, mMeth_eq, methO_ok, mRgI3_eq, mFrz_eq, frzO_s, mAug_eq, augO_s, dAddA_i, dTupX_l, dTupX_t, rowD_t, rowD_f, dList_f, dTupX_f, dRev_f, lb_block_script_1, nx, mUnp, gT, gSets, xo, fa]
        rw [ea, List.map_append]
        rfl
      · intro q hq
        rcases List.mem_append.mp hq with z | z
        · exact h1 q z
        · rw [List.mem_singleton] at z
          subst z
          rw [← lap]
          exact bd
      · rw [ea, ← up, List.length_append, List.length_singleton]; omega
      · have := bc_le (blockP_good gap bd) (ne_of_len (blockP_len bd) (by omega))
        rw [blockP_len bd] at this
        rw [ea]
        omega
      · have := bc_le (blockP_good gap bd) (ne_of_len (blockP_len bd) (by omega))
        rw [blockP_len bd] at this
        omega)
  subst er
  have lap := appS_len ms r0 h1
  have up : appS r0 ms = upto r0.length := by
    rw [test (appS r0 ms) ms s4 s5 s6 s7 (by omega)] at ft
    refine Classical.byContradiction fun z => ?_
    rw [decide_eq_false (by rw [lap]; exact z)] at ft
    cases ft
  have h1' : ∀ q ∈ ms, okM a.length q := fun q hq => by rw [← lr]; exact h1 q hq
  have cu := bc_up r0.length (by omega) (by omega)
  rw [← up] at cu
  refine ⟨ms, ?_, by omega, h1', ?_⟩
  · unfold m_block_script b_block_script
    simp only [bnd_ok, bnd_er, sE_ok, sE_er, mSeq_eq, seqO_nx, seqO_rt, seqO_er, seqO_bk, seqO_ct, mIf_eq, ifO_ok, ifO_er, mVar_z, mVar_s, mVarD_z, mVarD_s, mC_eq, mBin_eq, mUn_eq, mCB_eq, mNil_eq, mCons_eq, mSet_eq, mRet_eq, mSkip_eq, mBrk_eq, mCnt_eq, mRaise_eq, mRetN_eq, mDrop_eq, mTst_eq, tstO_bl, tstO_er, mAndT_eq, andT_ok, andT_f, andT_t, andT_er, mOrT_eq, orT_ok, orT_f, orT_t, orT_er, mNotT_eq, mAnd_eq, andD_ok, andD_f, andD_t, andD_er, mOr_eq, orD_ok, orD_f, orD_t, orD_er, dNot_bl, dAdd_i, dSub_i, dNeg_i, dCmp_i, dInt_i, dInt_b, dAbs_i, dMax_i, dMin_i, dLen_l, dLen_t, dLen_f, dList_l, dList_t, dTuple_l, dTuple_t, dRev_l, dRev_t, dIx_l, dIx_t, dIx_f, dIsN_n, dNotN_n, mTup_eq, mLst_eq, mSl_eq, mNone_eq, mSome_eq, someO_i, dSl_t, dSl_l, mFor_eq, mItems_eq, itemsO_l, itemsO_t, itemsO_f, mRgI1_eq, mRgI2_eq, outR_nx, outR_rt, outR_er, run1, run2, run3, run4, forGo_nil, forGo_cons, forO_nx, forO_ct, forO_bk, forO_rt, forO_er, gD_eq, mMut_eq, mutO_l, subO_eq, ownD_z, ownD_s, dSet_l, List.set_cons_zero, List.set_cons_succ, List.getElem?_cons_zero, List.getElem?_cons_succ, List.replicate_succ, List.replicate_zero, Nat.reduceSub, Nat.reduceAdd, List.length_cons, List.length_nil, Option.bind_some, Option.map_some, Bool.false_eq_true, if_true, if_false, reduceIte, Bool.and_true, Bool.true_and, Bool.and_false, Bool.false_and, Bool.or_true, Bool.true_or, Bool.or_false, Bool.false_or, Bool.not_true, Bool.not_false, DL.isNon, isSub, reduceCtorEq, decide_true, decide_false, clrO, Bool.or_self, Bool.and_self, Nat.reduceLT, Int.reduceLT, Int.reduceLE, Int.reduceAdd, Int.reduceSub, Int.reduceNeg, Int.reduceMul, Int.reduceEq, Int.cast_ofNat_Int, gk0, gk1, gk2, gk3, gk4, gk5, gk6, gk7, gk8, gk9, gk10, gk11, gk12, mMeth_eq, methO_ok, mRgI3_eq, mFrz_eq, frzO_s, mAug_eq, augO_s, dAddA_i, dTupX_l, dTupX_t, rowD_t, rowD_f, dList_f, dTupX_f, dRev_f, rel_ok a b ha hb e, hr0, ew]
  · have gm := appS_good ms a ha h1'
    have lm := appS_len ms a h1'
    have hrel : relP (appS a ms) b = upto (appS a ms).length := by rw [appS_rel b ms a, hr0, up, lr, lm]
    refine List.ext_getElem (by omega) fun i q1 q2 => ?_
    have h3' : (relP (appS a ms) b)[i]? = (upto (appS a ms).length)[i]? := by rw [hrel]
    unfold relP upto at h3'
    rw [List.getElem?_map, List.getElem?_map, List.getElem?_range q1, List.getElem?_eq_getElem q1, Option.map_some, Option.map_some] at h3'
    have h4' := Option.some.inj h3'
    have hm : (appS a ms)[i] ∈ b := by
      rw [goodR_mem hb, ← e, ← lm]
      exact (goodR_mem gm).mp (List.getElem_mem q1)
    have h5' : b.idxOf (appS a ms)[i] = i := by omega
    obtain ⟨w1, w2⟩ := idx_get hm
    rw [h5', List.getD_eq_getElem?_getD, List.getElem?_eq_getElem q2] at w1
    exact w1.symm
theorem leads_ok (a b : List Int) (ms : List Qd) (ha : goodR a) (h : ∀ q ∈ ms, okM a.length q) (hab : appS a ms = b) : m__law_leads [.tup (a.map D.int), .tup (b.map D.int), .tup (ms.map mvS)] = some (.ok (.bl true)) := by
  have hl := ha.1
  have integ : ∀ i : Int, m__law_is_integer [.int i] = some (.ok (.bl true)) := fun i => by
    unfold m__law_is_integer b__law_is_integer
    simp only [bnd_ok, bnd_er, sE_ok, sE_er, mSeq_eq, seqO_nx, seqO_rt, seqO_er, seqO_bk, seqO_ct, mIf_eq, ifO_ok, ifO_er, mVar_z, mVar_s, mVarD_z, mVarD_s, mC_eq, mBin_eq, mUn_eq, mCB_eq, mNil_eq, mCons_eq, mSet_eq, mRet_eq, mSkip_eq, mBrk_eq, mCnt_eq, mRaise_eq, mRetN_eq, mDrop_eq, mTst_eq, tstO_bl, tstO_er, mAndT_eq, andT_ok, andT_f, andT_t, andT_er, mOrT_eq, orT_ok, orT_f, orT_t, orT_er, mNotT_eq, mAnd_eq, andD_ok, andD_f, andD_t, andD_er, mOr_eq, orD_ok, orD_f, orD_t, orD_er, dNot_bl, dAdd_i, dSub_i, dNeg_i, dCmp_i, dInt_i, dInt_b, dAbs_i, dMax_i, dMin_i, dLen_l, dLen_t, dLen_f, dList_l, dList_t, dTuple_l, dTuple_t, dRev_l, dRev_t, dIx_l, dIx_t, dIx_f, dIsN_n, dNotN_n, mTup_eq, mLst_eq, mSl_eq, mNone_eq, mSome_eq, someO_i, dSl_t, dSl_l, mFor_eq, mItems_eq, itemsO_l, itemsO_t, itemsO_f, mRgI1_eq, mRgI2_eq, outR_nx, outR_rt, outR_er, run1, run2, run3, run4, forGo_nil, forGo_cons, forO_nx, forO_ct, forO_bk, forO_rt, forO_er, gD_eq, mMut_eq, mutO_l, subO_eq, ownD_z, ownD_s, dSet_l, List.set_cons_zero, List.set_cons_succ, List.getElem?_cons_zero, List.getElem?_cons_succ, List.replicate_succ, List.replicate_zero, Nat.reduceSub, Nat.reduceAdd, List.length_cons, List.length_nil, Option.bind_some, Option.map_some, Bool.false_eq_true, if_true, if_false, reduceIte, Bool.and_true, Bool.true_and, Bool.and_false, Bool.false_and, Bool.or_true, Bool.true_or, Bool.or_false, Bool.false_or, Bool.not_true, Bool.not_false, DL.isNon, isSub, reduceCtorEq, decide_true, decide_false, clrO, Bool.or_self, Bool.and_self, Nat.reduceLT, Int.reduceLT, Int.reduceLE, Int.reduceAdd, Int.reduceSub, Int.reduceNeg, Int.reduceMul, Int.reduceEq, Int.cast_ofNat_Int, gk0, gk1, gk2, gk3, gk4, gk5, gk6, gk7, gk8, gk9, gk10, gk11, gk12, mMeth_eq, methO_ok, mRgI3_eq, mFrz_eq, frzO_s, mAug_eq, augO_s, dAddA_i, dTupX_l, dTupX_t, rowD_t, rowD_f, dList_f, dTupX_f, dRev_f, isi_int, isi_intb]
  obtain ⟨ρ', e, s4, er⟩ := for_inv (body := lb__law_leads_1) (v := 4) (fun k ρ => ∃ s4, ρ = [some (.tup (a.map D.int), false), some (.tup (b.map D.int), false), some (.tup (ms.map mvS), false), some (.tup ((appS a (ms.take k)).map D.int), false), s4, none]) (ms.map mvS) 0 (fun k x ρ ex ⟨s4, er⟩ => by
    subst er
    rw [Nat.zero_add] at *
    obtain ⟨hk, ex⟩ := List.getElem?_eq_some_iff.mp ex
    rw [List.length_map] at hk
    obtain ⟨q, hq⟩ : ∃ q, ms[k] = q := ⟨_, rfl⟩
    have ex : x = mvS q := by rw [← ex, ← hq]; simp
    subst ex
    obtain ⟨p1, p2, p3, p4⟩ := h q (hq ▸ List.getElem_mem hk)
    have lr := appS_len (ms.take k) a fun q hq => h q (List.mem_of_mem_take hq)
    have tk1 : ms.take (k + 1) = ms.take k ++ [q] := by rw [List.take_succ, List.getElem?_eq_getElem hk, hq]; rfl
    have lm := lm_blocks (appS a (ms.take k)) q.1 q.2.1 q.2.2.1 q.2.2.2 (by omega) p2 (by omega) (by omega) (by omega)
    have es : blockP (appS a (ms.take k)) q.1 q.2.1 q.2.2.1 q.2.2.2 = appS a (ms.take (k + 1)) := by rw [tk1, appS_snoc]; rfl
    rw [es] at lm
    have lc : mLc (mItems (mSl (mVar 4) (mSome (mC (.int 1))) mNone)) [5] (gD 5) (mOrT (mNotT (mTst (mCB m__law_is_integer (mCons (mVarD 5) mNil)))) (mOrT (mTst (mBin dLt (mVar 5) (mC (.int 0)))) (mTst (mBin dGt (mVar 5) (mCB dLen (mCons (mVar 3) mNil)))))) (mVarD 5) [some (.tup (a.map D.int), false), some (.tup (b.map D.int), false), some (.tup (ms.map mvS), false), some (.tup ((appS a (ms.take k)).map D.int), false), some (mvS q, false), none] = some (.ok (.lst [])) := by
      rw [lcx_is [(q.1 : Int), (q.2.1 : Int), (q.2.2.1 : Int), (q.2.2.2 : Int)] D.int (fun _ => false) (fun _ => .non) (by simp only [bnd_ok, bnd_er, sE_ok, sE_er, mSeq_eq, seqO_nx, seqO_rt, seqO_er, seqO_bk, seqO_ct, mIf_eq, ifO_ok, ifO_er, mVar_z, mVar_s, mVarD_z, mVarD_s, mC_eq, mBin_eq, mUn_eq, mCB_eq, mNil_eq, mCons_eq, mSet_eq, mRet_eq, mSkip_eq, mBrk_eq, mCnt_eq, mRaise_eq, mRetN_eq, mDrop_eq, mTst_eq, tstO_bl, tstO_er, mAndT_eq, andT_ok, andT_f, andT_t, andT_er, mOrT_eq, orT_ok, orT_f, orT_t, orT_er, mNotT_eq, mAnd_eq, andD_ok, andD_f, andD_t, andD_er, mOr_eq, orD_ok, orD_f, orD_t, orD_er, dNot_bl, dAdd_i, dSub_i, dNeg_i, dCmp_i, dInt_i, dInt_b, dAbs_i, dMax_i, dMin_i, dLen_l, dLen_t, dLen_f, dList_l, dList_t, dTuple_l, dTuple_t, dRev_l, dRev_t, dIx_l, dIx_t, dIx_f, dIsN_n, dNotN_n, mTup_eq, mLst_eq, mSl_eq, mNone_eq, mSome_eq, someO_i, dSl_t, dSl_l, mFor_eq, mItems_eq, itemsO_l, itemsO_t, itemsO_f, mRgI1_eq, mRgI2_eq, outR_nx, outR_rt, outR_er, run1, run2, run3, run4, forGo_nil, forGo_cons, forO_nx, forO_ct, forO_bk, forO_rt, forO_er, gD_eq, mMut_eq, mutO_l, subO_eq, ownD_z, ownD_s, dSet_l, List.set_cons_zero, List.set_cons_succ, List.getElem?_cons_zero, List.getElem?_cons_succ, List.replicate_succ, List.replicate_zero, Nat.reduceSub, Nat.reduceAdd, List.length_cons, List.length_nil, Option.bind_some, Option.map_some, Bool.false_eq_true, if_true, if_false, reduceIte, Bool.and_true, Bool.true_and, Bool.and_false, Bool.false_and, Bool.or_true, Bool.true_or, Bool.or_false, Bool.false_or, Bool.not_true, Bool.not_false, DL.isNon, isSub, reduceCtorEq, decide_true, decide_false, clrO, Bool.or_self, Bool.and_self, Nat.reduceLT, Int.reduceLT, Int.reduceLE, Int.reduceAdd, Int.reduceSub, Int.reduceNeg, Int.reduceMul, Int.reduceEq, Int.cast_ofNat_Int, gk0, gk1, gk2, gk3, gk4, gk5, gk6, gk7, gk8, gk9, gk10, gk11, gk12, mMeth_eq, methO_ok, mRgI3_eq, mFrz_eq, frzO_s, mAug_eq, augO_s, dAddA_i, dTupX_l, dTupX_t, rowD_t, rowD_f, dList_f, dTupX_f, dRev_f, mvS, cut_tl]; rfl) rfl (by simp) fun x hx => ⟨?_, fun z => by cases z⟩]
      · rfl
      · have hx : 0 ≤ x ∧ x ≤ (appS a (ms.take k)).length := by
          simp only [List.mem_cons, List.not_mem_nil, or_false] at hx
          omega
        simp only [bnd_ok, bnd_er, sE_ok, sE_er, mSeq_eq, seqO_nx, seqO_rt, seqO_er, seqO_bk, seqO_ct, mIf_eq, ifO_ok, ifO_er, mVar_z, mVar_s, mVarD_z, mVarD_s, mC_eq, mBin_eq, mUn_eq, mCB_eq, mNil_eq, mCons_eq, mSet_eq, mRet_eq, mSkip_eq, mBrk_eq, mCnt_eq, mRaise_eq, mRetN_eq, mDrop_eq, mTst_eq, tstO_bl, tstO_er, mAndT_eq, andT_ok, andT_f, andT_t, andT_er, mOrT_eq, orT_ok, orT_f, orT_t, orT_er, mNotT_eq, mAnd_eq, andD_ok, andD_f, andD_t, andD_er, mOr_eq, orD_ok, orD_f, orD_t, orD_er, dNot_bl, dAdd_i, dSub_i, dNeg_i, dCmp_i, dInt_i, dInt_b, dAbs_i, dMax_i, dMin_i, dLen_l, dLen_t, dLen_f, dList_l, dList_t, dTuple_l, dTuple_t, dRev_l, dRev_t, dIx_l, dIx_t, dIx_f, dIsN_n, dNotN_n, mTup_eq, mLst_eq, mSl_eq, mNone_eq, mSome_eq, someO_i, dSl_t, dSl_l, mFor_eq, mItems_eq, itemsO_l, itemsO_t, itemsO_f, mRgI1_eq, mRgI2_eq, outR_nx, outR_rt, outR_er, run1, run2, run3, run4, forGo_nil, forGo_cons, forO_nx, forO_ct, forO_bk, forO_rt, forO_er, gD_eq, mMut_eq, mutO_l, subO_eq, ownD_z, ownD_s, dSet_l, List.set_cons_zero, List.set_cons_succ, List.getElem?_cons_zero, List.getElem?_cons_succ, List.replicate_succ, List.replicate_zero, Nat.reduceSub, Nat.reduceAdd, List.length_cons, List.length_nil, Option.bind_some, Option.map_some, Bool.false_eq_true, if_true, if_false, reduceIte, Bool.and_true, Bool.true_and, Bool.and_false, Bool.false_and, Bool.or_true, Bool.true_or, Bool.or_false, Bool.false_or, Bool.not_true, Bool.not_false, DL.isNon, isSub, reduceCtorEq, decide_true, decide_false, clrO, Bool.or_self, Bool.and_self, Nat.reduceLT, Int.reduceLT, Int.reduceLE, Int.reduceAdd, Int.reduceSub, Int.reduceNeg, Int.reduceMul, Int.reduceEq, Int.cast_ofNat_Int, gk0, gk1, gk2, gk3, gk4, gk5, gk6, gk7, gk8, gk9, gk10, gk11, gk12, mMeth_eq, methO_ok, mRgI3_eq, mFrz_eq, frzO_s, mAug_eq, augO_s, dAddA_i, dTupX_l, dTupX_t, rowD_t, rowD_f, dList_f, dTupX_f, dRev_f, wipeR, integ, List.length_map, decide_eq_false (show ¬ x < 0 by omega), decide_eq_false (show ¬ ((appS a (ms.take k)).length : Int) < x by omega)]
    have n0 : dNe (.lst []) (.lst []) = some (.ok (.bl false)) := dNe_l [] []
    have nn : decide (("blocks" : Str) = "blocks") = true := by decide +kernel
    have iv : dIsi "tuple" (mvS q) = some (.ok (.bl true)) := isi_tup _
    have ln : dLen [mvS q] = some (.ok (.int 5)) := rfl
    have i0 : dIx (mvS q) (.int 0) = some (.ok (.str "blocks")) := rfl
    have i1 : dIx (mvS q) (.int 1) = some (.ok (.int (q.1 : Int))) := rfl
    have i2 : dIx (mvS q) (.int 2) = some (.ok (.int (q.2.1 : Int))) := rfl
    have i3 : dIx (mvS q) (.int 3) = some (.ok (.int (q.2.2.1 : Int))) := rfl
    have i4 : dIx (mvS q) (.int 4) = some (.ok (.int (q.2.2.2 : Int))) := rfl
    have t1 : decide ((q.1 : Int) < (q.2.1 : Int)) = true := decide_eq_true (by omega)
    have t2 : decide ((q.2.1 : Int) ≤ (q.2.2.1 : Int)) = true := decide_eq_true (by omega)
    have t3 : decide ((q.2.2.1 : Int) < (q.2.2.2 : Int)) = true := decide_eq_true (by omega)
    have lm' : m__law_moved [.tup ((appS a (ms.take k)).map D.int), mvS q] = some (.ok (.tup ((appS a (ms.take (k + 1))).map D.int))) := lm
    refine ⟨[some (.tup (a.map D.int), false), some (.tup (b.map D.int), false), some (.tup (ms.map mvS), false), some (.tup ((appS a (ms.take (k + 1))).map D.int), false), some (mvS q, false), none], .inl ?_, _, rfl⟩
    simp only [bnd_ok, bnd_er, sE_ok, sE_er, mSeq_eq, seqO_nx, seqO_rt, seqO_er, seqO_bk, seqO_ct, mIf_eq, ifO_ok, ifO_er, mVar_z, mVar_s, mVarD_z, mVarD_s, mC_eq, mBin_eq, mUn_eq, mCB_eq, mNil_eq, mCons_eq, mSet_eq, mRet_eq, mSkip_eq, mBrk_eq, mCnt_eq, mRaise_eq, mRetN_eq, mDrop_eq, mTst_eq, tstO_bl, tstO_er, mAndT_eq, andT_ok, andT_f, andT_t, andT_er, mOrT_eq, orT_ok, orT_f, orT_t, orT_er, mNotT_eq, mAnd_eq, andD_ok, andD_f, andD_t, andD_er, mOr_eq, orD_ok, orD_f, orD_t, orD_er, dNot_bl, dAdd_i, dSub_i, dNeg_i, dCmp_i, dInt_i, dInt_b, dAbs_i, dMax_i, dMin_i, dLen_l, dLen_t, dLen_f, dList_l, dList_t, dTuple_l, dTuple_t, dRev_l, dRev_t, dIx_l, dIx_t, dIx_f, dIsN_n, dNotN_n, mTup_eq, mLst_eq, mSl_eq, mNone_eq, mSome_eq, someO_i, dSl_t, dSl_l, mFor_eq, mItems_eq, itemsO_l, itemsO_t, itemsO_f, mRgI1_eq, mRgI2_eq, outR_nx, outR_rt, outR_er, run1, run2, run3, run4, forGo_nil, forGo_cons, forO_nx, forO_ct, forO_bk, forO_rt, forO_er, gD_eq, mMut_eq, mutO_l, subO_eq, ownD_z, ownD_s, dSet_l, List.set_cons_zero, List.set_cons_succ, List.getElem?_cons_zero, List.getElem?_cons_succ, List.replicate_succ, List.replicate_zero, Nat.reduceSub, Nat.reduceAdd, List.length_cons, List.length_nil, Option.bind_some, Option.map_some, Bool.false_eq_true, if_true, if_false, reduceIte, Bool.and_true, Bool.true_and, Bool.and_false, Bool.false_and, Bool.or_true, Bool.true_or, Bool.or_false, Bool.false_or, Bool.not_true, Bool.not_false, DL.isNon, isSub, reduceCtorEq, decide_true, decide_false, clrO, Bool.or_self, Bool.and_self, Nat.reduceLT, Int.reduceLT, Int.reduceLE, Int.reduceAdd, Int.reduceSub, Int.reduceNeg, Int.reduceMul, Int.reduceEq, Int.cast_ofNat_Int, gk0, gk1, gk2, gk3, gk4, gk5, gk6, gk7, gk8, gk9, gk10, gk11, gk12, mMeth_eq, methO_ok, mRgI3_eq, mFrz_eq, frzO_s, mAug_eq, augO_s, dAddA_i, dTupX_l, dTupX_t, rowD_t, rowD_f, dList_f, dTupX_f, dRev_f, lb__law_leads_1, iv, ln, i0, i1, i2, i3, i4, dNe_s, nn, lc, n0, t1, t2, t3, lm']) [some (.tup (a.map D.int), false), some (.tup (b.map D.int), false), some (.tup (ms.map mvS), false), some (.tup (a.map D.int), false), none, none] ⟨none, rfl⟩
  subst er
  rw [List.length_map, Nat.zero_add, List.take_of_length_le (Nat.le_refl _), hab] at e
  unfold m__law_leads b__law_leads
  simp only [bnd_ok, bnd_er, sE_ok, sE_er, mSeq_eq, seqO_nx, seqO_rt, seqO_er, seqO_bk, seqO_ct, mIf_eq, ifO_ok, ifO_er, mVar_z, mVar_s, mVarD_z, mVarD_s, mC_eq, mBin_eq, mUn_eq, mCB_eq, mNil_eq, mCons_eq, mSet_eq, mRet_eq, mSkip_eq, mBrk_eq, mCnt_eq, mRaise_eq, mRetN_eq, mDrop_eq, mTst_eq, tstO_bl, tstO_er, mAndT_eq, andT_ok, andT_f, andT_t, andT_er, mOrT_eq, orT_ok, orT_f, orT_t, orT_er, mNotT_eq, mAnd_eq, andD_ok, andD_f, andD_t, andD_er, mOr_eq, orD_ok, orD_f, orD_t, orD_er, dNot_bl, dAdd_i, dSub_i, dNeg_i, dCmp_i, dInt_i, dInt_b, dAbs_i, dMax_i, dMin_i, dLen_l, dLen_t, dLen_f, dList_l, dList_t, dTuple_l, dTuple_t, dRev_l, dRev_t, dIx_l, dIx_t, dIx_f, dIsN_n, dNotN_n, mTup_eq, mLst_eq, mSl_eq, mNone_eq, mSome_eq, someO_i, dSl_t, dSl_l, mFor_eq, mItems_eq, itemsO_l, itemsO_t, itemsO_f, mRgI1_eq, mRgI2_eq, outR_nx, outR_rt, outR_er, run1, run2, run3, run4, forGo_nil, forGo_cons, forO_nx, forO_ct, forO_bk, forO_rt, forO_er, gD_eq, mMut_eq, mutO_l, subO_eq, ownD_z, ownD_s, dSet_l, List.set_cons_zero, List.set_cons_succ, List.getElem?_cons_zero, List.getElem?_cons_succ, List.replicate_succ, List.replicate_zero, Nat.reduceSub, Nat.reduceAdd, List.length_cons, List.length_nil, Option.bind_some, Option.map_some, Bool.false_eq_true, if_true, if_false, reduceIte, Bool.and_true, Bool.true_and, Bool.and_false, Bool.false_and, Bool.or_true, Bool.true_or, Bool.or_false, Bool.false_or, Bool.not_true, Bool.not_false, DL.isNon, isSub, reduceCtorEq, decide_true, decide_false, clrO, Bool.or_self, Bool.and_self, Nat.reduceLT, Int.reduceLT, Int.reduceLE, Int.reduceAdd, Int.reduceSub, Int.reduceNeg, Int.reduceMul, Int.reduceEq, Int.cast_ofNat_Int, gk0, gk1, gk2, gk3, gk4, gk5, gk6, gk7, gk8, gk9, gk10, gk11, gk12, mMeth_eq, methO_ok, mRgI3_eq, mFrz_eq, frzO_s, mAug_eq, augO_s, dAddA_i, dTupX_l, dTupX_t, rowD_t, rowD_f, dList_f, dTupX_f, dRev_f, e, dEq_t]
/-! ### what the law's frame wants -/
def dist (a b : List Int) : Nat := (a.length + 1 - bcN (relP a b)) / 2
theorem least_ok (a b : List Int) (ha : goodR a) (hb : goodR b) (e : a.length = b.length) (n1 : 1 ≤ a.length) : m_least_blocks [.tup (a.map D.int), .tup (b.map D.int)] = some (.ok (.int (dist a b : Nat))) := by
  have gr := relP_good ha hb e
  have lr := relP_len a b
  obtain ⟨R, hR, _, eR⟩ := bc_is gr (ne_of_len lr n1)
  have := bc_le gr (ne_of_len lr n1)
  rw [relP_len] at this
  have ed : ((a.length : Int) + 1 - (R.length : Int)) / 2 = (dist a b : Nat) := by
    unfold dist
    omega
  unfold m_least_blocks b_least_blocks
  simp only [bnd_ok, bnd_er, sE_ok, sE_er, mSeq_eq, seqO_nx, seqO_rt, seqO_er, seqO_bk, seqO_ct, mIf_eq, ifO_ok, ifO_er, mVar_z, mVar_s, mVarD_z, mVarD_s, mC_eq, mBin_eq, mUn_eq, mCB_eq, mNil_eq, mCons_eq, mSet_eq, mRet_eq, mSkip_eq, mBrk_eq, mCnt_eq, mRaise_eq, mRetN_eq, mDrop_eq, mTst_eq, tstO_bl, tstO_er, mAndT_eq, andT_ok, andT_f, andT_t, andT_er, mOrT_eq, orT_ok, orT_f, orT_t, orT_er, mNotT_eq, mAnd_eq, andD_ok, andD_f, andD_t, andD_er, mOr_eq, orD_ok, orD_f, orD_t, orD_er, dNot_bl, dAdd_i, dSub_i, dNeg_i, dCmp_i, dInt_i, dInt_b, dAbs_i, dMax_i, dMin_i, dLen_l, dLen_t, dLen_f, dList_l, dList_t, dTuple_l, dTuple_t, dRev_l, dRev_t, dIx_l, dIx_t, dIx_f, dIsN_n, dNotN_n, mTup_eq, mLst_eq, mSl_eq, mNone_eq, mSome_eq, someO_i, dSl_t, dSl_l, mFor_eq, mItems_eq, itemsO_l, itemsO_t, itemsO_f, mRgI1_eq, mRgI2_eq, outR_nx, outR_rt, outR_er, run1, run2, run3, run4, forGo_nil, forGo_cons, forO_nx, forO_ct, forO_bk, forO_rt, forO_er, gD_eq, mMut_eq, mutO_l, subO_eq, ownD_z, ownD_s, dSet_l, List.set_cons_zero, List.set_cons_succ, List.getElem?_cons_zero, List.getElem?_cons_succ, List.replicate_succ, List.replicate_zero, Nat.reduceSub, Nat.reduceAdd, List.length_cons, List.length_nil, Option.bind_some, Option.map_some, Bool.false_eq_true, if_true, if_false, reduceIte, Bool.and_true, Bool.true_and, Bool.and_false, Bool.false_and, Bool.or_true, Bool.true_or, Bool.or_false, Bool.false_or, Bool.not_true, Bool.not_false, DL.isNon, isSub, reduceCtorEq, decide_true, decide_false, clrO, Bool.or_self, Bool.and_self, Nat.reduceLT, Int.reduceLT, Int.reduceLE, Int.reduceAdd, Int.reduceSub, Int.reduceNeg, Int.reduceMul, Int.reduceEq, Int.cast_ofNat_Int, gk0, gk1, gk2, gk3, gk4, gk5, gk6, gk7, gk8, gk9, gk10, gk11, gk12, mMeth_eq, methO_ok, mRgI3_eq, mFrz_eq, frzO_s, mAug_eq, augO_s, dAddA_i, dTupX_l, dTupX_t, rowD_t, rowD_f, dList_f, dTupX_f, dRev_f, rel_ok a b ha hb e, hR, List.length_map, relP_len, tupsD_len, dDiv_i _ 2 (by decide) (by decide), ed]
theorem dist_le (a b : List Int) : dist a b ≤ a.length * a.length := by
  unfold dist
  have := Nat.le_mul_self a.length
  omega
theorem dist_self (a : List Int) (ha : goodR a) (n1 : 1 ≤ a.length) : dist a a = 0 := by
  unfold dist
  rw [relP_self (goodR_nodup ha), bc_up _ ha.1 n1]
  omega
theorem drawn (c : Int) (n : Nat) (hn : 2 ≤ n) (hn2 : n ≤ 40) (a b : List Int) (ga : goodR a) (gb : goodR b) (la : a.length = n) (lb : b.length = n) : ∃ (mv : D) (b' : List Int), m__law_plain_move [.str "blocks", .int c, .int n] = some (.ok mv) ∧ m__law_moved [.tup (b.map D.int), mv] = some (.ok (.tup (b'.map D.int))) ∧ goodR b' ∧ b'.length = n ∧ dist a b' ≤ dist a b + 1 ∧ dist b' a ≤ dist b a + 1 := by
  obtain ⟨i, j, k, m, h1, h2, h3, h4, e⟩ := pm_blocks c n hn hn2
  have bd : Bd b.length i j k m := ⟨h1, h2, h3, by omega⟩
  have g' := blockP_good gb bd
  have l' := blockP_len bd
  have er : relP (blockP b i j k m) a = blockP (relP b a) i j k m := rel_bk b a (i, j, k, m)
  have lr := relP_len b a
  have h1 := bc_step (relP_good gb ga (by omega)) (ne_of_len lr (by omega)) (i := i) (j := j) (k := k) (l := m) (by rw [relP_len]; exact bd)
  rw [← er] at h1
  have s1 := bc_back ga g' (by omega) (ne_of_len la (by omega))
  have s2 := bc_back ga gb (by omega) (ne_of_len la (by omega))
  refine ⟨_, blockP b i j k m, e, lm_blocks b i j k m (by omega) h2 (by omega) (by omega) (by omega), g', by omega, ?_, ?_⟩
  · unfold dist
    omega
  · unfold dist
    omega
theorem script_ok (a b : List Int) (ha : goodR a) (hb : goodR b) (e : a.length = b.length) (n1 : 1 ≤ a.length) : ∃ ms : List D, m_block_script [.tup (a.map D.int), .tup (b.map D.int)] = some (.ok (.tup ms)) ∧ ms.length = dist a b ∧ m__law_leads [.tup (a.map D.int), .tup (b.map D.int), .tup ms] = some (.ok (.bl true)) := by
  obtain ⟨ms, h1, h2, h3, h4⟩ := bscript_ok a b ha hb e n1
  refine ⟨ms.map mvS, h1, ?_, leads_ok a b ms ha h3 h4⟩
  rw [List.length_map]
  unfold dist
  omega
end Lw

set_option Elab.async false
set_option linter.all false
set_option maxRecDepth 100000
set_option maxHeartbeats 1000000
set_option autoImplicit false
namespace Lw
open PySem L2 DL
/-! ### the law: wants dist, least_ok, dist_le, dist_self, drawn, script_ok -/
theorem integ_ok (i : Int) : m__law_is_integer [.int i] = some (.ok (.bl true)) := by
  unfold m__law_is_integer b__law_is_integer
  simp only [bnd_ok, bnd_er, sE_ok, sE_er, mSeq_eq, seqO_nx, seqO_rt, seqO_er, seqO_bk, seqO_ct, mIf_eq, ifO_ok, ifO_er, mVar_z, mVar_s, mVarD_z, mVarD_s, mC_eq, mBin_eq, mUn_eq, mCB_eq, mNil_eq, mCons_eq, mSet_eq, mRet_eq, mSkip_eq, mBrk_eq, mCnt_eq, mRaise_eq, mRetN_eq, mDrop_eq, mTst_eq, tstO_bl, tstO_er, mAndT_eq, andT_ok, andT_f, andT_t, andT_er, mOrT_eq, orT_ok, orT_f, orT_t, orT_er, mNotT_eq, mAnd_eq, andD_ok, andD_f, andD_t, andD_er, mOr_eq, orD_ok, orD_f, orD_t, orD_er, dNot_bl, dAdd_i, dSub_i, dNeg_i, dCmp_i, dInt_i, dInt_b, dAbs_i, dMax_i, dMin_i, dLen_l, dLen_t, dLen_f, dList_l, dList_t, dTuple_l, dTuple_t, dRev_l, dRev_t, dIx_l, dIx_t, dIx_f, dIsN_n, dNotN_n, mTup_eq, mLst_eq, mSl_eq, mNone_eq, mSome_eq, someO_i, dSl_t, dSl_l, mFor_eq, mItems_eq, itemsO_l, itemsO_t, itemsO_f, mRgI1_eq, mRgI2_eq, outR_nx, outR_rt, outR_er, run1, run2, run3, run4, forGo_nil, forGo_cons, forO_nx, forO_ct, forO_bk, forO_rt, forO_er, gD_eq, mMut_eq, mutO_l, subO_eq, ownD_z, ownD_s, dSet_l, List.set_cons_zero, List.set_cons_succ, List.getElem?_cons_zero, List.getElem?_cons_succ, List.replicate_succ, List.replicate_zero, Nat.reduceSub, Nat.reduceAdd, List.length_cons, List.length_nil, Option.bind_some, Option.map_some, Bool.false_eq_true, if_true, if_false, reduceIte, Bool.and_true, Bool.true_and, Bool.and_false, Bool.false_and, Bool.or_true, Bool.true_or, Bool.or_false, Bool.false_or, Bool.not_true, Bool.not_false, DL.isNon, isSub, reduceCtorEq, decide_true, decide_false, clrO, Bool.or_self, Bool.and_self, Nat.reduceLT, Int.reduceLT, Int.reduceLE, Int.reduceAdd, Int.reduceSub, Int.reduceNeg, Int.reduceMul, Int.reduceEq, Int.cast_ofNat_Int, gk0, gk1, gk2, gk3, gk4, gk5, gk6, gk7, gk8, gk9, gk10, gk11, gk12, mMeth_eq, methO_ok, mRgI3_eq, mFrz_eq, frzO_s, mAug_eq, augO_s, dAddA_i, dTupX_l, dTupX_t, rowD_t, rowD_f, dList_f, dTupX_f, dRev_f, isi_int, isi_intb]
theorem plain (ns : List Int) (hl : ns.length ≤ 63) (hb : ∀ z ∈ ns, Builtin.Int.intBits z ≤ 1048576) : m_law [.fz false (ns.map D.int)] = ok (.bl true) := by
  have dg : ∃ e0 e1 e2 : Int, m__law_digits [.int (richP (cellP ns 0)), .lst [.int 11, .int 5, .int 8]] = some (.ok (.lst [.int e0, .int e1, .int e2])) ∧ 0 ≤ e0 ∧ e0 < 11 :=
    ⟨_, _, _, digs_ok _ [11, 5, 8] (by intro s hs; simp at hs; omega) (by simp), by omega⟩
  obtain ⟨e0, e1, e2, hd, b0, b1⟩ := dg
  obtain ⟨n, hn1, hn, hn2⟩ : ∃ n : Nat, 2 ≤ n ∧ n ≤ 40 ∧ L2.atI [D.int (2 + e0), D.int 40] (if decide (e2 = 0) = true then 1 else 0) = some (.int (n : Int)) := by
    by_cases z : e2 = 0
    · exact ⟨40, by omega, by omega, by rw [if_pos (decide_eq_true z), at2_1]; rfl⟩
    · exact ⟨(2 + e0).toNat, by omega, by omega, by rw [if_neg (by simpa using z), at2_0]; exact congrArg (fun z => some (D.int z)) (by omega)⟩
  obtain ⟨a, ha, pa⟩ := row_ok (cellP ns 1) n (by omega)
  have ga : goodR a := goodR_of hn pa
  have la : a.length = n := by have h := pa.length_eq; rwa [upto_len] at h
  have c0 := cell_ok ns 0
  have c1 := cell_ok ns 1
  have c2 := cell_ok ns 2
  simp only [Int.cast_ofNat_Int] at c0 c1 c2
  unfold m_law b_law
  simp only [bnd_ok, bnd_er, sE_ok, sE_er, mSeq_eq, seqO_nx, seqO_rt, seqO_er, seqO_bk, seqO_ct, mIf_eq, ifO_ok, ifO_er, mVar_z, mVar_s, mVarD_z, mVarD_s, mC_eq, mBin_eq, mUn_eq, mCB_eq, mNil_eq, mCons_eq, mSet_eq, mRet_eq, mSkip_eq, mBrk_eq, mCnt_eq, mRaise_eq, mRetN_eq, mDrop_eq, mTst_eq, tstO_bl, tstO_er, mAndT_eq, andT_ok, andT_f, andT_t, andT_er, mOrT_eq, orT_ok, orT_f, orT_t, orT_er, mNotT_eq, mAnd_eq, andD_ok, andD_f, andD_t, andD_er, mOr_eq, orD_ok, orD_f, orD_t, orD_er, dNot_bl, dAdd_i, dSub_i, dNeg_i, dCmp_i, dInt_i, dInt_b, dAbs_i, dMax_i, dMin_i, dLen_l, dLen_t, dLen_f, dList_l, dList_t, dTuple_l, dTuple_t, dRev_l, dRev_t, dIx_l, dIx_t, dIx_f, dIsN_n, dNotN_n, mTup_eq, mLst_eq, mSl_eq, mNone_eq, mSome_eq, someO_i, dSl_t, dSl_l, mFor_eq, mItems_eq, itemsO_l, itemsO_t, itemsO_f, mRgI1_eq, mRgI2_eq, outR_nx, outR_rt, outR_er, run1, run2, run3, run4, forGo_nil, forGo_cons, forO_nx, forO_ct, forO_bk, forO_rt, forO_er, gD_eq, mMut_eq, mutO_l, subO_eq, ownD_z, ownD_s, dSet_l, List.set_cons_zero, List.set_cons_succ, List.getElem?_cons_zero, List.getElem?_cons_succ, List.replicate_succ, List.replicate_zero, Nat.reduceSub, Nat.reduceAdd, List.length_cons, List.length_nil, Option.bind_some, Option.map_some, Bool.false_eq_true, if_true, if_false, reduceIte, Bool.and_true, Bool.true_and, Bool.and_false, Bool.false_and, Bool.or_true, Bool.true_or, Bool.or_false, Bool.false_or, Bool.not_true, Bool.not_false, DL.isNon, isSub, reduceCtorEq, decide_true, decide_false, clrO, Bool.or_self, Bool.and_self, Nat.reduceLT, Int.reduceLT, Int.reduceLE, Int.reduceAdd, Int.reduceSub, Int.reduceNeg, Int.reduceMul, Int.reduceEq, Int.cast_ofNat_Int, gk0, gk1, gk2, gk3, gk4, gk5, gk6, gk7, gk8, gk9, gk10, gk11, gk12, mMeth_eq, methO_ok, mRgI3_eq, mFrz_eq, frzO_s, mAug_eq, augO_s, dAddA_i, dTupX_l, dTupX_t, rowD_t, rowD_f, dList_f, dTupX_f, dRev_f, st_law_1, st_law_2, st_law_3, st_law_4, st_law_5, c0, c1, rich_ok, hd, at3_0, at3_2, dEq_i, hn2, ha]
  -- the drawn moves
  obtain ⟨ρ', e6, hq⟩ := for_invB (body := lb_law_1) (v := 6) (fun k ρ => ∃ (b : List Int) (s6 : Option (D × Bool)), ρ = [some (.fz false (ns.map D.int), false), some (.lst [.int e0, .int e1, .int e2], false), some (.int (n : Int), false), some (.tup (a.map D.int), false), some (.tup (b.map D.int), false), some (.int (k : Int), false), s6, none, none, none, none] ∧ goodR b ∧ b.length = n ∧ dist a b ≤ k ∧ dist b a ≤ k) (fun ρ => ∃ (b : List Int) (m : Nat) (s6 : Option (D × Bool)), ρ = [some (.fz false (ns.map D.int), false), some (.lst [.int e0, .int e1, .int e2], false), some (.int (n : Int), false), some (.tup (a.map D.int), false), some (.tup (b.map D.int), false), some (.int (m : Int), false), s6, none, none, none, none] ∧ goodR b ∧ b.length = n ∧ dist a b ≤ m ∧ dist b a ≤ m) (rng 10) 0 (fun k x ρ ex ⟨b, s6, er, gb, lb, d1, d2⟩ => by
    subst er
    rw [Nat.zero_add] at *
    obtain ⟨hk, ex⟩ := List.getElem?_eq_some_iff.mp ex
    have ex : x = .int (k : Int) := by rw [← ex]; simp [rng]
    subst ex
    by_cases c : ns.length ≤ 2 + k
    · have t1 : decide ((ns.length : Int) ≤ 2 + (k : Int)) = true := decide_eq_true (by omega)
      refine .inr ⟨[some (.fz false (ns.map D.int), false), some (.lst [.int e0, .int e1, .int e2], false), some (.int (n : Int), false), some (.tup (a.map D.int), false), some (.tup (b.map D.int), false), some (.int (k : Int), false), some (.int (k : Int), false), none, none, none, none], ?_, b, k, _, rfl, gb, lb, d1, d2⟩
      simp only [bnd_ok, bnd_er, sE_ok, sE_er, mSeq_eq, seqO_nx, seqO_rt, seqO_er, seqO_bk, seqO_ct, mIf_eq, ifO_ok, ifO_er, mVar_z, mVar_s, mVarD_z, mVarD_s, mC_eq, mBin_eq, mUn_eq, mCB_eq, mNil_eq, mCons_eq, mSet_eq, mRet_eq, mSkip_eq, mBrk_eq, mCnt_eq, mRaise_eq, mRetN_eq, mDrop_eq, mTst_eq, tstO_bl, tstO_er, mAndT_eq, andT_ok, andT_f, andT_t, andT_er, mOrT_eq, orT_ok, orT_f, orT_t, orT_er, mNotT_eq, mAnd_eq, andD_ok, andD_f, andD_t, andD_er, mOr_eq, orD_ok, orD_f, orD_t, orD_er, dNot_bl, dAdd_i, dSub_i, dNeg_i, dCmp_i, dInt_i, dInt_b, dAbs_i, dMax_i, dMin_i, dLen_l, dLen_t, dLen_f, dList_l, dList_t, dTuple_l, dTuple_t, dRev_l, dRev_t, dIx_l, dIx_t, dIx_f, dIsN_n, dNotN_n, mTup_eq, mLst_eq, mSl_eq, mNone_eq, mSome_eq, someO_i, dSl_t, dSl_l, mFor_eq, mItems_eq, itemsO_l, itemsO_t, itemsO_f, mRgI1_eq, mRgI2_eq, outR_nx, outR_rt, outR_er, run1, run2, run3, run4, forGo_nil, forGo_cons, forO_nx, forO_ct, forO_bk, forO_rt, forO_er, gD_eq, mMut_eq, mutO_l, subO_eq, ownD_z, ownD_s, dSet_l, List.set_cons_zero, List.set_cons_succ, List.getElem?_cons_zero, List.getElem?_cons_succ, List.replicate_succ, List.replicate_zero, Nat.reduceSub, Nat.reduceAdd, List.length_cons, List.length_nil, Option.bind_some, Option.map_some, Bool.false_eq_true, if_true, if_false, reduceIte, Bool.and_true, Bool.true_and, Bool.and_false, Bool.false_and, Bool.or_true, Bool.true_or, Bool.or_false, Bool.false_or, Bool.not_true, Bool.not_false, DL.isNon, isSub, reduceCtorEq, decide_true, decide_false, clrO, Bool.or_self, Bool.and_self, Nat.reduceLT, Int.reduceLT, Int.reduceLE, Int.reduceAdd, Int.reduceSub, Int.reduceNeg, Int.reduceMul, Int.reduceEq, Int.cast_ofNat_Int, gk0, gk1, gk2, gk3, gk4, gk5, gk6, gk7, gk8, gk9, gk10, gk11, gk12, mMeth_eq, methO_ok, mRgI3_eq, mFrz_eq, frzO_s, mAug_eq, augO_s, dAddA_i, dTupX_l, dTupX_t, rowD_t, rowD_f, dList_f, dTupX_f, dRev_f, lb_law_1, lb_law_1_1, List.length_map, t1]
    · have t1 : decide ((ns.length : Int) ≤ 2 + (k : Int)) = false := decide_eq_false (by omega)
      have ck := cell_ok ns (2 + k)
      rw [show ((2 + k : Nat) : Int) = 2 + (k : Int) by omega] at ck
      obtain ⟨mv, b', h1, h2, g', l', x1, x2⟩ := drawn (cellP ns (2 + k) + (k : Int)) n hn1 hn a b ga gb la lb
      refine .inl ⟨[some (.fz false (ns.map D.int), false), some (.lst [.int e0, .int e1, .int e2], false), some (.int (n : Int), false), some (.tup (a.map D.int), false), some (.tup (b'.map D.int), false), some (.int ((k : Int) + 1), false), some (.int (k : Int), false), none, none, none, none], .inl ?_, b', _, rfl, g', l', by omega, by omega⟩
      simp only [bnd_ok, bnd_er, sE_ok, sE_er, mSeq_eq, seqO_nx, seqO_rt, seqO_er, seqO_bk, seqO_ct, mIf_eq, ifO_ok, ifO_er, mVar_z, mVar_s, mVarD_z, mVarD_s, mC_eq, mBin_eq, mUn_eq, mCB_eq, mNil_eq, mCons_eq, mSet_eq, mRet_eq, mSkip_eq, mBrk_eq, mCnt_eq, mRaise_eq, mRetN_eq, mDrop_eq, mTst_eq, tstO_bl, tstO_er, mAndT_eq, andT_ok, andT_f, andT_t, andT_er, mOrT_eq, orT_ok, orT_f, orT_t, orT_er, mNotT_eq, mAnd_eq, andD_ok, andD_f, andD_t, andD_er, mOr_eq, orD_ok, orD_f, orD_t, orD_er, dNot_bl, dAdd_i, dSub_i, dNeg_i, dCmp_i, dInt_i, dInt_b, dAbs_i, dMax_i, dMin_i, dLen_l, dLen_t, dLen_f, dList_l, dList_t, dTuple_l, dTuple_t, dRev_l, dRev_t, dIx_l, dIx_t, dIx_f, dIsN_n, dNotN_n, mTup_eq, mLst_eq, mSl_eq, mNone_eq, mSome_eq, someO_i, dSl_t, dSl_l, mFor_eq, mItems_eq, itemsO_l, itemsO_t, itemsO_f, mRgI1_eq, mRgI2_eq, outR_nx, outR_rt, outR_er, run1, run2, run3, run4, forGo_nil, forGo_cons, forO_nx, forO_ct, forO_bk, forO_rt, forO_er, gD_eq, mMut_eq, mutO_l, subO_eq, ownD_z, ownD_s, dSet_l, List.set_cons_zero, List.set_cons_succ, List.getElem?_cons_zero, List.getElem?_cons_succ, List.replicate_succ, List.replicate_zero, Nat.reduceSub, Nat.reduceAdd, List.length_cons, List.length_nil, Option.bind_some, Option.map_some, Bool.false_eq_true, if_true, if_false, reduceIte, Bool.and_true, Bool.true_and, Bool.and_false, Bool.false_and, Bool.or_true, Bool.true_or, Bool.or_false, Bool.false_or, Bool.not_true, Bool.not_false, DL.isNon, isSub, reduceCtorEq, decide_true, decide_false, clrO, Bool.or_self, Bool.and_self, Nat.reduceLT, Int.reduceLT, Int.reduceLE, Int.reduceAdd, Int.reduceSub, Int.reduceNeg, Int.reduceMul, Int.reduceEq, Int.cast_ofNat_Int, gk0, gk1, gk2, gk3, gk4, gk5, gk6, gk7, gk8, gk9, gk10, gk11, gk12, mMeth_eq, methO_ok, mRgI3_eq, mFrz_eq, frzO_s, mAug_eq, augO_s, dAddA_i, dTupX_l, dTupX_t, rowD_t, rowD_f, dList_f, dTupX_f, dRev_f, lb_law_1, lb_law_1_1, lb_law_1_2, lb_law_1_3, List.length_map, t1, ck, h1, h2]) [some (.fz false (ns.map D.int), false), some (.lst [.int e0, .int e1, .int e2], false), some (.int (n : Int), false), some (.tup (a.map D.int), false), some (.tup (a.map D.int), false), some (.int 0, false), none, none, none, none, none] ⟨a, none, rfl, ga, la, by rw [dist_self a ga (by omega)]; exact Nat.le_refl _, by rw [dist_self a ga (by omega)]; exact Nat.le_refl _⟩
  obtain ⟨b, m, s6, er, gb, lb, d1, d2⟩ : ∃ (b : List Int) (m : Nat) (s6 : Option (D × Bool)), ρ' = [some (.fz false (ns.map D.int), false), some (.lst [.int e0, .int e1, .int e2], false), some (.int (n : Int), false), some (.tup (a.map D.int), false), some (.tup (b.map D.int), false), some (.int (m : Int), false), s6, none, none, none, none] ∧ goodR b ∧ b.length = n ∧ dist a b ≤ m ∧ dist b a ≤ m := by
    rcases hq with ⟨b, s6, er, h⟩ | h
    · exact ⟨b, _, s6, er, h⟩
    · exact h
  subst er
  have rc : rgI1 (some (.ok (.int 10))) = some (.ok (rng 10)) := by
    have := rgI1_i 10 (by omega)
    rw [this]
    rfl
  simp only [bnd_ok, bnd_er, sE_ok, sE_er, mSeq_eq, seqO_nx, seqO_rt, seqO_er, seqO_bk, seqO_ct, mIf_eq, ifO_ok, ifO_er, mVar_z, mVar_s, mVarD_z, mVarD_s, mC_eq, mBin_eq, mUn_eq, mCB_eq, mNil_eq, mCons_eq, mSet_eq, mRet_eq, mSkip_eq, mBrk_eq, mCnt_eq, mRaise_eq, mRetN_eq, mDrop_eq, mTst_eq, tstO_bl, tstO_er, mAndT_eq, andT_ok, andT_f, andT_t, andT_er, mOrT_eq, orT_ok, orT_f, orT_t, orT_er, mNotT_eq, mAnd_eq, andD_ok, andD_f, andD_t, andD_er, mOr_eq, orD_ok, orD_f, orD_t, orD_er, dNot_bl, dAdd_i, dSub_i, dNeg_i, dCmp_i, dInt_i, dInt_b, dAbs_i, dMax_i, dMin_i, dLen_l, dLen_t, dLen_f, dList_l, dList_t, dTuple_l, dTuple_t, dRev_l, dRev_t, dIx_l, dIx_t, dIx_f, dIsN_n, dNotN_n, mTup_eq, mLst_eq, mSl_eq, mNone_eq, mSome_eq, someO_i, dSl_t, dSl_l, mFor_eq, mItems_eq, itemsO_l, itemsO_t, itemsO_f, mRgI1_eq, mRgI2_eq, outR_nx, outR_rt, outR_er, run1, run2, run3, run4, forGo_nil, forGo_cons, forO_nx, forO_ct, forO_bk, forO_rt, forO_er, gD_eq, mMut_eq, mutO_l, subO_eq, ownD_z, ownD_s, dSet_l, List.set_cons_zero, List.set_cons_succ, List.getElem?_cons_zero, List.getElem?_cons_succ, List.replicate_succ, List.replicate_zero, Nat.reduceSub, Nat.reduceAdd, List.length_cons, List.length_nil, Option.bind_some, Option.map_some, Bool.false_eq_true, if_true, if_false, reduceIte, Bool.and_true, Bool.true_and, Bool.and_false, Bool.false_and, Bool.or_true, Bool.true_or, Bool.or_false, Bool.false_or, Bool.not_true, Bool.not_false, DL.isNon, isSub, reduceCtorEq, decide_true, decide_false, clrO, Bool.or_self, Bool.and_self, Nat.reduceLT, Int.reduceLT, Int.reduceLE, Int.reduceAdd, Int.reduceSub, Int.reduceNeg, Int.reduceMul, Int.reduceEq, Int.cast_ofNat_Int, gk0, gk1, gk2, gk3, gk4, gk5, gk6, gk7, gk8, gk9, gk10, gk11, gk12, mMeth_eq, methO_ok, mRgI3_eq, mFrz_eq, frzO_s, mAug_eq, augO_s, dAddA_i, dTupX_l, dTupX_t, rowD_t, rowD_f, dList_f, dTupX_f, dRev_f, st_law_6, rc, e6]
  obtain ⟨b2, m2, gb2, lb2, f1, f2, h7⟩ : ∃ (b2 : List Int) (m2 : Nat), goodR b2 ∧ b2.length = n ∧ dist a b2 ≤ m2 ∧ dist b2 a ≤ m2 ∧ st_law_7 [some (.fz false (ns.map D.int), false), some (.lst [.int e0, .int e1, .int e2], false), some (.int (n : Int), false), some (.tup (a.map D.int), false), some (.tup (b.map D.int), false), some (.int (m : Int), false), s6, none, none, none, none] = some (.nx [some (.fz false (ns.map D.int), false), some (.lst [.int e0, .int e1, .int e2], false), some (.int (n : Int), false), some (.tup (a.map D.int), false), some (.tup (b2.map D.int), false), some (.int (m2 : Int), false), s6, none, none, none, none]) := by
    by_cases z : e1 = 0
    · obtain ⟨b2, h2, p2⟩ := row_ok (cellP ns 2 + 1) n (by omega)
      have l2 : b2.length = n := by have h := p2.length_eq; rwa [upto_len] at h
      have g2 : goodR b2 := goodR_of hn p2
      have q1 := dist_le a b2
      have q2 := dist_le b2 a
      rw [la] at q1
      rw [l2] at q2
      refine ⟨b2, n * n, g2, l2, q1, q2, ?_⟩
      simp only [bnd_ok, bnd_er, sE_ok, sE_er, mSeq_eq, seqO_nx, seqO_rt, seqO_er, seqO_bk, seqO_ct, mIf_eq, ifO_ok, ifO_er, mVar_z, mVar_s, mVarD_z, mVarD_s, mC_eq, mBin_eq, mUn_eq, mCB_eq, mNil_eq, mCons_eq, mSet_eq, mRet_eq, mSkip_eq, mBrk_eq, mCnt_eq, mRaise_eq, mRetN_eq, mDrop_eq, mTst_eq, tstO_bl, tstO_er, mAndT_eq, andT_ok, andT_f, andT_t, andT_er, mOrT_eq, orT_ok, orT_f, orT_t, orT_er, mNotT_eq, mAnd_eq, andD_ok, andD_f, andD_t, andD_er, mOr_eq, orD_ok, orD_f, orD_t, orD_er, dNot_bl, dAdd_i, dSub_i, dNeg_i, dCmp_i, dInt_i, dInt_b, dAbs_i, dMax_i, dMin_i, dLen_l, dLen_t, dLen_f, dList_l, dList_t, dTuple_l, dTuple_t, dRev_l, dRev_t, dIx_l, dIx_t, dIx_f, dIsN_n, dNotN_n, mTup_eq, mLst_eq, mSl_eq, mNone_eq, mSome_eq, someO_i, dSl_t, dSl_l, mFor_eq, mItems_eq, itemsO_l, itemsO_t, itemsO_f, mRgI1_eq, mRgI2_eq, outR_nx, outR_rt, outR_er, run1, run2, run3, run4, forGo_nil, forGo_cons, forO_nx, forO_ct, forO_bk, forO_rt, forO_er, gD_eq, mMut_eq, mutO_l, subO_eq, ownD_z, ownD_s, dSet_l, List.set_cons_zero, List.set_cons_succ, List.getElem?_cons_zero, List.getElem?_cons_succ, List.replicate_succ, List.replicate_zero, Nat.reduceSub, Nat.reduceAdd, List.length_cons, List.length_nil, Option.bind_some, Option.map_some, Bool.false_eq_true, if_true, if_false, reduceIte, Bool.and_true, Bool.true_and, Bool.and_false, Bool.false_and, Bool.or_true, Bool.true_or, Bool.or_false, Bool.false_or, Bool.not_true, Bool.not_false, DL.isNon, isSub, reduceCtorEq, decide_true, decide_false, clrO, Bool.or_self, Bool.and_self, Nat.reduceLT, Int.reduceLT, Int.reduceLE, Int.reduceAdd, Int.reduceSub, Int.reduceNeg, Int.reduceMul, Int.reduceEq, Int.cast_ofNat_Int, gk0, gk1, gk2, gk3, gk4, gk5, gk6, gk7, gk8, gk9, gk10, gk11, gk12, mMeth_eq, methO_ok, mRgI3_eq, mFrz_eq, frzO_s, mAug_eq, augO_s, dAddA_i, dTupX_l, dTupX_t, rowD_t, rowD_f, dList_f, dTupX_f, dRev_f, st_law_7, at3_1, dEq_i, decide_eq_true z, c2, h2, dMul_i (n : Int) (n : Int) (mulOk_l _ _ (by omega))]
      rw [show (n : Int) * (n : Int) = ((n * n : Nat) : Int) by rw [Int.natCast_mul]]
    · refine ⟨b, m, gb, lb, d1, d2, ?_⟩
      simp only [bnd_ok, bnd_er, sE_ok, sE_er, mSeq_eq, seqO_nx, seqO_rt, seqO_er, seqO_bk, seqO_ct, mIf_eq, ifO_ok, ifO_er, mVar_z, mVar_s, mVarD_z, mVarD_s, mC_eq, mBin_eq, mUn_eq, mCB_eq, mNil_eq, mCons_eq, mSet_eq, mRet_eq, mSkip_eq, mBrk_eq, mCnt_eq, mRaise_eq, mRetN_eq, mDrop_eq, mTst_eq, tstO_bl, tstO_er, mAndT_eq, andT_ok, andT_f, andT_t, andT_er, mOrT_eq, orT_ok, orT_f, orT_t, orT_er, mNotT_eq, mAnd_eq, andD_ok, andD_f, andD_t, andD_er, mOr_eq, orD_ok, orD_f, orD_t, orD_er, dNot_bl, dAdd_i, dSub_i, dNeg_i, dCmp_i, dInt_i, dInt_b, dAbs_i, dMax_i, dMin_i, dLen_l, dLen_t, dLen_f, dList_l, dList_t, dTuple_l, dTuple_t, dRev_l, dRev_t, dIx_l, dIx_t, dIx_f, dIsN_n, dNotN_n, mTup_eq, mLst_eq, mSl_eq, mNone_eq, mSome_eq, someO_i, dSl_t, dSl_l, mFor_eq, mItems_eq, itemsO_l, itemsO_t, itemsO_f, mRgI1_eq, mRgI2_eq, outR_nx, outR_rt, outR_er, run1, run2, run3, run4, forGo_nil, forGo_cons, forO_nx, forO_ct, forO_bk, forO_rt, forO_er, gD_eq, mMut_eq, mutO_l, subO_eq, ownD_z, ownD_s, dSet_l, List.set_cons_zero, List.set_cons_succ, List.getElem?_cons_zero, List.getElem?_cons_succ, List.replicate_succ, List.replicate_zero, Nat.reduceSub, Nat.reduceAdd, List.length_cons, List.length_nil, Option.bind_some, Option.map_some, Bool.false_eq_true, if_true, if_false, reduceIte, Bool.and_true, Bool.true_and, Bool.and_false, Bool.false_and, Bool.or_true, Bool.true_or, Bool.or_false, Bool.false_or, Bool.not_true, Bool.not_false, DL.isNon, isSub, reduceCtorEq, decide_true, decide_false, clrO, Bool.or_self, Bool.and_self, Nat.reduceLT, Int.reduceLT, Int.reduceLE, Int.reduceAdd, Int.reduceSub, Int.reduceNeg, Int.reduceMul, Int.reduceEq, Int.cast_ofNat_Int, gk0, gk1, gk2, gk3, gk4, gk5, gk6, gk7, gk8, gk9, gk10, gk11, gk12, mMeth_eq, methO_ok, mRgI3_eq, mFrz_eq, frzO_s, mAug_eq, augO_s, dAddA_i, dTupX_l, dTupX_t, rowD_t, rowD_f, dList_f, dTupX_f, dRev_f, st_law_7, at3_1, dEq_i, decide_eq_false z]
  simp only [bnd_ok, bnd_er, sE_ok, sE_er, mSeq_eq, seqO_nx, seqO_rt, seqO_er, seqO_bk, seqO_ct, mIf_eq, ifO_ok, ifO_er, mVar_z, mVar_s, mVarD_z, mVarD_s, mC_eq, mBin_eq, mUn_eq, mCB_eq, mNil_eq, mCons_eq, mSet_eq, mRet_eq, mSkip_eq, mBrk_eq, mCnt_eq, mRaise_eq, mRetN_eq, mDrop_eq, mTst_eq, tstO_bl, tstO_er, mAndT_eq, andT_ok, andT_f, andT_t, andT_er, mOrT_eq, orT_ok, orT_f, orT_t, orT_er, mNotT_eq, mAnd_eq, andD_ok, andD_f, andD_t, andD_er, mOr_eq, orD_ok, orD_f, orD_t, orD_er, dNot_bl, dAdd_i, dSub_i, dNeg_i, dCmp_i, dInt_i, dInt_b, dAbs_i, dMax_i, dMin_i, dLen_l, dLen_t, dLen_f, dList_l, dList_t, dTuple_l, dTuple_t, dRev_l, dRev_t, dIx_l, dIx_t, dIx_f, dIsN_n, dNotN_n, mTup_eq, mLst_eq, mSl_eq, mNone_eq, mSome_eq, someO_i, dSl_t, dSl_l, mFor_eq, mItems_eq, itemsO_l, itemsO_t, itemsO_f, mRgI1_eq, mRgI2_eq, outR_nx, outR_rt, outR_er, run1, run2, run3, run4, forGo_nil, forGo_cons, forO_nx, forO_ct, forO_bk, forO_rt, forO_er, gD_eq, mMut_eq, mutO_l, subO_eq, ownD_z, ownD_s, dSet_l, List.set_cons_zero, List.set_cons_succ, List.getElem?_cons_zero, List.getElem?_cons_succ, List.replicate_succ, List.replicate_zero, Nat.reduceSub, Nat.reduceAdd, List.length_cons, List.length_nil, Option.bind_some, Option.map_some, Bool.false_eq_true, if_true, if_false, reduceIte, Bool.and_true, Bool.true_and, Bool.and_false, Bool.false_and, Bool.or_true, Bool.true_or, Bool.or_false, Bool.false_or, Bool.not_true, Bool.not_false, DL.isNon, isSub, reduceCtorEq, decide_true, decide_false, clrO, Bool.or_self, Bool.and_self, Nat.reduceLT, Int.reduceLT, Int.reduceLE, Int.reduceAdd, Int.reduceSub, Int.reduceNeg, Int.reduceMul, Int.reduceEq, Int.cast_ofNat_Int, gk0, gk1, gk2, gk3, gk4, gk5, gk6, gk7, gk8, gk9, gk10, gk11, gk12, mMeth_eq, methO_ok, mRgI3_eq, mFrz_eq, frzO_s, mAug_eq, augO_s, dAddA_i, dTupX_l, dTupX_t, rowD_t, rowD_f, dList_f, dTupX_f, dRev_f, h7]
  have both : ∀ (x y : List Int) (s7 s8 s9 s10 : Option (D × Bool)), goodR x → goodR y → x.length = y.length → 1 ≤ x.length → dist x y ≤ m2 → ∃ s9' s10', lb_law_2 [some (.fz false (ns.map D.int), false), some (.lst [.int e0, .int e1, .int e2], false), some (.int (n : Int), false), some (.tup (a.map D.int), false), some (.tup (b2.map D.int), false), some (.int (m2 : Int), false), s6, some (.tup (x.map D.int), false), some (.tup (y.map D.int), false), s9, s10] = some (.nx [some (.fz false (ns.map D.int), false), some (.lst [.int e0, .int e1, .int e2], false), some (.int (n : Int), false), some (.tup (a.map D.int), false), some (.tup (b2.map D.int), false), some (.int (m2 : Int), false), s6, some (.tup (x.map D.int), false), some (.tup (y.map D.int), false), s9', s10']) := fun x y s7 s8 s9 s10 gx gy lxy n1x dxy => by
    obtain ⟨ms, h1, h2, h3⟩ := script_ok x y gx gy lxy n1x
    have t1 : decide ((dist x y : Int) < 0) = false := decide_eq_false (by omega)
    have t2 : decide ((m2 : Int) < (dist x y : Int)) = false := decide_eq_false (by omega)
    refine ⟨some (.int (dist x y : Nat), false), some (.tup ms, false), ?_⟩
    simp only [bnd_ok, bnd_er, sE_ok, sE_er, mSeq_eq, seqO_nx, seqO_rt, seqO_er, seqO_bk, seqO_ct, mIf_eq, ifO_ok, ifO_er, mVar_z, mVar_s, mVarD_z, mVarD_s, mC_eq, mBin_eq, mUn_eq, mCB_eq, mNil_eq, mCons_eq, mSet_eq, mRet_eq, mSkip_eq, mBrk_eq, mCnt_eq, mRaise_eq, mRetN_eq, mDrop_eq, mTst_eq, tstO_bl, tstO_er, mAndT_eq, andT_ok, andT_f, andT_t, andT_er, mOrT_eq, orT_ok, orT_f, orT_t, orT_er, mNotT_eq, mAnd_eq, andD_ok, andD_f, andD_t, andD_er, mOr_eq, orD_ok, orD_f, orD_t, orD_er, dNot_bl, dAdd_i, dSub_i, dNeg_i, dCmp_i, dInt_i, dInt_b, dAbs_i, dMax_i, dMin_i, dLen_l, dLen_t, dLen_f, dList_l, dList_t, dTuple_l, dTuple_t, dRev_l, dRev_t, dIx_l, dIx_t, dIx_f, dIsN_n, dNotN_n, mTup_eq, mLst_eq, mSl_eq, mNone_eq, mSome_eq, someO_i, dSl_t, dSl_l, mFor_eq, mItems_eq, itemsO_l, itemsO_t, itemsO_f, mRgI1_eq, mRgI2_eq, outR_nx, outR_rt, outR_er, run1, run2, run3, run4, forGo_nil, forGo_cons, forO_nx, forO_ct, forO_bk, forO_rt, forO_er, gD_eq, mMut_eq, mutO_l, subO_eq, ownD_z, ownD_s, dSet_l, List.set_cons_zero, List.set_cons_succ, List.getElem?_cons_zero, List.getElem?_cons_succ, List.replicate_succ, List.replicate_zero, Nat.reduceSub, Nat.reduceAdd, List.length_cons, List.length_nil, Option.bind_some, Option.map_some, Bool.false_eq_true, if_true, if_false, reduceIte, Bool.and_true, Bool.true_and, Bool.and_false, Bool.false_and, Bool.or_true, Bool.true_or, Bool.or_false, Bool.false_or, Bool.not_true, Bool.not_false, DL.isNon, isSub, reduceCtorEq, decide_true, decide_false, clrO, Bool.or_self, Bool.and_self, Nat.reduceLT, Int.reduceLT, Int.reduceLE, Int.reduceAdd, Int.reduceSub, Int.reduceNeg, Int.reduceMul, Int.reduceEq, Int.cast_ofNat_Int, gk0, gk1, gk2, gk3, gk4, gk5, gk6, gk7, gk8, gk9, gk10, gk11, gk12, mMeth_eq, methO_ok, mRgI3_eq, mFrz_eq, frzO_s, mAug_eq, augO_s, dAddA_i, dTupX_l, dTupX_t, rowD_t, rowD_f, dList_f, dTupX_f, dRev_f, lb_law_2, lb_law_2_1, lb_law_2_2, lb_law_2_3, lb_law_2_4, least_ok x y gx gy lxy n1x, integ_ok, t1, t2, h1, isi_tup, h2, dNe_i, h3]
  obtain ⟨t9, t10, hA⟩ := both a b2 none none none none ga gb2 (by omega) (by omega) f1
  obtain ⟨u9, u10, hB⟩ := both b2 a none none t9 t10 gb2 ga (by omega) (by omega) f2
  have h8 : st_law_8 [some (.fz false (ns.map D.int), false), some (.lst [.int e0, .int e1, .int e2], false), some (.int (n : Int), false), some (.tup (a.map D.int), false), some (.tup (b2.map D.int), false), some (.int (m2 : Int), false), s6, none, none, none, none] = some (.nx [some (.fz false (ns.map D.int), false), some (.lst [.int e0, .int e1, .int e2], false), some (.int (n : Int), false), some (.tup (a.map D.int), false), some (.tup (b2.map D.int), false), some (.int (m2 : Int), false), s6, some (.tup (b2.map D.int), false), some (.tup (a.map D.int), false), u9, u10]) := by
    unfold st_law_8
    simp only [bnd_ok, bnd_er, sE_ok, sE_er, mSeq_eq, seqO_nx, seqO_rt, seqO_er, seqO_bk, seqO_ct, mIf_eq, ifO_ok, ifO_er, mVar_z, mVar_s, mVarD_z, mVarD_s, mC_eq, mBin_eq, mUn_eq, mCB_eq, mNil_eq, mCons_eq, mSet_eq, mRet_eq, mSkip_eq, mBrk_eq, mCnt_eq, mRaise_eq, mRetN_eq, mDrop_eq, mTst_eq, tstO_bl, tstO_er, mAndT_eq, andT_ok, andT_f, andT_t, andT_er, mOrT_eq, orT_ok, orT_f, orT_t, orT_er, mNotT_eq, mAnd_eq, andD_ok, andD_f, andD_t, andD_er, mOr_eq, orD_ok, orD_f, orD_t, orD_er, dNot_bl, dAdd_i, dSub_i, dNeg_i, dCmp_i, dInt_i, dInt_b, dAbs_i, dMax_i, dMin_i, dLen_l, dLen_t, dLen_f, dList_l, dList_t, dTuple_l, dTuple_t, dRev_l, dRev_t, dIx_l, dIx_t, dIx_f, dIsN_n, dNotN_n, mTup_eq, mLst_eq, mSl_eq, mNone_eq, mSome_eq, someO_i, dSl_t, dSl_l, mFor_eq, mItems_eq, itemsO_l, itemsO_t, itemsO_f, mRgI1_eq, mRgI2_eq, outR_nx, outR_rt, outR_er, run1, run2, run3, run4, forGo_nil, forGo_cons, forO_nx, forO_ct, forO_bk, forO_rt, forO_er, gD_eq, mMut_eq, mutO_l, subO_eq, ownD_z, ownD_s, dSet_l, List.set_cons_zero, List.set_cons_succ, List.getElem?_cons_zero, List.getElem?_cons_succ, List.replicate_succ, List.replicate_zero, Nat.reduceSub, Nat.reduceAdd, List.length_cons, List.length_nil, Option.bind_some, Option.map_some, Bool.false_eq_true, if_true, if_false, reduceIte, Bool.and_true, Bool.true_and, Bool.and_false, Bool.false_and, Bool.or_true, Bool.true_or, Bool.or_false, Bool.false_or, Bool.not_true, Bool.not_false, DL.isNon, isSub, reduceCtorEq, decide_true, decide_false, clrO, Bool.or_self, Bool.and_self, Nat.reduceLT, Int.reduceLT, Int.reduceLE, Int.reduceAdd, Int.reduceSub, Int.reduceNeg, Int.reduceMul, Int.reduceEq, Int.cast_ofNat_Int, gk0, gk1, gk2, gk3, gk4, gk5, gk6, gk7, gk8, gk9, gk10, gk11, gk12, mMeth_eq, methO_ok, mRgI3_eq, mFrz_eq, frzO_s, mAug_eq, augO_s, dAddA_i, dTupX_l, dTupX_t, rowD_t, rowD_f, dList_f, dTupX_f, dRev_f, gT, gSets, hA, hB]
  simp only [bnd_ok, bnd_er, sE_ok, sE_er, mSeq_eq, seqO_nx, seqO_rt, seqO_er, seqO_bk, seqO_ct, mIf_eq, ifO_ok, ifO_er, mVar_z, mVar_s, mVarD_z, mVarD_s, mC_eq, mBin_eq, mUn_eq, mCB_eq, mNil_eq, mCons_eq, mSet_eq, mRet_eq, mSkip_eq, mBrk_eq, mCnt_eq, mRaise_eq, mRetN_eq, mDrop_eq, mTst_eq, tstO_bl, tstO_er, mAndT_eq, andT_ok, andT_f, andT_t, andT_er, mOrT_eq, orT_ok, orT_f, orT_t, orT_er, mNotT_eq, mAnd_eq, andD_ok, andD_f, andD_t, andD_er, mOr_eq, orD_ok, orD_f, orD_t, orD_er, dNot_bl, dAdd_i, dSub_i, dNeg_i, dCmp_i, dInt_i, dInt_b, dAbs_i, dMax_i, dMin_i, dLen_l, dLen_t, dLen_f, dList_l, dList_t, dTuple_l, dTuple_t, dRev_l, dRev_t, dIx_l, dIx_t, dIx_f, dIsN_n, dNotN_n, mTup_eq, mLst_eq, mSl_eq, mNone_eq, mSome_eq, someO_i, dSl_t, dSl_l, mFor_eq, mItems_eq, itemsO_l, itemsO_t, itemsO_f, mRgI1_eq, mRgI2_eq, outR_nx, outR_rt, outR_er, run1, run2, run3, run4, forGo_nil, forGo_cons, forO_nx, forO_ct, forO_bk, forO_rt, forO_er, gD_eq, mMut_eq, mutO_l, subO_eq, ownD_z, ownD_s, dSet_l, List.set_cons_zero, List.set_cons_succ, List.getElem?_cons_zero, List.getElem?_cons_succ, List.replicate_succ, List.replicate_zero, Nat.reduceSub, Nat.reduceAdd, List.length_cons, List.length_nil, Option.bind_some, Option.map_some, Bool.false_eq_true, if_true, if_false, reduceIte, Bool.and_true, Bool.true_and, Bool.and_false, Bool.false_and, Bool.or_true, Bool.true_or, Bool.or_false, Bool.false_or, Bool.not_true, Bool.not_false, DL.isNon, isSub, reduceCtorEq, decide_true, decide_false, clrO, Bool.or_self, Bool.and_self, Nat.reduceLT, Int.reduceLT, Int.reduceLE, Int.reduceAdd, Int.reduceSub, Int.reduceNeg, Int.reduceMul, Int.reduceEq, Int.cast_ofNat_Int, gk0, gk1, gk2, gk3, gk4, gk5, gk6, gk7, gk8, gk9, gk10, gk11, gk12, mMeth_eq, methO_ok, mRgI3_eq, mFrz_eq, frzO_s, mAug_eq, augO_s, dAddA_i, dTupX_l, dTupX_t, rowD_t, rowD_f, dList_f, dTupX_f, dRev_f, h8, st_law_9, least_ok a a ga ga rfl (by omega), dist_self a ga (by omega), dEq_i]
end Lw

set_option Elab.async false
set_option maxRecDepth 100000
set_option maxHeartbeats 4000000
set_option autoImplicit false
namespace Lw
open PySem L2 DL
def top (i : Nat) : Stmt := PySem.Challenge.pw_turnedrows_k08_whole_blocks_none_fewer.main.body.getD i (.Pass ⟨0, 0, 0, 0⟩)
/-- the layer's fixed things: the written part, where the errors stand -/
def cf (K : PySem.W.Frag) (Er : EN → Option Addr) : Conf := { K := K, err := fun x C => Er x = some C, cls := fun _ _ => False, fn := fun _ _ => False, fx := [] }
structure Txt (K : PySem.W.Frag) (mg : Str → Option Value) (Er : EN → Option Addr) : Prop where
  b_bool : mg "bool" = none
  b_int : mg "int" = none
  b_isinstance : mg "isinstance" = none
  b_len : mg "len" = none
  b_list : mg "list" = none
  b_max : mg "max" = none
  b_min : mg "min" = none
  b_range : mg "range" = none
  b_sorted : mg "sorted" = none
  b_tuple : mg "tuple" = none
  c_MOST_PIECES : ∃ t, mg "MOST_PIECES" = some (.int 40 t)
  e_InvalidRow : ∃ C, ErrAt K mg (cf K Er) "InvalidRow" .row C
section
variable {P : Program} {w : World} {K : PySem.W.Frag} {mg : Str → Option Value} {base : Heap} {Er : EN → Option Addr}
abbrev s_check_row : Stmt := top 5
theorem sc_check_row : FnScope ["row", "n"] ["row"] (defScope s_check_row) := ⟨rfl, rfl, rfl, by decide +kernel, rfl, by decide +kernel, by decide +kernel⟩
theorem ok_check_row (T : Txt K mg Er) {f : Addr} {fd : FuncData} (F : Fun K "check_row" "check_row" s_check_row f fd) (hm : mg "check_row" = some (.ref f)) (b : Binds K fd ["row"] []) : FnAt P w K mg base (cf K Er) "check_row" 1 ["row"] m_check_row := by
  have nd := (sc_check_row).nd
  obtain ⟨C_InvalidRow, e_InvalidRow⟩ := T.e_InvalidRow
  refine fn_at (k := 0) F hm b sc_check_row rfl (by decide) (fun cdv A outer s H E' hr => ?_)
  have hu := hr.units
  exact s_cons (s_set 1 nd (d_bi (bi_len) (by rfl) T.b_len (by decide +kernel) (b_cons (d_var 0) (b_nil)))) (s_cons (s_if (PW.pt (w_or (t_cmp (q_gt) (d_var 1) (PE.dur_bor (d_glob_int T.c_MOST_PIECES))) (w_or1 (t_cmp (q_ne hu) (PE.dur_bor (PE.own_dur (d_bi (bi_sorted (by rfl)) (by rfl) T.b_sorted (by decide +kernel) (b_cons (d_var 0) (b_nil))))) (PE.dur_bor (PE.own_dur (d_listRg2 (by rfl) (by rfl) T.b_list (by rfl) T.b_range (PE.dur_bor (d_int)) (PE.dur_bor (d_add (d_var 1) (PE.dur_bor (d_int))))))))))) (s_one (s_raise (by rfl) tk_of e_InvalidRow)) (s_nil)) (s_one (s_ret (d_varR 0))))
abbrev s_sorted_row : Stmt := top 6
theorem sc_sorted_row : FnScope ["n"] ["n"] (defScope s_sorted_row) := ⟨rfl, rfl, rfl, by decide +kernel, rfl, by decide +kernel, by decide +kernel⟩
theorem ok_sorted_row (T : Txt K mg Er) {f : Addr} {fd : FuncData} (F : Fun K "sorted_row" "sorted_row" s_sorted_row f fd) (hm : mg "sorted_row" = some (.ref f)) (b : Binds K fd ["n"] []) : FnAt P w K mg base (cf K Er) "sorted_row" 1 ["n"] m_sorted_row := by
  have nd := (sc_sorted_row).nd
  refine fn_at (k := 0) F hm b sc_sorted_row rfl (by decide) (fun cdv A outer s H E' hr => ?_)
  have hu := hr.units
  exact s_one (s_ret (PE.dur_ret (d_tupRg2 (by rfl) (by rfl) T.b_tuple (by rfl) T.b_range (PE.dur_bor (d_int)) (PE.dur_bor (d_add (d_var 0) (PE.dur_bor (d_int)))))))
abbrev s_need_same_length : Stmt := top 7
theorem sc_need_same_length : FnScope ["first", "second"] ["first", "second"] (defScope s_need_same_length) := ⟨rfl, rfl, rfl, by decide +kernel, rfl, by decide +kernel, by decide +kernel⟩
theorem ok_need_same_length (T : Txt K mg Er) {f : Addr} {fd : FuncData} (F : Fun K "need_same_length" "need_same_length" s_need_same_length f fd) (hm : mg "need_same_length" = some (.ref f)) (b : Binds K fd ["first", "second"] []) : FnAt P w K mg base (cf K Er) "need_same_length" 1 ["first", "second"] m_need_same_length := by
  have nd := (sc_need_same_length).nd
  obtain ⟨C_InvalidRow, e_InvalidRow⟩ := T.e_InvalidRow
  refine fn_at (k := 0) F hm b sc_need_same_length rfl (by decide) (fun cdv A outer s H E' hr => ?_)
  have hu := hr.units
  exact s_one (s_if (t_cmp (q_ne hu) (PE.dur_bor (d_bi (bi_len) (by rfl) T.b_len (by decide +kernel) (b_cons (d_var 0) (b_nil)))) (PE.dur_bor (d_bi (bi_len) (by rfl) T.b_len (by decide +kernel) (b_cons (d_var 1) (b_nil))))) (s_one (s_raise (by rfl) tk_of e_InvalidRow)) (s_nil))
abbrev s_relative_row : Stmt := top 8
theorem sc_relative_row : FnScope ["first", "second", "places", "place", "piece"] ["first", "second"] (defScope s_relative_row) := ⟨rfl, rfl, rfl, by decide +kernel, rfl, by decide +kernel, by decide +kernel⟩
theorem ok_relative_row (T : Txt K mg Er) {f : Addr} {fd : FuncData} (F : Fun K "relative_row" "relative_row" s_relative_row f fd) (hm : mg "relative_row" = some (.ref f)) (b : Binds K fd ["first", "second"] []) (G_check_row : FnAt P w K mg base (cf K Er) "check_row" 1 ["row"] m_check_row) (G_need_same_length : FnAt P w K mg base (cf K Er) "need_same_length" 1 ["first", "second"] m_need_same_length) : FnAt P w K mg base (cf K Er) "relative_row" 2 ["first", "second"] m_relative_row := by
  have nd := (sc_relative_row).nd
  refine fn_at (k := 1) F hm b sc_relative_row rfl (by decide) (fun cdv A outer s H E' hr => ?_)
  have hu := hr.units
  exact s_cons (s_expr (d_fn G_check_row (hr.mono (by decide)) tk_of (a_cons (d_varD 0) (a_nil)))) (s_cons (s_expr (d_fn G_check_row (hr.mono (by decide)) tk_of (a_cons (d_varD 1) (a_nil)))) (s_cons (s_expr (d_fn G_need_same_length (hr.mono (by decide)) tk_of (a_cons (d_varD 0) (a_cons (d_varD 1) (a_nil))))) (s_cons (s_setO 2 nd (d_dc [("place", 3)] (by rfl) nd (i_rng1 (by rfl) T.b_range (PE.dur_bor (d_bi (bi_len) (by rfl) T.b_len (by decide +kernel) (b_cons (d_var 1) (b_nil))))) (by show blkC ["first", "second", "places", "place", "piece"] (defScope s_relative_row) _ _ = true; decide +kernel) (fun _ _ _ _ _ => pg_name nd (by rfl) (by first | exact Or.inl (by rfl) | exact Or.inr (by rfl))) gok_name (fun _ _ _ _ _ => t_yes) (fun _ _ _ _ _ => PE.dur_bor (d_ix hu (d_var 1) (d_var 3))) (fun _ _ _ _ _ => d_add (d_var 3) (PE.dur_bor (d_int))))) (s_one (s_ret (PE.dur_ret (d_ty (bi_tupX) (by rfl) T.b_tuple (by decide +kernel) (b_cons (PE.dur_bor (PE.own_dur (d_lc [("piece", 4)] (by rfl) nd (i_bor (d_var 0)) (by show blkC ["first", "second", "places", "place", "piece"] (defScope s_relative_row) _ _ = true; decide +kernel) (fun _ _ _ _ _ => pg_name nd (by rfl) (by first | exact Or.inl (by rfl) | exact Or.inr (by rfl))) gok_name (fun _ _ _ _ _ => t_yes) (fun _ _ _ _ _ => d_ix hu (d_var 2) (d_var 4))))) (b_nil)))))))))
abbrev s_rings_of : Stmt := top 9
theorem sc_rings_of : FnScope ["leads", "found", "seen", "start", "ring", "place"] ["leads"] (defScope s_rings_of) := ⟨rfl, rfl, rfl, by decide +kernel, rfl, by decide +kernel, by decide +kernel⟩
theorem ok_rings_of (T : Txt K mg Er) {f : Addr} {fd : FuncData} (F : Fun K "rings_of" "rings_of" s_rings_of f fd) (hm : mg "rings_of" = some (.ref f)) (b : Binds K fd ["leads"] []) : FnAt P w K mg base (cf K Er) "rings_of" 1 ["leads"] m_rings_of := by
  have nd := (sc_rings_of).nd
  refine fn_at (k := 0) F hm b sc_rings_of rfl (by decide) (fun cdv A outer s H E' hr => ?_)
  have hu := hr.units
  exact s_cons (s_setO 1 nd (d_lst (a_nil))) (s_cons (s_setO 2 nd (d_dK)) (s_cons (s_for hp_of (by rfl) (i_dur (PE.own_dur (d_bi (bi_sorted (by rfl)) (by rfl) T.b_sorted (by decide +kernel) (b_cons (d_var 0) (b_nil))))) (dg_name 3 nd) (s_cons (s_setO 4 nd (d_lst (a_nil))) (s_cons (s_set 5 nd (d_varD 3)) (s_cons (s_while bigN hp_of (t_cmp (q_notIn hu) (d_var 5) (d_var 2)) (s_cons (s_sub 2 hu (d_var 5) (d_bl)) (s_cons (s_append 4 (d_varD 5)) (s_one (s_set 5 nd (d_ix hu (d_var 0) (d_var 5))))))) (s_one (s_if (t_cmp (q_ne hu) (d_var 4) (PE.dur_bor (PE.own_dur (d_lst (a_nil))))) (s_one (s_append 1 (d_ty (bi_tuple) (by rfl) T.b_tuple (by decide +kernel) (b_cons (d_var 4) (b_nil))))) (s_nil))))))) (s_one (s_ret (PE.dur_ret (d_ty (bi_tuple) (by rfl) T.b_tuple (by decide +kernel) (b_cons (d_var 1) (b_nil))))))))
abbrev s_block_leads : Stmt := top 10
theorem sc_block_leads : FnScope ["row", "n", "extended", "index", "k"] ["row"] (defScope s_block_leads) := ⟨rfl, rfl, rfl, by decide +kernel, rfl, by decide +kernel, by decide +kernel⟩
theorem ok_block_leads (T : Txt K mg Er) {f : Addr} {fd : FuncData} (F : Fun K "block_leads" "block_leads" s_block_leads f fd) (hm : mg "block_leads" = some (.ref f)) (b : Binds K fd ["row"] []) : FnAt P w K mg base (cf K Er) "block_leads" 1 ["row"] m_block_leads := by
  have nd := (sc_block_leads).nd
  refine fn_at (k := 0) F hm b sc_block_leads rfl (by decide) (fun cdv A outer s H E' hr => ?_)
  have hu := hr.units
  exact s_cons (s_set 1 nd (d_bi (bi_len) (by rfl) T.b_len (by decide +kernel) (b_cons (d_var 0) (b_nil)))) (s_cons (s_set 2 nd (d_addX (PE.dur_bor (d_addX (PE.dur_bor (d_tup (a_cons (d_int) (a_nil)))) (PE.dur_bor (d_ty (bi_tupX) (by rfl) T.b_tuple (by decide +kernel) (b_cons (d_var 0) (b_nil)))))) (PE.dur_bor (d_tup (a_cons (d_add (d_var 1) (PE.dur_bor (d_int))) (a_nil)))))) (s_cons (s_setO 3 nd (d_dc [("k", 4)] (by rfl) nd (i_rng1 (by rfl) T.b_range (PE.dur_bor (d_add (d_var 1) (PE.dur_bor (d_int))))) (by show blkC ["row", "n", "extended", "index", "k"] (defScope s_block_leads) _ _ = true; decide +kernel) (fun _ _ _ _ _ => pg_name nd (by rfl) (by first | exact Or.inl (by rfl) | exact Or.inr (by rfl))) gok_name (fun _ _ _ _ _ => t_yes) (fun _ _ _ _ _ => PE.dur_bor (d_ix hu (d_var 2) (d_var 4))) (fun _ _ _ _ _ => d_varD 4))) (s_one (s_ret (PE.dur_ret (PE.own_dur (d_dc [("k", 4)] (by rfl) nd (i_rng2 (by rfl) T.b_range (PE.dur_bor (d_int)) (PE.dur_bor (d_add (d_var 1) (PE.dur_bor (d_int))))) (by show blkC ["row", "n", "extended", "index", "k"] (defScope s_block_leads) _ _ = true; decide +kernel) (fun _ _ _ _ _ => pg_name nd (by rfl) (by first | exact Or.inl (by rfl) | exact Or.inr (by rfl))) gok_name (fun _ _ _ _ _ => t_yes) (fun _ _ _ _ _ => d_var 4) (fun _ _ _ _ _ => d_ix hu (d_var 3) (PE.dur_bor (d_add (PE.dur_bor (d_ix hu (d_var 2) (PE.dur_bor (d_sub (d_var 4) (PE.dur_bor (d_int)))))) (PE.dur_bor (d_int))))))))))))
abbrev s_block_rings : Stmt := top 11
theorem sc_block_rings : FnScope ["row"] ["row"] (defScope s_block_rings) := ⟨rfl, rfl, rfl, by decide +kernel, rfl, by decide +kernel, by decide +kernel⟩
theorem ok_block_rings (T : Txt K mg Er) {f : Addr} {fd : FuncData} (F : Fun K "block_rings" "block_rings" s_block_rings f fd) (hm : mg "block_rings" = some (.ref f)) (b : Binds K fd ["row"] []) (G_check_row : FnAt P w K mg base (cf K Er) "check_row" 1 ["row"] m_check_row) (G_rings_of : FnAt P w K mg base (cf K Er) "rings_of" 1 ["leads"] m_rings_of) (G_block_leads : FnAt P w K mg base (cf K Er) "block_leads" 1 ["row"] m_block_leads) : FnAt P w K mg base (cf K Er) "block_rings" 2 ["row"] m_block_rings := by
  have nd := (sc_block_rings).nd
  refine fn_at (k := 1) F hm b sc_block_rings rfl (by decide) (fun cdv A outer s H E' hr => ?_)
  have hu := hr.units
  exact s_cons (s_expr (d_fn G_check_row (hr.mono (by decide)) tk_of (a_cons (d_varD 0) (a_nil)))) (s_one (s_ret (PE.dur_ret (d_fn G_rings_of (hr.mono (by decide)) tk_of (a_cons (d_fn G_block_leads (hr.mono (by decide)) tk_of (a_cons (d_varD 0) (a_nil))) (a_nil))))))
abbrev s_exchanged : Stmt := top 13
theorem sc_exchanged : FnScope ["row", "i", "j", "k", "l"] ["row", "i", "j", "k", "l"] (defScope s_exchanged) := ⟨rfl, rfl, rfl, by decide +kernel, rfl, by decide +kernel, by decide +kernel⟩
theorem ok_exchanged (T : Txt K mg Er) {f : Addr} {fd : FuncData} (F : Fun K "exchanged" "exchanged" s_exchanged f fd) (hm : mg "exchanged" = some (.ref f)) (b : Binds K fd ["row", "i", "j", "k", "l"] []) : FnAt P w K mg base (cf K Er) "exchanged" 1 ["row", "i", "j", "k", "l"] m_exchanged := by
  have nd := (sc_exchanged).nd
  refine fn_at (k := 0) F hm b sc_exchanged rfl (by decide) (fun cdv A outer s H E' hr => ?_)
  have hu := hr.units
  exact s_one (s_ret (PE.dur_ret (d_addX (PE.dur_bor (d_addX (PE.dur_bor (d_add (PE.dur_bor (d_add (PE.dur_bor (d_sl (d_var 0) (o_none) (o_some (d_var 1)))) (PE.dur_bor (d_sl (d_var 0) (o_some (d_var 3)) (o_some (d_var 4)))))) (PE.dur_bor (d_sl (d_var 0) (o_some (d_var 2)) (o_some (d_var 3)))))) (PE.dur_bor (d_sl (d_var 0) (o_some (d_var 1)) (o_some (d_var 2)))))) (PE.dur_bor (d_sl (d_var 0) (o_some (d_var 4)) (o_none))))))
abbrev s_least_blocks : Stmt := top 15
theorem sc_least_blocks : FnScope ["first", "second", "row"] ["first", "second"] (defScope s_least_blocks) := ⟨rfl, rfl, rfl, by decide +kernel, rfl, by decide +kernel, by decide +kernel⟩
theorem ok_least_blocks (T : Txt K mg Er) {f : Addr} {fd : FuncData} (F : Fun K "least_blocks" "least_blocks" s_least_blocks f fd) (hm : mg "least_blocks" = some (.ref f)) (b : Binds K fd ["first", "second"] []) (G_relative_row : FnAt P w K mg base (cf K Er) "relative_row" 2 ["first", "second"] m_relative_row) (G_block_rings : FnAt P w K mg base (cf K Er) "block_rings" 2 ["row"] m_block_rings) : FnAt P w K mg base (cf K Er) "least_blocks" 3 ["first", "second"] m_least_blocks := by
  have nd := (sc_least_blocks).nd
  refine fn_at (k := 2) F hm b sc_least_blocks rfl (by decide) (fun cdv A outer s H E' hr => ?_)
  have hu := hr.units
  exact s_cons (s_set 2 nd (d_fn G_relative_row (hr.mono (by decide)) tk_of (a_cons (d_varD 0) (a_cons (d_varD 1) (a_nil))))) (s_one (s_ret (PE.dur_ret (d_div (PE.dur_bor (d_sub (PE.dur_bor (d_add (PE.dur_bor (d_bi (bi_len) (by rfl) T.b_len (by decide +kernel) (b_cons (d_var 2) (b_nil)))) (PE.dur_bor (d_int)))) (PE.dur_bor (d_bi (bi_len) (by rfl) T.b_len (by decide +kernel) (b_cons (PE.dur_bor (d_fn G_block_rings (hr.mono (by decide)) tk_of (a_cons (d_varD 2) (a_nil)))) (b_nil)))))) (PE.dur_bor (d_int))))))
abbrev s_next_exchange : Stmt := top 16
theorem sc_next_exchange : FnScope ["row", "n", "i", "k", "greatest", "j", "place"] ["row"] (defScope s_next_exchange) := ⟨rfl, rfl, rfl, by decide +kernel, rfl, by decide +kernel, by decide +kernel⟩
theorem ok_next_exchange (T : Txt K mg Er) {f : Addr} {fd : FuncData} (F : Fun K "next_exchange" "next_exchange" s_next_exchange f fd) (hm : mg "next_exchange" = some (.ref f)) (b : Binds K fd ["row"] []) : FnAt P w K mg base (cf K Er) "next_exchange" 1 ["row"] m_next_exchange := by
  have nd := (sc_next_exchange).nd
  refine fn_at (k := 0) F hm b sc_next_exchange rfl (by decide) (fun cdv A outer s H E' hr => ?_)
  have hu := hr.units
  exact s_cons (s_set 1 nd (d_bi (bi_len) (by rfl) T.b_len (by decide +kernel) (b_cons (d_var 0) (b_nil)))) (s_cons (s_set 2 nd (d_bi (bi_min (by rfl)) (by rfl) T.b_min (by decide +kernel) (b_cons (PE.dur_bor (PE.own_dur (d_lc [("place", 6)] (by rfl) nd (i_rng1 (by rfl) T.b_range (d_var 1)) (by show blkC ["row", "n", "i", "k", "greatest", "j", "place"] (defScope s_next_exchange) _ _ = true; decide +kernel) (fun _ _ _ _ _ => pg_name nd (by rfl) (by first | exact Or.inl (by rfl) | exact Or.inr (by rfl))) gok_name (fun _ _ _ _ _ => pts_one (t_cmp (q_ne hu) (PE.dur_bor (d_ix hu (d_var 0) (d_var 6))) (PE.dur_bor (d_add (d_var 6) (PE.dur_bor (d_int)))))) (fun _ _ _ _ _ => d_varD 6)))) (b_nil)))) (s_cons (s_set 3 nd (i_idxT (d_var 0) (b_cons (PE.dur_bor (d_add (d_var 2) (PE.dur_bor (d_int)))) (b_nil)))) (s_cons (s_set 4 nd (d_bi (bi_max (by rfl)) (by rfl) T.b_max (by decide +kernel) (b_cons (PE.dur_bor (d_sl (d_var 0) (o_some (d_var 2)) (o_some (d_var 3)))) (b_nil)))) (s_cons (s_set 5 nd (d_add (PE.dur_bor (i_idxT (d_var 0) (b_cons (d_var 4) (b_nil)))) (PE.dur_bor (d_int)))) (s_cons (s_if (t_cmp (q_eq hu) (d_var 4) (d_var 1)) (s_one (s_ret (PE.dur_ret (d_tup (a_cons (d_varD 2) (a_cons (d_varD 5) (a_cons (d_varD 3) (a_cons (d_varD 1) (a_nil))))))))) (s_nil)) (s_one (s_ret (PE.dur_ret (d_tup (a_cons (d_varD 2) (a_cons (d_varD 5) (a_cons (d_varD 3) (a_cons (i_idxT (d_var 0) (b_cons (PE.dur_bor (d_add (d_var 4) (PE.dur_bor (d_int)))) (b_nil))) (a_nil))))))))))))))
abbrev s_block_script : Stmt := top 17
theorem sc_block_script : FnScope ["first", "second", "row", "moves", "i", "j", "k", "l"] ["first", "second"] (defScope s_block_script) := ⟨rfl, rfl, rfl, by decide +kernel, rfl, by decide +kernel, by decide +kernel⟩
theorem ok_block_script (T : Txt K mg Er) {f : Addr} {fd : FuncData} (F : Fun K "block_script" "block_script" s_block_script f fd) (hm : mg "block_script" = some (.ref f)) (b : Binds K fd ["first", "second"] []) (G_relative_row : FnAt P w K mg base (cf K Er) "relative_row" 2 ["first", "second"] m_relative_row) (G_sorted_row : FnAt P w K mg base (cf K Er) "sorted_row" 1 ["n"] m_sorted_row) (G_next_exchange : FnAt P w K mg base (cf K Er) "next_exchange" 1 ["row"] m_next_exchange) (G_exchanged : FnAt P w K mg base (cf K Er) "exchanged" 1 ["row", "i", "j", "k", "l"] m_exchanged) : FnAt P w K mg base (cf K Er) "block_script" 3 ["first", "second"] m_block_script := by
  have nd := (sc_block_script).nd
  refine fn_at (k := 2) F hm b sc_block_script rfl (by decide) (fun cdv A outer s H E' hr => ?_)
  have hu := hr.units
  exact s_cons (s_set 2 nd (d_fn G_relative_row (hr.mono (by decide)) tk_of (a_cons (d_varD 0) (a_cons (d_varD 1) (a_nil))))) (s_cons (s_setO 3 nd (d_lst (a_nil))) (s_cons (s_while bigN hp_of (t_cmp (q_ne hu) (d_var 2) (PE.dur_bor (d_fn G_sorted_row (hr.mono (by decide)) tk_of (a_cons (d_bi (bi_len) (by rfl) T.b_len (by decide +kernel) (b_cons (d_var 2) (b_nil))) (a_nil))))) (s_cons (s_unp (dg_tup (by rfl) (gn_cons 4 nd (gn_cons 5 nd (gn_cons 6 nd (gn_cons 7 nd (gn_nil)))))) (d_fn G_next_exchange (hr.mono (by decide)) tk_of (a_cons (d_varD 2) (a_nil)))) (s_cons (s_set 2 nd (d_fn G_exchanged (hr.mono (by decide)) tk_of (a_cons (d_varD 2) (a_cons (d_varD 4) (a_cons (d_varD 5) (a_cons (d_varD 6) (a_cons (d_varD 7) (a_nil)))))))) (s_one (s_append 3 (d_tup (a_cons (d_str) (a_cons (d_varD 4) (a_cons (d_varD 5) (a_cons (d_varD 6) (a_cons (d_varD 7) (a_nil)))))))))))) (s_one (s_ret (PE.dur_ret (d_ty (bi_tuple) (by rfl) T.b_tuple (by decide +kernel) (b_cons (d_var 3) (b_nil))))))))
abbrev s__law_cell : Stmt := top 19
theorem sc__law_cell : FnScope ["_law_script", "_law_k"] ["_law_script", "_law_k"] (defScope s__law_cell) := ⟨rfl, rfl, rfl, by decide +kernel, rfl, by decide +kernel, by decide +kernel⟩
theorem ok__law_cell (T : Txt K mg Er) {f : Addr} {fd : FuncData} (F : Fun K "_law_cell" "_law_cell" s__law_cell f fd) (hm : mg "_law_cell" = some (.ref f)) (b : Binds K fd ["_law_script", "_law_k"] []) : FnAt P w K mg base (cf K Er) "_law_cell" 1 ["_law_script", "_law_k"] m__law_cell := by
  have nd := (sc__law_cell).nd
  refine fn_at (k := 0) F hm b sc__law_cell rfl (by decide) (fun cdv A outer s H E' hr => ?_)
  have hu := hr.units
  exact s_cons (s_if (t_cmp (q_lt) (d_var 1) (PE.dur_bor (d_bi (bi_len) (by rfl) T.b_len (by decide +kernel) (b_cons (d_var 0) (b_nil))))) (s_one (s_ret (PE.dur_ret (d_ix hu (d_var 0) (d_var 1))))) (s_nil)) (s_one (s_ret (PE.dur_ret (d_int))))
abbrev s__law_digits : Stmt := top 20
theorem sc__law_digits : FnScope ["_law_cell_here", "_law_sizes", "_law_row_here", "_law_size"] ["_law_cell_here", "_law_sizes"] (defScope s__law_digits) := ⟨rfl, rfl, rfl, by decide +kernel, rfl, by decide +kernel, by decide +kernel⟩
theorem ok__law_digits (T : Txt K mg Er) {f : Addr} {fd : FuncData} (F : Fun K "_law_digits" "_law_digits" s__law_digits f fd) (hm : mg "_law_digits" = some (.ref f)) (b : Binds K fd ["_law_cell_here", "_law_sizes"] []) : FnAt P w K mg base (cf K Er) "_law_digits" 1 ["_law_cell_here", "_law_sizes"] m__law_digits := by
  have nd := (sc__law_digits).nd
  refine fn_at (k := 0) F hm b sc__law_digits rfl (by decide) (fun cdv A outer s H E' hr => ?_)
  have hu := hr.units
  exact s_cons (s_setO 2 nd (d_lst (a_nil))) (s_cons (s_for hp_of (by rfl) (i_dur (d_varD 1)) (dg_name 3 nd) (s_cons (s_append 2 (d_mod (PE.dur_bor (d_ty (bi_int) (by rfl) T.b_int (by decide +kernel) (b_cons (d_var 0) (b_nil)))) (d_var 3))) (s_one (s_set 0 nd (d_div (d_var 0) (d_var 3)))))) (s_one (s_ret (d_varR 2))))
abbrev s__law_rich : Stmt := top 21
theorem sc__law_rich : FnScope ["_law_cell_here", "_law_low", "_law_high"] ["_law_cell_here"] (defScope s__law_rich) := ⟨rfl, rfl, rfl, by decide +kernel, rfl, by decide +kernel, by decide +kernel⟩
theorem ok__law_rich (T : Txt K mg Er) {f : Addr} {fd : FuncData} (F : Fun K "_law_rich" "_law_rich" s__law_rich f fd) (hm : mg "_law_rich" = some (.ref f)) (b : Binds K fd ["_law_cell_here"] []) : FnAt P w K mg base (cf K Er) "_law_rich" 1 ["_law_cell_here"] m__law_rich := by
  have nd := (sc__law_rich).nd
  refine fn_at (k := 0) F hm b sc__law_rich rfl (by decide) (fun cdv A outer s H E' hr => ?_)
  have hu := hr.units
  exact s_cons (s_if (t_cmp (q_ge) (d_var 0) (PE.dur_bor (d_pow (PE.dur_bor (d_int)) (PE.dur_bor (d_int))))) (s_one (s_ret (d_varR 0))) (s_nil)) (s_cons (s_set 1 nd (d_mod (PE.dur_bor (d_ty (bi_int) (by rfl) T.b_int (by decide +kernel) (b_cons (PE.dur_bor (d_add (PE.dur_bor (d_mul (d_var 0) (PE.dur_bor (d_int)))) (PE.dur_bor (d_int)))) (b_nil)))) (PE.dur_bor (d_int)))) (s_cons (s_set 2 nd (d_mod (PE.dur_bor (d_ty (bi_int) (by rfl) T.b_int (by decide +kernel) (b_cons (PE.dur_bor (d_add (PE.dur_bor (d_add (PE.dur_bor (d_mul (d_var 1) (PE.dur_bor (d_int)))) (PE.dur_bor (d_div (d_var 0) (PE.dur_bor (d_int)))))) (PE.dur_bor (d_int)))) (b_nil)))) (PE.dur_bor (d_int)))) (s_one (s_ret (PE.dur_ret (d_add (PE.dur_bor (d_mul (d_var 1) (PE.dur_bor (d_int)))) (d_var 2)))))))
abbrev s__law_row : Stmt := top 22
theorem sc__law_row : FnScope ["_law_cell_here", "_law_n", "_law_left", "_law_rest", "_law_row_here", "_law_k"] ["_law_cell_here", "_law_n"] (defScope s__law_row) := ⟨rfl, rfl, rfl, by decide +kernel, rfl, by decide +kernel, by decide +kernel⟩
theorem ok__law_row (T : Txt K mg Er) {f : Addr} {fd : FuncData} (F : Fun K "_law_row" "_law_row" s__law_row f fd) (hm : mg "_law_row" = some (.ref f)) (b : Binds K fd ["_law_cell_here", "_law_n"] []) (G__law_rich : FnAt P w K mg base (cf K Er) "_law_rich" 1 ["_law_cell_here"] m__law_rich) : FnAt P w K mg base (cf K Er) "_law_row" 2 ["_law_cell_here", "_law_n"] m__law_row := by
  have nd := (sc__law_row).nd
  refine fn_at (k := 1) F hm b sc__law_row rfl (by decide) (fun cdv A outer s H E' hr => ?_)
  have hu := hr.units
  exact s_cons (s_setLc 2 [("_law_k", 5)] (by rfl) nd (sw_true (by rfl) (by rfl) (by rfl) (by rfl)) (i_rng1 (by rfl) T.b_range (d_var 1)) (by show blkC ["_law_cell_here", "_law_n", "_law_left", "_law_rest", "_law_row_here", "_law_k"] (defScope s__law_row) _ _ = true; decide +kernel) (fun _ _ _ _ _ => pg_name nd (by rfl) (by first | exact Or.inl (by rfl) | exact Or.inr (by rfl))) gok_name (fun _ _ _ _ _ => t_yes) (fun _ _ _ _ _ => d_add (d_var 5) (PE.dur_bor (d_int)))) (s_cons (s_set 3 nd (d_fn G__law_rich (hr.mono (by decide)) tk_of (a_cons (d_varD 0) (a_nil)))) (s_cons (s_setO 4 nd (d_lst (a_nil))) (s_cons (s_for hp_of (by rfl) (i_rng1 (by rfl) T.b_range (d_var 1)) (dg_name 5 nd) (s_cons (s_appPop 4 (pe_popAt 2 (d_mod (PE.dur_bor (d_ty (bi_int) (by rfl) T.b_int (by decide +kernel) (b_cons (d_var 3) (b_nil)))) (PE.dur_bor (d_sub (d_var 1) (d_var 5)))))) (s_one (s_set 3 nd (d_div (d_var 3) (PE.dur_bor (d_sub (d_var 1) (d_var 5)))))))) (s_one (s_ret (PE.dur_ret (d_ty (bi_tuple) (by rfl) T.b_tuple (by decide +kernel) (b_cons (d_var 4) (b_nil)))))))))
abbrev s__law_plain_move : Stmt := top 23
theorem sc__law_plain_move : FnScope ["_law_kind", "_law_cell_here", "_law_n", "_law_d", "_law_i", "_law_j", "_law_a", "_law_b", "_law_c", "_law_e"] ["_law_kind", "_law_cell_here", "_law_n"] (defScope s__law_plain_move) := ⟨rfl, rfl, rfl, by decide +kernel, rfl, by decide +kernel, by decide +kernel⟩
theorem ok__law_plain_move (T : Txt K mg Er) {f : Addr} {fd : FuncData} (F : Fun K "_law_plain_move" "_law_plain_move" s__law_plain_move f fd) (hm : mg "_law_plain_move" = some (.ref f)) (b : Binds K fd ["_law_kind", "_law_cell_here", "_law_n"] []) (G__law_digits : FnAt P w K mg base (cf K Er) "_law_digits" 1 ["_law_cell_here", "_law_sizes"] m__law_digits) (G__law_rich : FnAt P w K mg base (cf K Er) "_law_rich" 1 ["_law_cell_here"] m__law_rich) : FnAt P w K mg base (cf K Er) "_law_plain_move" 2 ["_law_kind", "_law_cell_here", "_law_n"] m__law_plain_move := by
  have nd := (sc__law_plain_move).nd
  refine fn_at (k := 1) F hm b sc__law_plain_move rfl (by decide) (fun cdv A outer s H E' hr => ?_)
  have hu := hr.units
  exact s_cons (s_set 3 nd (d_fn G__law_digits (hr.mono (by decide)) tk_of (a_cons (d_fn G__law_rich (hr.mono (by decide)) tk_of (a_cons (d_varD 1) (a_nil))) (a_cons (PE.own_dur (d_lst (a_cons (d_varD 2) (a_cons (d_sub (d_var 2) (PE.dur_bor (d_int))) (a_cons (d_add (d_var 2) (PE.dur_bor (d_int))) (a_cons (d_add (d_var 2) (PE.dur_bor (d_int))) (a_cons (d_add (d_var 2) (PE.dur_bor (d_int))) (a_cons (d_add (d_var 2) (PE.dur_bor (d_int))) (a_nil))))))))) (a_nil))))) (s_cons (s_set 4 nd (d_ix hu (d_var 3) (PE.dur_bor (d_int)))) (s_cons (s_set 5 nd (d_add (PE.dur_bor (d_ix hu (d_var 3) (PE.dur_bor (d_int)))) (PE.dur_bor (d_ty (bi_int) (by rfl) T.b_int (by decide +kernel) (b_cons (PE.dur_bor (d_cmp (q_ge) (PE.dur_bor (d_ix hu (d_var 3) (PE.dur_bor (d_int)))) (PE.dur_bor (d_ix hu (d_var 3) (PE.dur_bor (d_int)))))) (b_nil)))))) (s_cons (s_if (t_cmp (q_eq hu) (d_var 0) (PE.dur_bor (d_str))) (s_one (s_ret (PE.dur_ret (d_tup (a_cons (d_str) (a_cons (d_ix hu (d_var 3) (PE.dur_bor (d_int))) (a_nil))))))) (s_nil)) (s_cons (s_if (t_cmp (q_eq hu) (d_var 0) (PE.dur_bor (d_str))) (s_one (s_ret (PE.dur_ret (d_tup (a_cons (d_str) (a_cons (d_varD 4) (a_cons (d_varD 5) (a_nil)))))))) (s_nil)) (s_cons (s_if (t_cmp (q_eq hu) (d_var 0) (PE.dur_bor (d_str))) (s_cons (s_unp (dg_tup (by rfl) (gn_cons 6 nd (gn_cons 7 nd (gn_cons 8 nd (gn_cons 9 nd (gn_nil)))))) (PE.own_dur (d_bi (bi_sorted (by rfl)) (by rfl) T.b_sorted (by decide +kernel) (b_cons (PE.dur_bor (PE.own_dur (d_lst (a_cons (d_ix hu (d_var 3) (PE.dur_bor (d_int))) (a_cons (d_ix hu (d_var 3) (PE.dur_bor (d_int))) (a_cons (d_ix hu (d_var 3) (PE.dur_bor (d_int))) (a_cons (d_ix hu (d_var 3) (PE.dur_bor (d_int))) (a_nil)))))))) (b_nil))))) (s_cons (s_if (t_cmp (q_eq hu) (d_var 6) (d_var 7)) (s_one (s_ret (PE.dur_ret (d_tup (a_cons (d_str) (a_cons (d_int) (a_cons (d_int) (a_cons (d_int) (a_cons (d_varD 2) (a_nil)))))))))) (s_nil)) (s_cons (s_if (t_cmp (q_eq hu) (d_var 8) (d_var 9)) (s_one (s_ret (PE.dur_ret (d_tup (a_cons (d_str) (a_cons (d_int) (a_cons (d_int) (a_cons (d_sub (d_var 2) (PE.dur_bor (d_int))) (a_cons (d_varD 2) (a_nil)))))))))) (s_nil)) (s_one (s_ret (PE.dur_ret (d_tup (a_cons (d_str) (a_cons (d_varD 6) (a_cons (d_varD 7) (a_cons (d_varD 8) (a_cons (d_varD 9) (a_nil))))))))))))) (s_nil)) (s_one (s_ret (PE.dur_ret (d_tup (a_cons (d_varD 0) (a_cons (d_bi (bi_min (by rfl)) (by rfl) T.b_min (by decide +kernel) (b_cons (d_var 4) (b_cons (d_var 5) (b_nil)))) (a_cons (d_bi (bi_max (by rfl)) (by rfl) T.b_max (by decide +kernel) (b_cons (d_var 4) (b_cons (d_var 5) (b_nil)))) (a_nil)))))))))))))
abbrev s__law_moved : Stmt := top 24
theorem sc__law_moved : FnScope ["_law_row_here", "_law_move", "_law_cells", "_law_k", "_law_i", "_law_j", "_law_m"] ["_law_row_here", "_law_move"] (defScope s__law_moved) := ⟨rfl, rfl, rfl, by decide +kernel, rfl, by decide +kernel, by decide +kernel⟩
theorem ok__law_moved (T : Txt K mg Er) {f : Addr} {fd : FuncData} (F : Fun K "_law_moved" "_law_moved" s__law_moved f fd) (hm : mg "_law_moved" = some (.ref f)) (b : Binds K fd ["_law_row_here", "_law_move"] []) : FnAt P w K mg base (cf K Er) "_law_moved" 1 ["_law_row_here", "_law_move"] m__law_moved := by
  have nd := (sc__law_moved).nd
  refine fn_at (k := 0) F hm b sc__law_moved rfl (by decide) (fun cdv A outer s H E' hr => ?_)
  have hu := hr.units
  exact s_cons (s_setO 2 nd (d_ty (bi_list (by rfl)) (by rfl) T.b_list (by decide +kernel) (b_cons (d_var 0) (b_nil)))) (s_cons (s_if (t_cmp (q_eq hu) (PE.dur_bor (d_ix hu (d_var 1) (PE.dur_bor (d_int)))) (PE.dur_bor (d_str))) (s_cons (s_sub 2 hu (PE.dur_bor (d_ix hu (d_var 1) (PE.dur_bor (d_int)))) (d_ix hu (d_var 0) (PE.dur_bor (d_ix hu (d_var 1) (PE.dur_bor (d_int)))))) (s_one (s_sub 2 hu (PE.dur_bor (d_ix hu (d_var 1) (PE.dur_bor (d_int)))) (d_ix hu (d_var 0) (PE.dur_bor (d_ix hu (d_var 1) (PE.dur_bor (d_int)))))))) (s_nil)) (s_cons (s_if (t_cmp (q_eq hu) (PE.dur_bor (d_ix hu (d_var 1) (PE.dur_bor (d_int)))) (PE.dur_bor (d_str))) (s_cons (s_sub 2 hu (PE.dur_bor (d_ix hu (d_var 1) (PE.dur_bor (d_int)))) (d_ix hu (d_var 0) (PE.dur_bor (d_add (PE.dur_bor (d_ix hu (d_var 1) (PE.dur_bor (d_int)))) (PE.dur_bor (d_int)))))) (s_one (s_sub 2 hu (PE.dur_bor (d_add (PE.dur_bor (d_ix hu (d_var 1) (PE.dur_bor (d_int)))) (PE.dur_bor (d_int)))) (d_ix hu (d_var 0) (PE.dur_bor (d_ix hu (d_var 1) (PE.dur_bor (d_int)))))))) (s_nil)) (s_cons (s_if (t_cmp (q_eq hu) (PE.dur_bor (d_ix hu (d_var 1) (PE.dur_bor (d_int)))) (PE.dur_bor (d_str))) (s_cons (s_pop 2 (pe_popAt 2 (d_ix hu (d_var 1) (PE.dur_bor (d_int))))) (s_one (s_insert 2 (d_ix hu (d_var 1) (PE.dur_bor (d_int))) (d_ix hu (d_var 0) (PE.dur_bor (d_ix hu (d_var 1) (PE.dur_bor (d_int)))))))) (s_nil)) (s_cons (s_if (t_cmp (q_eq hu) (PE.dur_bor (d_ix hu (d_var 1) (PE.dur_bor (d_int)))) (PE.dur_bor (d_str))) (s_one (s_for hp_of (by rfl) (i_rng2 (by rfl) T.b_range (PE.dur_bor (d_ix hu (d_var 1) (PE.dur_bor (d_int)))) (PE.dur_bor (d_add (PE.dur_bor (d_ix hu (d_var 1) (PE.dur_bor (d_int)))) (PE.dur_bor (d_int))))) (dg_name 3 nd) (s_one (s_sub 2 hu (d_var 3) (d_ix hu (d_var 0) (PE.dur_bor (d_sub (PE.dur_bor (d_add (PE.dur_bor (d_ix hu (d_var 1) (PE.dur_bor (d_int)))) (PE.dur_bor (d_ix hu (d_var 1) (PE.dur_bor (d_int)))))) (d_var 3)))))))) (s_nil)) (s_cons (s_if (t_cmp (q_eq hu) (PE.dur_bor (d_ix hu (d_var 1) (PE.dur_bor (d_int)))) (PE.dur_bor (d_str))) (s_cons (s_unp (dg_tup (by rfl) (gn_cons 4 nd (gn_cons 5 nd (gn_cons 3 nd (gn_cons 6 nd (gn_nil)))))) (d_sl (d_var 1) (o_some (PE.dur_bor (d_int))) (o_none))) (s_one (s_setO 2 nd (d_ty (bi_list (by rfl)) (by rfl) T.b_list (by decide +kernel) (b_cons (PE.dur_bor (d_add (PE.dur_bor (d_add (PE.dur_bor (d_add (PE.dur_bor (d_add (PE.dur_bor (d_sl (d_var 0) (o_none) (o_some (d_var 4)))) (PE.dur_bor (d_sl (d_var 0) (o_some (d_var 3)) (o_some (d_var 6)))))) (PE.dur_bor (d_sl (d_var 0) (o_some (d_var 5)) (o_some (d_var 3)))))) (PE.dur_bor (d_sl (d_var 0) (o_some (d_var 4)) (o_some (d_var 5)))))) (PE.dur_bor (d_sl (d_var 0) (o_some (d_var 6)) (o_none))))) (b_nil)))))) (s_nil)) (s_one (s_ret (PE.dur_ret (d_ty (bi_tuple) (by rfl) T.b_tuple (by decide +kernel) (b_cons (d_var 2) (b_nil)))))))))))
abbrev s__law_is_integer : Stmt := top 25
theorem sc__law_is_integer : FnScope ["_law_actual"] ["_law_actual"] (defScope s__law_is_integer) := ⟨rfl, rfl, rfl, by decide +kernel, rfl, by decide +kernel, by decide +kernel⟩
theorem ok__law_is_integer (T : Txt K mg Er) {f : Addr} {fd : FuncData} (F : Fun K "_law_is_integer" "_law_is_integer" s__law_is_integer f fd) (hm : mg "_law_is_integer" = some (.ref f)) (b : Binds K fd ["_law_actual"] []) : FnAt P w K mg base (cf K Er) "_law_is_integer" 1 ["_law_actual"] m__law_is_integer := by
  have nd := (sc__law_is_integer).nd
  refine fn_at (k := 0) F hm b sc__law_is_integer rfl (by decide) (fun cdv A outer s H E' hr => ?_)
  have hu := hr.units
  exact s_one (s_ret (PE.dur_ret (d_and (d_isi (d_var 0) T.b_isinstance T.b_int (by decide +kernel)) (d_one (d_not (d_isi (d_var 0) T.b_isinstance T.b_bool (by decide +kernel)))))))
abbrev s__law_leads : Stmt := top 26
theorem sc__law_leads : FnScope ["_law_first", "_law_second", "_law_moves", "_law_row_here", "_law_move", "_law_place"] ["_law_first", "_law_second", "_law_moves"] (defScope s__law_leads) := ⟨rfl, rfl, rfl, by decide +kernel, rfl, by decide +kernel, by decide +kernel⟩
theorem ok__law_leads (T : Txt K mg Er) {f : Addr} {fd : FuncData} (F : Fun K "_law_leads" "_law_leads" s__law_leads f fd) (hm : mg "_law_leads" = some (.ref f)) (b : Binds K fd ["_law_first", "_law_second", "_law_moves"] []) (G__law_is_integer : FnAt P w K mg base (cf K Er) "_law_is_integer" 1 ["_law_actual"] m__law_is_integer) (G__law_moved : FnAt P w K mg base (cf K Er) "_law_moved" 1 ["_law_row_here", "_law_move"] m__law_moved) : FnAt P w K mg base (cf K Er) "_law_leads" 2 ["_law_first", "_law_second", "_law_moves"] m__law_leads := by
  have nd := (sc__law_leads).nd
  refine fn_at (k := 1) F hm b sc__law_leads rfl (by decide) (fun cdv A outer s H E' hr => ?_)
  have hu := hr.units
  exact s_cons (s_set 3 nd (d_varD 0)) (s_cons (s_for hp_of (by rfl) (i_dur (d_varD 2)) (dg_name 4 nd) (s_cons (s_if (PW.pt (w_or (t_not (t_val (d_isi (d_var 4) T.b_isinstance T.b_tuple (by decide +kernel)))) (w_or (t_cmp (q_lt) (PE.dur_bor (d_bi (bi_len) (by rfl) T.b_len (by decide +kernel) (b_cons (d_var 4) (b_nil)))) (PE.dur_bor (d_int))) (w_or1 (t_cmp (q_ne hu) (PE.dur_bor (d_ix hu (d_var 4) (PE.dur_bor (d_int)))) (PE.dur_bor (d_str))))))) (s_one (s_ret (PE.dur_ret (d_bl)))) (s_nil)) (s_cons (s_if (t_cmp (q_ne hu) (PE.dur_bor (PE.own_dur (d_lc [("_law_place", 5)] (by rfl) nd (i_bor (PE.dur_bor (d_sl (d_var 4) (o_some (PE.dur_bor (d_int))) (o_none)))) (by show blkC ["_law_first", "_law_second", "_law_moves", "_law_row_here", "_law_move", "_law_place"] (defScope s__law_leads) _ _ = true; decide +kernel) (fun _ _ _ _ _ => pg_name nd (by rfl) (by first | exact Or.inl (by rfl) | exact Or.inr (by rfl))) gok_name (fun _ _ _ _ _ => pts_one (PW.pt (w_or (t_not (t_val (d_fn G__law_is_integer (hr.mono (by decide)) tk0 (a_cons (d_varD 5) (a_nil))))) (w_or (t_cmp (q_lt) (d_var 5) (PE.dur_bor (d_int))) (w_or1 (t_cmp (q_gt) (d_var 5) (PE.dur_bor (d_bi (bi_len) (by rfl) T.b_len (by decide +kernel) (b_cons (d_var 3) (b_nil)))))))))) (fun _ _ _ _ _ => d_varD 5)))) (PE.dur_bor (PE.own_dur (d_lst (a_nil))))) (s_one (s_ret (PE.dur_ret (d_bl)))) (s_nil)) (s_cons (s_if (t_not (PW.pt (w_and (t_cmp (q_lt) (PE.dur_bor (d_ix hu (d_var 4) (PE.dur_bor (d_int)))) (PE.dur_bor (d_ix hu (d_var 4) (PE.dur_bor (d_int))))) (w_and (t_cmp (q_le) (PE.dur_bor (d_ix hu (d_var 4) (PE.dur_bor (d_int)))) (PE.dur_bor (d_ix hu (d_var 4) (PE.dur_bor (d_int))))) (w_and1 (t_cmp (q_lt) (PE.dur_bor (d_ix hu (d_var 4) (PE.dur_bor (d_int)))) (PE.dur_bor (d_ix hu (d_var 4) (PE.dur_bor (d_int)))))))))) (s_one (s_ret (PE.dur_ret (d_bl)))) (s_nil)) (s_one (s_set 3 nd (d_fn G__law_moved (hr.mono (by decide)) tk_of (a_cons (d_varD 3) (a_cons (d_varD 4) (a_nil)))))))))) (s_one (s_ret (PE.dur_ret (d_cmp (q_eq hu) (d_var 3) (d_var 1))))))
abbrev s_law : Stmt := top 27
theorem sc_law : FnScope ["_law_script", "_law_d", "_law_n", "_law_first", "_law_second", "_law_many", "_law_k", "_law_one", "_law_other", "_law_told", "_law_moves"] ["_law_script"] (defScope s_law) := ⟨rfl, rfl, rfl, by decide +kernel, rfl, by decide +kernel, by decide +kernel⟩
theorem ok_law (T : Txt K mg Er) {f : Addr} {fd : FuncData} (F : Fun K "law" "law" s_law f fd) (G__law_digits : FnAt P w K mg base (cf K Er) "_law_digits" 1 ["_law_cell_here", "_law_sizes"] m__law_digits) (G__law_rich : FnAt P w K mg base (cf K Er) "_law_rich" 1 ["_law_cell_here"] m__law_rich) (G__law_cell : FnAt P w K mg base (cf K Er) "_law_cell" 1 ["_law_script", "_law_k"] m__law_cell) (G__law_row : FnAt P w K mg base (cf K Er) "_law_row" 2 ["_law_cell_here", "_law_n"] m__law_row) (G__law_moved : FnAt P w K mg base (cf K Er) "_law_moved" 1 ["_law_row_here", "_law_move"] m__law_moved) (G__law_plain_move : FnAt P w K mg base (cf K Er) "_law_plain_move" 2 ["_law_kind", "_law_cell_here", "_law_n"] m__law_plain_move) (G_least_blocks : FnAt P w K mg base (cf K Er) "least_blocks" 3 ["first", "second"] m_least_blocks) (G__law_is_integer : FnAt P w K mg base (cf K Er) "_law_is_integer" 1 ["_law_actual"] m__law_is_integer) (G_block_script : FnAt P w K mg base (cf K Er) "block_script" 3 ["first", "second"] m_block_script) (G__law_leads : FnAt P w K mg base (cf K Er) "_law_leads" 2 ["_law_first", "_law_second", "_law_moves"] m__law_leads) : FnOk P w K mg base (L2.CX P w) 4 f fd ["_law_script"] (SpD (cf K Er) m_law) := by
  have nd := (sc_law).nd
  refine fn_ok (k := 3) F sc_law rfl (by decide) (fun cdv A outer s H E' hr => ?_)
  have hu := hr.units
  exact s_cons (s_set 1 nd (d_fn G__law_digits (hr.mono (by decide)) tk_of (a_cons (d_fn G__law_rich (hr.mono (by decide)) tk_of (a_cons (d_fn G__law_cell (hr.mono (by decide)) tk_of (a_cons (d_varD 0) (a_cons (d_int) (a_nil)))) (a_nil))) (a_cons (PE.own_dur (d_lst (a_cons (d_int) (a_cons (d_int) (a_cons (d_int) (a_nil)))))) (a_nil))))) (s_cons (s_set 2 nd (d_ix hu (PE.dur_bor (PE.own_dur (d_lst (a_cons (d_add (PE.dur_bor (d_int)) (PE.dur_bor (d_ix hu (d_var 1) (PE.dur_bor (d_int))))) (a_cons (d_int) (a_nil)))))) (PE.dur_bor (d_ty (bi_int) (by rfl) T.b_int (by decide +kernel) (b_cons (PE.dur_bor (d_cmp (q_eq hu) (PE.dur_bor (d_ix hu (d_var 1) (PE.dur_bor (d_int)))) (PE.dur_bor (d_int)))) (b_nil)))))) (s_cons (s_set 3 nd (d_fn G__law_row (hr.mono (by decide)) tk_of (a_cons (d_fn G__law_cell (hr.mono (by decide)) tk_of (a_cons (d_varD 0) (a_cons (d_int) (a_nil)))) (a_cons (d_varD 2) (a_nil))))) (s_cons (s_set 4 nd (d_varD 3)) (s_cons (s_set 5 nd (d_int)) (s_cons (s_for hp_of (by rfl) (i_rng1 (by rfl) T.b_range (PE.dur_bor (d_int))) (dg_name 6 nd) (s_cons (s_if (t_cmp (q_ge) (PE.dur_bor (d_add (PE.dur_bor (d_int)) (d_var 6))) (PE.dur_bor (d_bi (bi_len) (by rfl) T.b_len (by decide +kernel) (b_cons (d_var 0) (b_nil))))) (s_one (s_break)) (s_nil)) (s_cons (s_set 4 nd (d_fn G__law_moved (hr.mono (by decide)) tk_of (a_cons (d_varD 4) (a_cons (d_fn G__law_plain_move (hr.mono (by decide)) tk_of (a_cons (d_str) (a_cons (d_add (PE.dur_bor (d_fn G__law_cell (hr.mono (by decide)) tk_of (a_cons (d_varD 0) (a_cons (d_add (PE.dur_bor (d_int)) (d_var 6)) (a_nil))))) (d_var 6)) (a_cons (d_varD 2) (a_nil))))) (a_nil))))) (s_one (s_set 5 nd (d_add (d_var 5) (PE.dur_bor (d_int)))))))) (s_cons (s_if (t_cmp (q_eq hu) (PE.dur_bor (d_ix hu (d_var 1) (PE.dur_bor (d_int)))) (PE.dur_bor (d_int))) (s_cons (s_set 4 nd (d_fn G__law_row (hr.mono (by decide)) tk_of (a_cons (d_add (PE.dur_bor (d_fn G__law_cell (hr.mono (by decide)) tk_of (a_cons (d_varD 0) (a_cons (d_int) (a_nil))))) (PE.dur_bor (d_int))) (a_cons (d_varD 2) (a_nil))))) (s_one (s_set 5 nd (d_mul (d_var 2) (d_var 2))))) (s_nil)) (s_cons (s_for hp_of (by rfl) (i_dur (PE.own_dur (d_lst (a_cons (d_tup (a_cons (d_varD 3) (a_cons (d_varD 4) (a_nil)))) (a_cons (d_tup (a_cons (d_varD 4) (a_cons (d_varD 3) (a_nil)))) (a_nil)))))) (dg_tup (by rfl) (gn_cons 7 nd (gn_cons 8 nd (gn_nil)))) (s_cons (s_set 9 nd (d_fn G_least_blocks (hr.mono (by decide)) tk_of (a_cons (d_varD 7) (a_cons (d_varD 8) (a_nil))))) (s_cons (s_if (PW.pt (w_or (t_not (t_val (d_fn G__law_is_integer (hr.mono (by decide)) tk_of (a_cons (d_varD 9) (a_nil))))) (w_or (t_cmp (q_lt) (d_var 9) (PE.dur_bor (d_int))) (w_or1 (t_cmp (q_gt) (d_var 9) (d_var 5)))))) (s_one (s_ret (PE.dur_ret (d_bl)))) (s_nil)) (s_cons (s_set 10 nd (d_fn G_block_script (hr.mono (by decide)) tk_of (a_cons (d_varD 7) (a_cons (d_varD 8) (a_nil))))) (s_one (s_if (PW.pt (w_or (t_not (t_val (d_isi (d_var 10) T.b_isinstance T.b_tuple (by decide +kernel)))) (w_or (t_cmp (q_ne hu) (PE.dur_bor (d_bi (bi_len) (by rfl) T.b_len (by decide +kernel) (b_cons (d_var 10) (b_nil)))) (d_var 9)) (w_or1 (t_not (t_val (d_fn G__law_leads (hr.mono (by decide)) tk_of (a_cons (d_varD 7) (a_cons (d_varD 8) (a_cons (d_varD 10) (a_nil))))))))))) (s_one (s_ret (PE.dur_ret (d_bl)))) (s_nil))))))) (s_one (s_ret (PE.dur_ret (d_cmp (q_eq hu) (PE.dur_bor (d_fn G_least_blocks (hr.mono (by decide)) tk_of (a_cons (d_varD 3) (a_cons (d_varD 3) (a_nil))))) (PE.dur_bor (d_int)))))))))))))
end
end Lw

set_option Elab.async false
set_option maxRecDepth 100000
set_option maxHeartbeats 4000000
set_option autoImplicit false
namespace Lw
open PySem L2 DL
theorem all_mk {P : Program} {w : World} {K : PySem.W.Frag} {h : Heap} {mg : Str → Option Value} {fa : Addr} (X : K.In h) (G : h.Ns mainGlobals mg) (hfa : mg "law" = some (.ref fa))
    {f_check_row f_sorted_row f_need_same_length f_relative_row f_rings_of f_block_leads f_block_rings f_exchanged f_least_blocks f_next_exchange f_block_script f__law_cell f__law_digits f__law_rich f__law_row f__law_plain_move f__law_moved f__law_is_integer f__law_leads f_law v_InvalidRow : Addr}
    {od_check_row an_check_row : Option Addr} {sl_check_row : Array (Option Value)} {oc_check_row kV_check_row dc_check_row pm_check_row cd_check_row ct_check_row : Value}
    {od_sorted_row an_sorted_row : Option Addr} {sl_sorted_row : Array (Option Value)} {oc_sorted_row kV_sorted_row dc_sorted_row pm_sorted_row cd_sorted_row ct_sorted_row : Value}
    {od_need_same_length an_need_same_length : Option Addr} {sl_need_same_length : Array (Option Value)} {oc_need_same_length kV_need_same_length dc_need_same_length pm_need_same_length cd_need_same_length ct_need_same_length : Value}
    {od_relative_row an_relative_row : Option Addr} {sl_relative_row : Array (Option Value)} {oc_relative_row kV_relative_row dc_relative_row pm_relative_row cd_relative_row ct_relative_row : Value}
    {od_rings_of an_rings_of : Option Addr} {sl_rings_of : Array (Option Value)} {oc_rings_of kV_rings_of dc_rings_of pm_rings_of cd_rings_of ct_rings_of : Value}
    {od_block_leads an_block_leads : Option Addr} {sl_block_leads : Array (Option Value)} {oc_block_leads kV_block_leads dc_block_leads pm_block_leads cd_block_leads ct_block_leads : Value}
    {od_block_rings an_block_rings : Option Addr} {sl_block_rings : Array (Option Value)} {oc_block_rings kV_block_rings dc_block_rings pm_block_rings cd_block_rings ct_block_rings : Value}
    {od_exchanged an_exchanged : Option Addr} {sl_exchanged : Array (Option Value)} {oc_exchanged kV_exchanged dc_exchanged pm_exchanged cd_exchanged ct_exchanged : Value}
    {od_least_blocks an_least_blocks : Option Addr} {sl_least_blocks : Array (Option Value)} {oc_least_blocks kV_least_blocks dc_least_blocks pm_least_blocks cd_least_blocks ct_least_blocks : Value}
    {od_next_exchange an_next_exchange : Option Addr} {sl_next_exchange : Array (Option Value)} {oc_next_exchange kV_next_exchange dc_next_exchange pm_next_exchange cd_next_exchange ct_next_exchange : Value}
    {od_block_script an_block_script : Option Addr} {sl_block_script : Array (Option Value)} {oc_block_script kV_block_script dc_block_script pm_block_script cd_block_script ct_block_script : Value}
    {od__law_cell an__law_cell : Option Addr} {sl__law_cell : Array (Option Value)} {oc__law_cell kV__law_cell dc__law_cell pm__law_cell cd__law_cell ct__law_cell : Value}
    {od__law_digits an__law_digits : Option Addr} {sl__law_digits : Array (Option Value)} {oc__law_digits kV__law_digits dc__law_digits pm__law_digits cd__law_digits ct__law_digits : Value}
    {od__law_rich an__law_rich : Option Addr} {sl__law_rich : Array (Option Value)} {oc__law_rich kV__law_rich dc__law_rich pm__law_rich cd__law_rich ct__law_rich : Value}
    {od__law_row an__law_row : Option Addr} {sl__law_row : Array (Option Value)} {oc__law_row kV__law_row dc__law_row pm__law_row cd__law_row ct__law_row : Value}
    {od__law_plain_move an__law_plain_move : Option Addr} {sl__law_plain_move : Array (Option Value)} {oc__law_plain_move kV__law_plain_move dc__law_plain_move pm__law_plain_move cd__law_plain_move ct__law_plain_move : Value}
    {od__law_moved an__law_moved : Option Addr} {sl__law_moved : Array (Option Value)} {oc__law_moved kV__law_moved dc__law_moved pm__law_moved cd__law_moved ct__law_moved : Value}
    {od__law_is_integer an__law_is_integer : Option Addr} {sl__law_is_integer : Array (Option Value)} {oc__law_is_integer kV__law_is_integer dc__law_is_integer pm__law_is_integer cd__law_is_integer ct__law_is_integer : Value}
    {od__law_leads an__law_leads : Option Addr} {sl__law_leads : Array (Option Value)} {oc__law_leads kV__law_leads dc__law_leads pm__law_leads cd__law_leads ct__law_leads : Value}
    {od_law an_law : Option Addr} {sl_law : Array (Option Value)} {oc_law kV_law dc_law pm_law cd_law ct_law : Value}
    {t_MOST_PIECES : Tok}
    (a_check_row : PySem.W.nsIn K mainGlobals "check_row" = some (some (.ref f_check_row)))
    (l_check_row : K.lookup f_check_row = some ⟨oc_check_row, od_check_row, .func (PySem.W.fnOf "check_row" "check_row" (defArgs s_check_row) (defBody s_check_row) (defScope s_check_row) .none kV_check_row dc_check_row pm_check_row an_check_row cd_check_row ct_check_row), sl_check_row⟩)
    (c_check_row : PySem.W.codeIn K cd_check_row "check_row" = true)
    (k_check_row : PySem.W.keepIn K (.ref f_check_row) = true)
    (a_sorted_row : PySem.W.nsIn K mainGlobals "sorted_row" = some (some (.ref f_sorted_row)))
    (l_sorted_row : K.lookup f_sorted_row = some ⟨oc_sorted_row, od_sorted_row, .func (PySem.W.fnOf "sorted_row" "sorted_row" (defArgs s_sorted_row) (defBody s_sorted_row) (defScope s_sorted_row) .none kV_sorted_row dc_sorted_row pm_sorted_row an_sorted_row cd_sorted_row ct_sorted_row), sl_sorted_row⟩)
    (c_sorted_row : PySem.W.codeIn K cd_sorted_row "sorted_row" = true)
    (k_sorted_row : PySem.W.keepIn K (.ref f_sorted_row) = true)
    (a_need_same_length : PySem.W.nsIn K mainGlobals "need_same_length" = some (some (.ref f_need_same_length)))
    (l_need_same_length : K.lookup f_need_same_length = some ⟨oc_need_same_length, od_need_same_length, .func (PySem.W.fnOf "need_same_length" "need_same_length" (defArgs s_need_same_length) (defBody s_need_same_length) (defScope s_need_same_length) .none kV_need_same_length dc_need_same_length pm_need_same_length an_need_same_length cd_need_same_length ct_need_same_length), sl_need_same_length⟩)
    (c_need_same_length : PySem.W.codeIn K cd_need_same_length "need_same_length" = true)
    (k_need_same_length : PySem.W.keepIn K (.ref f_need_same_length) = true)
    (a_relative_row : PySem.W.nsIn K mainGlobals "relative_row" = some (some (.ref f_relative_row)))
    (l_relative_row : K.lookup f_relative_row = some ⟨oc_relative_row, od_relative_row, .func (PySem.W.fnOf "relative_row" "relative_row" (defArgs s_relative_row) (defBody s_relative_row) (defScope s_relative_row) .none kV_relative_row dc_relative_row pm_relative_row an_relative_row cd_relative_row ct_relative_row), sl_relative_row⟩)
    (c_relative_row : PySem.W.codeIn K cd_relative_row "relative_row" = true)
    (k_relative_row : PySem.W.keepIn K (.ref f_relative_row) = true)
    (a_rings_of : PySem.W.nsIn K mainGlobals "rings_of" = some (some (.ref f_rings_of)))
    (l_rings_of : K.lookup f_rings_of = some ⟨oc_rings_of, od_rings_of, .func (PySem.W.fnOf "rings_of" "rings_of" (defArgs s_rings_of) (defBody s_rings_of) (defScope s_rings_of) .none kV_rings_of dc_rings_of pm_rings_of an_rings_of cd_rings_of ct_rings_of), sl_rings_of⟩)
    (c_rings_of : PySem.W.codeIn K cd_rings_of "rings_of" = true)
    (k_rings_of : PySem.W.keepIn K (.ref f_rings_of) = true)
    (a_block_leads : PySem.W.nsIn K mainGlobals "block_leads" = some (some (.ref f_block_leads)))
    (l_block_leads : K.lookup f_block_leads = some ⟨oc_block_leads, od_block_leads, .func (PySem.W.fnOf "block_leads" "block_leads" (defArgs s_block_leads) (defBody s_block_leads) (defScope s_block_leads) .none kV_block_leads dc_block_leads pm_block_leads an_block_leads cd_block_leads ct_block_leads), sl_block_leads⟩)
    (c_block_leads : PySem.W.codeIn K cd_block_leads "block_leads" = true)
    (k_block_leads : PySem.W.keepIn K (.ref f_block_leads) = true)
    (a_block_rings : PySem.W.nsIn K mainGlobals "block_rings" = some (some (.ref f_block_rings)))
    (l_block_rings : K.lookup f_block_rings = some ⟨oc_block_rings, od_block_rings, .func (PySem.W.fnOf "block_rings" "block_rings" (defArgs s_block_rings) (defBody s_block_rings) (defScope s_block_rings) .none kV_block_rings dc_block_rings pm_block_rings an_block_rings cd_block_rings ct_block_rings), sl_block_rings⟩)
    (c_block_rings : PySem.W.codeIn K cd_block_rings "block_rings" = true)
    (k_block_rings : PySem.W.keepIn K (.ref f_block_rings) = true)
    (a_exchanged : PySem.W.nsIn K mainGlobals "exchanged" = some (some (.ref f_exchanged)))
    (l_exchanged : K.lookup f_exchanged = some ⟨oc_exchanged, od_exchanged, .func (PySem.W.fnOf "exchanged" "exchanged" (defArgs s_exchanged) (defBody s_exchanged) (defScope s_exchanged) .none kV_exchanged dc_exchanged pm_exchanged an_exchanged cd_exchanged ct_exchanged), sl_exchanged⟩)
    (c_exchanged : PySem.W.codeIn K cd_exchanged "exchanged" = true)
    (k_exchanged : PySem.W.keepIn K (.ref f_exchanged) = true)
    (a_least_blocks : PySem.W.nsIn K mainGlobals "least_blocks" = some (some (.ref f_least_blocks)))
    (l_least_blocks : K.lookup f_least_blocks = some ⟨oc_least_blocks, od_least_blocks, .func (PySem.W.fnOf "least_blocks" "least_blocks" (defArgs s_least_blocks) (defBody s_least_blocks) (defScope s_least_blocks) .none kV_least_blocks dc_least_blocks pm_least_blocks an_least_blocks cd_least_blocks ct_least_blocks), sl_least_blocks⟩)
    (c_least_blocks : PySem.W.codeIn K cd_least_blocks "least_blocks" = true)
    (k_least_blocks : PySem.W.keepIn K (.ref f_least_blocks) = true)
    (a_next_exchange : PySem.W.nsIn K mainGlobals "next_exchange" = some (some (.ref f_next_exchange)))
    (l_next_exchange : K.lookup f_next_exchange = some ⟨oc_next_exchange, od_next_exchange, .func (PySem.W.fnOf "next_exchange" "next_exchange" (defArgs s_next_exchange) (defBody s_next_exchange) (defScope s_next_exchange) .none kV_next_exchange dc_next_exchange pm_next_exchange an_next_exchange cd_next_exchange ct_next_exchange), sl_next_exchange⟩)
    (c_next_exchange : PySem.W.codeIn K cd_next_exchange "next_exchange" = true)
    (k_next_exchange : PySem.W.keepIn K (.ref f_next_exchange) = true)
    (a_block_script : PySem.W.nsIn K mainGlobals "block_script" = some (some (.ref f_block_script)))
    (l_block_script : K.lookup f_block_script = some ⟨oc_block_script, od_block_script, .func (PySem.W.fnOf "block_script" "block_script" (defArgs s_block_script) (defBody s_block_script) (defScope s_block_script) .none kV_block_script dc_block_script pm_block_script an_block_script cd_block_script ct_block_script), sl_block_script⟩)
    (c_block_script : PySem.W.codeIn K cd_block_script "block_script" = true)
    (k_block_script : PySem.W.keepIn K (.ref f_block_script) = true)
    (a__law_cell : PySem.W.nsIn K mainGlobals "_law_cell" = some (some (.ref f__law_cell)))
    (l__law_cell : K.lookup f__law_cell = some ⟨oc__law_cell, od__law_cell, .func (PySem.W.fnOf "_law_cell" "_law_cell" (defArgs s__law_cell) (defBody s__law_cell) (defScope s__law_cell) .none kV__law_cell dc__law_cell pm__law_cell an__law_cell cd__law_cell ct__law_cell), sl__law_cell⟩)
    (c__law_cell : PySem.W.codeIn K cd__law_cell "_law_cell" = true)
    (k__law_cell : PySem.W.keepIn K (.ref f__law_cell) = true)
    (a__law_digits : PySem.W.nsIn K mainGlobals "_law_digits" = some (some (.ref f__law_digits)))
    (l__law_digits : K.lookup f__law_digits = some ⟨oc__law_digits, od__law_digits, .func (PySem.W.fnOf "_law_digits" "_law_digits" (defArgs s__law_digits) (defBody s__law_digits) (defScope s__law_digits) .none kV__law_digits dc__law_digits pm__law_digits an__law_digits cd__law_digits ct__law_digits), sl__law_digits⟩)
    (c__law_digits : PySem.W.codeIn K cd__law_digits "_law_digits" = true)
    (k__law_digits : PySem.W.keepIn K (.ref f__law_digits) = true)
    (a__law_rich : PySem.W.nsIn K mainGlobals "_law_rich" = some (some (.ref f__law_rich)))
    (l__law_rich : K.lookup f__law_rich = some ⟨oc__law_rich, od__law_rich, .func (PySem.W.fnOf "_law_rich" "_law_rich" (defArgs s__law_rich) (defBody s__law_rich) (defScope s__law_rich) .none kV__law_rich dc__law_rich pm__law_rich an__law_rich cd__law_rich ct__law_rich), sl__law_rich⟩)
    (c__law_rich : PySem.W.codeIn K cd__law_rich "_law_rich" = true)
    (k__law_rich : PySem.W.keepIn K (.ref f__law_rich) = true)
    (a__law_row : PySem.W.nsIn K mainGlobals "_law_row" = some (some (.ref f__law_row)))
    (l__law_row : K.lookup f__law_row = some ⟨oc__law_row, od__law_row, .func (PySem.W.fnOf "_law_row" "_law_row" (defArgs s__law_row) (defBody s__law_row) (defScope s__law_row) .none kV__law_row dc__law_row pm__law_row an__law_row cd__law_row ct__law_row), sl__law_row⟩)
    (c__law_row : PySem.W.codeIn K cd__law_row "_law_row" = true)
    (k__law_row : PySem.W.keepIn K (.ref f__law_row) = true)
    (a__law_plain_move : PySem.W.nsIn K mainGlobals "_law_plain_move" = some (some (.ref f__law_plain_move)))
    (l__law_plain_move : K.lookup f__law_plain_move = some ⟨oc__law_plain_move, od__law_plain_move, .func (PySem.W.fnOf "_law_plain_move" "_law_plain_move" (defArgs s__law_plain_move) (defBody s__law_plain_move) (defScope s__law_plain_move) .none kV__law_plain_move dc__law_plain_move pm__law_plain_move an__law_plain_move cd__law_plain_move ct__law_plain_move), sl__law_plain_move⟩)
    (c__law_plain_move : PySem.W.codeIn K cd__law_plain_move "_law_plain_move" = true)
    (k__law_plain_move : PySem.W.keepIn K (.ref f__law_plain_move) = true)
    (a__law_moved : PySem.W.nsIn K mainGlobals "_law_moved" = some (some (.ref f__law_moved)))
    (l__law_moved : K.lookup f__law_moved = some ⟨oc__law_moved, od__law_moved, .func (PySem.W.fnOf "_law_moved" "_law_moved" (defArgs s__law_moved) (defBody s__law_moved) (defScope s__law_moved) .none kV__law_moved dc__law_moved pm__law_moved an__law_moved cd__law_moved ct__law_moved), sl__law_moved⟩)
    (c__law_moved : PySem.W.codeIn K cd__law_moved "_law_moved" = true)
    (k__law_moved : PySem.W.keepIn K (.ref f__law_moved) = true)
    (a__law_is_integer : PySem.W.nsIn K mainGlobals "_law_is_integer" = some (some (.ref f__law_is_integer)))
    (l__law_is_integer : K.lookup f__law_is_integer = some ⟨oc__law_is_integer, od__law_is_integer, .func (PySem.W.fnOf "_law_is_integer" "_law_is_integer" (defArgs s__law_is_integer) (defBody s__law_is_integer) (defScope s__law_is_integer) .none kV__law_is_integer dc__law_is_integer pm__law_is_integer an__law_is_integer cd__law_is_integer ct__law_is_integer), sl__law_is_integer⟩)
    (c__law_is_integer : PySem.W.codeIn K cd__law_is_integer "_law_is_integer" = true)
    (k__law_is_integer : PySem.W.keepIn K (.ref f__law_is_integer) = true)
    (a__law_leads : PySem.W.nsIn K mainGlobals "_law_leads" = some (some (.ref f__law_leads)))
    (l__law_leads : K.lookup f__law_leads = some ⟨oc__law_leads, od__law_leads, .func (PySem.W.fnOf "_law_leads" "_law_leads" (defArgs s__law_leads) (defBody s__law_leads) (defScope s__law_leads) .none kV__law_leads dc__law_leads pm__law_leads an__law_leads cd__law_leads ct__law_leads), sl__law_leads⟩)
    (c__law_leads : PySem.W.codeIn K cd__law_leads "_law_leads" = true)
    (k__law_leads : PySem.W.keepIn K (.ref f__law_leads) = true)
    (a_law : PySem.W.nsIn K mainGlobals "law" = some (some (.ref f_law)))
    (l_law : K.lookup f_law = some ⟨oc_law, od_law, .func (PySem.W.fnOf "law" "law" (defArgs s_law) (defBody s_law) (defScope s_law) .none kV_law dc_law pm_law an_law cd_law ct_law), sl_law⟩)
    (c_law : PySem.W.codeIn K cd_law "law" = true)
    (k_law : PySem.W.keepIn K (.ref f_law) = true)
    (a_InvalidRow : PySem.W.nsIn K mainGlobals "InvalidRow" = some (some (.ref v_InvalidRow)))
    (x_InvalidRow : PySem.W.excIn K v_InvalidRow [.type "ValueError", .type "Exception", .type "BaseException", .type "object"] "ValueError.__new__" = true)
    (kp_InvalidRow : PySem.W.keepIn K (.ref v_InvalidRow) = true)
    (sb_InvalidRow : PySem.W.subIn K (.ref v_InvalidRow) (.type "BaseException") = some true)
    (ty_InvalidRow : PySem.W.typeIn K (.ref v_InvalidRow) = some (.type "type"))
    (hd_InvalidRow : PySem.W.hasDictIn K v_InvalidRow = true)
    (z_bool : PySem.W.nsIn K mainGlobals "bool" = some none)
    (z_int : PySem.W.nsIn K mainGlobals "int" = some none)
    (z_isinstance : PySem.W.nsIn K mainGlobals "isinstance" = some none)
    (z_len : PySem.W.nsIn K mainGlobals "len" = some none)
    (z_list : PySem.W.nsIn K mainGlobals "list" = some none)
    (z_max : PySem.W.nsIn K mainGlobals "max" = some none)
    (z_min : PySem.W.nsIn K mainGlobals "min" = some none)
    (z_range : PySem.W.nsIn K mainGlobals "range" = some none)
    (z_sorted : PySem.W.nsIn K mainGlobals "sorted" = some none)
    (z_tuple : PySem.W.nsIn K mainGlobals "tuple" = some none)
    (zc_MOST_PIECES : PySem.W.nsIn K mainGlobals "MOST_PIECES" = some (some (.int 40 t_MOST_PIECES)))
    : ∃ fd : FuncData, (∀ (s : Shared) (v : Value), BindsTo s fd ⟨[v], []⟩ [("_law_script", v)]) ∧ ∀ base : Heap, K.In base → base.Ns mainGlobals mg → FnOk P w K mg base (L2.CX P w) 4 fa fd ["_law_script"] (spLaw K) := by
  have e := hfa.symm.trans (PySem.W.mg_of X G a_law)
  cases e
  let Er : EN → Option Addr := fun x => match x with | .row => some v_InvalidRow | _ => none
  have T : Txt K mg Er := {
    b_bool := PySem.W.mg_none_of X G z_bool,
    b_int := PySem.W.mg_none_of X G z_int,
    b_isinstance := PySem.W.mg_none_of X G z_isinstance,
    b_len := PySem.W.mg_none_of X G z_len,
    b_list := PySem.W.mg_none_of X G z_list,
    b_max := PySem.W.mg_none_of X G z_max,
    b_min := PySem.W.mg_none_of X G z_min,
    b_range := PySem.W.mg_none_of X G z_range,
    b_sorted := PySem.W.mg_none_of X G z_sorted,
    b_tuple := PySem.W.mg_none_of X G z_tuple,
    c_MOST_PIECES := ⟨_, PySem.W.mg_of X G zc_MOST_PIECES⟩,
    e_InvalidRow := ⟨v_InvalidRow, ⟨x_InvalidRow, PySem.W.mg_of X G a_InvalidRow, kp_InvalidRow, sb_InvalidRow, ty_InvalidRow, rfl⟩⟩ }
  have F_check_row := fun_mk (st := s_check_row) l_check_row c_check_row k_check_row
  have B_check_row := F_check_row.binds (ps := ["row"]) fun _ _ _ _ _ _ us hl => match us, hl with | [_], _ => rfl
  have F_sorted_row := fun_mk (st := s_sorted_row) l_sorted_row c_sorted_row k_sorted_row
  have B_sorted_row := F_sorted_row.binds (ps := ["n"]) fun _ _ _ _ _ _ us hl => match us, hl with | [_], _ => rfl
  have F_need_same_length := fun_mk (st := s_need_same_length) l_need_same_length c_need_same_length k_need_same_length
  have B_need_same_length := F_need_same_length.binds (ps := ["first", "second"]) fun _ _ _ _ _ _ us hl => match us, hl with | [_, _], _ => rfl
  have F_relative_row := fun_mk (st := s_relative_row) l_relative_row c_relative_row k_relative_row
  have B_relative_row := F_relative_row.binds (ps := ["first", "second"]) fun _ _ _ _ _ _ us hl => match us, hl with | [_, _], _ => rfl
  have F_rings_of := fun_mk (st := s_rings_of) l_rings_of c_rings_of k_rings_of
  have B_rings_of := F_rings_of.binds (ps := ["leads"]) fun _ _ _ _ _ _ us hl => match us, hl with | [_], _ => rfl
  have F_block_leads := fun_mk (st := s_block_leads) l_block_leads c_block_leads k_block_leads
  have B_block_leads := F_block_leads.binds (ps := ["row"]) fun _ _ _ _ _ _ us hl => match us, hl with | [_], _ => rfl
  have F_block_rings := fun_mk (st := s_block_rings) l_block_rings c_block_rings k_block_rings
  have B_block_rings := F_block_rings.binds (ps := ["row"]) fun _ _ _ _ _ _ us hl => match us, hl with | [_], _ => rfl
  have F_exchanged := fun_mk (st := s_exchanged) l_exchanged c_exchanged k_exchanged
  have B_exchanged := F_exchanged.binds (ps := ["row", "i", "j", "k", "l"]) fun _ _ _ _ _ _ us hl => match us, hl with | [_, _, _, _, _], _ => rfl
  have F_least_blocks := fun_mk (st := s_least_blocks) l_least_blocks c_least_blocks k_least_blocks
  have B_least_blocks := F_least_blocks.binds (ps := ["first", "second"]) fun _ _ _ _ _ _ us hl => match us, hl with | [_, _], _ => rfl
  have F_next_exchange := fun_mk (st := s_next_exchange) l_next_exchange c_next_exchange k_next_exchange
  have B_next_exchange := F_next_exchange.binds (ps := ["row"]) fun _ _ _ _ _ _ us hl => match us, hl with | [_], _ => rfl
  have F_block_script := fun_mk (st := s_block_script) l_block_script c_block_script k_block_script
  have B_block_script := F_block_script.binds (ps := ["first", "second"]) fun _ _ _ _ _ _ us hl => match us, hl with | [_, _], _ => rfl
  have F__law_cell := fun_mk (st := s__law_cell) l__law_cell c__law_cell k__law_cell
  have B__law_cell := F__law_cell.binds (ps := ["_law_script", "_law_k"]) fun _ _ _ _ _ _ us hl => match us, hl with | [_, _], _ => rfl
  have F__law_digits := fun_mk (st := s__law_digits) l__law_digits c__law_digits k__law_digits
  have B__law_digits := F__law_digits.binds (ps := ["_law_cell_here", "_law_sizes"]) fun _ _ _ _ _ _ us hl => match us, hl with | [_, _], _ => rfl
  have F__law_rich := fun_mk (st := s__law_rich) l__law_rich c__law_rich k__law_rich
  have B__law_rich := F__law_rich.binds (ps := ["_law_cell_here"]) fun _ _ _ _ _ _ us hl => match us, hl with | [_], _ => rfl
  have F__law_row := fun_mk (st := s__law_row) l__law_row c__law_row k__law_row
  have B__law_row := F__law_row.binds (ps := ["_law_cell_here", "_law_n"]) fun _ _ _ _ _ _ us hl => match us, hl with | [_, _], _ => rfl
  have F__law_plain_move := fun_mk (st := s__law_plain_move) l__law_plain_move c__law_plain_move k__law_plain_move
  have B__law_plain_move := F__law_plain_move.binds (ps := ["_law_kind", "_law_cell_here", "_law_n"]) fun _ _ _ _ _ _ us hl => match us, hl with | [_, _, _], _ => rfl
  have F__law_moved := fun_mk (st := s__law_moved) l__law_moved c__law_moved k__law_moved
  have B__law_moved := F__law_moved.binds (ps := ["_law_row_here", "_law_move"]) fun _ _ _ _ _ _ us hl => match us, hl with | [_, _], _ => rfl
  have F__law_is_integer := fun_mk (st := s__law_is_integer) l__law_is_integer c__law_is_integer k__law_is_integer
  have B__law_is_integer := F__law_is_integer.binds (ps := ["_law_actual"]) fun _ _ _ _ _ _ us hl => match us, hl with | [_], _ => rfl
  have F__law_leads := fun_mk (st := s__law_leads) l__law_leads c__law_leads k__law_leads
  have B__law_leads := F__law_leads.binds (ps := ["_law_first", "_law_second", "_law_moves"]) fun _ _ _ _ _ _ us hl => match us, hl with | [_, _, _], _ => rfl
  have F_law := fun_mk (st := s_law) l_law c_law k_law
  refine ⟨PySem.W.fnOf "law" "law" (defArgs s_law) (defBody s_law) (defScope s_law) .none kV_law dc_law pm_law an_law cd_law ct_law, fun s v => .of_eq rfl, fun base _ _ => ?_⟩
  have G_check_row := ok_check_row (P := P) (w := w) (base := base) T F_check_row (PySem.W.mg_of X G a_check_row) B_check_row
  have G_sorted_row := ok_sorted_row (P := P) (w := w) (base := base) T F_sorted_row (PySem.W.mg_of X G a_sorted_row) B_sorted_row
  have G_need_same_length := ok_need_same_length (P := P) (w := w) (base := base) T F_need_same_length (PySem.W.mg_of X G a_need_same_length) B_need_same_length
  have G_rings_of := ok_rings_of (P := P) (w := w) (base := base) T F_rings_of (PySem.W.mg_of X G a_rings_of) B_rings_of
  have G_block_leads := ok_block_leads (P := P) (w := w) (base := base) T F_block_leads (PySem.W.mg_of X G a_block_leads) B_block_leads
  have G_exchanged := ok_exchanged (P := P) (w := w) (base := base) T F_exchanged (PySem.W.mg_of X G a_exchanged) B_exchanged
  have G_next_exchange := ok_next_exchange (P := P) (w := w) (base := base) T F_next_exchange (PySem.W.mg_of X G a_next_exchange) B_next_exchange
  have G__law_cell := ok__law_cell (P := P) (w := w) (base := base) T F__law_cell (PySem.W.mg_of X G a__law_cell) B__law_cell
  have G__law_digits := ok__law_digits (P := P) (w := w) (base := base) T F__law_digits (PySem.W.mg_of X G a__law_digits) B__law_digits
  have G__law_rich := ok__law_rich (P := P) (w := w) (base := base) T F__law_rich (PySem.W.mg_of X G a__law_rich) B__law_rich
  have G__law_moved := ok__law_moved (P := P) (w := w) (base := base) T F__law_moved (PySem.W.mg_of X G a__law_moved) B__law_moved
  have G__law_is_integer := ok__law_is_integer (P := P) (w := w) (base := base) T F__law_is_integer (PySem.W.mg_of X G a__law_is_integer) B__law_is_integer
  have G_relative_row := ok_relative_row (P := P) (w := w) (base := base) T F_relative_row (PySem.W.mg_of X G a_relative_row) B_relative_row G_check_row G_need_same_length
  have G_block_rings := ok_block_rings (P := P) (w := w) (base := base) T F_block_rings (PySem.W.mg_of X G a_block_rings) B_block_rings G_check_row G_rings_of G_block_leads
  have G__law_row := ok__law_row (P := P) (w := w) (base := base) T F__law_row (PySem.W.mg_of X G a__law_row) B__law_row G__law_rich
  have G__law_plain_move := ok__law_plain_move (P := P) (w := w) (base := base) T F__law_plain_move (PySem.W.mg_of X G a__law_plain_move) B__law_plain_move G__law_digits G__law_rich
  have G__law_leads := ok__law_leads (P := P) (w := w) (base := base) T F__law_leads (PySem.W.mg_of X G a__law_leads) B__law_leads G__law_is_integer G__law_moved
  have G_least_blocks := ok_least_blocks (P := P) (w := w) (base := base) T F_least_blocks (PySem.W.mg_of X G a_least_blocks) B_least_blocks G_relative_row G_block_rings
  have G_block_script := ok_block_script (P := P) (w := w) (base := base) T F_block_script (PySem.W.mg_of X G a_block_script) B_block_script G_relative_row G_sorted_row G_next_exchange G_exchanged
  exact law_imp rfl (ok_law T F_law G__law_digits G__law_rich G__law_cell G__law_row G__law_moved G__law_plain_move G_least_blocks G__law_is_integer G_block_script G__law_leads) plain
end Lw
open PySem PySem.W PyProof.Rows
set_option maxRecDepth 100000 in
set_option maxHeartbeats 0 in
theorem PySem.Challenge.cw_turnedrows_k08_whole_blocks_none_fewer_holds : PySem.Challenge.rw_turnedrows_k08_whole_blocks_none_fewer.Holds := by
  w_on; o_law; k_head; (case hw => w_witness2)
  k_fill
  refine DL.law_walk (k := 4) (x := "_law_script") (l := PySem.Challenge.rw_turnedrows_k08_whole_blocks_none_fewer) rfl rfl ⟨rfl, by decide, by decide⟩ (fun w h Y => PySem.W.kIn_of Y) ?F
  case F =>
    intro w mg fa h KX G hmg
    refine' Lw.all_mk KX G hmg ?a_check_row ?l_check_row ?c_check_row ?k_check_row ?a_sorted_row ?l_sorted_row ?c_sorted_row ?k_sorted_row ?a_need_same_length ?l_need_same_length ?c_need_same_length ?k_need_same_length ?a_relative_row ?l_relative_row ?c_relative_row ?k_relative_row ?a_rings_of ?l_rings_of ?c_rings_of ?k_rings_of ?a_block_leads ?l_block_leads ?c_block_leads ?k_block_leads ?a_block_rings ?l_block_rings ?c_block_rings ?k_block_rings ?a_exchanged ?l_exchanged ?c_exchanged ?k_exchanged ?a_least_blocks ?l_least_blocks ?c_least_blocks ?k_least_blocks ?a_next_exchange ?l_next_exchange ?c_next_exchange ?k_next_exchange ?a_block_script ?l_block_script ?c_block_script ?k_block_script ?a__law_cell ?l__law_cell ?c__law_cell ?k__law_cell ?a__law_digits ?l__law_digits ?c__law_digits ?k__law_digits ?a__law_rich ?l__law_rich ?c__law_rich ?k__law_rich ?a__law_row ?l__law_row ?c__law_row ?k__law_row ?a__law_plain_move ?l__law_plain_move ?c__law_plain_move ?k__law_plain_move ?a__law_moved ?l__law_moved ?c__law_moved ?k__law_moved ?a__law_is_integer ?l__law_is_integer ?c__law_is_integer ?k__law_is_integer ?a__law_leads ?l__law_leads ?c__law_leads ?k__law_leads ?a_law ?l_law ?c_law ?k_law ?a_InvalidRow ?x_InvalidRow ?kp_InvalidRow ?sb_InvalidRow ?ty_InvalidRow ?hd_InvalidRow ?z_bool ?z_int ?z_isinstance ?z_len ?z_list ?z_max ?z_min ?z_range ?z_sorted ?z_tuple ?zc_MOST_PIECES
    (case a_check_row => k_is)
    (case l_check_row => k_is)
    (case c_check_row => k_is)
    (case k_check_row => k_is)
    (case a_sorted_row => k_is)
    (case l_sorted_row => k_is)
    (case c_sorted_row => k_is)
    (case k_sorted_row => k_is)
    (case a_need_same_length => k_is)
    (case l_need_same_length => k_is)
    (case c_need_same_length => k_is)
    (case k_need_same_length => k_is)
    (case a_relative_row => k_is)
    (case l_relative_row => k_is)
    (case c_relative_row => k_is)
    (case k_relative_row => k_is)
    (case a_rings_of => k_is)
    (case l_rings_of => k_is)
    (case c_rings_of => k_is)
    (case k_rings_of => k_is)
    (case a_block_leads => k_is)
    (case l_block_leads => k_is)
    (case c_block_leads => k_is)
    (case k_block_leads => k_is)
    (case a_block_rings => k_is)
    (case l_block_rings => k_is)
    (case c_block_rings => k_is)
    (case k_block_rings => k_is)
    (case a_exchanged => k_is)
    (case l_exchanged => k_is)
    (case c_exchanged => k_is)
    (case k_exchanged => k_is)
    (case a_least_blocks => k_is)
    (case l_least_blocks => k_is)
    (case c_least_blocks => k_is)
    (case k_least_blocks => k_is)
    (case a_next_exchange => k_is)
    (case l_next_exchange => k_is)
    (case c_next_exchange => k_is)
    (case k_next_exchange => k_is)
    (case a_block_script => k_is)
    (case l_block_script => k_is)
    (case c_block_script => k_is)
    (case k_block_script => k_is)
    (case a__law_cell => k_is)
    (case l__law_cell => k_is)
    (case c__law_cell => k_is)
    (case k__law_cell => k_is)
    (case a__law_digits => k_is)
    (case l__law_digits => k_is)
    (case c__law_digits => k_is)
    (case k__law_digits => k_is)
    (case a__law_rich => k_is)
    (case l__law_rich => k_is)
    (case c__law_rich => k_is)
    (case k__law_rich => k_is)
    (case a__law_row => k_is)
    (case l__law_row => k_is)
    (case c__law_row => k_is)
    (case k__law_row => k_is)
    (case a__law_plain_move => k_is)
    (case l__law_plain_move => k_is)
    (case c__law_plain_move => k_is)
    (case k__law_plain_move => k_is)
    (case a__law_moved => k_is)
    (case l__law_moved => k_is)
    (case c__law_moved => k_is)
    (case k__law_moved => k_is)
    (case a__law_is_integer => k_is)
    (case l__law_is_integer => k_is)
    (case c__law_is_integer => k_is)
    (case k__law_is_integer => k_is)
    (case a__law_leads => k_is)
    (case l__law_leads => k_is)
    (case c__law_leads => k_is)
    (case k__law_leads => k_is)
    (case a_law => k_is)
    (case l_law => k_is)
    (case c_law => k_is)
    (case k_law => k_is)
    (case a_InvalidRow => k_is)
    (case x_InvalidRow => k_exc)
    (case kp_InvalidRow => k_is)
    (case sb_InvalidRow => k_is)
    (case ty_InvalidRow => k_is)
    (case hd_InvalidRow => k_is)
    (case z_bool => k_is)
    (case z_int => k_is)
    (case z_isinstance => k_is)
    (case z_len => k_is)
    (case z_list => k_is)
    (case z_max => k_is)
    (case z_min => k_is)
    (case z_range => k_is)
    (case z_sorted => k_is)
    (case z_tuple => k_is)
    (case zc_MOST_PIECES => k_is)
#print axioms PySem.Challenge.cw_turnedrows_k08_whole_blocks_none_fewer_holds
