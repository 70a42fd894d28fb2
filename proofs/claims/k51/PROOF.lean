import PyProof.Rows.All
import Wide.All
import OpenK.AllK
import Wide.FinOn
import HandS.ForMost
import HandS.Exc
import HandS.ExcOwn
import HandS.WordsExc
import HandS.TryOnly
import HandS.Flow
import HandS.TupAny
import HandS.SortInts
import HandS.DictComp
import HandS.More
import HandS.Wide
import HandS.WideMore
import KE.DataEq
import HandS.Style
import HandS.Conv
import HandS.Deep
import HandS.Strs
import HandS.ExcIs
import HandS.EndBits
import HandS.IsInst
import HandS.Iter
import HandS.List
import HandS.OwnEq
import HandS.SortRule
import HandS.TupSets
import KE.SortData
import KE.DataMinMax
import KE.KDictWalk
import KE.KDictSum
import KE.KDictDisplayH
import HandS.Text
import HandS.StrMore
import HandS.RaiseMore
import HandS.Codes
import HandS.WrittenGet
import PySem.Challenge.RW_turnedrows_k51_scripts_written_and_read
set_option Elab.async false
set_option linter.all false
set_option maxRecDepth 100000
set_option maxHeartbeats 2000000
set_option autoImplicit false
/-! DLa: pure data D over the hand layer: what a value stands for (Rp), what the frame's names stand for (ER), readings by functions of data (tE, tT, tA, tS). -/
namespace DL
open PySem L2

inductive D where
  | non | bl (b : Bool) | int (i : Int) | str (s : Str)
  | tup (ds : List D) | lst (ds : List D)
  | dK (kvs : List (Key × D)) | dT (kvs : List (List Key × D))
  | obj (c : Str) (fs : List (Str × D))
  | fn (x : Str)
  /-- a tuple (true), a list (false) that is locked or of the written part: the script, constants -/
  | fz (t : Bool) (ds : List D)

/-- the program's errors -/
inductive EN where
  | base | row | move | body | tree | text | name | unknown | many | range
  deriving DecidableEq
/-- what is fixed in a def's body: the written part, the addresses of error classes, of own classes, of defs, slots that hold a known value -/
structure Conf where
  K : PySem.W.Frag
  err : EN → Addr → Prop
  cls : Str → Addr → Prop
  fn : Str → Addr → Prop
  fx : List (Nat × V)

/-- lists, tuples of the written part -/
def WrL (K : PySem.W.Frag) (a : Addr) (xs : List V) : Prop :=
  ∃ (o : Obj) (its : Array Value) (n : Nat), K.lookup a = some o ∧ o.cls = .type "list" ∧ o.dict = none ∧ o.data = .seq its n ∧ its.size ≤ sizeLine ∧ Vals xs its.toList
def WrT (K : PySem.W.Frag) (a : Addr) (xs : List V) : Prop :=
  ∃ (o : Obj) (its : Array Value) (n : Nat), K.lookup a = some o ∧ o.cls = .type "tuple" ∧ o.dict = none ∧ o.data = .seq its n ∧ its.size ≤ sizeLine ∧ Vals xs its.toList
theorem WrT.sq {K : PySem.W.Frag} {H : Hp} {a : Addr} {xs : List V} (h : WrT K a xs) : SqT K H a xs := by
  obtain ⟨o, its, n, h1, h2, _, h3⟩ := h
  exact .inr ⟨o, its, n, h1, h2, h3⟩

/-- values stand for data, none of whose mutable things are among N -/
inductive Rp (c : Conf) (N : Addr → Prop) (H : Hp) : List V → List D → Prop
  | nil : Rp c N H [] []
  | non {vs ds} : Rp c N H vs ds → Rp c N H (.non :: vs) (.non :: ds)
  | bl {b vs ds} : Rp c N H vs ds → Rp c N H (.bl b :: vs) (.bl b :: ds)
  | int {i vs ds} : Rp c N H vs ds → Rp c N H (.int i :: vs) (.int i :: ds)
  | str {s vs ds} : Rp c N H vs ds → Rp c N H (.str s :: vs) (.str s :: ds)
  | tup {a us es vs ds} : ¬ N a → H a = some (.tup us) → Rp c N H us es → Rp c N H vs ds → Rp c N H (.ref a :: vs) (.tup es :: ds)
  | lst {a us es vs ds} : ¬ N a → H a = some (.lst us) → Rp c N H us es → Rp c N H vs ds → Rp c N H (.ref a :: vs) (.lst es :: ds)
  | fzT {a us es vs ds} : (¬ N a ∧ ∃ o : Obj, o.dict = none ∧ H a = some (.frz o (.tup us))) ∨ WrT c.K a us → Rp c N H us es → Rp c N H vs ds → Rp c N H (.ref a :: vs) (.fz true es :: ds)
  | fzL {a us es vs ds} : (¬ N a ∧ Rd H a (.lst us)) ∨ WrL c.K a us → Rp c N H us es → Rp c N H vs ds → Rp c N H (.ref a :: vs) (.fz false es :: ds)
  | dK {a} {kvs : List (Key × V)} {kds : List (Key × D)} {vs ds} : ¬ N a → Rd H a (.dK kvs) → kvs.map (·.1) = kds.map (·.1) → Rp c N H (kvs.map (·.2)) (kds.map (·.2)) → Rp c N H vs ds → Rp c N H (.ref a :: vs) (.dK kds :: ds)
  | dT {a} {kvs : List (List Key × V)} {kds : List (List Key × D)} {vs ds} : ¬ N a → Rd H a (.dT kvs) → kvs.map (·.1) = kds.map (·.1) → Rp c N H (kvs.map (·.2)) (kds.map (·.2)) → Rp c N H vs ds → Rp c N H (.ref a :: vs) (.dT kds :: ds)
  | obj {a dx C} {x : Str} {fs : List (Str × V)} {fds : List (Str × D)} {vs ds} : c.cls x C → ¬ N a → H a = some (.ins C dx fs) → fs.map (·.1) = fds.map (·.1) → Rp c N H (fs.map (·.2)) (fds.map (·.2)) → Rp c N H vs ds → Rp c N H (.ref a :: vs) (.obj x fds :: ds)
  | fn {a x vs ds} : c.fn x a → Rp c N H vs ds → Rp c N H (.ref a :: vs) (.fn x :: ds)

/-- one value -/
abbrev Re (c : Conf) (N : Addr → Prop) (H : Hp) (v : V) (d : D) : Prop := Rp c N H [v] [d]

section
variable {c : Conf} {N N' : Addr → Prop} {H H' : Hp}
theorem Rp.step (h : ∀ a o, ¬ N a → H a = some o → H' a = some o ∧ ¬ N' a) {vs : List V} {ds : List D} (r : Rp c N H vs ds) : Rp c N' H' vs ds := by
  have rd : ∀ {a : Addr} {u : HO}, ¬ N a → Rd H a u → ¬ N' a ∧ Rd H' a u := fun {a u} n q => by
    rcases q with q | ⟨o, q⟩
    · exact ⟨(h a _ n q).2, .inl (h a _ n q).1⟩
    · exact ⟨(h a _ n q).2, .inr ⟨o, (h a _ n q).1⟩⟩
  induction r with
  | nil => exact .nil
  | non _ ih => exact .non ih
  | bl _ ih => exact .bl ih
  | int _ ih => exact .int ih
  | str _ ih => exact .str ih
  | tup n q _ _ i1 i2 => exact .tup (h _ _ n q).2 (h _ _ n q).1 i1 i2
  | lst n q _ _ i1 i2 => exact .lst (h _ _ n q).2 (h _ _ n q).1 i1 i2
  | fzT q _ _ i1 i2 => exact .fzT (q.imp (fun ⟨n, o, hd, e⟩ => ⟨(h _ _ n e).2, o, hd, (h _ _ n e).1⟩) id) i1 i2
  | fzL q _ _ i1 i2 => exact .fzL (q.imp (fun z => rd z.1 z.2) id) i1 i2
  | dK n q e _ _ i1 i2 => exact .dK (rd n q).1 (rd n q).2 e i1 i2
  | dT n q e _ _ i1 i2 => exact .dT (rd n q).1 (rd n q).2 e i1 i2
  | obj k n q e _ _ i1 i2 => exact .obj k (h _ _ n q).2 (h _ _ n q).1 e i1 i2
  | fn k _ ih => exact .fn k ih
theorem Rp.same (s : Same H H') {vs : List V} {ds : List D} (r : Rp c N H vs ds) : Rp c N H' vs ds := r.step fun a o n e => ⟨s a o e, n⟩
theorem Rp.less (h : ∀ a, N' a → N a) {vs : List V} {ds : List D} (r : Rp c N H vs ds) : Rp c N' H vs ds := r.step fun a o n e => ⟨e, fun z => n (h a z)⟩
theorem Rp.len {vs : List V} {ds : List D} (r : Rp c N H vs ds) : vs.length = ds.length := by
  induction r with
  | nil => rfl
  | non _ ih => simp [ih]
  | bl _ ih => simp [ih]
  | int _ ih => simp [ih]
  | str _ ih => simp [ih]
  | tup _ _ _ _ _ ih => simp [ih]
  | lst _ _ _ _ _ ih => simp [ih]
  | fzT _ _ _ _ ih => simp [ih]
  | fzL _ _ _ _ ih => simp [ih]
  | dK _ _ _ _ _ _ ih => simp [ih]
  | dT _ _ _ _ _ _ ih => simp [ih]
  | obj _ _ _ _ _ _ _ ih => simp [ih]
  | fn _ _ ih => simp [ih]
theorem Rp.cons {v : V} {d : D} {vs : List V} {ds : List D} (h : Re c N H v d) (t : Rp c N H vs ds) : Rp c N H (v :: vs) (d :: ds) := by
  cases h with
  | non _ => exact .non t
  | bl _ => exact .bl t
  | int _ => exact .int t
  | str _ => exact .str t
  | tup a b e _ => exact .tup a b e t
  | lst a b e _ => exact .lst a b e t
  | fzT a b _ => exact .fzT a b t
  | fzL a b _ => exact .fzL a b t
  | dK a b e f _ => exact .dK a b e f t
  | dT a b e f _ => exact .dT a b e f t
  | obj a b e f g _ => exact .obj a b e f g t
  | fn a _ => exact .fn a t
theorem Rp.unc {v : V} {d : D} {vs : List V} {ds : List D} (h : Rp c N H (v :: vs) (d :: ds)) : Re c N H v d ∧ Rp c N H vs ds := by
  cases h with
  | non t => exact ⟨.non .nil, t⟩
  | bl t => exact ⟨.bl .nil, t⟩
  | int t => exact ⟨.int .nil, t⟩
  | str t => exact ⟨.str .nil, t⟩
  | tup a b e t => exact ⟨.tup a b e .nil, t⟩
  | lst a b e t => exact ⟨.lst a b e .nil, t⟩
  | fzT a b t => exact ⟨.fzT a b .nil, t⟩
  | fzL a b t => exact ⟨.fzL a b .nil, t⟩
  | dK a b e f t => exact ⟨.dK a b e f .nil, t⟩
  | dT a b e f t => exact ⟨.dT a b e f .nil, t⟩
  | obj a b e f g t => exact ⟨.obj a b e f g .nil, t⟩
  | fn a t => exact ⟨.fn a .nil, t⟩
theorem Rp.at_ : ∀ {vs : List V} {ds : List D} (_ : Rp c N H vs ds) {i : Nat} {v : V} {d : D}, vs[i]? = some v → ds[i]? = some d → Re c N H v d
  | [], _, _, i, _, _, e, _ => by simp at e
  | _ :: _, [], r, _, _, _, _, _ => by cases r
  | v :: vs, d :: ds, r, 0, _, _, e, f => by
    simp only [List.getElem?_cons_zero, Option.some.injEq] at e f
    subst e f
    exact r.unc.1
  | v :: vs, d :: ds, r, i + 1, _, _, e, f => Rp.at_ r.unc.2 (i := i) (by simpa using e) (by simpa using f)
theorem Rp.of : ∀ {vs : List V} {ds : List D}, vs.length = ds.length → (∀ (i : Nat) v d, vs[i]? = some v → ds[i]? = some d → Re c N H v d) → Rp c N H vs ds
  | [], [], _, _ => .nil
  | [], _ :: _, e, _ => by simp at e
  | _ :: _, [], e, _ => by simp at e
  | v :: vs, d :: ds, e, h => .cons (h 0 v d rfl rfl) (Rp.of (by simpa using e) fun i v d a b => h (i + 1) v d (by simpa using a) (by simpa using b))
theorem Rp.get {vs : List V} {ds : List D} (r : Rp c N H vs ds) {i : Nat} {d : D} (e : ds[i]? = some d) : ∃ v, vs[i]? = some v ∧ Re c N H v d := by
  obtain ⟨h, _⟩ := List.getElem?_eq_some_iff.mp e
  have hl : i < vs.length := by rw [r.len]; exact h
  exact ⟨vs[i], List.getElem?_eq_getElem hl, r.at_ (List.getElem?_eq_getElem hl) e⟩
theorem Rp.get' {vs : List V} {ds : List D} (r : Rp c N H vs ds) {i : Nat} {v : V} (e : vs[i]? = some v) : ∃ d, ds[i]? = some d ∧ Re c N H v d := by
  obtain ⟨h, _⟩ := List.getElem?_eq_some_iff.mp e
  have hl : i < ds.length := by rw [← r.len]; exact h
  exact ⟨ds[i], List.getElem?_eq_getElem hl, r.at_ e (List.getElem?_eq_getElem hl)⟩
theorem Rp.app {vs us : List V} {ds es : List D} (a : Rp c N H vs ds) (b : Rp c N H us es) : Rp c N H (vs ++ us) (ds ++ es) := by
  refine .of (by simp [a.len, b.len]) fun i v d e f => ?_
  rw [List.getElem?_append] at e f
  rw [← a.len] at f
  by_cases h : i < vs.length
  · rw [if_pos h] at e f
    exact a.at_ e f
  · rw [if_neg h] at e f
    exact b.at_ e f
theorem Rp.take {vs : List V} {ds : List D} (a : Rp c N H vs ds) (n : Nat) : Rp c N H (vs.take n) (ds.take n) := by
  refine .of (by simp [a.len]) fun i v d e f => ?_
  rw [List.getElem?_take] at e f
  by_cases h : i < n
  · rw [if_pos h] at e f
    exact a.at_ e f
  · rw [if_neg h] at e
    cases e
theorem Rp.drop {vs : List V} {ds : List D} (a : Rp c N H vs ds) (n : Nat) : Rp c N H (vs.drop n) (ds.drop n) := by
  refine .of (by simp [a.len]) fun i v d e f => ?_
  rw [List.getElem?_drop] at e f
  exact a.at_ e f
theorem Rp.rev {vs : List V} {ds : List D} (a : Rp c N H vs ds) : Rp c N H vs.reverse ds.reverse := by
  induction vs generalizing ds with
  | nil => cases a; exact .nil
  | cons v vs ih =>
    cases ds with
    | nil => cases a
    | cons d ds =>
      rw [List.reverse_cons, List.reverse_cons]
      exact (ih a.unc.2).app (.cons a.unc.1 .nil)
theorem Rp.set {vs : List V} {ds : List D} (a : Rp c N H vs ds) (i : Nat) {v : V} {d : D} (h : Re c N H v d) : Rp c N H (vs.set i v) (ds.set i d) := by
  refine .of (by simp [a.len]) fun j v' d' e f => ?_
  rw [List.getElem?_set] at e f
  by_cases q : i = j
  · subst q
    rw [if_pos rfl] at e f
    rw [← a.len] at f
    by_cases z : i < vs.length
    · rw [if_pos z] at e f
      cases e; cases f
      exact h
    · rw [if_neg z] at e
      cases e
  · rw [if_neg q] at e f
    exact a.at_ e f
theorem Rp.erase {vs : List V} {ds : List D} (a : Rp c N H vs ds) (i : Nat) : Rp c N H (vs.eraseIdx i) (ds.eraseIdx i) := by
  rw [List.eraseIdx_eq_take_drop_succ, List.eraseIdx_eq_take_drop_succ]
  exact (a.take i).app (a.drop (i + 1))
theorem Rp.rep {v : V} {d : D} (h : Re c N H v d) (n : Nat) : Rp c N H (List.replicate n v) (List.replicate n d) := by
  induction n with
  | zero => exact .nil
  | succ n ih => exact .cons h ih
theorem Re.of_int {v : V} {i : Int} (h : Re c N H v (.int i)) : v = .int i := by cases h; rfl
theorem Re.of_bl {v : V} {i : Bool} (h : Re c N H v (.bl i)) : v = .bl i := by cases h; rfl
theorem Re.of_str {v : V} {i : Str} (h : Re c N H v (.str i)) : v = .str i := by cases h; rfl
theorem Re.of_non {v : V} (h : Re c N H v .non) : v = .non := by cases h; rfl
theorem Re.of_tup {v : V} {ds : List D} (h : Re c N H v (.tup ds)) : ∃ a us, v = .ref a ∧ ¬ N a ∧ H a = some (.tup us) ∧ Rp c N H us ds := by
  cases h with
  | tup a b e _ => exact ⟨_, _, rfl, a, b, e⟩
theorem Re.of_lst {v : V} {ds : List D} (h : Re c N H v (.lst ds)) : ∃ a us, v = .ref a ∧ ¬ N a ∧ H a = some (.lst us) ∧ Rp c N H us ds := by
  cases h with
  | lst a b e _ => exact ⟨_, _, rfl, a, b, e⟩
theorem Re.of_fzT {v : V} {ds : List D} (h : Re c N H v (.fz true ds)) : ∃ a us, v = .ref a ∧ SqT c.K H a us ∧ Rp c N H us ds := by
  cases h with
  | fzT a b _ => exact ⟨_, _, rfl, a.elim (fun ⟨_, o, _, e⟩ => .inl (.inr ⟨o, e⟩)) WrT.sq, b⟩
theorem Re.of_fzL {v : V} {ds : List D} (h : Re c N H v (.fz false ds)) : ∃ a us, v = .ref a ∧ SqL c.K H a us ∧ Rp c N H us ds := by
  cases h with
  | fzL a b _ => exact ⟨_, _, rfl, a.imp (·.2) id, b⟩
theorem Rp.ints {vs : List V} : ∀ {ns : List Int}, Rp c N H vs (ns.map D.int) → vs = ns.map V.int := by
  induction vs with
  | nil => intro ns h; cases ns with
    | nil => rfl
    | cons n ns => cases h
  | cons v vs ih => intro ns h; cases ns with
    | nil => cases h
    | cons n ns =>
      have h1 : Rp c N H (v :: vs) (D.int n :: ns.map D.int) := h
      rw [h1.unc.1.of_int, ih h1.unc.2]
      rfl
theorem Rp.of_ints {ns : List Int} : Rp c N H (ns.map V.int) (ns.map D.int) := by
  induction ns with
  | nil => exact .nil
  | cons n ns ih => exact .int ih
end

/-! ### kinds of values: what is read and may belong to a name (bor); what stays (dur); a new mutable thing (own) -/
inductive Kd where
  | bor | dur | own | ret
section
variable (c : Conf) (N : Addr → Prop) (H : Hp)
def Bor (v : V) : D → Prop
  | .lst es => ∃ a us, v = .ref a ∧ H a = some (.lst us) ∧ Rp c N H us es
  | .dK kds => ∃ a kvs, v = .ref a ∧ Rd H a (.dK kvs) ∧ kvs.map (·.1) = kds.map (·.1) ∧ Rp c N H (kvs.map (·.2)) (kds.map (·.2))
  | .dT kds => ∃ a kvs, v = .ref a ∧ Rd H a (.dT kvs) ∧ kvs.map (·.1) = kds.map (·.1) ∧ Rp c N H (kvs.map (·.2)) (kds.map (·.2))
  | d => Re c N H v d
def Own (a : Addr) : D → Prop
  | .lst es => ∃ us, H a = some (.lst us) ∧ Rp c N H us es
  | .dK kds => ∃ kvs, H a = some (.dK kvs) ∧ kvs.map (·.1) = kds.map (·.1) ∧ Rp c N H (kvs.map (·.2)) (kds.map (·.2))
  | .dT kds => ∃ kvs, H a = some (.dT kvs) ∧ kvs.map (·.1) = kds.map (·.1) ∧ Rp c N H (kvs.map (·.2)) (kds.map (·.2))
  | _ => False
end
section
variable {c : Conf} {N N' : Addr → Prop} {H H' : Hp}
theorem Re.bor {v : V} {d : D} (h : Re c N H v d) : Bor c N H v d := by
  cases d with
  | lst es => cases h with
    | lst a b e _ => exact ⟨_, _, rfl, b, e⟩
  | dK kds => cases h with
    | dK a b e f _ => exact ⟨_, _, rfl, b, e, f⟩
  | dT kds => cases h with
    | dT a b e f _ => exact ⟨_, _, rfl, b, e, f⟩
  | _ => exact h
theorem Own.re {a : Addr} {d : D} (h : Own c N H a d) (n : ¬ N a) : Re c N H (.ref a) d := by
  cases d with
  | lst es =>
    obtain ⟨us, e, r⟩ := h
    exact .lst n e r .nil
  | dK kds =>
    obtain ⟨kvs, e, k, r⟩ := h
    exact .dK n (.inl e) k r .nil
  | dT kds =>
    obtain ⟨kvs, e, k, r⟩ := h
    exact .dT n (.inl e) k r .nil
  | _ => exact h.elim
theorem Own.bor {a : Addr} {d : D} (h : Own c N H a d) : Bor c N H (.ref a) d := by
  cases d with
  | lst es =>
    obtain ⟨us, e, r⟩ := h
    exact ⟨_, _, rfl, e, r⟩
  | dK kds =>
    obtain ⟨kvs, e, k, r⟩ := h
    exact ⟨_, _, rfl, .inl e, k, r⟩
  | dT kds =>
    obtain ⟨kvs, e, k, r⟩ := h
    exact ⟨_, _, rfl, .inl e, k, r⟩
  | _ => exact h.elim
theorem Own.step {a : Addr} {d : D} (h : Own c N H a d) (e : ∀ o, H a = some o → H' a = some o) (k : ∀ a o, ¬ N a → H a = some o → H' a = some o ∧ ¬ N' a) : Own c N' H' a d := by
  cases d with
  | lst es =>
    obtain ⟨us, q, r⟩ := h
    exact ⟨us, e _ q, r.step k⟩
  | dK kds =>
    obtain ⟨kvs, q, z, r⟩ := h
    exact ⟨kvs, e _ q, z, r.step k⟩
  | dT kds =>
    obtain ⟨kvs, q, z, r⟩ := h
    exact ⟨kvs, e _ q, z, r.step k⟩
  | _ => exact h.elim
theorem Own.there {a : Addr} {d : D} (h : Own c N H a d) : H a ≠ none := by
  cases d with
  | lst es =>
    obtain ⟨us, q, r⟩ := h
    rw [q]; exact fun z => by cases z
  | dK kds =>
    obtain ⟨kvs, q, z, r⟩ := h
    rw [q]; exact fun z => by cases z
  | dT kds =>
    obtain ⟨kvs, q, z, r⟩ := h
    rw [q]; exact fun z => by cases z
  | _ => exact h.elim
theorem Bor.same {v : V} {d : D} (s : Same H H') (h : Bor c N H v d) : Bor c N H' v d := by
  have rd : ∀ {a : Addr} {u : HO}, Rd H a u → Rd H' a u := fun {a u} q => q.imp (s _ _) (fun ⟨o, z⟩ => ⟨o, s _ _ z⟩)
  cases d with
  | lst es =>
    obtain ⟨a, us, e, q, r⟩ := h
    exact ⟨a, us, e, s _ _ q, r.same s⟩
  | dK kds =>
    obtain ⟨a, kvs, e, q, z, r⟩ := h
    exact ⟨a, kvs, e, rd q, z, r.same s⟩
  | dT kds =>
    obtain ⟨a, kvs, e, q, z, r⟩ := h
    exact ⟨a, kvs, e, rd q, z, r.same s⟩
  | _ => exact Rp.same s h
end

/-- something stands there, and it is no tuple -/
def Mt (H : Hp) (a : Addr) : Prop := ∃ o, H a = some o ∧ ∀ us, o ≠ .tup us
theorem Mt.ne {H : Hp} {a : Addr} (h : Mt H a) : H a ≠ none := by
  obtain ⟨o, h, _⟩ := h
  rw [h]; exact fun z => by cases z
theorem Mt.same {H H' : Hp} {a : Addr} (h : Mt H a) (s : Same H H') : Mt H' a := let ⟨o, h, n⟩ := h; ⟨o, s a o h, n⟩
theorem Mt.upd {H : Hp} {a : Addr} {o : HO} (n : ∀ us, o ≠ .tup us) : Mt (upd H a o) a := ⟨o, upd_same, n⟩
theorem Mt.off {H : Hp} {a b : Addr} {o : HO} (h : Mt H b) (n : b ≠ a) : Mt (L2.upd H a o) b := let ⟨u, h, k⟩ := h; ⟨u, by rw [upd_ne n]; exact h, k⟩
theorem Own.mt {c : Conf} {N : Addr → Prop} {H : Hp} {a : Addr} {d : D} (h : Own c N H a d) : Mt H a := by
  cases d with
  | lst es =>
    obtain ⟨us, q, r⟩ := h
    exact ⟨_, q, fun _ z => by cases z⟩
  | dK kds =>
    obtain ⟨kvs, q, z, r⟩ := h
    exact ⟨_, q, fun _ z => by cases z⟩
  | dT kds =>
    obtain ⟨kvs, q, z, r⟩ := h
    exact ⟨_, q, fun _ z => by cases z⟩
  | _ => exact h.elim
/-! ### the frame -/
abbrev Ro := List (Option (D × Bool))
structure Gam where
  U : Addr → Prop
  H0 : Hp
  held : List (List V × List D)
  raw : List (Addr × HO)
def Gam.add (Γ : Gam) (a : Addr) : Gam := { Γ with U := fun b => Γ.U b ∨ b = a }
def Gam.hold (Γ : Gam) (us : List V) (ds : List D) (ra : List (Addr × HO)) : Gam := { Γ with held := (us, ds) :: Γ.held, raw := ra ++ Γ.raw }
/-- the names' own things, and what is not to be touched -/
def NN (Γ : Gam) (σ : L2.St) (ρ : Ro) (a : Addr) : Prop := Γ.U a ∨ ∃ (i : Nat) (d : D), ρ[i]? = some (some (d, true)) ∧ σ[i]? = some (some (V.ref a))

structure ER (c : Conf) (Γ : Gam) (σ : L2.St) (H : Hp) (ρ : Ro) : Prop where
  len : ρ.length = σ.length
  ext : Same Γ.H0 H
  utr : ∀ a, Γ.U a → Mt H a
  held : ∀ p ∈ Γ.held, Rp c (NN Γ σ ρ) H p.1 p.2
  raw : ∀ p ∈ Γ.raw, ¬ NN Γ σ ρ p.1 ∧ H p.1 = some p.2
  fx : ∀ p ∈ c.fx, σ[p.1]? = some (some p.2)
  own : ∀ (i : Nat) (d : D) (a : Addr), ρ[i]? = some (some (d, true)) → σ[i]? = some (some (V.ref a)) → Γ.H0 a = none ∧ ¬ Γ.U a
  dis : ∀ (i j : Nat) (d e : D) (a : Addr), i ≠ j → ρ[i]? = some (some (d, true)) → ρ[j]? = some (some (e, true)) → σ[i]? = some (some (V.ref a)) → σ[j]? ≠ some (some (V.ref a))
  slot : ∀ (i : Nat) (d : D), ρ[i]? = some (some (d, false)) → ∃ v, σ[i]? = some (some v) ∧ Re c (NN Γ σ ρ) H v d
  mine : ∀ (i : Nat) (d : D), ρ[i]? = some (some (d, true)) → ∃ a, σ[i]? = some (some (V.ref a)) ∧ Own c (NN Γ σ ρ) H a d

section
variable {c : Conf} {Γ : Gam} {σ : L2.St} {H H' : Hp} {ρ : Ro}
theorem ER.mt (e : ER c Γ σ H ρ) {a : Addr} (h : NN Γ σ ρ a) : Mt H a := by
  rcases h with h | ⟨i, d, h1, h2⟩
  · exact e.utr a h
  · obtain ⟨b, h3, o⟩ := e.mine i d h1
    rw [h2] at h3
    cases h3
    exact o.mt
theorem ER.tracked (e : ER c Γ σ H ρ) {a : Addr} (h : NN Γ σ ρ a) : H a ≠ none := (e.mt h).ne
theorem ER.same (e : ER c Γ σ H ρ) (s : Same H H') : ER c Γ σ H' ρ where
  len := e.len
  ext := e.ext.trans s
  utr := fun a h => (e.utr a h).same s
  held := fun p h => (e.held p h).same s
  raw := fun p h => ⟨(e.raw p h).1, s _ _ (e.raw p h).2⟩
  fx := e.fx
  own := e.own
  dis := e.dis
  slot := fun i d h => let ⟨v, h1, h2⟩ := e.slot i d h; ⟨v, h1, h2.same s⟩
  mine := fun i d h => let ⟨a, h1, h2⟩ := e.mine i d h; ⟨a, h1, h2.step (fun o => s a o) fun a o n q => ⟨s a o q, n⟩⟩
theorem same_new {p : Addr} {o : HO} (h : H p = none) : Same H (upd H p o) := fun a u e => by
  rw [upd_ne (ne_of_none e h)]
  exact e
/-- a new thing that no name has: all is kept from it -/
theorem ER.addU (e : ER c Γ σ H ρ) {p : Addr} (hp : H p = none) {o : HO} (ho : ∀ us, o ≠ .tup us := by exact fun _ z => by cases z) : ER c (Γ.add p) σ (upd H p o) ρ := by
  have np : ¬ NN Γ σ ρ p := fun z => e.tracked z hp
  have st : ∀ a u, ¬ NN Γ σ ρ a → H a = some u → (upd H p o) a = some u ∧ ¬ NN (Γ.add p) σ ρ a := fun a u n q => by
    have ne := ne_of_none q hp
    refine ⟨by rw [upd_ne ne]; exact q, fun z => ?_⟩
    rcases z with (z | z) | z
    · exact n (.inl z)
    · exact ne z
    · exact n (.inr z)
  exact {
    len := e.len
    ext := e.ext.trans (same_new hp)
    utr := fun a h => by
      rcases h with h | h
      · exact (e.utr a h).same (same_new hp)
      · subst h; exact Mt.upd ho
    held := fun q h => (e.held q h).step st
    raw := fun q h => let z := st _ _ (e.raw q h).1 (e.raw q h).2; ⟨z.2, z.1⟩
    fx := e.fx
    own := fun i d a h1 h2 => ⟨(e.own i d a h1 h2).1, fun z => by
      rcases z with z | z
      · exact (e.own i d a h1 h2).2 z
      · subst z; exact np (.inr ⟨i, d, h1, h2⟩)⟩
    dis := e.dis
    slot := fun i d h => let ⟨v, h1, h2⟩ := e.slot i d h; ⟨v, h1, h2.step st⟩
    mine := fun i d h => let ⟨a, h1, h2⟩ := e.mine i d h; ⟨a, h1, h2.step (fun u q => by rw [upd_ne (ne_of_none q hp)]; exact q) st⟩ }
/-- less to be kept from -/
theorem ER.subU {p : Addr} (e : ER c (Γ.add p) σ H ρ) : ER c Γ σ H ρ := by
  have st : ∀ a, NN Γ σ ρ a → NN (Γ.add p) σ ρ a := fun a z => z.imp .inl id
  have st2 : ∀ a u, ¬ NN (Γ.add p) σ ρ a → H a = some u → H a = some u ∧ ¬ NN Γ σ ρ a := fun a u n q => ⟨q, fun z => n (st a z)⟩
  exact {
    len := e.len
    ext := e.ext
    utr := fun a h => e.utr a (.inl h)
    held := fun q h => (e.held q h).step st2
    raw := fun q h => let z := st2 _ _ (e.raw q h).1 (e.raw q h).2; ⟨z.2, z.1⟩
    fx := e.fx
    own := fun i d a h1 h2 => ⟨(e.own i d a h1 h2).1, fun z => (e.own i d a h1 h2).2 (.inl z)⟩
    dis := e.dis
    slot := fun i d h => let ⟨v, h1, h2⟩ := e.slot i d h; ⟨v, h1, h2.step st2⟩
    mine := fun i d h => let ⟨a, h1, h2⟩ := e.mine i d h; ⟨a, h1, h2.step (fun u q => q) st2⟩ }
end

/-! ### readings -/
abbrev R (α : Type) := Option (Except EN α)
def bnd {α β : Type} : R α → (α → R β) → R β
  | none, _ => none
  | some (.error x), _ => some (.error x)
  | some (.ok a), f => f a
@[reducible] def ok {α : Type} (a : α) : R α := some (.ok a)
abbrev ME := Ro → R D
abbrev MT := Ro → R Bool
abbrev MA := Ro → R (List D)

/-- a value of a kind, at H -/
def VR (c : Conf) : Kd → Gam → L2.St → Ro → Hp → V → D → Prop
  | .bor, Γ, σ, ρ, H, v, d => ER c Γ σ H ρ ∧ Bor c (NN Γ σ ρ) H v d
  | .dur, Γ, σ, ρ, H, v, d => ER c Γ σ H ρ ∧ Re c (NN Γ σ ρ) H v d
  | .ret, Γ, σ, ρ, H, v, d => ER c Γ σ H ρ ∧ Re c Γ.U H v d
  | .own, Γ, σ, ρ, H, v, d => ∃ a, v = .ref a ∧ Γ.H0 a = none ∧ ¬ NN Γ σ ρ a ∧ ER c (Γ.add a) σ H ρ ∧ Own c (NN (Γ.add a) σ ρ) H a d
/-- what is wished of an error -/
def Er (c : Conf) (W : WX) (Γ : Gam) (σ : L2.St) (ρ : Ro) (x : EN) : Prop := ∀ C H', ER c Γ σ H' ρ → c.err x C → W (.ref C) none σ H'
def PostE (c : Conf) (W : WX) (k : Kd) (Γ : Gam) (σ : L2.St) (ρ : Ro) (H : Hp) (Q : VK) : Except EN D → Prop
  | .ok d => ∀ v H', Same H H' → VR c k Γ σ ρ H' v d → Q v H'
  | .error x => Er c W Γ σ ρ x
def tE (c : Conf) (W : WX) (k : Kd) (m : ME) : TE := fun σ H Q => ∃ Γ ρ r, ER c Γ σ H ρ ∧ m ρ = some r ∧ PostE c W k Γ σ ρ H Q r
def PostT (c : Conf) (W : WX) (Γ : Gam) (σ : L2.St) (ρ : Ro) (H : Hp) (Q : Bool → Hp → Prop) : Except EN Bool → Prop
  | .ok b => ∀ H', Same H H' → ER c Γ σ H' ρ → Q b H'
  | .error x => Er c W Γ σ ρ x
def tT (c : Conf) (W : WX) (m : MT) : TT := fun σ H Q => ∃ Γ ρ r, ER c Γ σ H ρ ∧ m ρ = some r ∧ PostT c W Γ σ ρ H Q r
def PostA (c : Conf) (W : WX) (Γ : Gam) (σ : L2.St) (ρ : Ro) (H : Hp) (Q : List V → Hp → Prop) : Except EN (List D) → Prop
  | .ok ds => ∀ vs H', Same H H' → ER c Γ σ H' ρ → Rp c (NN Γ σ ρ) H' vs ds → Q vs H'
  | .error x => Er c W Γ σ ρ x
def tA (c : Conf) (W : WX) (m : MA) : TA := fun σ H Q => ∃ Γ ρ r, ER c Γ σ H ρ ∧ m ρ = some r ∧ PostA c W Γ σ ρ H Q r

section
variable {c : Conf} {W : WX} {Γ : Gam} {σ : L2.St} {H H' : Hp} {ρ : Ro} {k : Kd} {β : Type}
theorem VR.er {v : V} {d : D} (h : VR c k Γ σ ρ H v d) : ER c Γ σ H ρ := by
  cases k with
  | bor => exact h.1
  | dur => exact h.1
  | ret => exact h.1
  | own => obtain ⟨a, _, _, _, e, _⟩ := h; exact e.subU
theorem VR.dur {v : V} {d : D} (h : VR c .own Γ σ ρ H v d) : VR c .dur Γ σ ρ H v d := by
  obtain ⟨a, rfl, _, n, e, o⟩ := h
  refine ⟨e.subU, Own.re (o.step (fun _ q => q) fun b u n q => ⟨q, fun z => n (z.imp .inl id)⟩) n⟩
theorem VR.bor {v : V} {d : D} (h : VR c .dur Γ σ ρ H v d) : VR c .bor Γ σ ρ H v d := ⟨h.1, h.2.bor⟩
theorem VR.ret {v : V} {d : D} (h : VR c .dur Γ σ ρ H v d) : VR c .ret Γ σ ρ H v d := ⟨h.1, h.2.less fun _ => .inl⟩
theorem _root_.L2.PE.own_dur {X : Cx} {e : Expr} {m : ME} (h : PE X e (tE c W .own m)) : PE X e (tE c W .dur m) := ⟨fun pins s σ H Q I ⟨Γ, ρ, r, er, em, p⟩ => h.run pins s σ H Q I ⟨Γ, ρ, r, er, em, by
  cases r with
  | error x => exact p
  | ok d => exact fun v H' s q => p v H' s q.dur⟩⟩
theorem _root_.L2.PE.dur_ret {X : Cx} {e : Expr} {m : ME} (h : PE X e (tE c W .dur m)) : PE X e (tE c W .ret m) := ⟨fun pins s σ H Q I ⟨Γ, ρ, r, er, em, p⟩ => h.run pins s σ H Q I ⟨Γ, ρ, r, er, em, by
  cases r with
  | error x => exact p
  | ok d => exact fun v H' s q => p v H' s q.ret⟩⟩
theorem _root_.L2.PE.dur_bor {X : Cx} {e : Expr} {m : ME} (h : PE X e (tE c W .dur m)) : PE X e (tE c W .bor m) := ⟨fun pins s σ H Q I ⟨Γ, ρ, r, er, em, p⟩ => h.run pins s σ H Q I ⟨Γ, ρ, r, er, em, by
  cases r with
  | error x => exact p
  | ok d => exact fun v H' s q => p v H' s q.bor⟩⟩
/-- a rule's reading put into ours -/
theorem _root_.L2.PE.via {X : Cx} {e : Expr} {t t' : TE} (h : PE X e t) (i : ∀ σ H Q, t' σ H Q → t σ H Q) : PE X e t' := ⟨fun pins s σ H Q I q => h.run pins s σ H Q I (i σ H Q q)⟩
theorem _root_.L2.PT.via {X : Cx} {e : Expr} {t t' : TT} (h : PT X e t) (i : ∀ σ H Q, t' σ H Q → t σ H Q) : PT X e t' := ⟨fun pins s σ H Q I q => h.run pins s σ H Q I (i σ H Q q)⟩
theorem _root_.L2.PW.via {X : Cx} {e : Expr} {t t' : TT} (h : PW X e t) (i : ∀ σ H Q, t' σ H Q → t σ H Q) : PW X e t' := ⟨fun w pins s σ H Q I q => h.run w pins s σ H Q I (i σ H Q q)⟩
theorem _root_.L2.PA.via {X : Cx} {e : List Expr} {t t' : TA} (h : PA X e t) (i : ∀ σ H Q, t' σ H Q → t σ H Q) : PA X e t' := ⟨fun w pins s σ H Q I q => h.run w pins s σ H Q I (i σ H Q q)⟩
theorem _root_.L2.PS.via {X : Cx} {e : Stmt} {t t' : TS} (h : PS X e t) (i : ∀ D σ H, t' D σ H → t D σ H) : PS X e t' := ⟨fun pins s σ H D I q => h.run pins s σ H D I (i D σ H q)⟩
theorem _root_.L2.PSs.via {X : Cx} {e : List Stmt} {t t' : TS} (h : PSs X e t) (i : ∀ D σ H, t' D σ H → t D σ H) : PSs X e t' := ⟨fun pins s σ H D I q => h.run pins s σ H D I (i D σ H q)⟩
/-- an expression within another one -/
theorem use {m : ME} {f : D → R β} {r : Except EN β} {Q : VK} (er : ER c Γ σ H ρ) (h : bnd (m ρ) f = some r) (he : ∀ x, r = .error x → Er c W Γ σ ρ x)
    (kk : ∀ d v H1, f d = some r → Same H H1 → VR c k Γ σ ρ H1 v d → Q v H1) : tE c W k m σ H Q := by
  cases e : m ρ with
  | none => rw [e] at h; cases h
  | some q =>
    rw [e] at h
    cases q with
    | error x =>
      cases h
      exact ⟨Γ, ρ, _, er, e, he x rfl⟩
    | ok d => exact ⟨Γ, ρ, _, er, e, fun v H1 s q => kk d v H1 h s q⟩
theorem useT {m : MT} {f : Bool → R β} {r : Except EN β} {Q : Bool → Hp → Prop} (er : ER c Γ σ H ρ) (h : bnd (m ρ) f = some r) (he : ∀ x, r = .error x → Er c W Γ σ ρ x)
    (kk : ∀ b H1, f b = some r → Same H H1 → ER c Γ σ H1 ρ → Q b H1) : tT c W m σ H Q := by
  cases e : m ρ with
  | none => rw [e] at h; cases h
  | some q =>
    rw [e] at h
    cases q with
    | error x =>
      cases h
      exact ⟨Γ, ρ, _, er, e, he x rfl⟩
    | ok d => exact ⟨Γ, ρ, _, er, e, fun H1 s q => kk d H1 h s q⟩
theorem useA {m : MA} {f : List D → R β} {r : Except EN β} {Q : List V → Hp → Prop} (er : ER c Γ σ H ρ) (h : bnd (m ρ) f = some r) (he : ∀ x, r = .error x → Er c W Γ σ ρ x)
    (kk : ∀ ds vs H1, f ds = some r → Same H H1 → ER c Γ σ H1 ρ → Rp c (NN Γ σ ρ) H1 vs ds → Q vs H1) : tA c W m σ H Q := by
  cases e : m ρ with
  | none => rw [e] at h; cases h
  | some q =>
    rw [e] at h
    cases q with
    | error x =>
      cases h
      exact ⟨Γ, ρ, _, er, e, he x rfl⟩
    | ok d => exact ⟨Γ, ρ, _, er, e, fun vs H1 s q w => kk d vs H1 h s q w⟩
theorem PostE.err {k : Kd} {Q : VK} {r : Except EN D} (p : PostE c W k Γ σ ρ H Q r) : ∀ x, r = .error x → Er c W Γ σ ρ x := fun x e => by subst e; exact p
theorem PostT.err {Q : Bool → Hp → Prop} {r : Except EN Bool} (p : PostT c W Γ σ ρ H Q r) : ∀ x, r = .error x → Er c W Γ σ ρ x := fun x e => by subst e; exact p
theorem PostA.err {Q : List V → Hp → Prop} {r : Except EN (List D)} (p : PostA c W Γ σ ρ H Q r) : ∀ x, r = .error x → Er c W Γ σ ρ x := fun x e => by subst e; exact p
end
end DL

set_option Elab.async false
set_option linter.all false
set_option maxRecDepth 100000
set_option maxHeartbeats 2000000
set_option autoImplicit false
/-! DLb: expressions: names, constants, operators, comparisons, and, or, not, subscripts, slices, displays, calls of built-ins. -/
namespace DL
open PySem L2

/-! ### readings on values -/
section
variable {c : Conf} {W : WX} {Γ : Gam} {σ : L2.St} {H H' : Hp} {ρ : Ro} {Q : VK}
theorem fin_int {i : Int} (p : PostE c W .dur Γ σ ρ H Q (.ok (.int i))) (e : ER c Γ σ H ρ) : Q (.int i) H := p _ _ (Same.refl _) ⟨e, .int .nil⟩
theorem fin_bl {i : Bool} (p : PostE c W .dur Γ σ ρ H Q (.ok (.bl i))) (e : ER c Γ σ H ρ) : Q (.bl i) H := p _ _ (Same.refl _) ⟨e, .bl .nil⟩
theorem fin_str {i : Str} (p : PostE c W .dur Γ σ ρ H Q (.ok (.str i))) (e : ER c Γ σ H ρ) : Q (.str i) H := p _ _ (Same.refl _) ⟨e, .str .nil⟩
theorem fin_non (p : PostE c W .dur Γ σ ρ H Q (.ok .non)) (e : ER c Γ σ H ρ) : Q .non H := p _ _ (Same.refl _) ⟨e, .non .nil⟩
theorem fin_re {v : V} {d : D} (p : PostE c W .dur Γ σ ρ H Q (.ok d)) (e : ER c Γ σ H ρ) (r : Re c (NN Γ σ ρ) H v d) : Q v H := p _ _ (Same.refl _) ⟨e, r⟩
theorem fin_tup {us : List V} {ds : List D} {q : Addr} (p : PostE c W .dur Γ σ ρ H Q (.ok (.tup ds))) (e : ER c Γ σ H ρ) (r : Rp c (NN Γ σ ρ) H us ds) (hq : H q = none) : Q (.ref q) (upd H q (.tup us)) :=
  p _ _ (same_new hq) ⟨e.same (same_new hq), .tup (fun z => e.tracked z hq) upd_same (r.same (same_new hq)) .nil⟩
theorem ER.newstep (e : ER c Γ σ H ρ) {q : Addr} (hq : H q = none) {o : HO} : ∀ a u, ¬ NN Γ σ ρ a → H a = some u → (upd H q o) a = some u ∧ ¬ NN (Γ.add q) σ ρ a := fun a u n z => by
  have ne := ne_of_none z hq
  refine ⟨by rw [upd_ne ne]; exact z, fun y => ?_⟩
  rcases y with (y | y) | y
  · exact n (.inl y)
  · exact ne y
  · exact n (.inr y)
theorem fin_lst {us : List V} {ds : List D} {q : Addr} (p : PostE c W .own Γ σ ρ H Q (.ok (.lst ds))) (e : ER c Γ σ H ρ) (r : Rp c (NN Γ σ ρ) H us ds) (hq : H q = none) : Q (.ref q) (upd H q (.lst us)) :=
  p _ _ (same_new hq) ⟨q, rfl, e.ext.free hq, fun z => e.tracked z hq, e.addU hq, us, upd_same, r.step (e.newstep hq)⟩
theorem fin_lstD {us : List V} {ds : List D} {q : Addr} (p : PostE c W .dur Γ σ ρ H Q (.ok (.lst ds))) (e : ER c Γ σ H ρ) (r : Rp c (NN Γ σ ρ) H us ds) (hq : H q = none) : Q (.ref q) (upd H q (.lst us)) :=
  p _ _ (same_new hq) ⟨e.same (same_new hq), .lst (fun z => e.tracked z hq) upd_same (r.same (same_new hq)) .nil⟩
theorem fin_dK {kvs : List (Key × V)} {kds : List (Key × D)} {q : Addr} (p : PostE c W .own Γ σ ρ H Q (.ok (.dK kds))) (e : ER c Γ σ H ρ) (k : kvs.map (·.1) = kds.map (·.1)) (r : Rp c (NN Γ σ ρ) H (kvs.map (·.2)) (kds.map (·.2))) (hq : H q = none) : Q (.ref q) (upd H q (.dK kvs)) :=
  p _ _ (same_new hq) ⟨q, rfl, e.ext.free hq, fun z => e.tracked z hq, e.addU hq, kvs, upd_same, k, r.step (e.newstep hq)⟩
theorem fin_dT {kvs : List (List Key × V)} {kds : List (List Key × D)} {q : Addr} (p : PostE c W .own Γ σ ρ H Q (.ok (.dT kds))) (e : ER c Γ σ H ρ) (k : kvs.map (·.1) = kds.map (·.1)) (r : Rp c (NN Γ σ ρ) H (kvs.map (·.2)) (kds.map (·.2))) (hq : H q = none) : Q (.ref q) (upd H q (.dT kvs)) :=
  p _ _ (same_new hq) ⟨q, rfl, e.ext.free hq, fun z => e.tracked z hq, e.addU hq, kvs, upd_same, k, r.step (e.newstep hq)⟩
end

section
variable {X : Cx} {c : Conf} {W : WX}

/-! ### names and constants -/
def mVar (i : Nat) : ME := fun ρ => match ρ[i]? with
  | some (some (d, _)) => ok d
  | _ => none
def mVarD (i : Nat) : ME := fun ρ => match ρ[i]? with
  | some (some (d, false)) => ok d
  | _ => none
def mC (d : D) : ME := fun _ => ok d
theorem mVar_ok {i : Nat} {ρ : Ro} {r : Except EN D} (h : mVar i ρ = some r) : ∃ d b, ρ[i]? = some (some (d, b)) ∧ r = .ok d := by
  unfold mVar at h
  split at h
  · cases h; exact ⟨_, _, by assumption, rfl⟩
  · cases h
theorem d_var (i : Nat) {x : Str} {pos : Pos} (hN : X.N[i]? = some x := by rfl) (hv : Vis X.env.scope x := by first | exact Or.inl rfl | exact Or.inr (Or.inl rfl) | exact Or.inr (Or.inr rfl)) (hd : (x == ("__debug__" : Str)) = false := by decide)
    (hcd : (x == ("__classdict__" : Str)) = false := by decide) : PE X (.Name x pos) (tE c W .bor (mVar i)) := (pv i hN hv hd hcd).via fun σ H Q ⟨Γ, ρ, r, e, em, p⟩ => by
  obtain ⟨d, b, h1, rfl⟩ := mVar_ok em
  cases b with
  | false =>
    obtain ⟨v, h2, h3⟩ := e.slot i d h1
    exact ⟨v, h2, p v H (Same.refl _) ⟨e, h3.bor⟩⟩
  | true =>
    obtain ⟨a, h2, h3⟩ := e.mine i d h1
    exact ⟨.ref a, h2, p _ H (Same.refl _) ⟨e, h3.bor⟩⟩
theorem d_varR (i : Nat) {x : Str} {pos : Pos} (hN : X.N[i]? = some x := by rfl) (hv : Vis X.env.scope x := by first | exact Or.inl rfl | exact Or.inr (Or.inl rfl) | exact Or.inr (Or.inr rfl)) (hd : (x == ("__debug__" : Str)) = false := by decide)
    (hcd : (x == ("__classdict__" : Str)) = false := by decide) : PE X (.Name x pos) (tE c W .ret (mVar i)) := (pv i hN hv hd hcd).via fun σ H Q ⟨Γ, ρ, r, e, em, p⟩ => by
  obtain ⟨d, b, h1, rfl⟩ := mVar_ok em
  cases b with
  | false =>
    obtain ⟨v, h2, h3⟩ := e.slot i d h1
    exact ⟨v, h2, p v H (Same.refl _) ⟨e, h3.less fun _ => .inl⟩⟩
  | true =>
    obtain ⟨a, h2, h3⟩ := e.mine i d h1
    exact ⟨.ref a, h2, p _ H (Same.refl _) ⟨e, Own.re (h3.step (fun _ q => q) fun b o n q => ⟨q, fun z => n (.inl z)⟩) (e.own i d a h1 h2).2⟩⟩
theorem d_varD (i : Nat) {x : Str} {pos : Pos} (hN : X.N[i]? = some x := by rfl) (hv : Vis X.env.scope x := by first | exact Or.inl rfl | exact Or.inr (Or.inl rfl) | exact Or.inr (Or.inr rfl)) (hd : (x == ("__debug__" : Str)) = false := by decide)
    (hcd : (x == ("__classdict__" : Str)) = false := by decide) : PE X (.Name x pos) (tE c W .dur (mVarD i)) := (pv i hN hv hd hcd).via fun σ H Q ⟨Γ, ρ, r, e, em, p⟩ => by
  unfold mVarD at em
  split at em
  · rename_i d h1
    cases em
    obtain ⟨v, h2, h3⟩ := e.slot i d h1
    exact ⟨v, h2, p v H (Same.refl _) ⟨e, h3⟩⟩
  · cases em
theorem d_const {e : Expr} {v : V} {d : D} (h : PE X e (tC v)) (hr : ∀ N H, Re c N H v d) : PE X e (tE c W .dur (mC d)) := h.via fun σ H Q ⟨Γ, ρ, r, er, em, p⟩ => by
  cases em
  exact p v H (Same.refl _) ⟨er, hr _ _⟩
theorem d_int {i : Int} {j pos} : PE X (.Constant (.int i) j pos) (tE c W .dur (mC (.int i))) := d_const pe_int fun _ _ => .int .nil
theorem d_bl {i : Bool} {j pos} : PE X (.Constant (.bool i) j pos) (tE c W .dur (mC (.bl i))) := d_const pe_bl fun _ _ => .bl .nil
theorem d_str {i : Str} {j pos} : PE X (.Constant (.str i) j pos) (tE c W .dur (mC (.str i))) := d_const pe_str fun _ _ => .str .nil
theorem d_non {j pos} : PE X (.Constant .none j pos) (tE c W .dur (mC .non)) := d_const pe_non fun _ _ => .non .nil

/-! ### operators -/
def R2Ok (c : Conf) (W : WX) (k : Kd) (r : R2) (f : D → D → R D) : Prop := ∀ (Γ : Gam) (σ : L2.St) (ρ : Ro) (H : Hp) (x y : V) (d e : D) (res : Except EN D) (Q : VK), ER c Γ σ H ρ → Bor c (NN Γ σ ρ) H x d → Bor c (NN Γ σ ρ) H y e →
  f d e = some res → PostE c W k Γ σ ρ H Q res → r x y H Q
def mBin (f : D → D → R D) (ma mb : ME) : ME := fun ρ => bnd (ma ρ) fun x => bnd (mb ρ) fun y => f x y
theorem PostE.mono {k : Kd} {Γ : Gam} {σ : L2.St} {ρ : Ro} {H H' : Hp} {Q : VK} {r : Except EN D} (s : Same H H') (p : PostE c W k Γ σ ρ H Q r) : PostE c W k Γ σ ρ H' Q r := by
  cases r with
  | error x => exact p
  | ok d => exact fun v H2 s2 h => p v H2 (s.trans s2) h
theorem PostT.mono {Γ : Gam} {σ : L2.St} {ρ : Ro} {H H' : Hp} {Q : Bool → Hp → Prop} {r : Except EN Bool} (s : Same H H') (p : PostT c W Γ σ ρ H Q r) : PostT c W Γ σ ρ H' Q r := by
  cases r with
  | error x => exact p
  | ok d => exact fun H2 s2 h => p H2 (s.trans s2) h
theorem PostA.mono {Γ : Gam} {σ : L2.St} {ρ : Ro} {H H' : Hp} {Q : List V → Hp → Prop} {r : Except EN (List D)} (s : Same H H') (p : PostA c W Γ σ ρ H Q r) : PostA c W Γ σ ρ H' Q r := by
  cases r with
  | error x => exact p
  | ok d => exact fun v H2 s2 h => p v H2 (s.trans s2) h
theorem tOp_ok {k : Kd} {r : R2} {f : D → D → R D} {ma mb : ME} (hr : R2Ok c W k r f) {σ : L2.St} {H : Hp} {Q : VK} (h : tE c W k (mBin f ma mb) σ H Q) : tOp r (tE c W .bor ma) (tE c W .bor mb) σ H Q := by
  obtain ⟨Γ, ρ, res, e, em, p⟩ := h
  refine use e em p.err fun d v H1 h1 s1 r1 => ?_
  refine use r1.1 h1 p.err fun d2 v2 H2 h2 s2 r2 => ?_
  exact hr Γ σ ρ H2 v v2 d d2 res Q r2.1 (r1.2.same s2) r2.2 h2 (p.mono (s1.trans s2))
theorem d_op {k : Kd} {op : Operator} {r : R2} {f : D → D → R D} {a b : Expr} {ma mb : ME} {pos : Pos} (ho : OpR X (binaryOp op) r) (hr : R2Ok c W k r f) (ha : PE X a (tE c W .bor ma)) (hb : PE X b (tE c W .bor mb)) :
    PE X (.BinOp a op b pos) (tE c W k (mBin f ma mb)) := (pe_op ho ha hb).via fun _ _ _ h => tOp_ok hr h

def lim : Nat := 1000000
theorem lim_ok {n : Nat} (h : n ≤ lim) : n ≤ sizeLine := Nat.le_trans h (by rw [sizeLine_eq]; decide)
theorem lim_lt {n : Nat} (h : n < lim) : n < sizeLine := Nat.lt_of_lt_of_le h (by rw [sizeLine_eq]; decide)
def guard {α : Type} (b : Prop) [Decidable b] (x : R α) : R α := if b then x else none
theorem guard_ok {α : Type} {b : Prop} [Decidable b] {x : R α} {r : Except EN α} (h : guard b x = some r) : b ∧ x = some r := by
  unfold guard at h
  split at h
  · exact ⟨by assumption, h⟩
  · cases h

theorem op_catL : OpR X (binaryOp .Add) rCat := op_cat
def dAdd : D → D → R D
  | .int a, .int b => ok (.int (a + b))
  | .str a, .str b => guard (a.length + b.length ≤ lim) (ok (.str (a ++ b)))
  | .tup a, .tup b => guard (a.length + b.length ≤ lim) (ok (.tup (a ++ b)))
  | .lst a, .lst b => guard (a.length + b.length ≤ lim) (ok (.lst (a ++ b)))
  | .fz true a, .tup b => guard (a.length + b.length ≤ lim) (match a, b with
    | [], b => ok (.tup b)
    | a, [] => ok (.fz true a)
    | a, b => ok (.tup (a ++ b)))
  | _, _ => none
def dCat : D → D → R D
  | .lst a, .lst b => guard (a.length + b.length ≤ lim) (ok (.lst (a ++ b)))
  | _, _ => none
theorem Bor.int {N : Addr → Prop} {H : Hp} {v : V} {i : Int} (h : Bor c N H v (.int i)) : v = .int i := Re.of_int h
theorem Bor.bl {N : Addr → Prop} {H : Hp} {v : V} {i : Bool} (h : Bor c N H v (.bl i)) : v = .bl i := Re.of_bl h
theorem Bor.str {N : Addr → Prop} {H : Hp} {v : V} {i : Str} (h : Bor c N H v (.str i)) : v = .str i := Re.of_str h
theorem Bor.non {N : Addr → Prop} {H : Hp} {v : V} (h : Bor c N H v .non) : v = .non := Re.of_non h
theorem Bor.tup {N : Addr → Prop} {H : Hp} {v : V} {ds : List D} (h : Bor c N H v (.tup ds)) : ∃ a us, v = .ref a ∧ ¬ N a ∧ H a = some (.tup us) ∧ Rp c N H us ds := Re.of_tup h
theorem Bor.fzT {N : Addr → Prop} {H : Hp} {v : V} {ds : List D} (h : Bor c N H v (.fz true ds)) : ∃ a us, v = .ref a ∧ SqT c.K H a us ∧ Rp c N H us ds := Re.of_fzT h
theorem Bor.fzL {N : Addr → Prop} {H : Hp} {v : V} {ds : List D} (h : Bor c N H v (.fz false ds)) : ∃ a us, v = .ref a ∧ SqL c.K H a us ∧ Rp c N H us ds := Re.of_fzL h
theorem d_add {a b : Expr} {ma mb : ME} {pos : Pos} (ha : PE X a (tE c W .bor ma)) (hb : PE X b (tE c W .bor mb)) (hK : c.K = X.K := by rfl) : PE X (.BinOp a .Add b pos) (tE c W .dur (mBin dAdd ma mb)) :=
  d_op (op_add.or (op_add_str.or (op_catA.or op_cat))) (fun Γ σ ρ H x y d e res Q er hx hy h p => by
    unfold dAdd at h
    split at h
    · cases h
      rw [hx.int, hy.int]
      exact .inl ⟨_, _, rfl, rfl, fin_int p er⟩
    · obtain ⟨hl, h⟩ := guard_ok h
      cases h
      rw [hx.str, hy.str]
      exact .inr (.inl ⟨_, _, rfl, rfl, lim_ok hl, fin_str p er⟩)
    · rename_i ds es
      obtain ⟨hl, h⟩ := guard_ok h
      cases h
      obtain ⟨p1, us, rfl, n1, h1, r1⟩ := hx.tup
      obtain ⟨p2, ws, rfl, n2, h2, r2⟩ := hy.tup
      have l1 := r1.len
      have l2 := r2.len
      refine .inr (.inr (.inl ⟨p1, p2, us, ws, rfl, rfl, .of h1, .of h2, by rw [l1, l2]; exact lim_ok hl, fun z => ?_, fun _ z => ?_, fun _ _ q hq => fin_tup p er (r1.app r2) hq⟩))
      · subst z
        have z2 : ds = [] := List.eq_nil_of_length_eq_zero (by simpa using l1.symm)
        subst z2
        exact fin_re p er hy
      · subst z
        have z2 : es = [] := List.eq_nil_of_length_eq_zero (by simpa using l2.symm)
        subst z2
        rw [List.append_nil] at p
        exact fin_re p er hx
    · obtain ⟨hl, h⟩ := guard_ok h
      cases h
      obtain ⟨p1, us, rfl, h1, r1⟩ := hx
      obtain ⟨p2, ws, rfl, h2, r2⟩ := hy
      exact .inr (.inr (.inr ⟨p1, p2, us, ws, rfl, rfl, h1, h2, by rw [r1.len, r2.len]; exact lim_ok hl, fun q hq => fin_lstD p er (r1.app r2) hq⟩))
    · rename_i ds es
      · obtain ⟨hl, h⟩ := guard_ok h
        have hx' : Re c (NN Γ σ ρ) H x (.fz true ds) := hx
        obtain ⟨p1, us, rfl, h1, r1⟩ := hx.fzT
        obtain ⟨p2, ws, rfl, n2, h2, r2⟩ := hy.tup
        have l1 := r1.len
        have l2 := r2.len
        refine .inr (.inr (.inl ⟨p1, p2, us, ws, rfl, rfl, hK ▸ h1, .of h2, by rw [l1, l2]; exact lim_ok hl, fun z => ?_, fun nz z => ?_, fun nz1 nz2 q hq => ?_⟩))
        · subst z
          have z2 : ds = [] := List.eq_nil_of_length_eq_zero (by simpa using l1.symm)
          subst z2
          cases h
          exact fin_re p er hy
        · subst z
          have z2 : es = [] := List.eq_nil_of_length_eq_zero (by simpa using l2.symm)
          subst z2
          cases ds with
          | nil => exact absurd (List.eq_nil_of_length_eq_zero (by simpa using l1)) nz
          | cons d ds =>
            cases h
            exact fin_re p er hx'
        · cases ds with
          | nil => exact absurd (List.eq_nil_of_length_eq_zero (by simpa using l1)) nz1
          | cons d ds =>
            cases es with
            | nil => exact absurd (List.eq_nil_of_length_eq_zero (by simpa using l2)) nz2
            | cons e es =>
              cases h
              exact fin_tup p er (r1.app r2) hq
    · cases h) ha hb
theorem d_cat {a b : Expr} {ma mb : ME} {pos : Pos} (ha : PE X a (tE c W .bor ma)) (hb : PE X b (tE c W .bor mb)) : PE X (.BinOp a .Add b pos) (tE c W .own (mBin dCat ma mb)) :=
  d_op op_cat (fun Γ σ ρ H x y d e res Q er hx hy h p => by
    cases d <;> cases e <;> first | (cases h; done) | skip
    obtain ⟨hl, h⟩ := guard_ok h
    cases h
    obtain ⟨p1, us, rfl, h1, r1⟩ := hx
    obtain ⟨p2, ws, rfl, h2, r2⟩ := hy
    exact ⟨p1, p2, us, ws, rfl, rfl, h1, h2, by rw [r1.len, r2.len]; exact lim_ok hl, fun q hq => fin_lst p er (r1.app r2) hq⟩) ha hb
def dSub : D → D → R D
  | .int a, .int b => ok (.int (a - b))
  | _, _ => none
theorem d_sub {a b : Expr} {ma mb : ME} {pos : Pos} (ha : PE X a (tE c W .bor ma)) (hb : PE X b (tE c W .bor mb)) : PE X (.BinOp a .Sub b pos) (tE c W .dur (mBin dSub ma mb)) :=
  d_op op_sub (fun Γ σ ρ H x y d e res Q er hx hy h p => by
    cases d <;> cases e <;> first | (cases h; done) | skip
    cases h
    rw [hx.int, hy.int]
    exact ⟨_, _, rfl, rfl, fin_int p er⟩) ha hb
def mulOk (a b : Int) : Bool := decide (a.natAbs < 2 ^ 63) || decide (b.natAbs < 2 ^ 63) || (decide (a.natAbs < 2 ^ 4000) && decide (b.natAbs < 2 ^ 4000))
theorem mulOk_ok {a b : Int} (h : mulOk a b = true) : IntMulOk a b := by
  have p : (2 : Nat) ^ 63 = 9223372036854775808 := by decide
  have q : (2 : Int) ^ 64 = 18446744073709551616 := by decide
  unfold mulOk at h
  rw [Bool.or_eq_true, Bool.or_eq_true, Bool.and_eq_true] at h
  rcases h with (h | h) | ⟨h, h'⟩
  · have := of_decide_eq_true h
    exact CMul.ok (.inl (by omega))
  · have := of_decide_eq_true h
    exact CMul.ok (.inr (by omega))
  · exact (wide_mul (a := 4000) (b := 4000) (of_decide_eq_true h) (of_decide_eq_true h') (by decide) (by decide) (by decide)).ok
theorem op_mulA : OpR X (binaryOp .Mult) (rI (fun i j => mulOk i j = true) fun i j => .int (i * j)) := opI fun _ _ _ _ _ _ _ hc q => PyProof.Rows.mul_int q (mulOk_ok hc)
theorem iop_mulA : OpR X (inplaceOp .Mult) (rI (fun i j => mulOk i j = true) fun i j => .int (i * j)) := opI fun _ _ _ _ _ _ _ hc q => PyProof.Rows.imul_int q (mulOk_ok hc)
def dMul : D → D → R D
  | .int a, .int b => guard (mulOk a b = true) (ok (.int (a * b)))
  | _, _ => none
theorem d_mul {a b : Expr} {ma mb : ME} {pos : Pos} (ha : PE X a (tE c W .bor ma)) (hb : PE X b (tE c W .bor mb)) : PE X (.BinOp a .Mult b pos) (tE c W .dur (mBin dMul ma mb)) :=
  d_op op_mulA (fun Γ σ ρ H x y d e res Q er hx hy h p => by
    cases d <;> cases e <;> first | (cases h; done) | skip
    obtain ⟨hl, h⟩ := guard_ok h
    cases h
    rw [hx.int, hy.int]
    exact ⟨_, _, rfl, rfl, hl, fin_int p er⟩) ha hb
/-- [x, ..] * n -/
def dRep : D → D → R D
  | .lst a, .int k => guard (-1000000 ≤ k ∧ a.length * k.toNat ≤ lim ∧ k ≤ 1000000) (ok (.lst (List.replicate k.toNat a).flatten))
  | _, _ => none
theorem Rp.repl {N : Addr → Prop} {H : Hp} {us : List V} {ds : List D} (r : Rp c N H us ds) : ∀ n : Nat, Rp c N H (List.replicate n us).flatten (List.replicate n ds).flatten
  | 0 => .nil
  | n + 1 => by
    rw [List.replicate_succ, List.replicate_succ, List.flatten_cons, List.flatten_cons]
    exact r.app (Rp.repl r n)
theorem d_rep {a b : Expr} {ma mb : ME} {pos : Pos} (ha : PE X a (tE c W .bor ma)) (hb : PE X b (tE c W .bor mb)) : PE X (.BinOp a .Mult b pos) (tE c W .own (mBin dRep ma mb)) :=
  d_op op_rep (fun Γ σ ρ H x y d e res Q er hx hy h p => by
    cases d <;> cases e <;> first | (cases h; done) | skip
    obtain ⟨⟨h1, h2, h3⟩, h⟩ := guard_ok h
    cases h
    obtain ⟨p1, us, rfl, e1, r1⟩ := hx
    rw [hy.int]
    exact ⟨p1, _, us, rfl, rfl, e1, by omega, by omega, by rw [r1.len]; exact lim_ok h2, fun q hq => fin_lst p er (r1.repl _) hq⟩) ha hb
def dDiv : D → D → R D
  | .int a, .int b => guard (0 < b ∧ b.natAbs < 2 ^ 9000) (ok (.int (a / b)))
  | _, _ => none
theorem div_ok {b : Int} (h : 0 < b ∧ b.natAbs < 2 ^ 9000) (a : Int) : CDivW a b := wide_div h.1 h.2 (by decide) (Nat.le_refl _)
theorem d_div {a b : Expr} {ma mb : ME} {pos : Pos} (ha : PE X a (tE c W .bor ma)) (hb : PE X b (tE c W .bor mb)) : PE X (.BinOp a .FloorDiv b pos) (tE c W .dur (mBin dDiv ma mb)) :=
  d_op op_fdivW (fun Γ σ ρ H x y d e res Q er hx hy h p => by
    cases d <;> cases e <;> first | (cases h; done) | skip
    obtain ⟨hl, h⟩ := guard_ok h
    cases h
    rw [hx.int, hy.int]
    exact ⟨_, _, rfl, rfl, div_ok hl _, fin_int p er⟩) ha hb
def dMod : D → D → R D
  | .int a, .int b => guard (0 < b) (ok (.int (a % b)))
  | _, _ => none
theorem d_mod {a b : Expr} {ma mb : ME} {pos : Pos} (ha : PE X a (tE c W .bor ma)) (hb : PE X b (tE c W .bor mb)) : PE X (.BinOp a .Mod b pos) (tE c W .dur (mBin dMod ma mb)) :=
  d_op op_mod (fun Γ σ ρ H x y d e res Q er hx hy h p => by
    cases d <;> cases e <;> first | (cases h; done) | skip
    obtain ⟨hl, h⟩ := guard_ok h
    cases h
    rw [hx.int, hy.int]
    exact ⟨_, _, rfl, rfl, hl, fin_int p er⟩) ha hb
def dPow : D → D → R D
  | .int a, .int b => guard (0 ≤ b ∧ b ≤ 1000000 ∧ a.natAbs < 2 ^ 64) (ok (.int (a ^ b.toNat)))
  | _, _ => none
theorem d_pow {a b : Expr} {ma mb : ME} {pos : Pos} (ha : PE X a (tE c W .bor ma)) (hb : PE X b (tE c W .bor mb)) : PE X (.BinOp a .Pow b pos) (tE c W .dur (mBin dPow ma mb)) :=
  d_op op_pow (fun Γ σ ρ H x y d e res Q er hx hy h p => by
    cases d <;> cases e <;> first | (cases h; done) | skip
    obtain ⟨hl, h⟩ := guard_ok h
    cases h
    rw [hx.int, hy.int]
    exact ⟨_, _, rfl, rfl, hl, fin_int p er⟩) ha hb
def dBand : D → D → R D
  | .int a, .int b => ok (.int (Builtin.bitAnd a b))
  | _, _ => none
theorem d_band {a b : Expr} {ma mb : ME} {pos : Pos} (ha : PE X a (tE c W .bor ma)) (hb : PE X b (tE c W .bor mb)) : PE X (.BinOp a .BitAnd b pos) (tE c W .dur (mBin dBand ma mb)) :=
  d_op op_and (fun Γ σ ρ H x y d e res Q er hx hy h p => by
    cases d <;> cases e <;> first | (cases h; done) | skip
    cases h
    rw [hx.int, hy.int]
    exact ⟨_, _, rfl, rfl, fin_int p er⟩) ha hb
def dBor : D → D → R D
  | .int a, .int b => ok (.int (Builtin.bitOr a b))
  | _, _ => none
theorem d_bor {a b : Expr} {ma mb : ME} {pos : Pos} (ha : PE X a (tE c W .bor ma)) (hb : PE X b (tE c W .bor mb)) : PE X (.BinOp a .BitOr b pos) (tE c W .dur (mBin dBor ma mb)) :=
  d_op op_or (fun Γ σ ρ H x y d e res Q er hx hy h p => by
    cases d <;> cases e <;> first | (cases h; done) | skip
    cases h
    rw [hx.int, hy.int]
    exact ⟨_, _, rfl, rfl, fin_int p er⟩) ha hb
def mUn (f : D → R D) (ma : ME) : ME := fun ρ => bnd (ma ρ) f
def dNeg : D → R D
  | .int a => ok (.int (-a))
  | _ => none
theorem d_neg {a : Expr} {ma : ME} {pos : Pos} (ha : PE X a (tE c W .bor ma)) : PE X (.UnaryOp .USub a pos) (tE c W .dur (mUn dNeg ma)) := (pe_un un_neg ha).via fun σ H Q ⟨Γ, ρ, res, e, em, p⟩ => by
  refine use e em p.err fun d v H1 h1 s1 r1 => ?_
  cases d <;> first | (cases h1; done) | skip
  cases h1
  rw [r1.2.int]
  exact ⟨_, rfl, fin_int (p.mono s1) r1.1⟩

/-! ### comparisons -/
def toP : Nat → D → Option PyData
  | _, .non => some .none
  | _, .bl b => some (.bool b)
  | _, .int i => some (.int i)
  | _, .str s => some (.str s)
  | n + 1, .tup ds => (ds.mapM (toP n)).map PyData.tuple
  | n + 1, .lst ds => (ds.mapM (toP n)).map PyData.list
  | n + 1, .fz true ds => (ds.mapM (toP n)).map PyData.tuple
  | _, _ => none
def toPs (n : Nat) (ds : List D) : Option (List PyData) := ds.mapM (toP n)
theorem toPs_nil (n : Nat) : toPs n [] = some [] := rfl
theorem toPs_cons {n : Nat} {d : D} {ds : List D} {q : List PyData} (h : toPs n (d :: ds) = some q) : ∃ p r, toP n d = some p ∧ toPs n ds = some r ∧ q = p :: r := by
  unfold toPs at h
  rw [List.mapM_cons] at h
  cases e : toP n d with
  | none => rw [e] at h; cases h
  | some p =>
    rw [e] at h
    cases e2 : ds.mapM (toP n) with
    | none =>
      simp only [e2] at h
      cases h
    | some r =>
      simp only [e2] at h
      cases h
      exact ⟨p, r, rfl, e2, rfl⟩
theorem toPs_plain {n : Nat} (ih : ∀ d p, toP n d = some p → p.plain = true ∧ p.depth ≤ n + 1) : ∀ {ds : List D} {q : List PyData}, toPs n ds = some q → PyData.plainAll q = true ∧ PyData.depthAll q ≤ n + 1
  | [], q, h => by
    cases h
    exact ⟨rfl, by show 0 ≤ _; exact Nat.zero_le _⟩
  | d :: ds, q, h => by
    obtain ⟨p, r, h1, h2, rfl⟩ := toPs_cons h
    obtain ⟨a, b⟩ := ih d p h1
    obtain ⟨a', b'⟩ := toPs_plain ih h2
    refine ⟨by show (p.plain && PyData.plainAll r) = true; rw [a, a']; rfl, ?_⟩
    show max p.depth (PyData.depthAll r) ≤ n + 1
    omega
theorem toP_plain : ∀ (n : Nat) (d : D) (p : PyData), toP n d = some p → p.plain = true ∧ p.depth ≤ n + 1
  | n, .non, p, h => by cases n <;> (cases h; exact ⟨rfl, by show (0 : Nat) ≤ _; omega⟩)
  | n, .bl b, p, h => by cases n <;> (cases h; exact ⟨rfl, by show (0 : Nat) ≤ _; omega⟩)
  | n, .int b, p, h => by cases n <;> (cases h; exact ⟨rfl, by show (0 : Nat) ≤ _; omega⟩)
  | n, .str b, p, h => by cases n <;> (cases h; exact ⟨rfl, by show (0 : Nat) ≤ _; omega⟩)
  | 0, .tup ds, p, h => by cases h
  | 0, .lst ds, p, h => by cases h
  | n + 1, .tup ds, p, h => by
    have h : (toPs n ds).map PyData.tuple = some p := h
    cases e : toPs n ds with
    | none => rw [e] at h; cases h
    | some q =>
      rw [e] at h
      cases h
      obtain ⟨a, b⟩ := toPs_plain (toP_plain n) e
      refine ⟨a, ?_⟩
      show PyData.depthAll q + 1 ≤ n + 1 + 1
      omega
  | n + 1, .lst ds, p, h => by
    have h : (toPs n ds).map PyData.list = some p := h
    cases e : toPs n ds with
    | none => rw [e] at h; cases h
    | some q =>
      rw [e] at h
      cases h
      obtain ⟨a, b⟩ := toPs_plain (toP_plain n) e
      refine ⟨a, ?_⟩
      show PyData.depthAll q + 1 ≤ n + 1 + 1
      omega
  | n, .dK _, p, h => by cases n <;> cases h
  | n, .dT _, p, h => by cases n <;> cases h
  | n, .obj _ _, p, h => by cases n <;> cases h
  | n, .fn _, p, h => by cases n <;> cases h
  | n, .fz false _, p, h => by cases n <;> cases h
  | 0, .fz true _, p, h => by cases h
  | n + 1, .fz true ds, p, h => by
    have h : (toPs n ds).map PyData.tuple = some p := h
    cases e : toPs n ds with
    | none => rw [e] at h; cases h
    | some q =>
      rw [e] at h
      cases h
      obtain ⟨a, b⟩ := toPs_plain (toP_plain n) e
      refine ⟨a, ?_⟩
      show PyData.depthAll q + 1 ≤ n + 1 + 1
      omega
section
variable {N : Addr → Prop} {H : Hp}
theorem toPs_dp {n : Nat} (ih : ∀ d p v, toP n d = some p → Re c N H v d → Dp c.K H v p) : ∀ {ds : List D} {q : List PyData} {vs : List V}, toPs n ds = some q → Rp c N H vs ds → DpAll c.K H vs q
  | [], q, vs, h, r => by cases h; cases r; exact .nil
  | d :: ds, q, [], h, r => by cases r
  | d :: ds, q, v :: vs, h, r => by
    obtain ⟨p, t, h1, h2, rfl⟩ := toPs_cons h
    exact .cons (ih d p v h1 r.unc.1) (toPs_dp ih h2 r.unc.2)
theorem toP_dp : ∀ (n : Nat) (d : D) (p : PyData) (v : V), toP n d = some p → Re c N H v d → Dp c.K H v p
  | n, .non, p, v, h, r => by rw [r.of_non]; cases n <;> (cases h; exact .non)
  | n, .bl b, p, v, h, r => by rw [r.of_bl]; cases n <;> (cases h; exact .bl _)
  | n, .int b, p, v, h, r => by rw [r.of_int]; cases n <;> (cases h; exact .int _)
  | n, .str b, p, v, h, r => by rw [r.of_str]; cases n <;> (cases h; exact .str _)
  | 0, .tup ds, p, v, h, r => by cases h
  | 0, .lst ds, p, v, h, r => by cases h
  | n + 1, .tup ds, p, v, h, r => by
    have h : (toPs n ds).map PyData.tuple = some p := h
    obtain ⟨a, us, rfl, _, e, r2⟩ := r.of_tup
    cases q : toPs n ds with
    | none => rw [q] at h; cases h
    | some w =>
      rw [q] at h
      cases h
      exact .tup (.of e) (toPs_dp (toP_dp n) q r2)
  | n + 1, .lst ds, p, v, h, r => by
    have h : (toPs n ds).map PyData.list = some p := h
    obtain ⟨a, us, rfl, _, e, r2⟩ := r.of_lst
    cases q : toPs n ds with
    | none => rw [q] at h; cases h
    | some w =>
      rw [q] at h
      cases h
      exact .lst (.of e) (toPs_dp (toP_dp n) q r2)
  | n, .dK _, p, v, h, r => by cases n <;> cases h
  | n, .dT _, p, v, h, r => by cases n <;> cases h
  | n, .obj _ _, p, v, h, r => by cases n <;> cases h
  | n, .fn _, p, v, h, r => by cases n <;> cases h
  | n, .fz false _, p, v, h, r => by cases n <;> cases h
  | 0, .fz true _, p, v, h, r => by cases h
  | n + 1, .fz true ds, p, v, h, r => by
    have h : (toPs n ds).map PyData.tuple = some p := h
    obtain ⟨a, us, rfl, e, r2⟩ := r.of_fzT
    cases q : toPs n ds with
    | none => rw [q] at h; cases h
    | some w =>
      rw [q] at h
      cases h
      exact .tup e (toPs_dp (toP_dp n) q r2)
theorem toP_bor {n : Nat} {d : D} {p : PyData} {v : V} (h : toP n d = some p) (r : Bor c N H v d) : Dp c.K H v p := by
  cases d with
  | lst ds =>
    cases n with
    | zero => cases h
    | succ n =>
      have h : (toPs n ds).map PyData.list = some p := h
      obtain ⟨a, us, rfl, e, r2⟩ := r
      cases q : toPs n ds with
      | none => rw [q] at h; cases h
      | some w =>
        rw [q] at h
        cases h
        exact .lst (.of e) (toPs_dp (toP_dp n) q r2)
  | dK _ => cases n <;> cases h
  | dT _ => cases n <;> cases h
  | _ => exact toP_dp n _ _ _ h r
end
/-- a == b of plain data -/
def rEqP (K : PySem.W.Frag) : R2 := fun x y H Q => ∃ d e, Dp K H x d ∧ Dp K H y e ∧ d.plain = true ∧ e.plain = true ∧ d.depth ≤ 40 ∧ e.depth ≤ 40 ∧ Q (.bl (PyData.eqv d e)) H
def rNeP (K : PySem.W.Frag) : R2 := fun x y H Q => ∃ d e, Dp K H x d ∧ Dp K H y e ∧ d.plain = true ∧ e.plain = true ∧ d.depth ≤ 40 ∧ e.depth ≤ 40 ∧ Q (.bl (!PyData.eqv d e)) H
theorem op_eqP (hu : X.A.units + 64 < cLine) : OpR X (compareOp .Eq) (rEqP X.K) := by
  intro pins s σ H x y v u Q I rx ry h
  obtain ⟨d, e, hd, he, sd, se, l1, l2, q⟩ := h
  obtain ⟨as, r1⟩ := Dp.reads I d x v hd rx
  obtain ⟨bs, r2⟩ := Dp.reads I e y u he ry
  exact PySem.SeqAt.eq_plain r1 r2 sd se (by omega) ⟨.bl _, H, I, rfl, q⟩
theorem op_neP (hu : X.A.units + 64 < cLine) : OpR X (compareOp .NotEq) (rNeP X.K) := by
  intro pins s σ H x y v u Q I rx ry h
  obtain ⟨d, e, hd, he, sd, se, l1, l2, q⟩ := h
  obtain ⟨as, r1⟩ := Dp.reads I d x v hd rx
  obtain ⟨bs, r2⟩ := Dp.reads I e y u he ry
  exact PySem.SeqAt.ne_plain r1 r2 sd se (by omega) ⟨.bl _, H, I, rfl, q⟩
def dEqv (d e : D) : Option Bool := match toP 32 d, toP 32 e with
  | some p, some q => some (PyData.eqv p q)
  | _, _ => none
theorem dEqv_some {d e : D} {b : Bool} (h : dEqv d e = some b) : ∃ p q, toP 32 d = some p ∧ toP 32 e = some q ∧ b = PyData.eqv p q := by
  unfold dEqv at h
  split at h
  · cases h; exact ⟨_, _, by assumption, by assumption, rfl⟩
  · cases h
def dEq (d e : D) : R D := match dEqv d e with
  | some b => ok (.bl b)
  | none => none
def dNe (d e : D) : R D := match dEqv d e with
  | some b => ok (.bl (!b))
  | none => none
theorem r2_eq : R2Ok c W .dur (rEqP c.K) dEq := fun Γ σ ρ H x y d e res Q er hx hy h p => by
  unfold dEq at h
  split at h
  · rename_i b hb
    cases h
    obtain ⟨p1, p2, h1, h2, rfl⟩ := dEqv_some hb
    obtain ⟨a1, b1⟩ := toP_plain _ _ _ h1
    obtain ⟨a2, b2⟩ := toP_plain _ _ _ h2
    exact ⟨_, _, toP_bor h1 hx, toP_bor h2 hy, a1, a2, by omega, by omega, fin_bl p er⟩
  · cases h
theorem r2_ne : R2Ok c W .dur (rNeP c.K) dNe := fun Γ σ ρ H x y d e res Q er hx hy h p => by
  unfold dNe at h
  split at h
  · rename_i b hb
    cases h
    obtain ⟨p1, p2, h1, h2, rfl⟩ := dEqv_some hb
    obtain ⟨a1, b1⟩ := toP_plain _ _ _ h1
    obtain ⟨a2, b2⟩ := toP_plain _ _ _ h2
    exact ⟨_, _, toP_bor h1 hx, toP_bor h2 hy, a1, a2, by omega, by omega, fin_bl p er⟩
  · cases h
def dCmp (f : Int → Int → Bool) : D → D → R D
  | .int a, .int b => ok (.bl (f a b))
  | _, _ => none
theorem r2_cmp {f : Int → Int → Bool} : R2Ok c W .dur (rI0 fun i j => .bl (f i j)) (dCmp f) := fun Γ σ ρ H x y d e res Q er hx hy h p => by
  cases d <;> cases e <;> first | (cases h; done) | skip
  cases h
  rw [hx.int, hy.int]
  exact ⟨_, _, rfl, rfl, fin_bl p er⟩
abbrev dLt := dCmp fun i j => decide (i < j)
abbrev dLe := dCmp fun i j => decide (i ≤ j)
abbrev dGt := dCmp fun i j => decide (j < i)
abbrev dGe := dCmp fun i j => decide (j ≤ i)
def isNon : D → Bool
  | .non => true
  | _ => false
def dIsN (d e : D) : R D := match e with
  | .non => ok (.bl (isNon d))
  | .bl b => (match d with
    | .bl a => ok (.bl (decide (a = b)))
    | _ => none)
  | _ => none
def dNotN (d e : D) : R D := match e with
  | .non => ok (.bl (!isNon d))
  | .bl b => (match d with
    | .bl a => ok (.bl (!decide (a = b)))
    | _ => none)
  | _ => none
theorem isn_of {N : Addr → Prop} {H : Hp} {v : V} {d : D} (h : Bor c N H v d) : decide (v = .non) = isNon d := by
  cases d with
  | non => rw [h.non]; rfl
  | lst _ => obtain ⟨a, us, rfl, _⟩ := h; rfl
  | dK _ => obtain ⟨a, us, rfl, _⟩ := h; rfl
  | dT _ => obtain ⟨a, us, rfl, _⟩ := h; rfl
  | _ => cases h <;> rfl
theorem r2_isN : R2Ok c W .dur (fun x y H Q => (y = .non ∧ Q (.bl (decide (x = .non))) H) ∨ rIsB x y H Q) dIsN := fun Γ σ ρ H x y d e res Q er hx hy h p => by
  cases e <;> first | (cases h; done) | skip
  · cases h
    refine .inl ⟨hy.non, ?_⟩
    rw [isn_of hx]
    exact fin_bl p er
  · cases d <;> first | (cases h; done) | skip
    cases h
    exact .inr ⟨_, _, hx.bl, hy.bl, fin_bl p er⟩
theorem r2_notN : R2Ok c W .dur (fun x y H Q => (y = .non ∧ Q (.bl (!decide (x = .non))) H) ∨ rNotB x y H Q) dNotN := fun Γ σ ρ H x y d e res Q er hx hy h p => by
  cases e <;> first | (cases h; done) | skip
  · cases h
    refine .inl ⟨hy.non, ?_⟩
    rw [isn_of hx]
    exact fin_bl p er
  · cases d <;> first | (cases h; done) | skip
    cases h
    exact .inr ⟨_, _, hx.bl, hy.bl, fin_bl p er⟩
/-- a comparison's rule: how it is compared, what it gives -/
structure Cmp (X : Cx) (c : Conf) (W : WX) (op : CmpOp) (f : D → D → R D) : Prop where
  ex : ∃ r : R2, OpR X (compareOp op) r ∧ R2Ok c W .dur r f
theorem q_eq (hu : X.A.units + 64 < cLine) (hK : c.K = X.K := by rfl) : Cmp X c W .Eq dEq := ⟨_, op_eqP hu, by rw [← hK]; exact r2_eq⟩
theorem q_ne (hu : X.A.units + 64 < cLine) (hK : c.K = X.K := by rfl) : Cmp X c W .NotEq dNe := ⟨_, op_neP hu, by rw [← hK]; exact r2_ne⟩
theorem q_lt : Cmp X c W .Lt dLt := ⟨_, op_lt, r2_cmp⟩
theorem q_le : Cmp X c W .LtE dLe := ⟨_, op_le, r2_cmp⟩
theorem q_gt : Cmp X c W .Gt dGt := ⟨_, op_gt, r2_cmp⟩
theorem q_ge : Cmp X c W .GtE dGe := ⟨_, op_ge, r2_cmp⟩
theorem q_isN : Cmp X c W .Is dIsN := ⟨_, op_isN.or op_isBl, r2_isN⟩
theorem q_notN : Cmp X c W .IsNot dNotN := ⟨_, op_notN.or op_notBl, r2_notN⟩
def mTst (m : ME) : MT := fun ρ => bnd (m ρ) fun d => match d with
  | .bl b => ok b
  | _ => none
theorem tst_of {m : ME} {t : TE} (i : ∀ σ H Q, tE c W .dur m σ H Q → t σ H Q) {σ : L2.St} {H : Hp} {Q : Bool → Hp → Prop} (h : tT c W (mTst m) σ H Q) : tTest t σ H Q := by
  obtain ⟨Γ, ρ, r, e, em, p⟩ := h
  refine i _ _ _ (use e em p.err fun d v H1 h1 s1 r1 => ?_)
  split at h1
  · cases h1
    rw [r1.2.of_bl]
    exact ⟨_, rfl, p _ s1 r1.1⟩
  · cases h1
theorem d_cmp {op : CmpOp} {f : D → D → R D} {a b : Expr} {ma mb : ME} {pos : Pos} (q : Cmp X c W op f) (ha : PE X a (tE c W .bor ma)) (hb : PE X b (tE c W .bor mb)) (hm : behindInMarks op b = false := by first | exact nomark _ | rfl | with_unfolding_all rfl) :
    PE X (.Compare a [op] [b] pos) (tE c W .dur (mBin f ma mb)) := by
  obtain ⟨r, ho, hr⟩ := q.ex
  exact (pe_cmpR ho ha hb hm).via fun _ _ _ h => tOp_ok hr h
theorem t_cmp {op : CmpOp} {f : D → D → R D} {a b : Expr} {ma mb : ME} {pos : Pos} (q : Cmp X c W op f) (ha : PE X a (tE c W .bor ma)) (hb : PE X b (tE c W .bor mb)) (hm : behindInMarks op b = false := by first | exact nomark _ | rfl | with_unfolding_all rfl) :
    PT X (.Compare a [op] [b] pos) (tT c W (mTst (mBin f ma mb))) := by
  obtain ⟨r, ho, hr⟩ := q.ex
  exact (pt_cmpR ho ha hb hm).via fun _ _ _ h => tst_of (fun _ _ _ h => tOp_ok hr h) h
/-- a chain of comparisons, behind its first item -/
def mCh : D → List ((D → D → R D) × ME) → ME
  | _, [], _ => ok (.bl true)
  | d, fm :: l, ρ => bnd (fm.2 ρ) fun e => bnd (fm.1 d e) fun b => match b with
    | .bl true => mCh e l ρ
    | .bl false => ok (.bl false)
    | _ => none
structure CH (X : Cx) (c : Conf) (W : WX) (ops : List CmpOp) (es : List Expr) (l : List ((D → D → R D) × ME)) : Prop where
  ne : ∃ o os, ops = o :: os
  ne2 : ∃ o os, es = o :: os
  val : ∀ (pos : Pos) (pins : List (Addr × Obj)) (s : Shared) (σ : L2.St) (H : Hp) (Q : VK) (Γ : Gam) (ρ : Ro) (r : Except EN D) (x : V) (d : D) (v : Value), Inv X pins σ H s → RelV x v → ER c Γ σ H ρ → Bor c (NN Γ σ ρ) H x d → mCh d l ρ = some r →
    PostE c W .dur Γ σ ρ H Q r → wpAny (model X.prog X.w) X.A (compareChain pos v ops (es.map fun e => eval e X.env)) (EP X pins σ Q) X.xe s
  tst : ∀ (pos : Pos) (pins : List (Addr × Obj)) (s : Shared) (σ : L2.St) (H : Hp) (Q : Bool → Hp → Prop) (Γ : Gam) (ρ : Ro) (r : Except EN Bool) (x : V) (d : D) (v : Value), Inv X pins σ H s → RelV x v → ER c Γ σ H ρ → Bor c (NN Γ σ ρ) H x d → mTst (mCh d l) ρ = some r →
    PostT c W Γ σ ρ H Q r → wpAny (model X.prog X.w) X.A (testChain pos v ops (es.map fun e => eval e X.env)) (TP X pins σ Q) X.xe s
theorem ch_one {op : CmpOp} {f : D → D → R D} {b : Expr} {mb : ME} (q : Cmp X c W op f) (hb : PE X b (tE c W .bor mb)) : CH X c W [op] [b] [(f, mb)] := by
  obtain ⟨R, ho, hr⟩ := q.ex
  refine ⟨⟨_, _, rfl⟩, ⟨_, _, rfl⟩, fun pos pins s σ H Q Γ ρ r x d v I rx er bx em p => ?_, fun pos pins s σ H Q Γ ρ r x d v I rx er bx em p => ?_⟩
  · refine PyProof.Rows.chain_last (thn (hb.run pins s σ H (fun y H1 => R x y H1 Q) I (use er em p.err fun e y H1 h1 s1 r1 => ?_)) fun u s1 ⟨y, H1, I1, ry, q1⟩ => ho pins s1 σ H1 x y v u Q I1 rx ry q1)
    dsimp only at h1
    cases z : f d e with
    | none => rw [z] at h1; cases h1
    | some w =>
      rw [z] at h1
      refine hr Γ σ ρ H1 x y d e w Q r1.1 (bx.same s1) r1.2 z ?_
      cases w with
      | error x => cases h1; exact p
      | ok g =>
        cases g <;> first | (cases h1; done) | skip
        rename_i k
        cases k with
        | true => cases h1; exact p.mono s1
        | false => cases h1; exact p.mono s1
  · unfold mTst at em
    have pe := p.err
    refine PyProof.Rows.test_last (thn (hb.run pins s σ H (fun y H1 => R x y H1 fun z H2 => ∃ k, z = .bl k ∧ Q k H2) I ?_) fun u s1 ⟨y, H1, I1, ry, q1⟩ => thn (ho pins s1 σ H1 x y v u _ I1 rx ry q1) fun z s2 ⟨z', H2, I2, rz, k, ek, q2⟩ => ?_)
    · cases em2 : mb ρ with
      | none => simp only [mCh, em2, bnd] at em; cases em
      | some w =>
        cases w with
        | error x =>
          simp only [mCh, em2, bnd] at em
          cases em
          exact ⟨Γ, ρ, _, er, em2, pe _ rfl⟩
        | ok e =>
          refine ⟨Γ, ρ, _, er, em2, fun y H1 s1 r1 => ?_⟩
          simp only [mCh, em2, bnd] at em
          cases z : f d e with
          | none => rw [z] at em; cases em
          | some w =>
            rw [z] at em
            refine hr Γ σ ρ H1 x y d e w _ r1.1 (bx.same s1) r1.2 z ?_
            cases w with
            | error x => cases em; exact p
            | ok g =>
              intro v2 H2 s2 r2
              cases g <;> first | (cases em; done) | skip
              rename_i k
              cases k with
              | true => cases em; rw [r2.2.of_bl]; exact ⟨_, rfl, p _ (s1.trans s2) r2.1⟩
              | false => cases em; rw [r2.2.of_bl]; exact ⟨_, rfl, p _ (s1.trans s2) r2.1⟩
    · subst ek
      cases rz
      exact wpAny_truthy_bool ⟨H2, I2, q2⟩
theorem ch_more {op : CmpOp} {f : D → D → R D} {b : Expr} {mb : ME} {ops : List CmpOp} {es : List Expr} {l : List ((D → D → R D) × ME)} (q : Cmp X c W op f) (hb : PE X b (tE c W .bor mb)) (t : CH X c W ops es l) : CH X c W (op :: ops) (b :: es) ((f, mb) :: l) := by
  obtain ⟨R, ho, hr⟩ := q.ex
  obtain ⟨o1, os1, rfl⟩ := t.ne
  obtain ⟨e1, es1, rfl⟩ := t.ne2
  refine ⟨⟨_, _, rfl⟩, ⟨_, _, rfl⟩, fun pos pins s σ H Q Γ ρ r x d v I rx er bx em p => ?_, fun pos pins s σ H Q Γ ρ r x d v I rx er bx em p => ?_⟩
  · refine PyProof.Rows.chain_link (thn (hb.run pins s σ H (fun y H1 => R x y H1 fun z H2 => ∃ k, z = .bl k ∧ if k = true then ∃ e, mCh e l ρ = some r ∧ ER c Γ σ H2 ρ ∧ Bor c (NN Γ σ ρ) H2 y e ∧ Same H H2 else Q (.bl false) H2) I (use er em p.err fun e y H1 h1 s1 r1 => ?_)) fun u s1 ⟨y, H1, I1, ry, q1⟩ =>
      thn (ho pins s1 σ H1 x y v u _ I1 rx ry q1) fun z s2 ⟨z', H2, I2, rz, k, ek, q2⟩ => ?_)
    · dsimp only at h1
      cases z : f d e with
      | none => rw [z] at h1; cases h1
      | some w =>
        rw [z] at h1
        refine hr Γ σ ρ H1 x y d e w _ r1.1 (bx.same s1) r1.2 z ?_
        cases w with
        | error x => cases h1; exact p
        | ok g =>
          intro v2 H2 s2 r2
          cases g <;> first | (cases h1; done) | skip
          rename_i k
          rw [r2.2.of_bl]
          refine ⟨_, rfl, ?_⟩
          cases k with
          | true => exact ⟨e, h1, r2.1, r1.2.same s2, s1.trans s2⟩
          | false =>
            cases h1
            exact fin_bl (p.mono (s1.trans s2)) r2.1
    · subst ek
      cases rz
      refine wpAny_truthy_bool ?_
      cases k with
      | false => exact PyProof.Rows.ite_ff ⟨.bl false, H2, I2, rfl, q2⟩
      | true =>
        obtain ⟨e, h1, e1, b1, sm⟩ := q2
        exact PyProof.Rows.ite_tt (t.val pos pins s2 σ H2 Q Γ ρ r y e u I2 ry e1 b1 h1 (p.mono sm))
  · have pe := p.err
    refine PyProof.Rows.test_link (thn (hb.run pins s σ H (fun y H1 => R x y H1 fun z H2 => ∃ k, z = .bl k ∧ if k = true then ∃ e, mTst (mCh e l) ρ = some r ∧ ER c Γ σ H2 ρ ∧ Bor c (NN Γ σ ρ) H2 y e ∧ Same H H2 else Q false H2) I ?_) fun u s1 ⟨y, H1, I1, ry, q1⟩ =>
      thn (ho pins s1 σ H1 x y v u _ I1 rx ry q1) fun z s2 ⟨z', H2, I2, rz, k, ek, q2⟩ => ?_)
    · cases em2 : mb ρ with
      | none => simp only [mTst, mCh, em2, bnd] at em; cases em
      | some w =>
        cases w with
        | error x =>
          simp only [mTst, mCh, em2, bnd] at em
          cases em
          exact ⟨Γ, ρ, _, er, em2, pe _ rfl⟩
        | ok e =>
          refine ⟨Γ, ρ, _, er, em2, fun y H1 s1 r1 => ?_⟩
          simp only [mTst, mCh, em2, bnd] at em
          cases z : f d e with
          | none => rw [z] at em; cases em
          | some w =>
            rw [z] at em
            refine hr Γ σ ρ H1 x y d e w _ r1.1 (bx.same s1) r1.2 z ?_
            cases w with
            | error x => cases em; exact p
            | ok g =>
              intro v2 H2 s2 r2
              cases g <;> first | (cases em; done) | skip
              rename_i k
              rw [r2.2.of_bl]
              refine ⟨_, rfl, ?_⟩
              cases k with
              | true => exact ⟨e, em, r2.1, r1.2.same s2, s1.trans s2⟩
              | false =>
                cases em
                exact p _ (s1.trans s2) r2.1
    · subst ek
      cases rz
      refine wpAny_truthy_bool ?_
      cases k with
      | false => exact PyProof.Rows.ite_ff ⟨H2, I2, q2⟩
      | true =>
        obtain ⟨e, h1, e1, b1, sm⟩ := q2
        exact PyProof.Rows.ite_tt (t.tst pos pins s2 σ H2 Q Γ ρ r y e u I2 ry e1 b1 h1 (p.mono sm))
def mChain (ma : ME) (l : List ((D → D → R D) × ME)) : ME := fun ρ => bnd (ma ρ) fun d => mCh d l ρ
theorem d_chain {a b1 b2 : Expr} {ma : ME} {op1 op2 : CmpOp} {ops : List CmpOp} {es : List Expr} {l : List ((D → D → R D) × ME)} {pos : Pos} (ha : PE X a (tE c W .bor ma)) (t : CH X c W (op1 :: op2 :: ops) (b1 :: b2 :: es) l)
    (he : evalEach es X.env = es.map (fun e => eval e X.env) := by rfl) (hm : lastMarks (op1 :: op2 :: ops) (b1 :: b2 :: es) = false := by with_unfolding_all rfl) : PE X (.Compare a (op1 :: op2 :: ops) (b1 :: b2 :: es) pos) (tE c W .dur (mChain ma l)) := by
  refine ⟨fun pins s σ H Q I ⟨Γ, ρ, r, er, em, p⟩ => ?_⟩
  refine PyProof.Rows.Compare_chain (thn (ha.run pins s σ H (fun x H1 => ∃ d, mCh d l ρ = some r ∧ ER c Γ σ H1 ρ ∧ Bor c (NN Γ σ ρ) H1 x d ∧ Same H H1) I (use er em p.err fun d x H1 h1 s1 r1 => ⟨d, h1, r1.1, r1.2, s1⟩)) fun v s1 ⟨x, H1, I1, rx, d, h1, e1, bx, sm⟩ => ?_) hm
  rw [he]
  exact t.val pos pins s1 σ H1 Q Γ ρ r x d v I1 rx e1 bx h1 (p.mono sm)
theorem t_chain {a b1 b2 : Expr} {ma : ME} {op1 op2 : CmpOp} {ops : List CmpOp} {es : List Expr} {l : List ((D → D → R D) × ME)} {pos : Pos} (ha : PE X a (tE c W .bor ma)) (t : CH X c W (op1 :: op2 :: ops) (b1 :: b2 :: es) l)
    (he : evalEach es X.env = es.map (fun e => eval e X.env) := by rfl) (hm : lastMarks (op1 :: op2 :: ops) (b1 :: b2 :: es) = false := by with_unfolding_all rfl) : PT X (.Compare a (op1 :: op2 :: ops) (b1 :: b2 :: es) pos) (tT c W (mTst (mChain ma l))) := by
  refine ⟨fun pins s σ H Q I ⟨Γ, ρ, r, er, em, p⟩ => ?_⟩
  have em' : bnd (ma ρ) (fun d => mTst (mCh d l) ρ) = some r := by
    unfold mTst mChain at em
    unfold mTst
    cases z : ma ρ with
    | none => rw [z] at em; cases em
    | some w =>
      rw [z] at em
      cases w with
      | error x => exact em
      | ok d => exact em
  refine PyProof.Rows.isTrue_chain (thn (ha.run pins s σ H (fun x H1 => ∃ d, mTst (mCh d l) ρ = some r ∧ ER c Γ σ H1 ρ ∧ Bor c (NN Γ σ ρ) H1 x d ∧ Same H H1) I (use er em' p.err fun d x H1 h1 s1 r1 => ⟨d, h1, r1.1, r1.2, s1⟩)) fun v s1 ⟨x, H1, I1, rx, d, h1, e1, bx, sm⟩ => ?_) hm
  rw [he]
  exact t.tst pos pins s1 σ H1 Q Γ ρ r x d v I1 rx e1 bx h1 (p.mono sm)

/-! ### and, or, not -/
def mAndT (m n : MT) : MT := fun ρ => bnd (m ρ) fun b => match b with
  | true => n ρ
  | false => ok false
def mOrT (m n : MT) : MT := fun ρ => bnd (m ρ) fun b => match b with
  | true => ok true
  | false => n ρ
def mNotT (m : MT) : MT := fun ρ => bnd (m ρ) fun b => ok (!b)
theorem w_and1 {a : Expr} {ma : MT} {pos : Pos} (ha : PT X a (tT c W ma)) : PW X (.BoolOp .And [a] pos) (tT c W ma) := pw_and1 ha
theorem w_or1 {a : Expr} {ma : MT} {pos : Pos} (ha : PT X a (tT c W ma)) : PW X (.BoolOp .Or [a] pos) (tT c W ma) := pw_or1 ha
theorem w_and {a b : Expr} {rest : List Expr} {ma mb : MT} {pos : Pos} (ha : PT X a (tT c W ma)) (hb : PW X (.BoolOp .And (b :: rest) pos) (tT c W mb)) : PW X (.BoolOp .And (a :: b :: rest) pos) (tT c W (mAndT ma mb)) :=
  PW.via (pw_and ha hb) fun σ H Q ⟨Γ, ρ, r, er, em, p⟩ => useT er em p.err fun k H1 h1 s1 e1 => by
    cases k with
    | false => cases h1; rw [if_neg Bool.false_ne_true]; exact p _ s1 e1
    | true => rw [if_pos rfl]; exact ⟨Γ, ρ, r, e1, h1, p.mono s1⟩
theorem w_or {a b : Expr} {rest : List Expr} {ma mb : MT} {pos : Pos} (ha : PT X a (tT c W ma)) (hb : PW X (.BoolOp .Or (b :: rest) pos) (tT c W mb)) : PW X (.BoolOp .Or (a :: b :: rest) pos) (tT c W (mOrT ma mb)) :=
  PW.via (pw_or ha hb) fun σ H Q ⟨Γ, ρ, r, er, em, p⟩ => useT er em p.err fun k H1 h1 s1 e1 => by
    cases k with
    | true => cases h1; rw [if_pos rfl]; exact p _ s1 e1
    | false => rw [if_neg Bool.false_ne_true]; exact ⟨Γ, ρ, r, e1, h1, p.mono s1⟩
theorem t_not {a : Expr} {ma : MT} {pos : Pos} (ha : PT X a (tT c W ma)) : PT X (.UnaryOp .Not a pos) (tT c W (mNotT ma)) :=
  PT.via (pt_not ha) fun σ H Q ⟨Γ, ρ, r, er, em, p⟩ => useT er em p.err fun k H1 h1 s1 e1 => by
    cases h1; exact p _ s1 e1
theorem t_val {e : Expr} {m : ME} (h : PE X e (tE c W .dur m)) (he : ∀ whole, isTrue e X.env whole = (do let v ← whole; standAt e.pos; holding [v] (truthy v)) := by intro _; rfl) : PT X e (tT c W (mTst m)) :=
  PT.via (pt_val h he) fun _ _ _ q => tst_of (fun _ _ _ h => h) q
/-- as values, bools -/
def mAnd (m n : ME) : ME := fun ρ => bnd (m ρ) fun d => match d with
  | .bl true => n ρ
  | .bl false => ok (.bl false)
  | _ => none
def mOr (m n : ME) : ME := fun ρ => bnd (m ρ) fun d => match d with
  | .bl true => ok (.bl true)
  | .bl false => n ρ
  | _ => none
def dNot : D → R D
  | .bl b => ok (.bl (!b))
  | _ => none
theorem d_one {op : BoolOp} {a : Expr} {ma : ME} {pos : Pos} (ha : PE X a (tE c W .dur ma)) : PE X (.BoolOp op [a] pos) (tE c W .dur ma) := pe_one ha
theorem d_and {a b : Expr} {rest : List Expr} {ma mb : ME} {pos : Pos} (ha : PE X a (tE c W .dur ma)) (hb : PE X (.BoolOp .And (b :: rest) pos) (tE c W .dur mb)) : PE X (.BoolOp .And (a :: b :: rest) pos) (tE c W .dur (mAnd ma mb)) :=
  PE.via (pe_and ha hb) fun σ H Q ⟨Γ, ρ, r, er, em, p⟩ => use er em p.err fun d v H1 h1 s1 r1 => by
    cases d <;> first | (cases h1; done) | skip
    rename_i k
    rw [r1.2.of_bl]
    refine ⟨k, rfl, ?_⟩
    cases k with
    | false => cases h1; rw [if_neg Bool.false_ne_true]; exact fin_bl (p.mono s1) r1.1
    | true => rw [if_pos rfl]; exact ⟨Γ, ρ, r, r1.1, h1, p.mono s1⟩
theorem d_or {a b : Expr} {rest : List Expr} {ma mb : ME} {pos : Pos} (ha : PE X a (tE c W .dur ma)) (hb : PE X (.BoolOp .Or (b :: rest) pos) (tE c W .dur mb)) : PE X (.BoolOp .Or (a :: b :: rest) pos) (tE c W .dur (mOr ma mb)) :=
  PE.via (pe_or ha hb) fun σ H Q ⟨Γ, ρ, r, er, em, p⟩ => use er em p.err fun d v H1 h1 s1 r1 => by
    cases d <;> first | (cases h1; done) | skip
    rename_i k
    rw [r1.2.of_bl]
    refine ⟨k, rfl, ?_⟩
    cases k with
    | true => cases h1; rw [if_pos rfl]; exact fin_bl (p.mono s1) r1.1
    | false => rw [if_neg Bool.false_ne_true]; exact ⟨Γ, ρ, r, r1.1, h1, p.mono s1⟩
theorem d_not {a : Expr} {ma : ME} {pos : Pos} (ha : PE X a (tE c W .dur ma)) : PE X (.UnaryOp .Not a pos) (tE c W .dur (mUn dNot ma)) :=
  PE.via (pe_not ha) fun σ H Q ⟨Γ, ρ, r, er, em, p⟩ => use er em p.err fun d v H1 h1 s1 r1 => by
    cases d <;> first | (cases h1; done) | skip
    rename_i k
    cases h1
    rw [r1.2.of_bl]
    exact ⟨k, rfl, fin_bl (p.mono s1) r1.1⟩
end
end DL

set_option Elab.async false
set_option linter.all false
set_option maxRecDepth 100000
set_option maxHeartbeats 2000000
set_option autoImplicit false
/-! DLc: dicts by keys, in, subscripts, slices, displays, arguments, calls of built-ins by values. -/
namespace DL
open PySem L2

/-! ### keys -/
section
variable {κ : Type} [DecidableEq κ]
def lkD (kds : List (κ × D)) (k : κ) : Option D := (kds.find? fun kd => decide (kd.1 = k)).map (·.2)
def ptD (kds : List (κ × D)) (k : κ) (d : D) : List (κ × D) :=
  if (kds.any fun kd => decide (kd.1 = k)) = true then kds.map (fun kd => if kd.1 = k then (kd.1, d) else kd) else kds ++ [(k, d)]
theorem lk_rel {c : Conf} {N : Addr → Prop} {H : Hp} : ∀ {kvs : List (κ × V)} {kds : List (κ × D)}, kvs.map (·.1) = kds.map (·.1) → Rp c N H (kvs.map (·.2)) (kds.map (·.2)) → ∀ k, (∃ v d, valV kvs k = some v ∧ lkD kds k = some d ∧ Re c N H v d) ∨ (valV kvs k = none ∧ lkD kds k = none)
  | [], [], _, _, k => .inr ⟨rfl, rfl⟩
  | [], _ :: _, e, _, _ => by simp at e
  | _ :: _, [], e, _, _ => by simp at e
  | (k1, v) :: kvs, (k2, d) :: kds, e, r, k => by
    simp only [List.map_cons, List.cons.injEq] at e
    obtain ⟨e1, e2⟩ := e
    subst e1
    have r : Rp c N H (v :: kvs.map (·.2)) (d :: kds.map (·.2)) := r
    by_cases z : k1 = k
    · exact .inl ⟨v, d, valV_pos z, by simp [lkD, List.find?_cons, z], r.unc.1⟩
    · rcases lk_rel e2 r.unc.2 k with ⟨v', d', a, b, q⟩ | ⟨a, b⟩
      · exact .inl ⟨v', d', by rw [valV_neg z]; exact a, by simp only [lkD, List.find?_cons, z, decide_false]; exact b, q⟩
      · exact .inr ⟨by rw [valV_neg z]; exact a, by simp only [lkD, List.find?_cons, z, decide_false]; exact b⟩
theorem lk_some {c : Conf} {N : Addr → Prop} {H : Hp} {kvs : List (κ × V)} {kds : List (κ × D)} (e : kvs.map (·.1) = kds.map (·.1)) (r : Rp c N H (kvs.map (·.2)) (kds.map (·.2))) {k : κ} {d : D} (h : lkD kds k = some d) : ∃ v, valV kvs k = some v ∧ Re c N H v d := by
  rcases lk_rel e r k with ⟨v', d', a, b, q⟩ | ⟨a, b⟩
  · rw [h] at b
    cases b
    exact ⟨v', a, q⟩
  · rw [h] at b
    cases b
theorem lk_is {c : Conf} {N : Addr → Prop} {H : Hp} {kvs : List (κ × V)} {kds : List (κ × D)} (e : kvs.map (·.1) = kds.map (·.1)) (r : Rp c N H (kvs.map (·.2)) (kds.map (·.2))) (k : κ) : (valV kvs k).isSome = (lkD kds k).isSome := by
  rcases lk_rel e r k with ⟨v', d', a, b, q⟩ | ⟨a, b⟩ <;> rw [a, b] <;> rfl
theorem any_keys {α β : Type} {kvs : List (κ × α)} {kds : List (κ × β)} (e : kvs.map (·.1) = kds.map (·.1)) (k : κ) : (kvs.any fun kd => decide (kd.1 = k)) = (kds.any fun kd => decide (kd.1 = k)) := by
  have h1 : (kvs.any fun kd => decide (kd.1 = k)) = (kvs.map (·.1)).any fun x => decide (x = k) := by rw [List.any_map]; rfl
  have h2 : (kds.any fun kd => decide (kd.1 = k)) = (kds.map (·.1)).any fun x => decide (x = k) := by rw [List.any_map]; rfl
  rw [h1, h2, e]
theorem pt_rel {c : Conf} {N : Addr → Prop} {H : Hp} {kvs : List (κ × V)} {kds : List (κ × D)} (e : kvs.map (·.1) = kds.map (·.1)) (r : Rp c N H (kvs.map (·.2)) (kds.map (·.2))) (k : κ) {v : V} {d : D} (q : Re c N H v d) :
    (putK kvs k v).map (·.1) = (ptD kds k d).map (·.1) ∧ Rp c N H ((putK kvs k v).map (·.2)) ((ptD kds k d).map (·.2)) := by
  unfold putK ptD
  rw [any_keys e k]
  by_cases z : (kds.any fun kd => decide (kd.1 = k)) = true
  · rw [if_pos z, if_pos z]
    clear z
    induction kvs generalizing kds with
    | nil => cases kds with
      | nil => exact ⟨rfl, .nil⟩
      | cons _ _ => simp at e
    | cons p kvs ih => cases kds with
      | nil => simp at e
      | cons p' kds =>
        obtain ⟨k1, v1⟩ := p
        obtain ⟨k2, d1⟩ := p'
        simp only [List.map_cons, List.cons.injEq] at e
        obtain ⟨e1, e2⟩ := e
        subst e1
        have r : Rp c N H (v1 :: kvs.map (·.2)) (d1 :: kds.map (·.2)) := r
        obtain ⟨i1, i2⟩ := ih e2 r.unc.2
        by_cases w : k1 = k
        · subst w
          refine ⟨by simp only [List.map_cons, if_true, i1], ?_⟩
          simp only [List.map_cons, if_true]
          exact .cons q i2
        · refine ⟨by simp only [List.map_cons, if_neg w, i1], ?_⟩
          simp only [List.map_cons, if_neg w]
          exact .cons r.unc.1 i2
  · rw [if_neg z, if_neg z]
    refine ⟨by simp [e], ?_⟩
    rw [List.map_append, List.map_append]
    exact r.app (.cons q .nil)
theorem ptD_len (kds : List (κ × D)) (k : κ) (d : D) : (ptD kds k d).length ≤ kds.length + 1 := by
  unfold ptD
  split <;> simp
end
def keyD : D → Option Key
  | .int i => some (.inl i)
  | .str s => some (.inr s)
  | _ => none
def tkD : D → Option (List Key)
  | .tup ds => ds.mapM keyD
  | _ => none
section
variable {c : Conf} {N : Addr → Prop} {H : Hp}
theorem keyD_v {d : D} {k : Key} {v : V} (h : keyD d = some k) (r : Bor c N H v d) : v = kV k := by
  cases d <;> first | (cases h; done) | skip
  · cases h; exact r.int
  · cases h; exact r.str
theorem keysD_v : ∀ {ds : List D} {ks : List Key} {vs : List V}, ds.mapM keyD = some ks → Rp c N H vs ds → vs = ks.map kV
  | [], ks, vs, h, r => by
    cases h
    cases r
    rfl
  | d :: ds, ks, [], h, r => by cases r
  | d :: ds, ks, v :: vs, h, r => by
    rw [List.mapM_cons] at h
    cases e : keyD d with
    | none => rw [e] at h; cases h
    | some k =>
      cases e2 : ds.mapM keyD with
      | none => simp only [e, e2] at h; cases h
      | some l =>
        simp only [e, e2] at h
        cases h
        rw [keyD_v e r.unc.1.bor, keysD_v e2 r.unc.2]
        rfl
theorem tkD_v {d : D} {ks : List Key} {v : V} (h : tkD d = some ks) (r : Bor c N H v d) : ∃ b, v = .ref b ∧ H b = some (.tup (ks.map kV)) := by
  cases d <;> first | (cases h; done) | skip
  obtain ⟨b, us, rfl, _, e, q⟩ := r.tup
  refine ⟨b, rfl, ?_⟩
  rw [e, keysD_v h q]
end

/-! ### in -/
section
variable {X : Cx} {c : Conf} {W : WX}
def dHas (x y : D) : Option Bool := match y with
  | .dK kds => (keyD x).map fun k => (lkD kds k).isSome
  | .dT kds => (tkD x).map fun k => (lkD kds k).isSome
  | .lst ds => (match toP 32 x, toPs 31 ds with | some p, some q => some (q.any fun y => PyData.eqv y p) | _, _ => none)
  | .tup ds => (match toP 32 x, toPs 31 ds with | some p, some q => some (q.any fun y => PyData.eqv y p) | _, _ => none)
  | .fz true ds => (match toP 32 x, toPs 31 ds with | some p, some q => some (q.any fun y => PyData.eqv y p) | _, _ => none)
  | .str b => (match x with
    | .str a => (match a.cps.toList with | [z] => some (decide (z ∈ b.cps.toList)) | _ => some (!(Builtin.Str.occurrences b a 0 b.length 1).isEmpty))
    | _ => none)
  | _ => none
def dIn (x y : D) : R D := match dHas x y with
  | some b => ok (.bl b)
  | none => none
def dNotIn (x y : D) : R D := match dHas x y with
  | some b => ok (.bl (!b))
  | none => none
def rHas (K : PySem.W.Frag) (f : Bool → Bool) : R2 := fun x y H Q =>
  (∃ a o, y = .ref a ∧ DGet H a x o ∧ Q (.bl (f o.isSome)) H) ∨
  (∃ d ds, Dp K H y (.list ds) ∧ Dp K H x d ∧ PyData.plainAll ds = true ∧ d.plain = true ∧ PyData.depthAll ds ≤ 40 ∧ Q (.bl (f (ds.any fun y => PyData.eqv y d))) H) ∨
  (∃ d ds, Dp K H y (.tuple ds) ∧ Dp K H x d ∧ PyData.plainAll ds = true ∧ d.plain = true ∧ PyData.depthAll ds ≤ 40 ∧ Q (.bl (f (ds.any fun y => PyData.eqv y d))) H) ∨
  (∃ (z : Nat) (b : Str), x = .str ⟨#[z]⟩ ∧ y = .str b ∧ Q (.bl (f (decide (z ∈ b.cps.toList)))) H) ∨
  (∃ i j, x = .str i ∧ y = .str j ∧ Q (.bl (f (!(Builtin.Str.occurrences j i 0 j.length 1).isEmpty))) H)
theorem op_has (hu : X.A.units + 64 < cLine) : OpR X (compareOp .In) (rHas X.K id) := by
  intro pins s σ H x y v u Q I rx ry h
  rcases h with ⟨a, o, rfl, g, q⟩ | ⟨d, ds, hy, hx, p1, p2, l, q⟩ | ⟨d, ds, hy, hx, p1, p2, l, q⟩ | ⟨z, b, rfl, rfl, q⟩ | ⟨i, j, rfl, rfl, q⟩
  · cases ry
    exact d_in (by omega) I g rx fun s' I' => ⟨.bl _, H, I', rfl, q⟩
  · obtain ⟨as, r1⟩ := Dp.reads I d x v hx rx
    obtain ⟨bs, r2⟩ := Dp.reads I (.list ds) y u hy ry
    exact PySem.SeqAt.in_list_data r2 r1 p1 p2 (by omega) ⟨.bl _, H, I, rfl, q⟩
  · obtain ⟨as, r1⟩ := Dp.reads I d x v hx rx
    obtain ⟨bs, r2⟩ := Dp.reads I (.tuple ds) y u hy ry
    exact PySem.SeqAt.in_tuple_data r2 r1 p1 p2 (by omega) ⟨.bl _, H, I, rfl, q⟩
  · exact op_in_sign pins s σ H _ _ v u Q I rx ry ⟨z, b, rfl, rfl, q⟩
  · exact op_in_str pins s σ H _ _ v u Q I rx ry ⟨i, j, rfl, rfl, q⟩
theorem op_hasnt (hu : X.A.units + 64 < cLine) : OpR X (compareOp .NotIn) (rHas X.K fun b => !b) := by
  intro pins s σ H x y v u Q I rx ry h
  rcases h with ⟨a, o, rfl, g, q⟩ | ⟨d, ds, hy, hx, p1, p2, l, q⟩ | ⟨d, ds, hy, hx, p1, p2, l, q⟩ | ⟨z, b, rfl, rfl, q⟩ | ⟨i, j, rfl, rfl, q⟩
  · cases ry
    exact d_notIn (by omega) I g rx fun s' I' => ⟨.bl _, H, I', rfl, q⟩
  · obtain ⟨as, r1⟩ := Dp.reads I d x v hx rx
    obtain ⟨bs, r2⟩ := Dp.reads I (.list ds) y u hy ry
    exact PySem.SeqAt.notIn_list_data r2 r1 p1 p2 (by omega) ⟨.bl _, H, I, rfl, q⟩
  · obtain ⟨as, r1⟩ := Dp.reads I d x v hx rx
    obtain ⟨bs, r2⟩ := Dp.reads I (.tuple ds) y u hy ry
    exact PySem.SeqAt.notIn_tuple_data r2 r1 p1 p2 (by omega) ⟨.bl _, H, I, rfl, q⟩
  · exact op_notIn_sign pins s σ H _ _ v u Q I rx ry ⟨z, b, rfl, rfl, q⟩
  · exact op_notIn_str pins s σ H _ _ v u Q I rx ry ⟨i, j, rfl, rfl, q⟩
theorem has_ok {f : Bool → Bool} {Γ : Gam} {σ : L2.St} {ρ : Ro} {H : Hp} {x y : V} {d e : D} {b : Bool} {Q : VK} (er : ER c Γ σ H ρ) (hx : Bor c (NN Γ σ ρ) H x d) (hy : Bor c (NN Γ σ ρ) H y e) (h : dHas d e = some b) (q : Q (.bl (f b)) H) : rHas c.K f x y H Q := by
  have pl : ∀ {p : PyData} {ds : List D} {q : List PyData}, toP 32 d = some p → toPs 31 ds = some q → PyData.plainAll q = true ∧ p.plain = true ∧ PyData.depthAll q ≤ 40 := fun h1 h2 => by
    obtain ⟨a1, b1⟩ := toP_plain _ _ _ h1
    obtain ⟨a2, b2⟩ := toPs_plain (toP_plain _) h2
    exact ⟨a2, a1, by omega⟩
  unfold dHas at h
  split at h
  · rename_i kds
    obtain ⟨k, hk, rfl⟩ := Option.map_eq_some_iff.mp h
    obtain ⟨a, kvs, rfl, rd, ek, r⟩ := hy
    refine .inl ⟨a, valV kvs k, rfl, .inl ⟨kvs, k, rd, keyD_v hk hx, rfl⟩, ?_⟩
    rw [lk_is ek r k]
    exact q
  · rename_i kds
    obtain ⟨k, hk, rfl⟩ := Option.map_eq_some_iff.mp h
    obtain ⟨a, kvs, rfl, rd, ek, r⟩ := hy
    obtain ⟨b', ev, eb⟩ := tkD_v hk hx
    refine .inl ⟨a, valV kvs k, rfl, .inr ⟨kvs, k, b', rd, ev, eb, rfl⟩, ?_⟩
    rw [lk_is ek r k]
    exact q
  · rename_i ds
    split at h
    · rename_i p w h1 h2
      cases h
      obtain ⟨a1, a2, a3⟩ := pl h1 h2
      obtain ⟨a, us, rfl, e1, r⟩ := hy
      exact .inr (.inl ⟨p, w, .lst (.of e1) (toPs_dp (toP_dp _) h2 r), toP_bor h1 hx, a1, a2, a3, q⟩)
    · cases h
  · rename_i ds
    split at h
    · rename_i p w h1 h2
      cases h
      obtain ⟨a1, a2, a3⟩ := pl h1 h2
      obtain ⟨a, us, rfl, _, e1, r⟩ := hy.tup
      exact .inr (.inr (.inl ⟨p, w, .tup (.of e1) (toPs_dp (toP_dp _) h2 r), toP_bor h1 hx, a1, a2, a3, q⟩))
    · cases h
  · rename_i ds
    split at h
    · rename_i p w h1 h2
      cases h
      obtain ⟨a1, a2, a3⟩ := pl h1 h2
      obtain ⟨a, us, rfl, e1, r⟩ := hy.fzT
      exact .inr (.inr (.inl ⟨p, w, .tup e1 (toPs_dp (toP_dp _) h2 r), toP_bor h1 hx, a1, a2, a3, q⟩))
    · cases h
  · rename_i bb
    split at h
    · rename_i aa
      rw [hx.str, hy.str]
      split at h
      · rename_i z ez
        cases h
        refine .inr (.inr (.inr (.inl ⟨z, bb, ?_, rfl, q⟩)))
        obtain ⟨⟨l⟩⟩ := aa
        simp only at ez
        rw [ez]
      · cases h
        exact .inr (.inr (.inr (.inr ⟨aa, bb, rfl, rfl, q⟩)))
    · cases h
  · cases h
theorem q_in (hu : X.A.units + 64 < cLine) (hK : c.K = X.K := by rfl) : Cmp X c W .In dIn := ⟨_, op_has hu, by
  rw [← hK]
  intro Γ σ ρ H x y d e res Q er hx hy h p
  unfold dIn at h
  split at h
  · rename_i b hb
    cases h
    exact has_ok er hx hy hb (fin_bl p er)
  · cases h⟩
theorem q_notIn (hu : X.A.units + 64 < cLine) (hK : c.K = X.K := by rfl) : Cmp X c W .NotIn dNotIn := ⟨_, op_hasnt hu, by
  rw [← hK]
  intro Γ σ ρ H x y d e res Q er hx hy h p
  unfold dNotIn at h
  split at h
  · rename_i b hb
    cases h
    exact has_ok er hx hy hb (fin_bl p er)
  · cases h⟩

/-! ### subscripts -/
theorem Rp.atI {N : Addr → Prop} {H : Hp} {us : List V} {ds : List D} (r : Rp c N H us ds) {i : Int} {d : D} (h : L2.atI ds i = some d) : ∃ v, L2.atI us i = some v ∧ Re c N H v d := by
  unfold L2.atI at h ⊢
  rw [r.len]
  cases e : ixN ds.length i with
  | none => rw [e] at h; cases h
  | some j =>
    rw [e] at h
    exact r.get h
def dIx : D → D → R D
  | .lst ds, .int i => L2.atI ds i |>.map .ok
  | .tup ds, .int i => L2.atI ds i |>.map .ok
  | .fz _ ds, .int i => L2.atI ds i |>.map .ok
  | .str s, .int i => guard (s.length ≤ lim) ((L2.atI s.cps.toList i).map fun z => .ok (.str ⟨#[z]⟩))
  | .dK kds, k => ((keyD k).bind (lkD kds)).map .ok
  | .dT kds, k => ((tkD k).bind (lkD kds)).map .ok
  | _, _ => none
def rIxD : R2 := fun x y H Q => ∃ a v, x = .ref a ∧ DGet H a y (some v) ∧ Q v H
open PySem.Spec PyProof.Rows in
theorem ix_dict (hu : X.A.units + 64 < cLine) : IxR X rIxD := by
  intro value slice pins s σ H x y v u Q I rx ry h hs
  obtain ⟨a, z, rfl, g, q⟩ := h
  cases rx
  have hT := dict_typeIs I g
  unfold subscriptTail
  refine wpAny_bind ?_
  rw [getitemInPython_of_ne hT.not_modules]
  refine wpAny_bind (wpAny_specialOf hT PySem.F.slot_dict_getitem.lookup ?_)
  have fin : wpAny (model X.prog X.w) X.A (subscripted slice false (.ref a) u) (fun r s₃ => wpAny (model X.prog X.w) X.A (letTemporaryGo value (.ref a) r >>= fun _ => pure r) (EP X pins σ Q) X.xe s₃) X.xe s := by
    rw [hs]
    exact wpAny_operating (wpAny_mono (d_getItem (by omega) I g ry fun w' s3 I3 rw' => (show EP X pins σ Q w' s3 from ⟨z, H, I3, rw', q⟩)) (fun r s₃ h₃ => wpAny_bind (wpAny_letTemporaryGo (wpAny_pure h₃))) fun _ _ x => x)
  first
    | exact wpAny_pure (wpAny_bind fin)
    | exact wpAny_bind (wpAny_pure (wpAny_bind fin))
    | exact wpAny_bind fin
theorem d_ix {a b : Expr} {ma mb : ME} {pos : Pos} (hu : X.A.units + 64 < cLine) (ha : PE X a (tE c W .bor ma)) (hb : PE X b (tE c W .bor mb)) (hs : PlainIx b := by intro _ _; rfl) (hK : c.K = X.K := by rfl) : PE X (.Subscript a b pos) (tE c W .dur (mBin dIx ma mb)) :=
  (pe_ix (ix_list.or (ix_tup.or (ix_str.or (ix_dict hu)))) ha hb hs).via fun _ _ _ h => tOp_ok (r := fun x y H Q => rIxL X.K x y H Q ∨ rIxT X.K x y H Q ∨ rIxS x y H Q ∨ rIxD x y H Q) (by
    rw [← hK]
    intro Γ σ ρ H x y d e res Q er hx hy h p
    unfold dIx at h
    split at h
    · obtain ⟨z, hz, rfl⟩ := Option.map_eq_some_iff.mp h
      obtain ⟨q, us, rfl, e1, r⟩ := hx
      obtain ⟨v, hv, rv⟩ := r.atI hz
      rw [hy.int]
      exact .inl ⟨q, us, _, v, rfl, rfl, .of e1, hv, fin_re p er rv⟩
    · obtain ⟨z, hz, rfl⟩ := Option.map_eq_some_iff.mp h
      obtain ⟨q, us, rfl, _, e1, r⟩ := hx.tup
      obtain ⟨v, hv, rv⟩ := r.atI hz
      rw [hy.int]
      exact .inr (.inl ⟨q, us, _, v, rfl, rfl, .of e1, hv, fin_re p er rv⟩)
    · rename_i t ds i
      obtain ⟨z, hz, rfl⟩ := Option.map_eq_some_iff.mp h
      rw [hy.int]
      cases t with
      | true =>
        obtain ⟨q, us, rfl, e1, r⟩ := hx.fzT
        obtain ⟨v, hv, rv⟩ := r.atI hz
        exact .inr (.inl ⟨q, us, _, v, rfl, rfl, e1, hv, fin_re p er rv⟩)
      | false =>
        obtain ⟨q, us, rfl, e1, r⟩ := hx.fzL
        obtain ⟨v, hv, rv⟩ := r.atI hz
        exact .inl ⟨q, us, _, v, rfl, rfl, e1, hv, fin_re p er rv⟩
    · obtain ⟨hl, h⟩ := guard_ok h
      obtain ⟨z, hz, rfl⟩ := Option.map_eq_some_iff.mp h
      rw [hx.str, hy.int]
      exact .inr (.inr (.inl ⟨_, _, z, rfl, rfl, lim_ok hl, hz, fin_str p er⟩))
    · rename_i kds
      obtain ⟨z, hz, rfl⟩ := Option.map_eq_some_iff.mp h
      obtain ⟨k, hk, hz⟩ := Option.bind_eq_some_iff.mp hz
      obtain ⟨q, kvs, rfl, rd, ek, r⟩ := hx
      obtain ⟨v, hv, rv⟩ := lk_some ek r hz
      exact .inr (.inr (.inr ⟨q, v, rfl, .inl ⟨kvs, k, rd, keyD_v hk hy, hv.symm⟩, fin_re p er rv⟩))
    · rename_i kds
      obtain ⟨z, hz, rfl⟩ := Option.map_eq_some_iff.mp h
      obtain ⟨k, hk, hz⟩ := Option.bind_eq_some_iff.mp hz
      obtain ⟨q, kvs, rfl, rd, ek, r⟩ := hx
      obtain ⟨v, hv, rv⟩ := lk_some ek r hz
      obtain ⟨b', ev, eb⟩ := tkD_v hk hy
      exact .inr (.inr (.inr ⟨q, v, rfl, .inr ⟨kvs, k, b', rd, ev, eb, hv.symm⟩, fin_re p er rv⟩))
    · cases h) h

/-! ### slices -/
abbrev MO := Ro → R (Option Int)
def PostO (c : Conf) (W : WX) (Γ : Gam) (σ : L2.St) (ρ : Ro) (H : Hp) (Q : Option Int → Hp → Prop) : Except EN (Option Int) → Prop
  | .ok b => ∀ H', Same H H' → ER c Γ σ H' ρ → Q b H'
  | .error x => Er c W Γ σ ρ x
def tO (c : Conf) (W : WX) (m : MO) : L2.TO := fun σ H Q => ∃ Γ ρ r, ER c Γ σ H ρ ∧ m ρ = some r ∧ PostO c W Γ σ ρ H Q r
theorem useO {β : Type} {Γ : Gam} {σ : L2.St} {ρ : Ro} {H : Hp} {m : MO} {f : Option Int → R β} {r : Except EN β} {Q : Option Int → Hp → Prop} (er : ER c Γ σ H ρ) (h : bnd (m ρ) f = some r) (he : ∀ x, r = .error x → Er c W Γ σ ρ x)
    (kk : ∀ b H1, f b = some r → Same H H1 → ER c Γ σ H1 ρ → Q b H1) : tO c W m σ H Q := by
  cases e : m ρ with
  | none => rw [e] at h; cases h
  | some q =>
    rw [e] at h
    cases q with
    | error x =>
      cases h
      exact ⟨Γ, ρ, _, er, e, he x rfl⟩
    | ok d => exact ⟨Γ, ρ, _, er, e, fun H1 s q => kk d H1 h s q⟩
theorem PostO.err {Γ : Gam} {σ : L2.St} {ρ : Ro} {H : Hp} {Q : Option Int → Hp → Prop} {r : Except EN (Option Int)} (p : PostO c W Γ σ ρ H Q r) : ∀ x, r = .error x → Er c W Γ σ ρ x := fun x e => by subst e; exact p
def mNone : MO := fun _ => ok none
def mSome (m : ME) : MO := fun ρ => bnd (m ρ) fun d => match d with
  | .int i => ok (some i)
  | _ => none
theorem o_none : PO X none (tO c W mNone) := ⟨fun pins s σ H Q I ⟨Γ, ρ, r, er, em, p⟩ => po_none.run pins s σ H Q I (by cases em; exact p _ (Same.refl _) er)⟩
theorem o_some {e : Expr} {m : ME} (h : PE X e (tE c W .bor m)) : PO X (some e) (tO c W (mSome m)) := ⟨fun pins s σ H Q I ⟨Γ, ρ, r, er, em, p⟩ => (po_some h).run pins s σ H Q I (use er em p.err fun d v H1 h1 s1 r1 => by
  split at h1
  · cases h1
    rw [r1.2.int]
    exact ⟨_, rfl, p _ s1 r1.1⟩
  · cases h1)⟩
def cut {α : Type} (xs : List α) (lo hi : Option Int) : List α := (xs.drop (HT.sIx xs.length 0 lo)).take (HT.sIx xs.length xs.length hi - HT.sIx xs.length 0 lo)
theorem cut_all {α : Type} {xs : List α} {lo hi : Option Int} (h : HT.sIx xs.length 0 lo = 0 ∧ HT.sIx xs.length xs.length hi = xs.length) : cut xs lo hi = xs := by
  unfold cut
  rw [h.1, h.2]
  simp
def dSl (lo hi : Option Int) : D → R D
  | .lst ds => ok (.lst (cut ds lo hi))
  | .tup ds => ok (.tup (cut ds lo hi))
  | .str s => guard (s.length ≤ lim) (ok (.str (cutS s lo hi)))
  | .fz true ds => if HT.sIx ds.length 0 lo = 0 ∧ HT.sIx ds.length ds.length hi = ds.length then ok (.fz true ds) else ok (.tup (cut ds lo hi))
  | _ => none
def mSl (m : ME) (l h : MO) : ME := fun ρ => bnd (m ρ) fun d => bnd (l ρ) fun lo => bnd (h ρ) fun hi => dSl lo hi d
theorem Rp.cut {N : Addr → Prop} {H : Hp} {us : List V} {ds : List D} (r : Rp c N H us ds) (lo hi : Option Int) : Rp c N H (cutV us lo hi) (DL.cut ds lo hi) := by
  unfold cutV DL.cut
  rw [r.len]
  exact (r.drop _).take _
theorem d_sl {e : Expr} {lo hi : Option Expr} {m : ME} {l h : MO} {p2 pos : Pos} (he : PE X e (tE c W .bor m)) (hl : PO X lo (tO c W l)) (hh : PO X hi (tO c W h)) (hK : c.K = X.K := by rfl) : PE X (.Subscript e (.Slice lo hi none p2) pos) (tE c W .dur (mSl m l h)) :=
  (pe_slice (sl_list.or (sl_tupA.or sl_str)) he hl hh).via fun σ H Q ⟨Γ, ρ, r, er, em, p⟩ => by
    refine use er em p.err fun d v H1 h1 s1 r1 => ?_
    refine useO r1.1 h1 p.err fun lo' H2 h2 s2 e2 => ?_
    refine useO e2 h2 p.err fun hi' H3 h3 s3 e3 => ?_
    have b3 := (r1.2.same s2).same s3
    have p3 := p.mono ((s1.trans s2).trans s3)
    rw [← hK]
    cases d <;> first | (cases h3; done) | skip
    · obtain ⟨hl, h3⟩ := guard_ok h3
      cases h3
      rw [b3.str]
      exact .inr (.inr ⟨_, rfl, lim_ok hl, fin_str p3 e3⟩)
    · cases h3
      obtain ⟨q, us, rfl, n1, e1, r⟩ := b3.tup
      refine .inr (.inl ⟨q, us, rfl, .of e1, fun z => ?_, fun _ q hq => fin_tup p3 e3 (r.cut _ _) hq⟩)
      rw [r.len] at z
      rw [cut_all z] at p3
      exact fin_re p3 e3 (.tup n1 e1 r .nil)
    · cases h3
      obtain ⟨q, us, rfl, e1, r⟩ := b3
      refine .inl ⟨q, us, rfl, .of e1, fun q2 hq => ?_⟩
      exact p3 _ _ (same_new hq) ⟨e3.same (same_new hq), .lst (fun z => e3.tracked z hq) upd_same ((r.cut _ _).same (same_new hq)) .nil⟩
    · rename_i b ds
      cases b with
      | false => cases h3
      | true =>
        have bx : Re c (NN Γ σ ρ) H3 v (.fz true ds) := b3
        obtain ⟨q, us, rfl, e1, r⟩ := b3.fzT
        have h3 : (if HT.sIx ds.length 0 lo' = 0 ∧ HT.sIx ds.length ds.length hi' = ds.length then (ok (.fz true ds) : R D) else ok (.tup (cut ds lo' hi'))) = some _ := h3
        refine .inr (.inl ⟨q, us, rfl, e1, fun z => ?_, fun nz q2 hq => ?_⟩)
        · rw [r.len] at z
          rw [if_pos z] at h3
          cases h3
          exact fin_re p3 e3 bx
        · rw [r.len] at nz
          rw [if_neg nz] at h3
          cases h3
          exact fin_tup p3 e3 (r.cut _ _) hq

/-! ### displays, arguments -/
def mNil : MA := fun _ => ok []
def mCons (m : ME) (l : MA) : MA := fun ρ => bnd (m ρ) fun d => bnd (l ρ) fun ds => ok (d :: ds)
theorem a_nil : PA X [] (tA c W mNil) := pa_nil.via fun σ H Q ⟨Γ, ρ, r, er, em, p⟩ => by cases em; exact p _ _ (Same.refl _) er .nil
theorem a_cons {e : Expr} {es : List Expr} {m : ME} {l : MA} (h : PE X e (tE c W .dur m)) (t : PA X es (tA c W l)) (hs : starEach (e :: es) X.env = (false, eval e X.env) :: starEach es X.env := by rfl) : PA X (e :: es) (tA c W (mCons m l)) :=
  (pa_cons h t hs).via fun σ H Q ⟨Γ, ρ, r, er, em, p⟩ => by
    refine use er em p.err fun d v H1 h1 s1 r1 => ?_
    refine useA r1.1 h1 p.err fun ds vs H2 h2 s2 e2 r2 => ?_
    cases h2
    exact p _ _ (s1.trans s2) e2 (.cons (r1.2.same s2) r2)
def mTup (l : MA) : ME := fun ρ => bnd (l ρ) fun ds => guard (ds.length ≤ lim) (ok (.tup ds))
def mLst (l : MA) : ME := fun ρ => bnd (l ρ) fun ds => guard (ds.length ≤ lim) (ok (.lst ds))
theorem d_tup {es : List Expr} {l : MA} {x1} {pos : Pos} (h : PA X es (tA c W l)) : PE X (.Tuple es x1 pos) (tE c W .dur (mTup l)) := (pe_tup h).via fun σ H Q ⟨Γ, ρ, r, er, em, p⟩ => by
  refine useA er em p.err fun ds vs H1 h1 s1 e1 r1 => ?_
  obtain ⟨hl, h1⟩ := guard_ok h1
  cases h1
  exact ⟨by rw [r1.len]; exact lim_ok hl, fun q hq => fin_tup (p.mono s1) e1 r1 hq⟩
theorem d_lst {es : List Expr} {l : MA} {pos : Pos} (h : PA X es (tA c W l)) : PE X (.List es pos) (tE c W .own (mLst l)) := (pe_lst h).via fun σ H Q ⟨Γ, ρ, r, er, em, p⟩ => by
  refine useA er em p.err fun ds vs H1 h1 s1 e1 r1 => ?_
  obtain ⟨hl, h1⟩ := guard_ok h1
  cases h1
  exact ⟨by rw [r1.len]; exact lim_ok hl, fun q hq => fin_lst (p.mono s1) e1 r1 hq⟩
theorem d_dK {pos : Pos} : PE X (.Dict [] [] pos) (tE c W .own (mC (.dK []))) := pe_dnewK.via fun σ H Q ⟨Γ, ρ, r, er, em, p⟩ => by
  cases em
  exact fun q hq => fin_dK p er rfl .nil hq
theorem d_dT {pos : Pos} : PE X (.Dict [] [] pos) (tE c W .own (mC (.dT []))) := pe_dnewT.via fun σ H Q ⟨Γ, ρ, r, er, em, p⟩ => by
  cases em
  exact fun q hq => fin_dT p er rfl .nil hq

/-! ### arguments that are read alone (bor) -/
inductive Bors (c : Conf) (N : Addr → Prop) (H : Hp) : List V → List D → Prop
  | nil : Bors c N H [] []
  | cons {v d vs ds} : Bor c N H v d → Bors c N H vs ds → Bors c N H (v :: vs) (d :: ds)
theorem Bors.same {N : Addr → Prop} {H H' : Hp} (s : Same H H') : ∀ {vs : List V} {ds : List D}, Bors c N H vs ds → Bors c N H' vs ds
  | _, _, .nil => .nil
  | _, _, .cons a b => .cons (a.same s) (Bors.same s b)
def PostB (c : Conf) (W : WX) (Γ : Gam) (σ : L2.St) (ρ : Ro) (H : Hp) (Q : List V → Hp → Prop) : Except EN (List D) → Prop
  | .ok ds => ∀ vs H', Same H H' → ER c Γ σ H' ρ → Bors c (NN Γ σ ρ) H' vs ds → Q vs H'
  | .error x => Er c W Γ σ ρ x
def tBo (c : Conf) (W : WX) (m : MA) : TA := fun σ H Q => ∃ Γ ρ r, ER c Γ σ H ρ ∧ m ρ = some r ∧ PostB c W Γ σ ρ H Q r
theorem useB {β : Type} {Γ : Gam} {σ : L2.St} {ρ : Ro} {H : Hp} {m : MA} {f : List D → R β} {r : Except EN β} {Q : List V → Hp → Prop} (er : ER c Γ σ H ρ) (h : bnd (m ρ) f = some r) (he : ∀ x, r = .error x → Er c W Γ σ ρ x)
    (kk : ∀ ds vs H1, f ds = some r → Same H H1 → ER c Γ σ H1 ρ → Bors c (NN Γ σ ρ) H1 vs ds → Q vs H1) : tBo c W m σ H Q := by
  cases e : m ρ with
  | none => rw [e] at h; cases h
  | some q =>
    rw [e] at h
    cases q with
    | error x =>
      cases h
      exact ⟨Γ, ρ, _, er, e, he x rfl⟩
    | ok d => exact ⟨Γ, ρ, _, er, e, fun vs H1 s q w => kk d vs H1 h s q w⟩
theorem PostB.err {Γ : Gam} {σ : L2.St} {ρ : Ro} {H : Hp} {Q : List V → Hp → Prop} {r : Except EN (List D)} (p : PostB c W Γ σ ρ H Q r) : ∀ x, r = .error x → Er c W Γ σ ρ x := fun x e => by subst e; exact p
theorem b_nil : PA X [] (tBo c W mNil) := pa_nil.via fun σ H Q ⟨Γ, ρ, r, er, em, p⟩ => by cases em; exact p _ _ (Same.refl _) er .nil
theorem b_cons {e : Expr} {es : List Expr} {m : ME} {l : MA} (h : PE X e (tE c W .bor m)) (t : PA X es (tBo c W l)) (hs : starEach (e :: es) X.env = (false, eval e X.env) :: starEach es X.env := by rfl) : PA X (e :: es) (tBo c W (mCons m l)) :=
  (pa_cons h t hs).via fun σ H Q ⟨Γ, ρ, r, er, em, p⟩ => by
    refine use er em p.err fun d v H1 h1 s1 r1 => ?_
    refine useB r1.1 h1 p.err fun ds vs H2 h2 s2 e2 r2 => ?_
    cases h2
    exact p _ _ (s1.trans s2) e2 (.cons (r1.2.same s2) r2)

/-! ### calls of built-ins -/
def CallOk (c : Conf) (W : WX) (k : Kd) (r : List V → Hp → VK → Prop) (f : List D → R D) : Prop := ∀ (Γ : Gam) (σ : L2.St) (ρ : Ro) (H : Hp) (xs : List V) (ds : List D) (res : Except EN D) (Q : VK), ER c Γ σ H ρ → Bors c (NN Γ σ ρ) H xs ds →
  f ds = some res → PostE c W k Γ σ ρ H Q res → r xs H Q
def mCB (f : List D → R D) (l : MA) : ME := fun ρ => bnd (l ρ) f
theorem tCB_ok {k : Kd} {r : List V → Hp → VK → Prop} {f : List D → R D} {l : MA} (hr : CallOk c W k r f) {σ : L2.St} {H : Hp} {Q : VK} (h : tE c W k (mCB f l) σ H Q) : tCB r (tBo c W l) σ H Q := by
  obtain ⟨Γ, ρ, res, e, em, p⟩ := h
  refine useB e em p.err fun ds vs H1 h1 s1 e1 r1 => ?_
  exact hr Γ σ ρ H1 vs ds res Q e1 r1 h1 (p.mono s1)
/-- what a built-in gives -/
structure Bi (X : Cx) (c : Conf) (W : WX) (k : Kd) (f : Value) (g : List D → R D) : Prop where
  ex : ∃ r, CallR X f r ∧ CallOk c W k r g
theorem d_bi {k : Kd} {x id : _} {g : List D → R D} {e : Expr} {es : List Expr} {l : MA} {p pos : Pos} (q : Bi X c W k (.builtin id) g) (hg : Gl X x) (hm : X.mg x = none) (hv : bootBuiltins x = some (.builtin id)) (ha : PA X (e :: es) (tBo c W l)) (hn : x ≠ "__name__" := by decide)
    (hdb : (x == ("__debug__" : Str)) = false := by decide) (he : starEach (e :: es) X.env = (false, eval e X.env) :: starEach es X.env := by rfl) (hpl : (backTo pos (starEach es X.env)).any (·.1) = false := by rfl) :
    PE X (.Call (.Name x p) (e :: es) [] pos) (tE c W k (mCB g l)) := by
  obtain ⟨r, hc, hr⟩ := q.ex
  exact (pe_callB hc hg hm hv ha hn hdb he hpl).via fun _ _ _ h => tCB_ok hr h
theorem d_ty {k : Kd} {x T : _} {g : List D → R D} {e : Expr} {es : List Expr} {l : MA} {p pos : Pos} (q : Bi X c W k (.type T) g) (hg : Gl X x) (hm : X.mg x = none) (hv : bootBuiltins x = some (.type T)) (ha : PA X (e :: es) (tBo c W l)) (hn : x ≠ "__name__" := by decide)
    (hdb : (x == ("__debug__" : Str)) = false := by decide) (he : starEach (e :: es) X.env = (false, eval e X.env) :: starEach es X.env := by rfl) (hpl : (backTo pos (starEach es X.env)).any (·.1) = false := by rfl) :
    PE X (.Call (.Name x p) (e :: es) [] pos) (tE c W k (mCB g l)) := by
  obtain ⟨r, hc, hr⟩ := q.ex
  exact (pe_callTy hc hg hm hv ha hn hdb he hpl).via fun _ _ _ h => tCB_ok hr h
end
end DL

set_option Elab.async false
set_option linter.all false
set_option maxRecDepth 100000
set_option maxHeartbeats 2000000
set_option autoImplicit false
/-! DLd: built-ins: len, int, abs, max, min, list, tuple, range, sorted of ints, sum, any, all; list and tuple methods that only read. -/
/-! ### sorted of a tuple of ints -/
namespace DLS
open PySem PyProof.Rows Srt SrtO
section
variable {prog : Program} {w : World} {A : Around} {E : Value → Shared → Prop} {s : Shared}
theorem collect_tuple {l : Addr} {vs : List Value} {Q : List Value → Shared → Prop} (hl : IsTup s.heap l vs.toArray)
    (h : Q vs { s with heap := (s.heap.push (seqObj "list" #[] 0)).update s.heap.objs.size (Obj.mapSeq (· ++ vs.toArray)) }) (hsz : vs.length ≤ sizeLine) :
    wpAny (model prog w) A (collect (.ref l)) Q E s := by
  obtain ⟨o, ho, hc, n, hd⟩ := id hl
  unfold collect
  refine wpAny_bind (wpAny_runValue (codeAny_builtin entry_proto_collect' ?_))
  show wpAny _ _ (do again (.builtin "list.__iadd__" ⟨[← newList [], .ref l], []⟩)) _ _ s
  refine wpAny_bind (wpAny_newList (wpAny_pure ⟨Code.quiet_builtin _ (by decide +kernel), codeAny_builtin entry_list_iadd' ?_⟩))
  show wpAny _ _ (Builtin.List.listExtendWith (.ref s.heap.objs.size) (.ref l) (.ref s.heap.objs.size)) _ _ { s with heap := s.heap.push (seqObj "list" #[] 0) }
  unfold Builtin.List.listExtendWith
  have ho' : (s.heap.push (seqObj "list" #[] 0)).get? l = some o := Heap.get?_push_of_some _ ho
  refine wpAny_bind (wpAny_typeOf (T := "tuple") ⟨o, ho', hc⟩ ?_)
  have ht : (Value.type "tuple" == Value.type "tuple") = true := by rfl
  rw [if_pos (by rw [ht]; simp)]
  refine wpAny_bind (listItems_at ho' hd ?_)
  refine wpAny_bind (listItems_at (xs := #[]) (n := 0) (Heap.get?_push_size _ rfl) rfl ?_)
  rw [if_neg (by simp)]
  refine wpAny_bind (listUpdate_at (xs := #[]) (n := 0) (Heap.get?_push_size _ rfl) rfl ?_ (Nat.zero_le _) (by show (#[] ++ vs.toArray).size ≤ sizeLine + 1; simp only [Array.size_append, List.size_toArray, List.length_nil]; omega))
  refine wpAny_pure ?_
  show wpAny (model prog w) A (do
      let o ← load s.heap.objs.size
      match o.data with
      | .seq xs _ => pure xs.toList
      | _ => unsupported "internal:collect") Q E { s with heap := (s.heap.push (seqObj "list" #[] 0)).update s.heap.objs.size (Obj.mapSeq (· ++ vs.toArray)) }
  refine wpAny_bind (wpAny_load (get?_update_seq (Heap.get?_push_size _ rfl) _) ?_)
  show wpAny _ _ (pure ((#[] : Array Value) ++ vs.toArray).toList) Q E _
  rw [show ((#[] : Array Value) ++ vs.toArray).toList = vs by simp]
  exact wpAny_pure h
theorem sorted_ordT {l : Addr} {vs : List Value} {ltv : Value → Value → Bool} {Q : Value → Shared → Prop} (O : Swo ltv) (hl : IsTup s.heap l vs.toArray) (hz : vs.length ≤ sizeLine)
    (hS : 2 ≤ vs.length → ∀ (h₁ : Heap) (a : Addr), h₁.get? a = some (seqObj "list" vs.toArray 0) → (∀ b o, s.heap.get? b = some o → b ≠ a ∧ h₁.get? b = some o) → SortableO prog w A.in1.in1 { s with heap := h₁ } a vs ltv)
    (h : ∀ out : List Value, Srtd ltv out → Stb ltv out vs → Q (.ref (s.heap.objs.size + 1)) { s with heap := sortedAll s.heap vs out.toArray }) :
    wpAny (model prog w) A (call (.builtin "sorted") [.ref l]) Q E s := by
  refine Calls.call_function_entry kind_sorted plain_sorted entry_sorted (args_sorted1 _) ?_
  unfold Builtin.«sorted»
  refine wpAny_bind (m := checkCount "sorted" 1 1 _) (wpAny_pure ?_)
  refine wpAny_bind (collect_tuple hl ?_ hz)
  refine wpAny_bind (wpAny_newList ?_ hz)
  have hsz : ((s.heap.push (seqObj "list" #[] 0)).update s.heap.objs.size (Obj.mapSeq (· ++ vs.toArray))).objs.size = s.heap.objs.size + 1 := by
    rw [Heap.size_update, size_push']
  have hoL : (((s.heap.push (seqObj "list" #[] 0)).update s.heap.objs.size (Obj.mapSeq (· ++ vs.toArray))).push (seqObj "list" vs.toArray 0)).get? (s.heap.objs.size + 1) = some (seqObj "list" vs.toArray 0) := by
    rw [← hsz]; exact Heap.get?_push_size _ rfl
  have keep : ∀ b o, s.heap.get? b = some o → b ≠ s.heap.objs.size + 1 ∧ (((s.heap.push (seqObj "list" #[] 0)).update s.heap.objs.size (Obj.mapSeq (· ++ vs.toArray))).push (seqObj "list" vs.toArray 0)).get? b = some o := fun b o q => by
    have hlt : b < s.heap.objs.size := Heap.lt_size q
    refine ⟨Nat.ne_of_lt (Nat.lt_succ_of_lt hlt), Heap.get?_push_of_some _ ?_⟩
    rw [Heap.get?_update_ne _ _ _ _ (Nat.ne_of_lt hlt)]
    exact Heap.get?_push_of_some _ q
  show wpAny _ _ _ _ _ { s with heap := ((s.heap.push (seqObj "list" #[] 0)).update s.heap.objs.size (Obj.mapSeq (· ++ vs.toArray))).push (seqObj "list" vs.toArray 0) }
  rw [hsz]
  refine wpAny_bind (wpAny_holding (wpAny_call_entry slot_list_sort ⟨_, hoL, rfl⟩ entry_list_sort (list_sort_ord O hoL hz (fun h2 => hS h2 _ _ hoL keep) fun out hs hb => ⟨_, rfl, ?_⟩) (args_list_sort _)))
  exact wpAny_pure ⟨_, rfl, h out hs hb⟩
theorem iter_intTup {l : Addr} {xs : Array (Int × Tok)} {Q : Value → Shared → Prop} (hl : s.heap.IsTuple l (intItems xs))
    (h : ∀ s₂ : Shared, s₂ = { s with heap := s.heap.push { cls := .type "tuple_iterator", data := .fields #[.ref l, .int 0 0] } } →
      (s₂.heap.IsTupleIter s.heap.objs.size l 0 ∧ s₂.heap.IsTuple l (intItems xs)) → (∀ b ∈ [s.heap.objs.size, l], b < s₂.heap.objs.size) → l ≠ s.heap.objs.size → Q (.ref s.heap.objs.size) s₂) :
    wpAny (model prog w) A (pyIter (.ref l)) Q E s := by
  have hlt : l < s.heap.objs.size := by obtain ⟨_, e, _⟩ := hl; exact Heap.lt_size e
  refine wpAny_pyIter_tuple hl (h _ rfl ⟨⟨_, Heap.get?_push_size _ rfl, rfl, rfl⟩, hl.push _⟩ (fun b hb => ?_) (Nat.ne_of_lt hlt))
  show b < (s.heap.push _).objs.size
  rw [Heap.size_push]
  rcases List.mem_cons.mp hb with rfl | hb
  · exact Nat.lt_succ_self _
  · rcases List.mem_cons.mp hb with rfl | hb
    · exact Nat.lt_succ_of_lt hlt
    · cases hb
theorem old_keptT {l : Addr} {h' : Heap} (hk : ∀ b o, b ∉ [s.heap.objs.size] → (s.heap.push { cls := .type "tuple_iterator", data := .fields #[.ref l, .int 0 0] }).get? b = some o → h'.get? b = some o) :
    ∀ b o, s.heap.get? b = some o → h'.get? b = some o := fun b o e => by
  refine hk b o (fun hm => ?_) (Heap.get?_push_of_some _ e)
  rcases List.mem_cons.mp hm with e1 | hm
  · exact absurd (e1 ▸ Heap.lt_size e) (Nat.lt_irrefl _)
  · cases hm
theorem max_intTup {l : Addr} {xs : Array (Int × Tok)} {Q : Value → Shared → Prop} (hh : A.handled = none) (hl : s.heap.IsTuple l (intItems xs)) (hne : 0 < xs.size)
    (h : ∀ v h' tk, (intItems xs)[argBest (fun i j => decide (numAt xs i > numAt xs j)) (xs.size - 1)]? = some v → (∀ b o, s.heap.get? b = some o → h'.get? b = some o) → Q v { s with heap := h', toks := tk }) :
    wpAny (model prog w) A (call (.builtin "max") [.ref l]) Q E s := by
  refine call_max_walk (iter_intTup hl fun s₂ e st hfp hlI => ?_)
  subst e
  refine ⟨_, _, _, _, _, _, _, rfl, Walks.tuple (A := A.in1) hh _ l hlI (intItems xs), st, hfp, by simpa [intItems] using hne, CmpOf.ints_gt (numAt xs) (fun _ _ => intItems_at), fun v h' tk hP hk => ?_⟩
  exact h v h' tk (by simpa [intItems] using hP) (old_keptT hk)
theorem min_intTup {l : Addr} {xs : Array (Int × Tok)} {Q : Value → Shared → Prop} (hh : A.handled = none) (hl : s.heap.IsTuple l (intItems xs)) (hne : 0 < xs.size)
    (h : ∀ v h' tk, (intItems xs)[argBest (fun i j => decide (numAt xs i < numAt xs j)) (xs.size - 1)]? = some v → (∀ b o, s.heap.get? b = some o → h'.get? b = some o) → Q v { s with heap := h', toks := tk }) :
    wpAny (model prog w) A (call (.builtin "min") [.ref l]) Q E s := by
  refine call_min_walk (iter_intTup hl fun s₂ e st hfp hlI => ?_)
  subst e
  refine ⟨_, _, _, _, _, _, _, rfl, Walks.tuple (A := A.in1) hh _ l hlI (intItems xs), st, hfp, by simpa [intItems] using hne, CmpOf.ints_lt (numAt xs) (fun _ _ => intItems_at), fun v h' tk hP hk => ?_⟩
  exact h v h' tk (by simpa [intItems] using hP) (old_keptT hk)
theorem max_rawT {l : Addr} {its : List Value} {ns : List Int} {Q : Value → Shared → Prop} (hh : A.handled = none) (hl : IsTup s.heap l its.toArray) (hi : IntsAre its ns) (hne : 0 < ns.length)
    (h : ∀ h' tk M t', (∀ b o, s.heap.get? b = some o → h'.get? b = some o) → M ∈ ns → (∀ a, a ∈ ns → a ≤ M) → Q (.int M t') { s with heap := h', toks := tk }) : wpAny (model prog w) A (call (.builtin "max") [.ref l]) Q E s := by
  obtain ⟨xs, e⟩ := hi.allInts.items
  have hn : numsOf (intItems xs).toList = ns := by rw [← e]; exact hi.numsOf
  rw [PySem.nums_intItems] at hn
  subst hn
  rw [e] at hl
  have hsz : 0 < xs.size := by simpa using hne
  refine max_intTup hh hl hsz fun v h' tk hv hk => ?_
  obtain ⟨t, rfl⟩ := intItems_at hv
  obtain ⟨h1, h2⟩ := argBest_gt (numAt xs) (xs.size - 1)
  refine h h' tk _ t hk ?_ fun a ha => ?_
  · rw [PySem.numAt_eq]; exact PySem.getD_mem (by rw [List.length_map, Array.length_toList]; omega)
  · obtain ⟨j, hj, rfl⟩ := PySem.mem_getD ha
    rw [List.length_map, Array.length_toList] at hj
    rw [← PySem.numAt_eq]; exact h2 j (by omega)
theorem min_rawT {l : Addr} {its : List Value} {ns : List Int} {Q : Value → Shared → Prop} (hh : A.handled = none) (hl : IsTup s.heap l its.toArray) (hi : IntsAre its ns) (hne : 0 < ns.length)
    (h : ∀ h' tk M t', (∀ b o, s.heap.get? b = some o → h'.get? b = some o) → M ∈ ns → (∀ a, a ∈ ns → M ≤ a) → Q (.int M t') { s with heap := h', toks := tk }) : wpAny (model prog w) A (call (.builtin "min") [.ref l]) Q E s := by
  obtain ⟨xs, e⟩ := hi.allInts.items
  have hn : numsOf (intItems xs).toList = ns := by rw [← e]; exact hi.numsOf
  rw [PySem.nums_intItems] at hn
  subst hn
  rw [e] at hl
  have hsz : 0 < xs.size := by simpa using hne
  refine min_intTup hh hl hsz fun v h' tk hv hk => ?_
  obtain ⟨t, rfl⟩ := intItems_at hv
  obtain ⟨h1, h2⟩ := argBest_lt (numAt xs) (xs.size - 1)
  refine h h' tk _ t hk ?_ fun a ha => ?_
  · rw [PySem.numAt_eq]; exact PySem.getD_mem (by rw [List.length_map, Array.length_toList]; omega)
  · obtain ⟨j, hj, rfl⟩ := PySem.mem_getD ha
    rw [List.length_map, Array.length_toList] at hj
    rw [← PySem.numAt_eq]; exact h2 j (by omega)
end
end DLS
/-! ### t[::-1] of a tuple -/
namespace DLS
open PySem PySem.Spec PyProof.Rows L2 HT
section
variable {prog : Program} {w : World} {A : Around} {E : Value → Shared → Prop} {s : Shared}
theorem fm_congr {α β : Type} {f g : α → Option β} : ∀ {l : List α}, (∀ x ∈ l, f x = g x) → l.filterMap f = l.filterMap g
  | [], _ => rfl
  | a :: l, h => by
    rw [List.filterMap_cons, List.filterMap_cons, h a List.mem_cons_self, fm_congr fun x hx => h x (List.mem_cons_of_mem _ hx)]
theorem getItem_tuple_rev {t sl : Addr} {items : Array Value} {vs : Value} {Q : Value → Shared → Prop} (ht : IsTup s.heap t items) (hs : s.heap.IsSliceOf sl .none .none vs) (ps : IsPart vs (some (-1)))
    (h : Q (.ref s.heap.objs.size) { s with heap := s.heap.push { cls := .type "tuple", data := .seq items.toList.reverse.toArray } })
    (hsz : items.size ≤ sizeLine) : wpAny (model prog w) A (getItem (.ref t) (.ref sl)) Q E s := by
  have htake : sizeOk (.seq items.toList.reverse.toArray) := by
    show items.toList.reverse.toArray.size ≤ sizeLine
    rw [List.size_toArray, List.length_reverse, Array.length_toList]
    exact hsz
  obtain ⟨os, hos, hcs, hds⟩ := id hs
  have hTs : s.TypeIs (.ref sl) "slice" := ⟨os, hos, hcs⟩
  unfold getItem
  try with_reducible refine wpAny_holding ?_
  first | refine wpAny_bind (wpAny_pure ?_) | skip
  refine wpAny_bind (wpAny_sequenceKey ht.typeIs (by decide) ?_)
  refine wpAny_bind (wpAny_callSpecial?_slot (name := Str.ofString "__getitem__") ht.typeIs PyProof.Rows.slot_tuple_getitem
    (wpAny_call_entry PyProof.Rows.slot_tuple_getitem ht.typeIs entry_tuple_getitem ?_ (args_tuple_getitem _ _)))
  show wpAny _ _ (Builtin.Tuple.tupleItemsOf (.ref t) >>= _) _ _ s
  refine wpAny_bind (tupleItemsOf_ ht ?_)
  refine wpAny_bind (wpAny_typeOf hTs ?_)
  rw [if_pos (by decide)]
  have app : ∀ {A : Around} {Q : Int × Int × Nat → Shared → Prop}, Q ((items.size : Int) - 1, -1, items.size) s → wpAny (model prog w) A (Builtin.Slice.sliceApplied (.ref sl) (pure (items.size : Int))) Q E s := fun {A Q} h => by
    unfold Builtin.Slice.sliceApplied Builtin.Slice.sliceFields
    refine wpAny_bind (wpAny_bind (wpAny_field hos hds (x := .none) rfl (wpAny_bind (wpAny_field hos hds (x := .none) rfl (wpAny_bind (wpAny_field hos hds (x := vs) rfl (wpAny_pure ?_)))))))
    refine wpAny_bind (slicePart_ ps ?_)
    show wpAny _ _ (if ((-1 : Int) == 0) = true then _ else _) _ _ s
    rw [if_neg (by decide)]
    refine wpAny_bind (slicePart_none (wpAny_bind (slicePart_none (wpAny_bind (wpAny_pure ?_)))))
    show wpAny _ _ (match Builtin.Slice.sliceAdjust none none (-1) (items.size : Int) with | (lo, hi) => pure (lo, (-1 : Int), Builtin.Slice.slicePlaces lo hi (-1))) _ _ s
    have e1 : Builtin.Slice.sliceAdjust none none (-1) (items.size : Int) = ((items.size : Int) - 1, -1) := by
      unfold Builtin.Slice.sliceAdjust
      simp
    rw [e1]
    have e2 : Builtin.Slice.slicePlaces ((items.size : Int) - 1) (-1) (-1) = items.size := by
      unfold Builtin.Slice.slicePlaces
      have h1 : ¬ ((-1 : Int) > 0) := by decide
      simp only [h1, if_false]
      split
      · have : ((items.size : Int) - 1 - -1 - 1) / (- -1) = (items.size : Int) - 1 := by
          rw [show (- -1 : Int) = 1 by decide, Int.ediv_one]
          omega
        rw [this]
        omega
      · omega
    show wpAny _ _ (pure ((items.size : Int) - 1, (-1 : Int), Builtin.Slice.slicePlaces ((items.size : Int) - 1) (-1) (-1))) _ _ s
    rw [e2]
    exact wpAny_pure h
  refine wpAny_bind (app ?_)
  have hno : ¬ ((((items.size : Int) - 1) == 0 && (-1 : Int) == 1 && items.size == items.size) = true) := by
    intro q
    rw [Bool.and_eq_true, Bool.and_eq_true] at q
    exact absurd q.1.2 (by decide)
  show wpAny _ _ (if (((items.size : Int) - 1) == 0 && (-1 : Int) == 1 && items.size == items.size) = true then _ else _) _ _ s
  rw [if_neg hno]
  have pick : ((List.range items.size).filterMap fun (m : Nat) => items[((items.size : Int) - 1 + (m : Int) * -1).toNat]?).toArray = items.toList.reverse.toArray := by
    have e : ((List.range items.size).map fun k => items.size - 1 - k) = (List.range items.size).reverse := PySem.W.krv_range items.size
    have e3 : (List.range items.size).filterMap (fun (m : Nat) => items[((items.size : Int) - 1 + (m : Int) * -1).toNat]?) = ((List.range items.size).map fun k => items.size - 1 - k).filterMap (items[·]?) := by
      rw [List.filterMap_map]
      refine fm_congr fun m hm => ?_
      have := List.mem_range.mp hm
      have : ((items.size : Int) - 1 + (m : Int) * -1).toNat = items.size - 1 - m := by omega
      simp only [Function.comp, this]
    rw [e3, e, List.filterMap_reverse, PySem.W.krv_all]
  rw [pick]
  first
    | exact wpAny_bind (m := Builtin.Tuple.tupleExact _) (wpAny_newObj_type (wpAny_pure ⟨_, rfl, wpAny_pure h⟩) htake)
    | exact wpAny_bind (m := Builtin.Tuple.tupleExact _) (wpAny_newObj_type (wpAny_bind (wpAny_pure (wpAny_pure ⟨_, rfl, wpAny_pure h⟩))) htake)
    | exact wpAny_bind (wpAny_bind (m := Builtin.Tuple.tupleExact _) (wpAny_newObj_type (wpAny_pure (wpAny_pure ⟨_, rfl, wpAny_pure h⟩)) htake))
    | exact wpAny_bind (wpAny_bind (m := Builtin.Tuple.tupleExact _) (wpAny_newObj_type (wpAny_pure ⟨_, rfl, wpAny_pure h⟩) htake))
end
section
variable {X : Cx}
def tRevT (K : PySem.W.Frag) (te : TE) : TE := fun σ H Q => te σ H fun x H1 => ∃ a xs, x = .ref a ∧ SqT K H1 a xs ∧ ∀ p, H1 p = none → Q (.ref p) (upd H1 p (.tup xs.reverse))
theorem pe_revT {e : Expr} {te : TE} {k : Nat} {p1 p2 p3 pos : Pos} (he : PE X e te) : PE X (.Subscript e (.Slice none none (some (.UnaryOp .USub (.Constant (.int 1) k p1) p2)) p3) pos) (tRevT X.K te) := by
  refine ⟨fun pins s σ H Q I h => ?_⟩
  refine Subscript_ (thn (he.run pins s σ H _ I h) fun v s1 ⟨x, H1, I1, r1, q1⟩ => ?_)
  obtain ⟨a, xs, ex, hx, q⟩ := q1
  subst ex
  cases r1
  have hst : PO X (some (.UnaryOp .USub (.Constant (.int 1) k p1) p2)) (tPart (tUn (rU fun i => .int (-i)) (tC (.int 1)))) := po_some (pe_un un_neg pe_int)
  refine wpAny_Slice (thn (po_none.run pins s1 σ H1 (fun o H2 => o = none ∧ H2 = H1) I1 ⟨rfl, rfl⟩) fun vl s2 ⟨l, H2, I2, pl, el, e2⟩ => ?_)
  subst el e2
  refine thn (po_none.run pins s2 σ H2 (fun o H3 => o = none ∧ H3 = H2) I2 ⟨rfl, rfl⟩) fun vu s3 ⟨u, H3, I3, pu, eu, e3⟩ => ?_
  subst eu e3
  refine thn (hst.run pins s3 σ H3 (fun o H4 => o = some (-1) ∧ H4 = H3) I3 ⟨1, rfl, -1, rfl, rfl, rfl⟩) fun vs s4 ⟨o, H4, I4, ps, eo, e4⟩ => ?_
  subst eo e4
  cases pl
  cases pu
  have I5 : Inv X pins σ H4 { s4 with heap := s4.heap.push { cls := .type "slice", data := .fields #[.none, .none, vs] } } := I4.kept (t' := s4.toks) fun b ob q => Heap.get?_push_of_some _ q
  obtain ⟨its, r, ht, hz⟩ := I5.tuple hx
  have hlen := r.length
  show wpAny (model X.prog X.w) X.A (subscriptTail e (.Slice none none (some (.UnaryOp .USub (.Constant (.int 1) k p1) p2)) p3) (.ref a) (.ref s4.heap.objs.size)) (EP X pins σ Q) X.xe { s4 with heap := s4.heap.push { cls := .type "slice", data := .fields #[.none, .none, vs] } }
  refine tail_any (ops := [.ref a, .ref s4.heap.objs.size]) ht.typeIs (PyProof.Rows.slot_tuple_getitem.lookup) ?_ (by with_unfolding_all rfl)
  refine getItem_tuple_rev ht (Heap.IsSliceOf.new _ .none .none vs) ps ?_ (by rw [List.size_toArray]; omega)
  refine ⟨.ref _, _, I5.laid (t' := s4.toks) (o := .tup xs.reverse) (fun b ob q => Heap.get?_push_of_some _ q) (Nat.le_refl _) ?_, rfl, q _ (I5.hok.fresh (Nat.le_refl _))⟩
  exact ⟨by rw [List.length_reverse]; exact hz, _, r.reverse, IsTup.new _ _⟩
end
end DLS
namespace DL
open PySem L2
def dRev : D → R D
  | .lst ds => ok (.lst ds.reverse)
  | .tup ds => ok (.tup ds.reverse)
  | .fz true ds => ok (.tup ds.reverse)
  | _ => none
theorem _root_.L2.PE.or {X : Cx} {e : Expr} {t t' : TE} (h : PE X e t) (h' : PE X e t') : PE X e (fun σ H Q => t σ H Q ∨ t' σ H Q) := ⟨fun pins s σ H Q I q => q.elim (h.run pins s σ H Q I) (h'.run pins s σ H Q I)⟩
theorem d_rev {X : Cx} {c : Conf} {W : WX} {e : Expr} {m : ME} {k : Nat} {p1 p2 p3 pos : Pos} (he : PE X e (tE c W .bor m)) (hK : c.K = X.K := by rfl) : PE X (.Subscript e (.Slice none none (some (.UnaryOp .USub (.Constant (.int 1) k p1) p2)) p3) pos) (tE c W .dur (mUn dRev m)) :=
  ((pe_revL he).or (DLS.pe_revT he)).via fun σ H Q ⟨Γ, ρ, r, er, em, p⟩ => by
    rw [← hK]
    have em : bnd (m ρ) dRev = some r := em
    cases q : m ρ with
    | none => rw [q] at em; cases em
    | some w =>
      rw [q] at em
      cases w with
      | error x =>
        cases em
        exact .inl ⟨Γ, ρ, _, er, q, p⟩
      | ok d =>
        cases d <;> first | (cases em; done) | (rename_i b ds; cases b <;> first | (cases em; done) | (cases em; exact .inr ⟨Γ, ρ, _, er, q, fun v H1 s1 r1 => by
          obtain ⟨a, us, rfl, e, ru⟩ := r1.2.fzT
          exact ⟨a, us, rfl, e, fun q hq => fin_tup (p.mono s1) r1.1 ru.rev hq⟩⟩)) | skip
        · cases em
          refine .inr ⟨Γ, ρ, _, er, q, fun v H1 s1 r1 => ?_⟩
          obtain ⟨a, us, rfl, n, e, ru⟩ := r1.2.tup
          exact ⟨a, us, rfl, .of e, fun q hq => fin_tup (p.mono s1) r1.1 ru.rev hq⟩
        · cases em
          refine .inl ⟨Γ, ρ, _, er, q, fun v H1 s1 r1 => ?_⟩
          obtain ⟨a, us, rfl, e, ru⟩ := r1.2
          exact ⟨a, us, rfl, .of e, fun q hq => fin_lstD (p.mono s1) r1.1 ru.rev hq⟩

/-! ### ints in order -/
def ins (x : Int) : List Int → List Int
  | [] => [x]
  | y :: ys => if x ≤ y then x :: y :: ys else y :: ins x ys
def isort : List Int → List Int
  | [] => []
  | x :: xs => ins x (isort xs)
theorem ins_perm (x : Int) : ∀ ys : List Int, (ins x ys).Perm (x :: ys)
  | [] => .refl _
  | y :: ys => by
    unfold ins
    split
    · exact .refl _
    · exact ((ins_perm x ys).cons y).trans (.swap x y ys)
theorem isort_perm : ∀ xs : List Int, (isort xs).Perm xs
  | [] => .refl _
  | x :: xs => (ins_perm x (isort xs)).trans ((isort_perm xs).cons x)
theorem ins_sorted (x : Int) : ∀ {ys : List Int}, ys.Pairwise (· ≤ ·) → (ins x ys).Pairwise (· ≤ ·)
  | [], _ => List.pairwise_singleton _ _
  | y :: ys, h => by
    unfold ins
    have h' := List.pairwise_cons.mp h
    split
    · rename_i hx
      refine List.pairwise_cons.mpr ⟨fun z hz => ?_, h⟩
      rcases List.mem_cons.mp hz with e | hz
      · subst e; exact hx
      · exact Int.le_trans hx (h'.1 z hz)
    · rename_i hx
      refine List.pairwise_cons.mpr ⟨fun z hz => ?_, ins_sorted x h'.2⟩
      rcases List.mem_cons.mp ((ins_perm x ys).mem_iff.mp hz) with e | hz
      · subst e; omega
      · exact h'.1 z hz
theorem isort_sorted : ∀ xs : List Int, (isort xs).Pairwise (· ≤ ·)
  | [] => .nil
  | x :: xs => ins_sorted x (isort_sorted xs)
theorem sorted_unique : ∀ {xs ys : List Int}, xs.Perm ys → xs.Pairwise (· ≤ ·) → ys.Pairwise (· ≤ ·) → xs = ys
  | [], ys, p, _, _ => by rw [List.nil_perm.mp p]
  | x :: xs, [], p, _, _ => by have := p.length_eq; simp at this
  | x :: xs, y :: ys, p, h1, h2 => by
    have a := List.pairwise_cons.mp h1
    have b := List.pairwise_cons.mp h2
    have e : x = y := by
      have m1 : x ∈ y :: ys := p.mem_iff.mp List.mem_cons_self
      have m2 : y ∈ x :: xs := p.mem_iff.mpr List.mem_cons_self
      rcases List.mem_cons.mp m1 with e | m1
      · exact e
      · rcases List.mem_cons.mp m2 with e | m2
        · exact e.symm
        · have := b.1 x m1
          have := a.1 y m2
          omega
    subst e
    rw [sorted_unique (List.Perm.cons_inv p) a.2 b.2]
def intD : D → Option Int
  | .int i => some i
  | _ => none
def ints? (ds : List D) : Option (List Int) := ds.mapM intD
def bls? (ds : List D) : Option (List Bool) := ds.mapM fun d => match d with
  | .bl b => some b
  | _ => none
theorem ints?_map : ∀ ns : List Int, ints? (ns.map D.int) = some ns
  | [] => rfl
  | n :: ns => by
    have h := ints?_map ns
    unfold ints? at h ⊢
    rw [List.map_cons, List.mapM_cons, h]
    rfl
theorem ints?_eq : ∀ {ds : List D} {ns : List Int}, ints? ds = some ns → ds = ns.map D.int
  | [], ns, h => by cases h; rfl
  | d :: ds, ns, h => by
    unfold ints? at h
    rw [List.mapM_cons] at h
    cases e : intD d with
    | none => rw [e] at h; cases h
    | some k =>
      cases e2 : ds.mapM intD with
      | none => simp only [e, e2] at h; cases h
      | some l =>
        simp only [e, e2] at h
        cases h
        cases d <;> cases e
        rw [ints?_eq e2]
        rfl
theorem bls?_eq : ∀ {ds : List D} {ns : List Bool}, bls? ds = some ns → ds = ns.map D.bl
  | [], ns, h => by cases h; rfl
  | d :: ds, ns, h => by
    unfold bls? at h
    rw [List.mapM_cons] at h
    cases d <;> first | (cases h; done) | skip
    rename_i b
    cases e2 : bls? ds with
    | none =>
      unfold bls? at e2
      simp only [e2] at h; cases h
    | some l =>
      have e3 := bls?_eq e2
      unfold bls? at e2
      simp only [e2] at h
      cases h
      rw [e3]
      rfl
section
variable {c : Conf} {N : Addr → Prop} {H : Hp}
theorem Rp.ints? {vs : List V} {ds : List D} {ns : List Int} (r : Rp c N H vs ds) (h : ints? ds = some ns) : vs = ns.map V.int := by
  have e := ints?_eq h
  subst e
  exact r.ints
theorem Rp.bls : ∀ {vs : List V} {ns : List Bool}, Rp c N H vs (ns.map D.bl) → vs = ns.map V.bl
  | [], [], _ => rfl
  | [], _ :: _, h => by cases h
  | _ :: _, [], h => by cases h
  | v :: vs, n :: ns, h => by
    have h1 : Rp c N H (v :: vs) (D.bl n :: ns.map D.bl) := h
    rw [h1.unc.1.of_bl, Rp.bls h1.unc.2]
    rfl
theorem Bors.one {xs : List V} {d : D} (h : Bors c N H xs [d]) : ∃ x, xs = [x] ∧ Bor c N H x d := by
  cases h with
  | cons a b => cases b; exact ⟨_, rfl, a⟩
theorem Bors.two {xs : List V} {d e : D} (h : Bors c N H xs [d, e]) : ∃ x y, xs = [x, y] ∧ Bor c N H x d ∧ Bor c N H y e := by
  cases h with
  | cons a b => cases b with
    | cons a' b' => cases b'; exact ⟨_, _, rfl, a, a'⟩
/-- a list or a tuple that is read -/
def seqD : D → Option (List D)
  | .lst ds => some ds
  | .tup ds => some ds
  | .fz _ ds => some ds
  | _ => none
theorem seqD_at {v : V} {d : D} {ds : List D} (h : seqD d = some ds) (r : Bor c N H v d) : ∃ a us, v = .ref a ∧ (SqL c.K H a us ∨ SqT c.K H a us) ∧ Rp c N H us ds := by
  cases d <;> first | (cases h; done) | skip
  · cases h
    obtain ⟨a, us, rfl, _, e, q⟩ := r.tup
    exact ⟨a, us, rfl, .inr (.of e), q⟩
  · cases h
    obtain ⟨a, us, rfl, e, q⟩ := r
    exact ⟨a, us, rfl, .inl (.of e), q⟩
  · rename_i t _
    cases h
    cases t with
    | true =>
      obtain ⟨a, us, rfl, e, q⟩ := r.fzT
      exact ⟨a, us, rfl, .inr e, q⟩
    | false =>
      obtain ⟨a, us, rfl, e, q⟩ := r.fzL
      exact ⟨a, us, rfl, .inl e, q⟩
end
section
variable {X : Cx} {c : Conf} {W : WX}
def dLen : List D → R D
  | [.str s] => guard (s.length ≤ lim) (ok (.int s.length))
  | [.dK kds] => ok (.int kds.length)
  | [d] => (seqD d).map fun ds => .ok (.int ds.length)
  | _ => none
theorem call_lenR : CallR X (.builtin "len") (fun xs H Q => ∃ a kvs, xs = [V.ref a] ∧ Rd H a (.dK kvs) ∧ Q (.int kvs.length) H) := by
  intro pins s σ H xs us Q I r h
  obtain ⟨a, kvs, rfl, ha, q⟩ := h
  obtain ⟨u, rfl, rx⟩ := vals1 r
  cases rx
  exact d_len I ha fun t s' I' => ⟨.int _, H, I', ⟨_, rfl⟩, q⟩
theorem bi_len (hK : c.K = X.K := by rfl) : Bi X c W .dur (.builtin "len") dLen := ⟨_, call_len_seq.or (call_len_str.or call_lenR), by
  rw [← hK]
  intro Γ σ ρ H xs ds res Q er bx h p
  unfold dLen at h
  split at h
  · obtain ⟨hl, h⟩ := guard_ok h
    cases h
    obtain ⟨x, rfl, b⟩ := bx.one
    rw [b.str]
    exact .inr (.inl ⟨_, rfl, lim_ok hl, fin_int p er⟩)
  · cases h
    obtain ⟨x, rfl, a, kvs, rfl, rd, ek, r⟩ := bx.one
    refine .inr (.inr ⟨a, kvs, rfl, rd, ?_⟩)
    have e : kvs.length = (kvs.map (·.1)).length := by simp
    rw [e, ek, List.length_map]
    exact fin_int p er
  · obtain ⟨es, hs, rfl⟩ := Option.map_eq_some_iff.mp h
    obtain ⟨x, rfl, b⟩ := bx.one
    obtain ⟨a, us, rfl, sq, r⟩ := seqD_at hs b
    refine .inl ⟨a, us, rfl, sq, ?_⟩
    rw [r.len]
    exact fin_int p er
  · cases h⟩
def dInt : List D → R D
  | [.int i] => ok (.int i)
  | [.bl b] => ok (.int (if b then 1 else 0))
  | [.str s] => guard (s.length ≤ 640) ((PySem.intText? s).map fun n => .ok (.int n))
  | _ => none
theorem bi_int : Bi X c W .dur (.type "int") dInt := ⟨_, call_int1.or call_int_str, by
  intro Γ σ ρ H xs ds res Q er bx h p
  unfold dInt at h
  split at h
  · cases h
    obtain ⟨x, rfl, b⟩ := bx.one
    rw [b.int]
    exact .inl (.inl ⟨_, rfl, fin_int p er⟩)
  · cases h
    obtain ⟨x, rfl, b⟩ := bx.one
    rw [b.bl]
    exact .inl (.inr ⟨_, rfl, fin_int p er⟩)
  · obtain ⟨hl, h⟩ := guard_ok h
    obtain ⟨n, hn, rfl⟩ := Option.map_eq_some_iff.mp h
    obtain ⟨x, rfl, b⟩ := bx.one
    rw [b.str]
    exact .inr ⟨_, n, rfl, hn, hl, fin_int p er⟩
  · cases h⟩
def dAbs : List D → R D
  | [.int i] => ok (.int (if i < 0 then -i else i))
  | _ => none
theorem bi_abs : Bi X c W .dur (.builtin "abs") dAbs := ⟨_, call_abs, by
  intro Γ σ ρ H xs ds res Q er bx h p
  unfold dAbs at h
  split at h
  · cases h
    obtain ⟨x, rfl, b⟩ := bx.one
    rw [b.int]
    exact ⟨_, rfl, fin_int p er⟩
  · cases h⟩
/-- the greatest, the least of ints -/
def maxI : List Int → Option Int
  | [] => none
  | [x] => some x
  | x :: y :: r => maxI ((if y > x then y else x) :: r)
termination_by l => l.length
def minI : List Int → Option Int
  | [] => none
  | [x] => some x
  | x :: y :: r => minI ((if y < x then y else x) :: r)
termination_by l => l.length
theorem maxI_is : ∀ (l : List Int) (m : Int), maxI l = some m → m ∈ l ∧ ∀ y ∈ l, y ≤ m
  | [], m, h => by unfold maxI at h; cases h
  | [x], m, h => by
    unfold maxI at h
    cases h
    exact ⟨List.mem_cons_self, fun y hy => by simp at hy; omega⟩
  | x :: y :: r, m, h => by
    unfold maxI at h
    obtain ⟨a, b⟩ := maxI_is ((if y > x then y else x) :: r) m h
    have b0 := b _ List.mem_cons_self
    refine ⟨?_, fun z hz => ?_⟩
    · rcases List.mem_cons.mp a with e | a
      · rw [e]; split <;> simp
      · simp [a]
    · rcases List.mem_cons.mp hz with e | hz
      · subst e; split at b0 <;> omega
      · rcases List.mem_cons.mp hz with e | hz
        · subst e; split at b0 <;> omega
        · exact b z (List.mem_cons_of_mem _ hz)
termination_by l => l.length
theorem minI_is : ∀ (l : List Int) (m : Int), minI l = some m → m ∈ l ∧ ∀ y ∈ l, m ≤ y
  | [], m, h => by unfold minI at h; cases h
  | [x], m, h => by
    unfold minI at h
    cases h
    exact ⟨List.mem_cons_self, fun y hy => by simp at hy; omega⟩
  | x :: y :: r, m, h => by
    unfold minI at h
    obtain ⟨a, b⟩ := minI_is ((if y < x then y else x) :: r) m h
    have b0 := b _ List.mem_cons_self
    refine ⟨?_, fun z hz => ?_⟩
    · rcases List.mem_cons.mp a with e | a
      · rw [e]; split <;> simp
      · simp [a]
    · rcases List.mem_cons.mp hz with e | hz
      · subst e; split at b0 <;> omega
      · rcases List.mem_cons.mp hz with e | hz
        · subst e; split at b0 <;> omega
        · exact b z (List.mem_cons_of_mem _ hz)
termination_by l => l.length
section
variable {X : Cx}
def rMaxT (K : PySem.W.Frag) : List V → Hp → VK → Prop := fun vs H Q => ∃ (a : Addr) (ns : List Int), vs = [V.ref a] ∧ SqT K H a (ns.map V.int) ∧ 0 < ns.length ∧ ∀ m, m ∈ ns → (∀ y, y ∈ ns → y ≤ m) → Q (.int m) H
def rMinT (K : PySem.W.Frag) : List V → Hp → VK → Prop := fun vs H Q => ∃ (a : Addr) (ns : List Int), vs = [V.ref a] ∧ SqT K H a (ns.map V.int) ∧ 0 < ns.length ∧ ∀ m, m ∈ ns → (∀ y, y ∈ ns → m ≤ y) → Q (.int m) H
theorem cr_maxT (hc : X.calm = true) : CallR X (.builtin "max") (rMaxT X.K) := by
  intro pins s σ H vs us Q I r h
  obtain ⟨a, ns, rfl, hs, hne, q⟩ := h
  obtain ⟨its, rv, hl, _⟩ := I.tuple hs
  rw [Vals.ref1 r]
  exact DLS.max_rawT (I.ok.hd hc) hl rv.ints hne fun h' tk m t' hk h1 h2 => ⟨.int _, H, I.kept hk, ⟨_, rfl⟩, q m h1 h2⟩
theorem cr_minT (hc : X.calm = true) : CallR X (.builtin "min") (rMinT X.K) := by
  intro pins s σ H vs us Q I r h
  obtain ⟨a, ns, rfl, hs, hne, q⟩ := h
  obtain ⟨its, rv, hl, _⟩ := I.tuple hs
  rw [Vals.ref1 r]
  exact DLS.min_rawT (I.ok.hd hc) hl rv.ints hne fun h' tk m t' hk h1 h2 => ⟨.int _, H, I.kept hk, ⟨_, rfl⟩, q m h1 h2⟩
end
def dMax : List D → R D
  | [.int a, .int b] => ok (.int (if b > a then b else a))
  | [.lst ds] => (ints? ds).bind fun ns => (maxI ns).map fun m => .ok (.int m)
  | [.tup ds] => (ints? ds).bind fun ns => (maxI ns).map fun m => .ok (.int m)
  | _ => none
def dMin : List D → R D
  | [.int a, .int b] => ok (.int (if b < a then b else a))
  | [.lst ds] => (ints? ds).bind fun ns => (minI ns).map fun m => .ok (.int m)
  | [.tup ds] => (ints? ds).bind fun ns => (minI ns).map fun m => .ok (.int m)
  | _ => none
theorem bi_max (hc : X.calm = true) (hK : c.K = X.K := by rfl) : Bi X c W .dur (.builtin "max") dMax := ⟨_, (call_max2 hc).or ((cr_max hc).or (cr_maxT hc)), by
  rw [← hK]
  intro Γ σ ρ H xs ds res Q er bx h p
  unfold dMax at h
  split at h
  · cases h
    obtain ⟨x, y, rfl, b1, b2⟩ := bx.two
    rw [b1.int, b2.int]
    exact .inl ⟨_, _, rfl, fin_int p er⟩
  · obtain ⟨ns, hn, h⟩ := Option.bind_eq_some_iff.mp h
    obtain ⟨m, hm, rfl⟩ := Option.map_eq_some_iff.mp h
    obtain ⟨x, rfl, a, us, rfl, e, r⟩ := bx.one
    have eu := r.ints? hn
    subst eu
    obtain ⟨m1, m2⟩ := maxI_is _ _ hm
    refine .inr (.inl ⟨a, ns, rfl, .of e, List.length_pos_of_mem m1, fun m' h1 h2 => ?_⟩)
    have em : m' = m := Int.le_antisymm (m2 _ h1) (h2 _ m1)
    subst em
    exact fin_int p er
  · obtain ⟨ns, hn, h⟩ := Option.bind_eq_some_iff.mp h
    obtain ⟨m, hm, rfl⟩ := Option.map_eq_some_iff.mp h
    obtain ⟨x, rfl, b⟩ := bx.one
    obtain ⟨a, us, rfl, _, e, r⟩ := b.tup
    have eu := r.ints? hn
    subst eu
    obtain ⟨m1, m2⟩ := maxI_is _ _ hm
    refine .inr (.inr ⟨a, ns, rfl, .of e, List.length_pos_of_mem m1, fun m' h1 h2 => ?_⟩)
    have em : m' = m := Int.le_antisymm (m2 _ h1) (h2 _ m1)
    subst em
    exact fin_int p er
  · cases h⟩
theorem bi_min (hc : X.calm = true) (hK : c.K = X.K := by rfl) : Bi X c W .dur (.builtin "min") dMin := ⟨_, (call_min2 hc).or ((cr_min hc).or (cr_minT hc)), by
  rw [← hK]
  intro Γ σ ρ H xs ds res Q er bx h p
  unfold dMin at h
  split at h
  · cases h
    obtain ⟨x, y, rfl, b1, b2⟩ := bx.two
    rw [b1.int, b2.int]
    exact .inl ⟨_, _, rfl, fin_int p er⟩
  · obtain ⟨ns, hn, h⟩ := Option.bind_eq_some_iff.mp h
    obtain ⟨m, hm, rfl⟩ := Option.map_eq_some_iff.mp h
    obtain ⟨x, rfl, a, us, rfl, e, r⟩ := bx.one
    have eu := r.ints? hn
    subst eu
    obtain ⟨m1, m2⟩ := minI_is _ _ hm
    refine .inr (.inl ⟨a, ns, rfl, .of e, List.length_pos_of_mem m1, fun m' h1 h2 => ?_⟩)
    have em : m' = m := Int.le_antisymm (h2 _ m1) (m2 _ h1)
    subst em
    exact fin_int p er
  · obtain ⟨ns, hn, h⟩ := Option.bind_eq_some_iff.mp h
    obtain ⟨m, hm, rfl⟩ := Option.map_eq_some_iff.mp h
    obtain ⟨x, rfl, b⟩ := bx.one
    obtain ⟨a, us, rfl, _, e, r⟩ := b.tup
    have eu := r.ints? hn
    subst eu
    obtain ⟨m1, m2⟩ := minI_is _ _ hm
    refine .inr (.inr ⟨a, ns, rfl, .of e, List.length_pos_of_mem m1, fun m' h1 h2 => ?_⟩)
    have em : m' = m := Int.le_antisymm (h2 _ m1) (m2 _ h1)
    subst em
    exact fin_int p er
  · cases h⟩
def dSum : List D → R D
  | [.lst ds] => (ints? ds).map fun ns => .ok (.int ns.sum)
  | _ => none
theorem bi_sum (hc : X.calm = true) (hK : c.K = X.K := by rfl) : Bi X c W .dur (.builtin "sum") dSum := ⟨_, cr_sum hc, by
  rw [← hK]
  intro Γ σ ρ H xs ds res Q er bx h p
  unfold dSum at h
  split at h
  · obtain ⟨ns, hn, rfl⟩ := Option.map_eq_some_iff.mp h
    obtain ⟨x, rfl, a, us, rfl, e, r⟩ := bx.one
    have eu := r.ints? hn
    subst eu
    exact ⟨a, ns, rfl, .of e, fin_int p er⟩
  · cases h⟩
def dAny : List D → R D
  | [.lst ds] => (bls? ds).map fun bs => .ok (.bl (bs.any id))
  | _ => none
def dAll : List D → R D
  | [.lst ds] => (bls? ds).map fun bs => .ok (.bl (bs.all id))
  | _ => none
theorem bi_any (hc : X.calm = true) (hK : c.K = X.K := by rfl) : Bi X c W .dur (.builtin "any") dAny := ⟨_, cr_any hc, by
  rw [← hK]
  intro Γ σ ρ H xs ds res Q er bx h p
  unfold dAny at h
  split at h
  · obtain ⟨ns, hn, rfl⟩ := Option.map_eq_some_iff.mp h
    obtain ⟨x, rfl, a, us, rfl, e, r⟩ := bx.one
    rw [bls?_eq hn] at r
    have eu := r.bls
    subst eu
    exact ⟨a, ns, rfl, .of e, fin_bl p er⟩
  · cases h⟩
theorem bi_all (hc : X.calm = true) (hK : c.K = X.K := by rfl) : Bi X c W .dur (.builtin "all") dAll := ⟨_, cr_all hc, by
  rw [← hK]
  intro Γ σ ρ H xs ds res Q er bx h p
  unfold dAll at h
  split at h
  · obtain ⟨ns, hn, rfl⟩ := Option.map_eq_some_iff.mp h
    obtain ⟨x, rfl, a, us, rfl, e, r⟩ := bx.one
    rw [bls?_eq hn] at r
    have eu := r.bls
    subst eu
    exact ⟨a, ns, rfl, .of e, fin_bl p er⟩
  · cases h⟩
def kD : Key → D
  | .inl i => .int i
  | .inr s => .str s
theorem kD_rp {N : Addr → Prop} {H : Hp} : ∀ {kvs : List (Key × V)} {kds : List (Key × D)}, kvs.map (·.1) = kds.map (·.1) → Rp c N H (kvs.map fun kv => kV kv.1) (kds.map fun kd => kD kd.1)
  | [], [], _ => .nil
  | [], _ :: _, e => by simp at e
  | _ :: _, [], e => by simp at e
  | (k1, v) :: kvs, (k2, d) :: kds, e => by
    simp only [List.map_cons, List.cons.injEq] at e
    obtain ⟨e1, e2⟩ := e
    subst e1
    cases k1 with
    | inl i => exact .int (kD_rp e2)
    | inr s => exact .str (kD_rp e2)
def dList : List D → R D
  | [.dK kds] => ok (.lst (kds.map fun kd => kD kd.1))
  | [d] => (seqD d).map fun ds => .ok (.lst ds)
  | _ => none
theorem bi_list (hc : X.calm = true) (hK : c.K = X.K := by rfl) : Bi X c W .own (.type "list") dList := ⟨_, call_list_of.or (call_listD hc), by
  rw [← hK]
  intro Γ σ ρ H xs ds res Q er bx h p
  unfold dList at h
  split at h
  · cases h
    obtain ⟨x, rfl, a, kvs, rfl, rd, ek, r⟩ := bx.one
    exact .inr ⟨a, kvs, rfl, rd, fun l hl => fin_lst p er (kD_rp ek) hl⟩
  · obtain ⟨es, hs, rfl⟩ := Option.map_eq_some_iff.mp h
    obtain ⟨x, rfl, b⟩ := bx.one
    obtain ⟨a, us, rfl, sq, r⟩ := seqD_at hs b
    exact .inl ⟨a, us, rfl, sq, fun l hl => fin_lst p er r hl⟩
  · cases h⟩
def dTuple : List D → R D
  | [.lst ds] => ok (.tup ds)
  | [.tup ds] => ok (.tup ds)
  | _ => none
theorem bi_tuple (hK : c.K = X.K := by rfl) : Bi X c W .dur (.type "tuple") dTuple := ⟨_, call_tuple_of, by
  rw [← hK]
  intro Γ σ ρ H xs ds res Q er bx h p
  unfold dTuple at h
  split at h
  · cases h
    obtain ⟨x, rfl, a, us, rfl, e, r⟩ := bx.one
    exact ⟨a, us, rfl, .inl ⟨.of e, fun l hl => fin_tup p er r hl⟩⟩
  · cases h
    obtain ⟨x, rfl, b⟩ := bx.one
    obtain ⟨a, us, rfl, n, e, r⟩ := b.tup
    exact ⟨a, us, rfl, .inr ⟨.of e, fin_re p er (.tup n e r .nil)⟩⟩
  · cases h⟩
/-! ### list(range(..)), tuple(range(..)) -/
def rgD (a b : Int) : List D := (List.range (b - a).toNat).map fun i => .int (a + (i : Nat))
def rgOk (a b : Int) : Prop := -1000000 ≤ a ∧ a ≤ 1000000 ∧ -1000000 ≤ b ∧ b ≤ 1000000
instance (a b : Int) : Decidable (rgOk a b) := by unfold rgOk; infer_instance
theorem rgV_rp {N : Addr → Prop} {H : Hp} (a b : Int) : Rp c N H (rgV a b) (rgD a b) := by
  unfold rgV rgD
  generalize List.range (b - a).toNat = l
  induction l with
  | nil => exact .nil
  | cons x l ih => exact .int ih
theorem rgOk_ok {a b : Int} (h : rgOk a b) : RgOk a b := by
  obtain ⟨h1, h2, h3, h4⟩ := h
  have e : (2 : Int) ^ 62 = 4611686018427387904 := by decide
  have e2 : (2 : Nat) ^ 24 = 16777216 := by decide
  refine ⟨by omega, by omega, by omega, by omega, by omega⟩
def mRg1 (f : List D → D) (m : ME) : ME := fun ρ => bnd (m ρ) fun d => match d with
  | .int n => guard (rgOk 0 n) (ok (f (rgD 0 n)))
  | _ => none
def mRg2 (f : List D → D) (m n : ME) : ME := fun ρ => bnd (m ρ) fun d => bnd (n ρ) fun e => match d, e with
  | .int a, .int b => guard (rgOk a b) (ok (f (rgD a b)))
  | _, _ => none
theorem tRg1_ok {m : ME} {k : Kd} {f : List D → D} {σ : L2.St} {H : Hp} {Q : VK} {t : Int → Int → Hp → Prop} (h : tE c W k (mRg1 f m) σ H Q)
    (kk : ∀ (Γ : Gam) (ρ : Ro) (a b : Int) (H1 : Hp), rgOk a b → ER c Γ σ H1 ρ → PostE c W k Γ σ ρ H1 Q (.ok (f (rgD a b))) → t a b H1) : tRg1 (tE c W .bor m) σ H t := by
  obtain ⟨Γ, ρ, r, er, em, p⟩ := h
  refine use er em p.err fun d v H1 h1 s1 r1 => ?_
  split at h1
  · obtain ⟨hl, h1⟩ := guard_ok h1
    cases h1
    rw [r1.2.int]
    exact ⟨_, rfl, kk Γ ρ _ _ _ hl r1.1 (p.mono s1)⟩
  · cases h1
theorem tRg2_ok {m n : ME} {k : Kd} {f : List D → D} {σ : L2.St} {H : Hp} {Q : VK} {t : Int → Int → Hp → Prop} (h : tE c W k (mRg2 f m n) σ H Q)
    (kk : ∀ (Γ : Gam) (ρ : Ro) (a b : Int) (H1 : Hp), rgOk a b → ER c Γ σ H1 ρ → PostE c W k Γ σ ρ H1 Q (.ok (f (rgD a b))) → t a b H1) : tRg2 (tE c W .bor m) (tE c W .bor n) σ H t := by
  obtain ⟨Γ, ρ, r, er, em, p⟩ := h
  refine use er em p.err fun d v H1 h1 s1 r1 => ?_
  refine use r1.1 h1 p.err fun d2 v2 H2 h2 s2 r2 => ?_
  split at h2
  · obtain ⟨hl, h2⟩ := guard_ok h2
    cases h2
    rw [r1.2.int, r2.2.int]
    exact ⟨_, _, rfl, rfl, kk Γ ρ _ _ _ hl r2.1 (p.mono (s1.trans s2))⟩
  · cases h2
section
variable {a b : Expr} {m n : ME} {p pos pr posr : Pos}
theorem d_listRg1 (hc : X.calm = true) (hg : Gl X "list") (hm : X.mg "list" = none) (hg2 : Gl X "range") (hm2 : X.mg "range" = none) (ha : PE X a (tE c W .bor m)) (na : starEach [a] X.env = (false, eval a X.env) :: starEach [] X.env := by rfl)
    (nb : starEach [.Call (.Name "range" pr) [a] [] posr] X.env = (false, eval (.Call (.Name "range" pr) [a] [] posr) X.env) :: starEach [] X.env := by rfl) : PE X (.Call (.Name "list" p) [.Call (.Name "range" pr) [a] [] posr] [] pos) (tE c W .own (mRg1 .lst m)) :=
  (pe_listRg hc hg hm (prg_1 hg2 hm2 ha na) nb).via fun σ H Q h => tRg1_ok h fun Γ ρ a b H1 hl er p => ⟨rgOk_ok hl, fun q hq => fin_lst p er (rgV_rp a b) hq⟩
theorem d_listRg2 (hc : X.calm = true) (hg : Gl X "list") (hm : X.mg "list" = none) (hg2 : Gl X "range") (hm2 : X.mg "range" = none) (ha : PE X a (tE c W .bor m)) (hb : PE X b (tE c W .bor n)) (na : starEach [a, b] X.env = (false, eval a X.env) :: starEach [b] X.env := by rfl)
    (nb : starEach [b] X.env = (false, eval b X.env) :: starEach [] X.env := by rfl) (hp : (backTo posr (starEach [b] X.env)).any (·.1) = false := by rfl)
    (nr : starEach [.Call (.Name "range" pr) [a, b] [] posr] X.env = (false, eval (.Call (.Name "range" pr) [a, b] [] posr) X.env) :: starEach [] X.env := by rfl) : PE X (.Call (.Name "list" p) [.Call (.Name "range" pr) [a, b] [] posr] [] pos) (tE c W .own (mRg2 .lst m n)) :=
  (pe_listRg hc hg hm (prg_2 hg2 hm2 ha hb na nb hp) nr).via fun σ H Q h => tRg2_ok h fun Γ ρ a b H1 hl er p => ⟨rgOk_ok hl, fun q hq => fin_lst p er (rgV_rp a b) hq⟩
theorem d_tupRg1 (hc : X.calm = true) (hg : Gl X "tuple") (hm : X.mg "tuple" = none) (hg2 : Gl X "range") (hm2 : X.mg "range" = none) (ha : PE X a (tE c W .bor m)) (na : starEach [a] X.env = (false, eval a X.env) :: starEach [] X.env := by rfl)
    (nb : starEach [.Call (.Name "range" pr) [a] [] posr] X.env = (false, eval (.Call (.Name "range" pr) [a] [] posr) X.env) :: starEach [] X.env := by rfl) : PE X (.Call (.Name "tuple" p) [.Call (.Name "range" pr) [a] [] posr] [] pos) (tE c W .dur (mRg1 .tup m)) :=
  (pe_tupRg hc hg hm (prg_1 hg2 hm2 ha na) nb).via fun σ H Q h => tRg1_ok h fun Γ ρ a b H1 hl er p => ⟨rgOk_ok hl, fun q hq => fin_tup p er (rgV_rp a b) hq⟩
theorem d_tupRg2 (hc : X.calm = true) (hg : Gl X "tuple") (hm : X.mg "tuple" = none) (hg2 : Gl X "range") (hm2 : X.mg "range" = none) (ha : PE X a (tE c W .bor m)) (hb : PE X b (tE c W .bor n)) (na : starEach [a, b] X.env = (false, eval a X.env) :: starEach [b] X.env := by rfl)
    (nb : starEach [b] X.env = (false, eval b X.env) :: starEach [] X.env := by rfl) (hp : (backTo posr (starEach [b] X.env)).any (·.1) = false := by rfl)
    (nr : starEach [.Call (.Name "range" pr) [a, b] [] posr] X.env = (false, eval (.Call (.Name "range" pr) [a, b] [] posr) X.env) :: starEach [] X.env := by rfl) : PE X (.Call (.Name "tuple" p) [.Call (.Name "range" pr) [a, b] [] posr] [] pos) (tE c W .dur (mRg2 .tup m n)) :=
  (pe_tupRg hc hg hm (prg_2 hg2 hm2 ha hb na nb hp) nr).via fun σ H Q h => tRg2_ok h fun Γ ρ a b H1 hl er p => ⟨rgOk_ok hl, fun q hq => fin_tup p er (rgV_rp a b) hq⟩
end
/-! ### sorted of ints -/
def rSortedIT (K : PySem.W.Frag) : List V → Hp → VK → Prop := fun vs H Q => ∃ (a : Addr) (ns : List Int), vs = [V.ref a] ∧ SqT K H a (ns.map V.int) ∧
  ∀ (ns' : List Int) (p : Addr), ns'.Perm ns → ns'.Pairwise (· ≤ ·) → H p = none → Q (.ref p) (upd H p (.lst (ns'.map V.int)))
theorem cr_sortedIT : CallR X (.builtin "sorted") (rSortedIT X.K) := by
  intro pins s σ H vs us Q I r h
  obtain ⟨a, ns, rfl, hs, q⟩ := h
  obtain ⟨its, rv, hl, hz⟩ := I.tuple hs
  rw [Vals.ref1 r]
  have hi := rv.ints
  refine DLS.sorted_ordT SrtO.swo_int hl (by rw [← rv.length]; exact hz) (fun h2 h₁ a' _ _ => SrtO.ints_sortable hi h2) fun out h1 h2 => ?_
  obtain ⟨k1, k2, k3⟩ := SrtO.ints_out hi h1 h2
  obtain ⟨ep, he'⟩ := PyProof.Rows.sortedAll_at s.heap its out.toArray
  have hlen : ((out.map SrtO.iv).map V.int).length ≤ sizeLine := by
    rw [List.length_map, k2.length_eq]
    rw [List.length_map] at hz
    exact hz
  exact ⟨.ref _, upd H (s.heap.objs.size + 1) (.lst ((out.map SrtO.iv).map V.int)), I.laid (t' := s.toks) (fun _ _ => PyProof.Rows.sortedAll_old) (Nat.le_succ _) ⟨hlen, out, ep, vals_of_ints k1, he'⟩, rfl, q _ _ k2 k3 (I.hok.fresh (Nat.le_succ _))⟩
def inlD : Key → Option Int
  | .inl i => some i
  | _ => none
def dSorted : List D → R D
  | [.dK kds] => (kds.mapM fun kd => inlD kd.1).bind fun ns => guard (ns.length < 64) (ok (.lst ((isort ns).map D.int)))
  | [d] => (seqD d).bind fun ds => (ints? ds).map fun ns => .ok (.lst ((isort ns).map D.int))
  | _ => none
theorem inl_keys : ∀ {kds : List (Key × D)} {ns : List Int}, (kds.mapM fun kd => inlD kd.1) = some ns → kds.map (·.1) = ns.map Sum.inl
  | [], ns, h => by cases h; rfl
  | (k, d) :: kds, ns, h => by
    rw [List.mapM_cons] at h
    cases k with
    | inr s => cases h
    | inl i =>
      cases e2 : (kds.mapM fun kd => inlD kd.1) with
      | none => simp only [e2] at h; cases h
      | some l =>
        simp only [e2] at h
        cases h
        rw [List.map_cons, inl_keys e2]
        rfl
theorem bi_sorted (hc : X.calm = true) (hK : c.K = X.K := by rfl) : Bi X c W .own (.builtin "sorted") dSorted := ⟨_, cr_sortedI.or (cr_sortedIT.or (call_sortedDI hc)), by
  rw [← hK]
  intro Γ σ ρ H xs ds res Q er bx h p
  have fin : ∀ {ns ns' : List Int} {q : Addr}, PostE c W .own Γ σ ρ H Q (.ok (.lst ((isort ns).map D.int))) → ns'.Perm ns → ns'.Pairwise (· ≤ ·) → H q = none → Q (.ref q) (upd H q (.lst (ns'.map V.int))) := fun {ns ns' q} p h1 h2 hq => by
    rw [sorted_unique (h1.trans (isort_perm ns).symm) h2 (isort_sorted ns)]
    exact fin_lst p er Rp.of_ints hq
  unfold dSorted at h
  split at h
  · obtain ⟨ns, hn, h⟩ := Option.bind_eq_some_iff.mp h
    obtain ⟨hl, h⟩ := guard_ok h
    cases h
    obtain ⟨x, rfl, a, kvs, rfl, rd, ek, r⟩ := bx.one
    exact .inr (.inr ⟨a, kvs, ns, rfl, rd, ek.trans (inl_keys hn), hl, fun ys q h1 h2 hq => fin p h1 h2 hq⟩)
  · obtain ⟨es, hs, h⟩ := Option.bind_eq_some_iff.mp h
    obtain ⟨ns, hn, rfl⟩ := Option.map_eq_some_iff.mp h
    obtain ⟨x, rfl, b⟩ := bx.one
    obtain ⟨a, us, rfl, sq, r⟩ := seqD_at hs b
    have eu := r.ints? hn
    subst eu
    rcases sq with sq | sq
    · exact .inl ⟨a, ns, rfl, sq, fun ns' q h1 h2 hq => fin p h1 h2 hq⟩
    · exact .inr (.inl ⟨a, ns, rfl, sq, fun ns' q h1 h2 hq => fin p h1 h2 hq⟩)
  · cases h⟩
end
end DL

set_option Elab.async false
set_option linter.all false
set_option maxRecDepth 100000
set_option maxHeartbeats 2000000
set_option autoImplicit false
/-! DLe: statements: stores to names, to places, own lists changed, if, while, return, raise. -/
namespace DL
open PySem L2

/-! ### the frame changes -/
section
variable {c : Conf} {Γ : Gam} {σ : L2.St} {H H' : Hp} {ρ : Ro} {i : Nat}
def fxOk (l : List (Nat × V)) (i : Nat) : Bool := l.all fun p => p.1 != i
theorem fx_set {l : List (Nat × V)} {v : V} (h : ∀ p ∈ l, σ[p.1]? = some (some p.2)) (k : fxOk l i = true) : ∀ p ∈ l, (σ.set i (some v))[p.1]? = some (some p.2) := fun p hp => by
  have := List.all_eq_true.mp k p hp
  have ne : p.1 ≠ i := by simpa using this
  rw [List.getElem?_set_ne (Ne.symm ne)]
  exact h p hp
theorem own_set {j : Nat} {d e : D} {b : Bool} (h : (ρ.set i (some (e, b)))[j]? = some (some (d, true))) : (j = i ∧ d = e ∧ b = true) ∨ (j ≠ i ∧ ρ[j]? = some (some (d, true))) := by
  by_cases z : i = j
  · subst z
    rw [List.getElem?_set] at h
    rw [if_pos rfl] at h
    split at h
    · cases h; exact .inl ⟨rfl, rfl, rfl⟩
    · cases h
  · rw [List.getElem?_set_ne z] at h
    exact .inr ⟨Ne.symm z, h⟩
theorem ER.setD (e : ER c Γ σ H ρ) {v : V} {d : D} (r : Re c (NN Γ σ ρ) H v d) (k : fxOk c.fx i = true) : ER c Γ (σ.set i (some v)) H (ρ.set i (some (d, false))) := by
  have nn : ∀ a, NN Γ (σ.set i (some v)) (ρ.set i (some (d, false))) a → NN Γ σ ρ a := fun a h => by
    rcases h with h | ⟨j, f, h1, h2⟩
    · exact .inl h
    · rcases own_set h1 with ⟨_, _, z⟩ | ⟨z, h1⟩
      · cases z
      · rw [List.getElem?_set_ne (Ne.symm z)] at h2
        exact .inr ⟨j, f, h1, h2⟩
  have st : ∀ a o, ¬ NN Γ σ ρ a → H a = some o → H a = some o ∧ ¬ NN Γ (σ.set i (some v)) (ρ.set i (some (d, false))) a := fun a o n q => ⟨q, fun z => n (nn a z)⟩
  refine { len := by simp [e.len], ext := e.ext, utr := e.utr, held := fun p h => (e.held p h).step st, raw := fun p h => ⟨fun z => (e.raw p h).1 (nn _ z), (e.raw p h).2⟩, fx := fx_set e.fx k, own := ?_, dis := ?_, slot := ?_, mine := ?_ }
  · intro j f a h1 h2
    rcases own_set h1 with ⟨_, _, z⟩ | ⟨z, h1⟩
    · cases z
    · rw [List.getElem?_set_ne (Ne.symm z)] at h2
      exact e.own j f a h1 h2
  · intro j l f g a ne h1 h2 h3
    rcases own_set h1 with ⟨_, _, z⟩ | ⟨z, h1⟩
    · cases z
    rcases own_set h2 with ⟨_, _, w⟩ | ⟨w, h2⟩
    · cases w
    rw [List.getElem?_set_ne (Ne.symm z)] at h3
    rw [List.getElem?_set_ne (Ne.symm w)]
    exact e.dis j l f g a ne h1 h2 h3
  · intro j f h
    by_cases z : i = j
    · subst z
      have hl := (List.getElem?_eq_some_iff.mp h).1
      rw [List.length_set, e.len] at hl
      rw [List.getElem?_set, if_pos rfl] at h
      rw [if_pos (by rw [e.len]; exact hl)] at h
      cases h
      exact ⟨v, by rw [List.getElem?_set, if_pos rfl, if_pos hl], r.step st⟩
    · rw [List.getElem?_set_ne z] at h
      obtain ⟨w, h1, h2⟩ := e.slot j f h
      exact ⟨w, by rw [List.getElem?_set_ne z]; exact h1, h2.step st⟩
  · intro j f h
    rcases own_set h with ⟨_, _, z⟩ | ⟨z, h⟩
    · cases z
    obtain ⟨a, h1, h2⟩ := e.mine j f h
    exact ⟨a, by rw [List.getElem?_set_ne (Ne.symm z)]; exact h1, h2.step (fun _ q => q) st⟩
theorem ER.setO {a : Addr} {d : D} (e : ER c (Γ.add a) σ H ρ) (h0 : Γ.H0 a = none) (na : ¬ NN Γ σ ρ a) (r : Own c (NN (Γ.add a) σ ρ) H a d) (k : fxOk c.fx i = true) : ER c Γ (σ.set i (some (.ref a))) H (ρ.set i (some (d, true))) := by
  have nn : ∀ b, NN Γ (σ.set i (some (.ref a))) (ρ.set i (some (d, true))) b → NN (Γ.add a) σ ρ b := fun b h => by
    rcases h with h | ⟨j, f, h1, h2⟩
    · exact .inl (.inl h)
    · rcases own_set h1 with ⟨z, _, _⟩ | ⟨z, h1⟩
      · subst z
        rw [List.getElem?_set, if_pos rfl] at h2
        split at h2
        · cases h2; exact .inl (.inr rfl)
        · cases h2
      · rw [List.getElem?_set_ne (Ne.symm z)] at h2
        exact .inr ⟨j, f, h1, h2⟩
  have st : ∀ b o, ¬ NN (Γ.add a) σ ρ b → H b = some o → H b = some o ∧ ¬ NN Γ (σ.set i (some (.ref a))) (ρ.set i (some (d, true))) b := fun b o n q => ⟨q, fun z => n (nn b z)⟩
  refine { len := by simp [e.len], ext := e.ext, utr := fun b h => e.utr b (.inl h), held := fun p h => (e.held p h).step st, raw := fun p h => ⟨fun z => (e.raw p h).1 (nn _ z), (e.raw p h).2⟩, fx := fx_set e.fx k, own := ?_, dis := ?_, slot := ?_, mine := ?_ }
  · intro j f b h1 h2
    rcases own_set h1 with ⟨z, _, _⟩ | ⟨z, h1⟩
    · subst z
      rw [List.getElem?_set, if_pos rfl] at h2
      split at h2
      · cases h2; exact ⟨h0, fun z => na (.inl z)⟩
      · cases h2
    · rw [List.getElem?_set_ne (Ne.symm z)] at h2
      exact ⟨(e.own j f b h1 h2).1, fun z => (e.own j f b h1 h2).2 (.inl z)⟩
  · intro j l f g b ne h1 h2 h3
    rcases own_set h1 with ⟨z, _, _⟩ | ⟨z, h1⟩
    · subst z
      rcases own_set h2 with ⟨w, _, _⟩ | ⟨w, h2⟩
      · exact absurd w.symm ne
      rw [List.getElem?_set_ne (Ne.symm w)]
      rw [List.getElem?_set, if_pos rfl] at h3
      split at h3
      · cases h3
        exact fun q => na (.inr ⟨l, g, h2, q⟩)
      · cases h3
    · rw [List.getElem?_set_ne (Ne.symm z)] at h3
      rcases own_set h2 with ⟨w, _, _⟩ | ⟨w, h2⟩
      · rw [w, List.getElem?_set, if_pos rfl]
        split
        · intro q
          cases q
          exact na (.inr ⟨j, f, by assumption, h3⟩)
        · exact fun q => by cases q
      · rw [List.getElem?_set_ne (Ne.symm w)]
        exact e.dis j l f g b ne h1 h2 h3
  · intro j f h
    by_cases z : i = j
    · subst z
      rw [List.getElem?_set, if_pos rfl] at h
      split at h <;> cases h
    · rw [List.getElem?_set_ne z] at h
      obtain ⟨w, h1, h2⟩ := e.slot j f h
      exact ⟨w, by rw [List.getElem?_set_ne z]; exact h1, h2.step st⟩
  · intro j f h
    by_cases z : i = j
    · subst z
      have hl := (List.getElem?_eq_some_iff.mp h).1
      rw [List.length_set, e.len] at hl
      rw [List.getElem?_set, if_pos rfl, if_pos (by rw [e.len]; exact hl)] at h
      cases h
      exact ⟨a, by rw [List.getElem?_set, if_pos rfl, if_pos hl], r.step (fun _ q => q) st⟩
    · rw [List.getElem?_set_ne z] at h
      obtain ⟨b, h1, h2⟩ := e.mine j f h
      exact ⟨b, by rw [List.getElem?_set_ne z]; exact h1, h2.step (fun _ q => q) st⟩
/-- an own thing stays, and is no longer changed -/
theorem ER.freeze (e : ER c Γ σ H ρ) {d : D} (hi : ρ[i]? = some (some (d, true))) : ER c Γ σ H (ρ.set i (some (d, false))) := by
  have nn : ∀ a, NN Γ σ (ρ.set i (some (d, false))) a → NN Γ σ ρ a := fun a h => by
    rcases h with h | ⟨j, f, h1, h2⟩
    · exact .inl h
    · rcases own_set h1 with ⟨_, _, z⟩ | ⟨z, h1⟩
      · cases z
      · exact .inr ⟨j, f, h1, h2⟩
  have st : ∀ a o, ¬ NN Γ σ ρ a → H a = some o → H a = some o ∧ ¬ NN Γ σ (ρ.set i (some (d, false))) a := fun a o n q => ⟨q, fun z => n (nn a z)⟩
  refine { len := by simp [e.len], ext := e.ext, utr := e.utr, held := fun p h => (e.held p h).step st, raw := fun p h => ⟨fun z => (e.raw p h).1 (nn _ z), (e.raw p h).2⟩, fx := e.fx, own := ?_, dis := ?_, slot := ?_, mine := ?_ }
  · intro j f a h1 h2
    rcases own_set h1 with ⟨_, _, z⟩ | ⟨z, h1⟩
    · cases z
    · exact e.own j f a h1 h2
  · intro j l f g a ne h1 h2 h3
    rcases own_set h1 with ⟨_, _, z⟩ | ⟨z, h1⟩
    · cases z
    rcases own_set h2 with ⟨_, _, w⟩ | ⟨w, h2⟩
    · cases w
    exact e.dis j l f g a ne h1 h2 h3
  · intro j f h
    by_cases z : i = j
    · subst z
      rw [List.getElem?_set, if_pos rfl] at h
      split at h
      · cases h
        obtain ⟨a, h1, h2⟩ := e.mine i _ hi
        refine ⟨.ref a, h1, Own.re (h2.step (fun _ q => q) st) fun z => ?_⟩
        rcases z with z | ⟨j, g, h3, h4⟩
        · exact (e.own i _ a hi h1).2 z
        · rcases own_set h3 with ⟨_, _, w⟩ | ⟨w, h3⟩
          · cases w
          · exact e.dis i j _ g a (Ne.symm w) hi h3 h1 h4
      · cases h
    · rw [List.getElem?_set_ne z] at h
      obtain ⟨w, h1, h2⟩ := e.slot j f h
      exact ⟨w, h1, h2.step st⟩
  · intro j f h
    rcases own_set h with ⟨_, _, z⟩ | ⟨z, h⟩
    · cases z
    obtain ⟨a, h1, h2⟩ := e.mine j f h
    exact ⟨a, h1, h2.step (fun _ q => q) st⟩
/-- an own thing changes -/
theorem ER.mut (e : ER c Γ σ H ρ) {d d' : D} {a : Addr} {o : HO} (hi : ρ[i]? = some (some (d, true))) (ha : σ[i]? = some (some (.ref a))) (ho : Own c (NN Γ σ ρ) (upd H a o) a d') : ER c Γ σ (upd H a o) (ρ.set i (some (d', true))) := by
  have hl := (List.getElem?_eq_some_iff.mp hi).1
  have na : NN Γ σ ρ a := .inr ⟨i, d, hi, ha⟩
  have nn : ∀ b, NN Γ σ (ρ.set i (some (d', true))) b → NN Γ σ ρ b := fun b h => by
    rcases h with h | ⟨j, f, h1, h2⟩
    · exact .inl h
    · rcases own_set h1 with ⟨z, _, _⟩ | ⟨z, h1⟩
      · subst z
        exact .inr ⟨j, d, hi, h2⟩
      · exact .inr ⟨j, f, h1, h2⟩
  have st : ∀ b u, ¬ NN Γ σ ρ b → H b = some u → (upd H a o) b = some u ∧ ¬ NN Γ σ (ρ.set i (some (d', true))) b := fun b u n q => by
    have ne : b ≠ a := fun z => n (by subst z; exact na)
    exact ⟨by rw [upd_ne ne]; exact q, fun z => n (nn b z)⟩
  have ow := e.own i d a hi ha
  refine { len := by simp [e.len], ext := fun b u q => ?_, utr := fun b h => ?_, held := fun p h => (e.held p h).step st, raw := fun p h => let z := st _ _ (e.raw p h).1 (e.raw p h).2; ⟨z.2, z.1⟩, fx := e.fx, own := ?_, dis := ?_, slot := ?_, mine := ?_ }
  · have ne : b ≠ a := fun z => by subst z; rw [ow.1] at q; cases q
    rw [upd_ne ne]
    exact e.ext b u q
  · by_cases z : b = a
    · subst z; exact ho.mt
    · exact (e.utr b h).off z
  · intro j f b h1 h2
    rcases own_set h1 with ⟨z, _, _⟩ | ⟨z, h1⟩
    · subst z; exact e.own j d b hi h2
    · exact e.own j f b h1 h2
  · intro j l f g b ne h1 h2 h3
    rcases own_set h1 with ⟨z, _, _⟩ | ⟨z, h1⟩
    · subst z
      rcases own_set h2 with ⟨w, _, _⟩ | ⟨w, h2⟩
      · exact absurd w.symm ne
      · exact e.dis j l d g b ne hi h2 h3
    · rcases own_set h2 with ⟨w, _, _⟩ | ⟨w, h2⟩
      · rw [w]; exact e.dis j i f d b z h1 hi h3
      · exact e.dis j l f g b ne h1 h2 h3
  · intro j f h
    by_cases z : i = j
    · subst z
      rw [List.getElem?_set, if_pos rfl] at h
      split at h <;> cases h
    · rw [List.getElem?_set_ne z] at h
      obtain ⟨w, h1, h2⟩ := e.slot j f h
      exact ⟨w, h1, h2.step st⟩
  · intro j f h
    rcases own_set h with ⟨z, w, _⟩ | ⟨z, h⟩
    · subst z; subst w
      exact ⟨a, ha, ho.step (fun _ q => q) fun b u n q => ⟨q, fun z => n (nn b z)⟩⟩
    · obtain ⟨b, h1, h2⟩ := e.mine j f h
      refine ⟨b, h1, h2.step (fun u q => ?_) st⟩
      have ne : b ≠ a := fun w => by subst w; exact e.dis i j d f b (Ne.symm z) hi h ha h1
      rw [upd_ne ne]
      exact q
end

/-! ### statements -/
inductive Out where
  | nx (ρ : Ro) | rt (d : D) | er (x : EN) (ρ : Ro) | bk (ρ : Ro) | ct (ρ : Ro)
abbrev MS := Ro → Option Out
def SPost (c : Conf) (W : WX) (Γ : Gam) (D : Ends) : Out → Prop
  | .nx ρ => ∀ σ H, ER c Γ σ H ρ → D.nx σ H
  | .bk ρ => ∀ σ H, ER c Γ σ H ρ → D.bk σ H
  | .ct ρ => ∀ σ H, ER c Γ σ H ρ → D.ct σ H
  | .rt d => ∀ v H, Same Γ.H0 H → Re c Γ.U H v d → D.rt v H
  | .er x ρ => ∀ C σ H, ER c Γ σ H ρ → c.err x C → W (.ref C) none σ H
def tS (c : Conf) (W : WX) (s : MS) : TS := fun D σ H => ∃ Γ ρ o, ER c Γ σ H ρ ∧ s ρ = some o ∧ SPost c W Γ D o
/-- an expression's value, an error goes out -/
def sE {α : Type} (m : R α) (ρ : Ro) (k : α → Option Out) : Option Out := match m with
  | none => none
  | some (.error x) => some (.er x ρ)
  | some (.ok a) => k a
section
variable {X : Cx} {c : Conf} {W : WX}
theorem useS {k : Kd} {m : ME} {f : D → Option Out} {o : Out} {Γ : Gam} {σ : L2.St} {ρ : Ro} {H : Hp} {Dd : Ends} {Q : VK} (er : ER c Γ σ H ρ) (h : sE (m ρ) ρ f = some o) (p : SPost c W Γ Dd o)
    (kk : ∀ d v H1, f d = some o → Same H H1 → VR c k Γ σ ρ H1 v d → Q v H1) : tE c W k m σ H Q := by
  cases e : m ρ with
  | none => rw [e] at h; cases h
  | some q =>
    rw [e] at h
    cases q with
    | error x =>
      cases h
      exact ⟨Γ, ρ, _, er, e, fun C H' e' k => p C σ H' e' k⟩
    | ok d => exact ⟨Γ, ρ, _, er, e, fun v H1 s q => kk d v H1 h s q⟩
theorem useST {m : MT} {f : Bool → Option Out} {o : Out} {Γ : Gam} {σ : L2.St} {ρ : Ro} {H : Hp} {Dd : Ends} {Q : Bool → Hp → Prop} (er : ER c Γ σ H ρ) (h : sE (m ρ) ρ f = some o) (p : SPost c W Γ Dd o)
    (kk : ∀ b H1, f b = some o → Same H H1 → ER c Γ σ H1 ρ → Q b H1) : tT c W m σ H Q := by
  cases e : m ρ with
  | none => rw [e] at h; cases h
  | some q =>
    rw [e] at h
    cases q with
    | error x =>
      cases h
      exact ⟨Γ, ρ, _, er, e, fun C H' e' k => p C σ H' e' k⟩
    | ok d => exact ⟨Γ, ρ, _, er, e, fun H1 s q => kk d H1 h s q⟩
theorem useSA {m : MA} {f : List D → Option Out} {o : Out} {Γ : Gam} {σ : L2.St} {ρ : Ro} {H : Hp} {Dd : Ends} {Q : List V → Hp → Prop} (er : ER c Γ σ H ρ) (h : sE (m ρ) ρ f = some o) (p : SPost c W Γ Dd o)
    (kk : ∀ ds vs H1, f ds = some o → Same H H1 → ER c Γ σ H1 ρ → Rp c (NN Γ σ ρ) H1 vs ds → Q vs H1) : tA c W m σ H Q := by
  cases e : m ρ with
  | none => rw [e] at h; cases h
  | some q =>
    rw [e] at h
    cases q with
    | error x =>
      cases h
      exact ⟨Γ, ρ, _, er, e, fun C H' e' k => p C σ H' e' k⟩
    | ok d => exact ⟨Γ, ρ, _, er, e, fun vs H1 s q r => kk d vs H1 h s q r⟩
/-- blocks -/
def mSkip : MS := fun ρ => some (.nx ρ)
def mSeq (s t : MS) : MS := fun ρ => match s ρ with
  | some (.nx ρ1) => t ρ1
  | o => o
theorem s_nil : PSs X [] (tS c W mSkip) := pss_nil.via fun D σ H ⟨Γ, ρ, o, er, em, p⟩ => by cases em; exact p _ _ er
theorem tSeq_ok {s t : MS} {D : Ends} {σ : L2.St} {H : Hp} (h : tS c W (mSeq s t) D σ H) : tSeq (tS c W s) (tS c W t) D σ H := by
  obtain ⟨Γ, ρ, o, er, em, p⟩ := h
  unfold mSeq at em
  cases e : s ρ with
  | none => rw [e] at em; cases em
  | some q =>
    rw [e] at em
    refine ⟨Γ, ρ, q, er, e, ?_⟩
    cases q with
    | nx ρ1 => exact fun σ1 H1 e1 => ⟨Γ, ρ1, o, e1, em, p⟩
    | rt d => cases em; exact p
    | er x ρ1 => cases em; exact p
    | bk ρ1 => cases em; exact p
    | ct ρ1 => cases em; exact p
theorem s_cons {st : Stmt} {rest : List Stmt} {s t : MS} (h : PS X st (tS c W s)) (r : PSs X rest (tS c W t)) : PSs X (st :: rest) (tS c W (mSeq s t)) := (pss_cons h r).via fun D σ H h => tSeq_ok h
theorem s_one {st : Stmt} {s : MS} (h : PS X st (tS c W s)) : PSs X [st] (tS c W s) := pss_one h
theorem s_pass {pos : Pos} : PS X (.Pass pos) (tS c W mSkip) := ps_pass.via fun D σ H ⟨Γ, ρ, o, er, em, p⟩ => by cases em; exact p _ _ er
theorem s_doc {x j pos pos'} : PS X (.Expr (.Constant (.str x) j pos) pos') (tS c W mSkip) := ps_doc.via fun D σ H ⟨Γ, ρ, o, er, em, p⟩ => by cases em; exact p _ _ er
/-- an own thing will not be changed any more -/
def mFrz (i : Nat) : MS := fun ρ => match ρ[i]? with
  | some (some (d, _)) => some (.nx (ρ.set i (some (d, false))))
  | _ => none
theorem set_self {ρ : Ro} {i : Nat} {x : Option (D × Bool)} (h : ρ[i]? = some x) : ρ.set i x = ρ := by
  apply List.ext_getElem?
  intro j
  by_cases z : i = j
  · subst z
    have hl := (List.getElem?_eq_some_iff.mp h).1
    rw [List.getElem?_set, if_pos rfl, if_pos hl, h]
  · rw [List.getElem?_set_ne z]
theorem frz_ok {i : Nat} {t : MS} {D : Ends} {σ : L2.St} {H : Hp} (h : tS c W (mSeq (mFrz i) t) D σ H) : tS c W t D σ H := by
  obtain ⟨Γ, ρ, o, er, em, p⟩ := h
  unfold mSeq mFrz at em
  cases e : ρ[i]? with
  | none => rw [e] at em; cases em
  | some q =>
    rw [e] at em
    cases q with
    | none => cases em
    | some q =>
      obtain ⟨d, b⟩ := q
      cases b with
      | true => exact ⟨Γ, _, o, er.freeze e, em, p⟩
      | false =>
        have em : t (ρ.set i (some (d, false))) = some o := em
        rw [set_self e] at em
        exact ⟨Γ, ρ, o, er, em, p⟩
theorem s_frz (i : Nat) {sts : List Stmt} {t : MS} (h : PSs X sts (tS c W t)) : PSs X sts (tS c W (mSeq (mFrz i) t)) := h.via fun D σ H q => frz_ok q
/-- x = e -/
def mSet (i : Nat) (b : Bool) (m : ME) : MS := fun ρ => sE (m ρ) ρ fun d => some (.nx (ρ.set i (some (d, b))))
theorem setD_ok {i : Nat} {m : ME} {D : Ends} {σ : L2.St} {H : Hp} (k : fxOk c.fx i = true) (h : tS c W (mSet i false m) D σ H) : tAsg (tE c W .dur m) (gName i) D σ H := by
  obtain ⟨Γ, ρ, o, er, em, p⟩ := h
  refine useS er em p fun d v H1 h1 s1 r1 => ?_
  cases h1
  exact p _ _ (r1.1.setD r1.2 k)
theorem setO_ok {i : Nat} {m : ME} {D : Ends} {σ : L2.St} {H : Hp} (k : fxOk c.fx i = true) (h : tS c W (mSet i true m) D σ H) : tAsg (tE c W .own m) (gName i) D σ H := by
  obtain ⟨Γ, ρ, o, er, em, p⟩ := h
  refine useS er em p fun d v H1 h1 s1 r1 => ?_
  cases h1
  obtain ⟨a, rfl, h0, na, e1, ow⟩ := r1
  exact p _ _ (ER.setO e1 h0 na ow k)
section
variable {i : Nat} {x : Str} {e : Expr} {m : ME} {pos pos' : Pos}
theorem s_set (i : Nat) (hN : X.N.Nodup) (he : PE X e (tE c W .dur m)) (hi : X.N[i]? = some x := by rfl) (hx : Loc X.env.scope x := by first | exact Or.inl rfl | exact Or.inr rfl) (hs : swapsWith e (some (.Name x pos')) pos.line X.env = pure false := by rfl)
    (hf : X.fn x = true ∨ X.env.scope.names.lookup x = some .local := by first | exact .inl rfl | exact .inr rfl) (k : fxOk c.fx i = true := by rfl) : PS X (.Assign [.Name x pos'] e pos) (tS c W (mSet i false m)) := (ps_set hN hi hx he hs hf).via fun D σ H h => setD_ok k h
theorem s_setO (i : Nat) (hN : X.N.Nodup) (he : PE X e (tE c W .own m)) (hi : X.N[i]? = some x := by rfl) (hx : Loc X.env.scope x := by first | exact Or.inl rfl | exact Or.inr rfl) (hs : swapsWith e (some (.Name x pos')) pos.line X.env = pure false := by rfl)
    (hf : X.fn x = true ∨ X.env.scope.names.lookup x = some .local := by first | exact .inl rfl | exact .inr rfl) (k : fxOk c.fx i = true := by rfl) : PS X (.Assign [.Name x pos'] e pos) (tS c W (mSet i true m)) := (ps_set hN hi hx he hs hf).via fun D σ H h => setO_ok k h
end
/-- return, if, while, raise, break, continue -/
def mRet (m : ME) : MS := fun ρ => sE (m ρ) ρ fun d => some (.rt d)
theorem s_ret {e : Expr} {m : ME} {pos : Pos} (he : PE X e (tE c W .ret m)) : PS X (.Return (some e) pos) (tS c W (mRet m)) := (ps_ret he).via fun D σ H ⟨Γ, ρ, o, er, em, p⟩ => by
  refine useS er em p fun d v H1 h1 s1 r1 => ?_
  cases h1
  exact p _ _ r1.1.ext r1.2
def mRetN : MS := fun _ => some (.rt .non)
theorem s_retN {pos : Pos} : PS X (.Return none pos) (tS c W mRetN) := ps_retN.via fun D σ H ⟨Γ, ρ, o, er, em, p⟩ => by
  cases em
  exact p _ _ er.ext (.non .nil)
def mIf (t : MT) (a b : MS) : MS := fun ρ => sE (t ρ) ρ fun k => match k with
  | true => a ρ
  | false => b ρ
theorem s_if {t : Expr} {a b : List Stmt} {mt : MT} {ma mb : MS} {pos : Pos} (ht : PT X t (tT c W mt)) (ha : PSs X a (tS c W ma)) (hb : PSs X b (tS c W mb)) : PS X (.If t a b pos) (tS c W (mIf mt ma mb)) :=
  (ps_if ht ha hb).via fun D σ H ⟨Γ, ρ, o, er, em, p⟩ => useST er em p fun k H1 h1 s1 e1 => by
    cases k with
    | true => rw [if_pos rfl]; exact ⟨Γ, ρ, o, e1, h1, p⟩
    | false => rw [if_neg Bool.false_ne_true]; exact ⟨Γ, ρ, o, e1, h1, p⟩
def mBrk : MS := fun ρ => some (.bk ρ)
def mCnt : MS := fun ρ => some (.ct ρ)
theorem s_break {pos : Pos} : PS X (.Break pos) (tS c W mBrk) := ps_break.via fun D σ H ⟨Γ, ρ, o, er, em, p⟩ => by cases em; exact p _ _ er
theorem s_continue {pos : Pos} : PS X (.Continue pos) (tS c W mCnt) := ps_continue.via fun D σ H ⟨Γ, ρ, o, er, em, p⟩ => by cases em; exact p _ _ er
def mRaise (x : EN) : MS := fun ρ => some (.er x ρ)
/-- raise x('..') of an own class over ValueError -/
structure ErrAt (K : PySem.W.Frag) (mg : Str → Option Value) (c : Conf) (x : Str) (n : EN) (C : Addr) : Prop where
  exc : PySem.W.excIn K C [.type "ValueError", .type "Exception", .type "BaseException", .type "object"] "ValueError.__new__" = true
  mg : mg x = some (.ref C)
  kp : PySem.W.keepIn K (.ref C) = true
  sub : PySem.W.subIn K (.ref C) (.type "BaseException") = some true
  ty : PySem.W.typeIn K (.ref C) = some (.type "type")
  err : c.err n C
theorem s_raise {x m : Str} {n : EN} {C : Addr} {j : Nat} {p p2 pos pos2 : Pos} (hc : X.calm = true) (tk : Takes X W) (T : ErrAt X.K X.mg c x n C) (hg : Gl X x := by rfl) (hdb : (x == ("__debug__" : Str)) = false := by decide) :
    PS X (.Raise (some (.Call (.Name x p) [.Constant (.str m) j p2] [] pos)) none pos2) (tS c W (mRaise n)) :=
  (ps_raise hc tk (pmk_own PySem.F.excBase_ValueError T.exc T.mg T.kp (raises_own T.sub T.ty) hg hdb)).via fun D σ H ⟨Γ, ρ, o, er, em, p⟩ => by
    cases em
    exact p _ _ _ er T.err
/-- while, n turns at most -/
def mWhile : Nat → MT → MS → MS
  | 0, _, _, _ => none
  | n + 1, t, s, ρ => sE (t ρ) ρ fun b => match b with
    | true => (match s ρ with
      | some (.nx ρ') => mWhile n t s ρ'
      | some (.ct ρ') => mWhile n t s ρ'
      | some (.bk ρ') => some (.nx ρ')
      | o => o)
    | false => some (.nx ρ)
theorem s_while (n : Nat) {t : Expr} {body : List Stmt} {mt : MT} {s : MS} {pos : Pos} (hp : PassesOwn (model X.prog X.w) X.A X.env X.xe) (ht : PT X t (tT c W mt)) (hb : PSs X body (tS c W s)) : PS X (.While t body [] pos) (tS c W (mWhile n mt s)) :=
  (ps_while hp ht hb).via fun D σ H ⟨Γ, ρ, o, er, em, p⟩ => by
    refine ⟨fun m σ H => ∃ ρ, ER c Γ σ H ρ ∧ mWhile m mt s ρ = some o, ⟨n, ρ, er, em⟩, ?_⟩
    rintro m σ H ⟨ρ, er, em⟩
    cases m with
    | zero => cases em
    | succ m =>
      refine useST er em p fun k H1 h1 s1 e1 => ?_
      cases k with
      | false =>
        cases h1
        rw [if_neg Bool.false_ne_true]
        exact p _ _ e1
      | true =>
        rw [if_pos rfl]
        dsimp only at h1
        cases e : s ρ with
        | none => rw [e] at h1; cases h1
        | some q =>
          rw [e] at h1
          refine ⟨fun σ' H' => ∃ ρ1, ER c Γ σ' H' ρ1 ∧ mWhile m mt s ρ1 = some o, fun σ' H' ⟨ρ1, e2, h2⟩ => ⟨m, Nat.lt_succ_self _, ρ1, e2, h2⟩, Γ, ρ, q, e1, e, ?_⟩
          cases q with
          | nx ρ1 => exact fun σ2 H2 e2 => ⟨ρ1, e2, h1⟩
          | ct ρ1 => exact fun σ2 H2 e2 => ⟨ρ1, e2, h1⟩
          | bk ρ1 => cases h1; exact fun σ2 H2 e2 => p _ _ e2
          | rt d => cases h1; exact p
          | er x ρ1 => cases h1; exact p
/-- e alone -/
def mDrop (m : ME) : MS := fun ρ => sE (m ρ) ρ fun _ => some (.nx ρ)
theorem s_expr {e : Expr} {m : ME} {pos : Pos} (he : PE X e (tE c W .dur m)) (hs : swapsWith e none pos.line X.env = pure false := by rfl) : PS X (.Expr e pos) (tS c W (mDrop m)) := (ps_expr he hs).via fun D σ H ⟨Γ, ρ, o, er, em, p⟩ => by
  refine useS er em p fun d v H1 h1 s1 r1 => ?_
  cases h1
  exact p _ _ r1.1
end
end DL

set_option Elab.async false
set_option linter.all false
set_option maxRecDepth 100000
set_option maxHeartbeats 2000000
set_option autoImplicit false
/-! DLf: own lists and dicts changed; stores to places; op=; unpacking. -/
/-! ### xs.extend(a tuple) -/
namespace DLS
open PySem PyProof.Rows L2
section
variable {X : Cx}
def rExtendT (K : PySem.W.Frag) : V → List V → Hp → VK → Prop := fun x vs H Q => ∃ l b xs zs, x = .ref l ∧ vs = [.ref b] ∧ H l = some (.lst xs) ∧ SqT K H b zs ∧ xs.length + zs.length ≤ sizeLine ∧ Q .non (upd H l (.lst (xs ++ zs)))
theorem mt_extendT : MtR X "list.extend" (rExtendT X.K) := by
  intro pins s σ H x vs v us Q I rx rv h
  obtain ⟨l, b, xs, zs, rfl, rfl, hH, hB, hz, q⟩ := h
  cases rx
  obtain ⟨u, rfl, ru⟩ := rv.one
  cases ru
  obtain ⟨z, its, n, r, hl, e⟩ := I.lstM hH
  obtain ⟨its2, r2, ⟨o, ho, hc, n2, hd⟩, z2⟩ := I.tuple hB
  have hl2 := r2.length
  have hsz : its.toArray.size + its2.toArray.size ≤ sizeLine := by rw [List.size_toArray, List.size_toArray]; omega
  have hlong : ¬ (!its.toArray.isEmpty && Builtin.List.listTooLong (its.toArray.size + its2.toArray.size)) = true := by
    rw [notLongL hsz, Bool.and_false]
    exact Bool.false_ne_true
  refine wpAny_call_entry PySem.F.slot_list_extend ⟨_, e, rfl⟩ PySem.F.entry_list_extend ?_ (PySem.F.args_list_extend_2 _ _)
  show wpAny _ _ (Builtin.List.listExtendWith (.ref l) (.ref b) .none) _ _ s
  unfold Builtin.List.listExtendWith
  refine wpAny_bind (wpAny_typeOf (T := "tuple") ⟨o, ho, hc⟩ ?_)
  have ht : (Value.type "tuple" == Value.type "tuple") = true := by rfl
  rw [if_pos (by rw [ht]; simp)]
  refine wpAny_bind (listItems_at ho hd ?_)
  refine wpAny_bind (listItems_at e rfl ?_)
  rw [if_neg hlong]
  refine wpAny_bind (listUpdate_at e rfl ?_ (by rw [List.size_toArray]; omega) (by simp only [Array.size_append]; omega))
  have fin : EP X pins σ Q .none { s with heap := s.heap.update l (Obj.mapSeq (· ++ its2.toArray)), toks := s.toks } := ⟨.non, _, I.lset (t' := s.toks) (its' := its ++ its2) hH e (by simp) (r.append r2) (by rw [List.length_append]; omega), rfl, q⟩
  first
    | exact wpAny_pure ⟨_, rfl, fin⟩
    | exact wpAny_bind (wpAny_pure (wpAny_pure ⟨_, rfl, fin⟩))
end
end DLS
namespace DL
open PySem L2
section
variable {X : Cx} {c : Conf} {W : WX}
/-- a method that changes its own list: what it makes of the items -/
def MutOk (c : Conf) (r : V → List V → Hp → VK → Prop) (f : List D → List D → Option (List D)) : Prop := ∀ (N : Addr → Prop) (H : Hp) (a : Addr) (us : List V) (ds es ds' : List D) (vs : List V) (Q : VK), H a = some (.lst us) → Rp c N H us ds → N a → Bors c N H vs es → f ds es = some ds' →
  ∃ us', Rp c N H us' ds' ∧ ((∀ y, Q y (upd H a (.lst us'))) → r (.ref a) vs H Q)
theorem mut_step {N : Addr → Prop} {H : Hp} {a : Addr} {o : HO} (n : N a) : ∀ b u, ¬ N b → H b = some u → (upd H a o) b = some u ∧ ¬ N b := fun b u nb q => ⟨by rw [upd_ne (fun z => nb (by subst z; exact n))]; exact q, nb⟩
def mMut (i : Nat) (f : List D → List D → Option (List D)) (l : MA) : MS := fun ρ => match ρ[i]? with
  | some (some (.lst ds, true)) => sE (l ρ) ρ fun es => (f ds es).map fun ds' => .nx (ρ.set i (some (.lst ds', true)))
  | _ => none
theorem useSB {m : MA} {f : List D → Option Out} {o : Out} {Γ : Gam} {σ : L2.St} {ρ : Ro} {H : Hp} {Dd : Ends} {Q : List V → Hp → Prop} (er : ER c Γ σ H ρ) (h : sE (m ρ) ρ f = some o) (p : SPost c W Γ Dd o)
    (kk : ∀ ds vs H1, f ds = some o → Same H H1 → ER c Γ σ H1 ρ → Bors c (NN Γ σ ρ) H1 vs ds → Q vs H1) : tBo c W m σ H Q := by
  cases e : m ρ with
  | none => rw [e] at h; cases h
  | some q =>
    rw [e] at h
    cases q with
    | error x =>
      cases h
      exact ⟨Γ, ρ, _, er, e, fun C H' e' k => p C σ H' e' k⟩
    | ok d => exact ⟨Γ, ρ, _, er, e, fun vs H1 s q r => kk d vs H1 h s q r⟩
theorem Rp.bors {N : Addr → Prop} {H : Hp} : ∀ {vs : List V} {ds : List D}, Rp c N H vs ds → Bors c N H vs ds
  | [], [], _ => .nil
  | [], _ :: _, h => by cases h
  | _ :: _, [], h => by cases h
  | v :: vs, d :: ds, h => .cons h.unc.1.bor (Rp.bors h.unc.2)
theorem mut_fin {i : Nat} {r : V → List V → Hp → VK → Prop} {f : List D → List D → Option (List D)} (hm : MutOk c r f) {D : Ends} {Γ : Gam} {ρ : Ro} {o : Out} {σ : L2.St} {H : Hp} {ds es : List DL.D} {vs : List V} (hi : ρ[i]? = some (some (.lst ds, true)))
    (e1 : ER c Γ σ H ρ) (p : SPost c W Γ D o) (h1 : ((f ds es).map fun ds' => Out.nx (ρ.set i (some (.lst ds', true)))) = some o) (b : Bors c (NN Γ σ ρ) H vs es) {a : Addr} (ha : σ[i]? = some (some (.ref a))) : r (.ref a) vs H fun _ H1 => D.nx σ H1 := by
  obtain ⟨ds', hd, rfl⟩ := Option.map_eq_some_iff.mp h1
  obtain ⟨a', ha', us, hu, ru⟩ := e1.mine i _ hi
  rw [ha] at ha'
  cases ha'
  have na : NN Γ σ ρ a := .inr ⟨i, _, hi, ha⟩
  obtain ⟨us', ru', hr⟩ := hm (NN Γ σ ρ) H a us ds es ds' vs (fun _ H1 => D.nx σ H1) hu ru na b hd
  exact hr fun _ => p _ _ (e1.mut hi ha ⟨us', upd_same, ru'.step (mut_step na)⟩)
theorem mut_ok {i : Nat} {r : V → List V → Hp → VK → Prop} {f : List D → List D → Option (List D)} {l : MA} (hm : MutOk c r f) {D : Ends} {σ : L2.St} {H : Hp} (h : tS c W (mMut i f l) D σ H) : tDrop (tBM c.K "list" r (tVar i) (tBo c W l)) D σ H := by
  obtain ⟨Γ, ρ, o, er, em, p⟩ := h
  unfold mMut at em
  split at em
  · rename_i ds hi
    obtain ⟨a, ha, us, hu, ru⟩ := er.mine i _ hi
    refine ⟨.ref a, ha, .inl ⟨rfl, us, .of hu⟩, useSB er em p fun es vs H1 h1 s1 e1 b1 => ?_⟩
    exact mut_fin hm hi e1 p h1 b1 ha
  · cases em
theorem mut0_ok {i : Nat} {r : V → List V → Hp → VK → Prop} {f : List D → List D → Option (List D)} (hm : MutOk c r f) {D : Ends} {σ : L2.St} {H : Hp} (h : tS c W (mMut i f mNil) D σ H) : tDrop (tBM0 c.K "list" r (tVar i)) D σ H := by
  obtain ⟨Γ, ρ, o, er, em, p⟩ := h
  unfold mMut at em
  split at em
  · rename_i ds hi
    obtain ⟨a, ha, us, hu, ru⟩ := er.mine i _ hi
    exact ⟨.ref a, ha, .inl ⟨rfl, us, .of hu⟩, mut_fin hm hi er p em .nil ha⟩
  · cases em
theorem A_B {es : List Expr} {l : MA} (h : PA X es (tA c W l)) : PA X es (tA c W l) := h
def fApp (ds es : List D) : Option (List D) := match es with
  | [d] => if ds.length < lim then some (ds ++ [d]) else none
  | _ => none
theorem Bors.one' {N : Addr → Prop} {H : Hp} {xs : List V} {d : D} (h : Bors c N H xs [d]) : ∃ x, xs = [x] ∧ Bor c N H x d := h.one
/-- x.append(e), e of kind dur -/
theorem app_mut {i : Nat} {m : ME} {D : Ends} {σ : L2.St} {H : Hp} (h : tS c W (mMut i fApp (mCons m mNil)) D σ H) : tDrop (tBM c.K "list" rAppend (tVar i) (tA c W (mCons m mNil))) D σ H := by
  obtain ⟨Γ, ρ, o, er, em, p⟩ := h
  unfold mMut at em
  split at em
  · rename_i ds hi
    obtain ⟨a, ha, us, hu, ru⟩ := er.mine i _ hi
    refine ⟨.ref a, ha, .inl ⟨rfl, us, .of hu⟩, useSA er em p fun es vs H1 h1 s1 e1 b1 => ?_⟩
    obtain ⟨ds', hd, rfl⟩ := Option.map_eq_some_iff.mp h1
    obtain ⟨a', ha', us1, hu1, ru1⟩ := e1.mine i _ hi
    rw [ha] at ha'
    cases ha'
    have na : NN Γ σ ρ a := .inr ⟨i, _, hi, ha⟩
    unfold fApp at hd
    split at hd
    · rename_i d
      split at hd
      · rename_i hl
        cases hd
        cases vs with
        | nil => cases b1
        | cons v vs =>
          have hv := b1.unc
          have ev : vs = [] := by have := hv.2; cases this; rfl
          subst ev
          refine ⟨a, us1, v, rfl, rfl, hu1, by rw [ru1.len]; exact lim_lt hl, p _ _ (e1.mut hi ha ⟨us1 ++ [v], upd_same, (ru1.app hv.1).step (mut_step na)⟩)⟩
      · cases hd
    · cases hd
  · cases em
section
variable {i : Nat} {x : Str} {e f : Expr} {m n : ME} {px apos cpos pos : Pos}
theorem s_append (i : Nat) (he : PE X e (tE c W .dur m)) (hN : X.N[i]? = some x := by rfl) (hv : Vis X.env.scope x := by first | exact Or.inl rfl | exact Or.inr (Or.inl rfl) | exact Or.inr (Or.inr rfl)) (hd : (x == ("__debug__" : Str)) = false := by decide)
    (hcd : (x == ("__classdict__" : Str)) = false := by decide) (hbase : attributeBase (.Name x px) "append" X.env (eval (.Name x px) X.env) = eval (.Name x px) X.env := by rfl)
    (hfew : ((backTo cpos (starEach [e] X.env)).all (fun x => !x.1) && (backToKw cpos (keywordEach [] X.env)).all (fun x => x.1.isSome)
      && decide ([e].length + ([] : List Keyword).length + (if ([] : List Keyword).isEmpty then 0 else 1) < 30)) = true := by rfl)
    (hline : (apos.endLine == cpos.line) = true := by rfl) (hs : starEach [e] X.env = (false, eval e X.env) :: starEach [] X.env := by rfl) (hplain : (backTo cpos (starEach [] X.env)).any (·.1) = false := by rfl)
    (hsw : swapsWith (.Call (.Attribute (.Name x px) "append" apos) [e] [] cpos) none pos.line X.env = pure false := by rfl) (hK : c.K = X.K := by rfl) :
    PS X (.Expr (.Call (.Attribute (.Name x px) "append" apos) [e] [] cpos) pos) (tS c W (mMut i fApp (mCons m mNil))) :=
  (ps_expr (pe_bm PySem.F.plainAttrs_list PySem.F.slot_list_append PySem.F.type_list_append mt_append (pv i hN hv hd hcd) (a_cons he a_nil hs) hbase hfew hline hs hplain) hsw).via fun D σ H h => by
    rw [← hK]
    exact app_mut h
def fExt (ds es : List D) : Option (List D) := match es with
  | [.lst zs] => if ds.length + zs.length ≤ lim then some (ds ++ zs) else none
  | [.tup zs] => if ds.length + zs.length ≤ lim then some (ds ++ zs) else none
  | _ => none
theorem mut_ext : MutOk c (fun x vs H Q => rExtend x vs H Q ∨ DLS.rExtendT c.K x vs H Q) fExt := by
  intro N H a us ds es ds' vs Q hu ru na b hd
  unfold fExt at hd
  split at hd
  · rename_i zs
    split at hd
    · rename_i hl
      cases hd
      obtain ⟨v, rfl, b', ws, rfl, hb, rw'⟩ := b.one
      exact ⟨us ++ ws, ru.app rw', fun q => .inl ⟨a, b', us, ws, rfl, rfl, hu, hb, by rw [ru.len, rw'.len]; exact lim_ok hl, q _⟩⟩
    · cases hd
  · rename_i zs
    split at hd
    · rename_i hl
      cases hd
      obtain ⟨v, rfl, bb⟩ := b.one
      obtain ⟨b', ws, rfl, _, hb, rw'⟩ := bb.tup
      exact ⟨us ++ ws, ru.app rw', fun q => .inr ⟨a, b', us, ws, rfl, rfl, hu, .of hb, by rw [ru.len, rw'.len]; exact lim_ok hl, q _⟩⟩
    · cases hd
  · cases hd
theorem s_extend (i : Nat) (he : PE X e (tE c W .bor m)) (hN : X.N[i]? = some x := by rfl) (hv : Vis X.env.scope x := by first | exact Or.inl rfl | exact Or.inr (Or.inl rfl) | exact Or.inr (Or.inr rfl)) (hd : (x == ("__debug__" : Str)) = false := by decide)
    (hcd : (x == ("__classdict__" : Str)) = false := by decide) (hbase : attributeBase (.Name x px) "extend" X.env (eval (.Name x px) X.env) = eval (.Name x px) X.env := by rfl)
    (hfew : ((backTo cpos (starEach [e] X.env)).all (fun x => !x.1) && (backToKw cpos (keywordEach [] X.env)).all (fun x => x.1.isSome)
      && decide ([e].length + ([] : List Keyword).length + (if ([] : List Keyword).isEmpty then 0 else 1) < 30)) = true := by rfl)
    (hline : (apos.endLine == cpos.line) = true := by rfl) (hs : starEach [e] X.env = (false, eval e X.env) :: starEach [] X.env := by rfl) (hplain : (backTo cpos (starEach [] X.env)).any (·.1) = false := by rfl)
    (hsw : swapsWith (.Call (.Attribute (.Name x px) "extend" apos) [e] [] cpos) none pos.line X.env = pure false := by rfl) (hK : c.K = X.K := by rfl) :
    PS X (.Expr (.Call (.Attribute (.Name x px) "extend" apos) [e] [] cpos) pos) (tS c W (mMut i fExt (mCons m mNil))) :=
  (ps_expr (pe_bm PySem.F.plainAttrs_list PySem.F.slot_list_extend PySem.F.type_list_extend (MtR.or mt_extend DLS.mt_extendT) (pv i hN hv hd hcd) (b_cons he b_nil hs) hbase hfew hline hs hplain) hsw).via fun D σ H h => by
    rw [← hK]
    exact mut_ok mut_ext h
def fIns (ds es : List D) : Option (List D) := match es with
  | [.int i, d] => if ds.length < lim ∧ 0 ≤ i ∧ i ≤ 1000000 then some (ds.take i.toNat ++ [d] ++ ds.drop i.toNat) else none
  | _ => none
/-- x.insert(i, d) -/
theorem ins_mut {i : Nat} {l : MA} {D : Ends} {σ : L2.St} {H : Hp} (h : tS c W (mMut i fIns l) D σ H) : tDrop (tBM c.K "list" (fun x vs H Q => ∃ (l : Addr) (xs : List V) (i : Int) (y : V), x = .ref l ∧ vs = [.int i, y] ∧ H l = some (.lst xs) ∧ xs.length < sizeLine ∧ 0 ≤ i ∧ i < 2 ^ 63 ∧
    Q .non (upd H l (.lst (xs.take i.toNat ++ [y] ++ xs.drop i.toNat)))) (tVar i) (tA c W l)) D σ H := by
  obtain ⟨Γ, ρ, o, er, em, p⟩ := h
  unfold mMut at em
  split at em
  · rename_i ds hi
    obtain ⟨a, ha, us, hu, ru⟩ := er.mine i _ hi
    refine ⟨.ref a, ha, .inl ⟨rfl, us, .of hu⟩, useSA er em p fun es vs H1 h1 s1 e1 b1 => ?_⟩
    obtain ⟨ds', hd, rfl⟩ := Option.map_eq_some_iff.mp h1
    obtain ⟨a', ha', us1, hu1, ru1⟩ := e1.mine i _ hi
    rw [ha] at ha'
    cases ha'
    have na : NN Γ σ ρ a := .inr ⟨i, _, hi, ha⟩
    unfold fIns at hd
    split at hd
    · rename_i k d
      split at hd
      · rename_i hl
        obtain ⟨hl, h0, h9⟩ := hl
        cases hd
        match vs, b1 with
        | [v1, v2], b1 =>
          obtain ⟨q1, q2⟩ := b1.unc
          rw [q1.of_int]
          exact ⟨a, us1, k, v2, rfl, rfl, hu1, by rw [ru1.len]; exact lim_lt hl, h0, by omega, p _ _ (e1.mut hi ha ⟨_, upd_same, (((ru1.take _).app q2).app (ru1.drop _)).step (mut_step na)⟩)⟩
        | [], b1 => cases b1
        | [_], b1 => have := b1.unc.2; cases this
        | _ :: _ :: _ :: _, b1 => have := b1.unc.2.unc.2; cases this
      · cases hd
    · cases hd
  · cases em
theorem s_insert (i : Nat) (he : PE X e (tE c W .dur m)) (hf : PE X f (tE c W .dur n)) (hN : X.N[i]? = some x := by rfl) (hv : Vis X.env.scope x := by first | exact Or.inl rfl | exact Or.inr (Or.inl rfl) | exact Or.inr (Or.inr rfl)) (hd : (x == ("__debug__" : Str)) = false := by decide)
    (hcd : (x == ("__classdict__" : Str)) = false := by decide) (hbase : attributeBase (.Name x px) "insert" X.env (eval (.Name x px) X.env) = eval (.Name x px) X.env := by rfl)
    (hfew : ((backTo cpos (starEach [e, f] X.env)).all (fun x => !x.1) && (backToKw cpos (keywordEach [] X.env)).all (fun x => x.1.isSome)
      && decide ([e, f].length + ([] : List Keyword).length + (if ([] : List Keyword).isEmpty then 0 else 1) < 30)) = true := by rfl)
    (hline : (apos.endLine == cpos.line) = true := by rfl) (hs : starEach [e, f] X.env = (false, eval e X.env) :: starEach [f] X.env := by rfl) (hs2 : starEach [f] X.env = (false, eval f X.env) :: starEach [] X.env := by rfl) (hplain : (backTo cpos (starEach [f] X.env)).any (·.1) = false := by rfl)
    (hsw : swapsWith (.Call (.Attribute (.Name x px) "insert" apos) [e, f] [] cpos) none pos.line X.env = pure false := by rfl) (hK : c.K = X.K := by rfl) :
    PS X (.Expr (.Call (.Attribute (.Name x px) "insert" apos) [e, f] [] cpos) pos) (tS c W (mMut i fIns (mCons m (mCons n mNil)))) :=
  (ps_expr (pe_bm PySem.F.plainAttrs_list PySem.F.slot_list_insert PySem.F.type_list_insert mt_insert (pv i hN hv hd hcd) (a_cons he (a_cons hf a_nil hs2) hs) hbase hfew hline hs hplain) hsw).via fun D σ H h => by
    rw [← hK]
    exact ins_mut h
/-- x.pop(i), x.pop(): what is left -/
def fPop (ds es : List D) : Option (List D) := match es with
  | [.int i] => if -1000000 ≤ i ∧ i ≤ 1000000 ∧ ds.length ≤ 1000000 then (seqIndex? i ds.length).bind fun k => if k < ds.length then some (ds.eraseIdx k) else none else none
  | [] => if ds = [] then none else some ds.dropLast
  | _ => none
end
end
end DL

set_option Elab.async false
set_option linter.all false
set_option maxRecDepth 100000
set_option maxHeartbeats 2000000
set_option autoImplicit false
/-! DLg: pop; stores to places; op=; targets; pairs of names and of places. -/
namespace DL
open PySem L2
section
variable {X : Cx} {c : Conf} {W : WX}

/-! ### pop -/
def popD (ds : List D) (i : Int) : Option (D × List D) := if -1000000 ≤ i ∧ i ≤ 1000000 then (seqIndex? i ds.length).bind fun k => (ds[k]?).map fun d => (d, ds.eraseIdx k) else none
def mPopK (i : Nat) (m : ME) (k : D → Ro → Option Out) : MS := fun ρ => match ρ[i]? with
  | some (some (.lst ds, true)) => sE (m ρ) ρ fun e => match e with
    | .int z => (popD ds z).bind fun q => k q.1 (ρ.set i (some (.lst q.2, true)))
    | _ => none
  | _ => none
def mPop0K (i : Nat) (k : D → Ro → Option Out) : MS := fun ρ => match ρ[i]? with
  | some (some (.lst ds, true)) => (popD ds (-1)).bind fun q => k q.1 (ρ.set i (some (.lst q.2, true)))
  | _ => none
theorem pop_fin {i : Nat} {Γ : Gam} {ρ : Ro} {σ : L2.St} {H : Hp} {ds : List DL.D} {z : Int} {q : D × List DL.D} (hi : ρ[i]? = some (some (.lst ds, true))) (e1 : ER c Γ σ H ρ) (h : popD ds z = some q) {a : Addr} (ha : σ[i]? = some (some (.ref a))) :
    ∃ us k y, H a = some (.lst us) ∧ us.length = ds.length ∧ -(2 ^ 63) ≤ z ∧ z < 2 ^ 63 ∧ seqIndex? z us.length = some k ∧ us[k]? = some y ∧ ds[k]? = some q.1 ∧ q.2 = ds.eraseIdx k ∧ ER c Γ σ (upd H a (.lst (us.eraseIdx k))) (ρ.set i (some (.lst q.2, true))) ∧ Re c (NN Γ σ (ρ.set i (some (.lst q.2, true)))) (upd H a (.lst (us.eraseIdx k))) y q.1 := by
  unfold popD at h
  split at h
  · rename_i hz
    obtain ⟨k, hk, h⟩ := Option.bind_eq_some_iff.mp h
    obtain ⟨d, hd, rfl⟩ := Option.map_eq_some_iff.mp h
    obtain ⟨a', ha', us, hu, ru⟩ := e1.mine i _ hi
    rw [ha] at ha'
    cases ha'
    have na : NN Γ σ ρ a := .inr ⟨i, _, hi, ha⟩
    obtain ⟨y, hy, ry⟩ := ru.get hd
    have nn : ∀ b, NN Γ σ (ρ.set i (some (.lst (ds.eraseIdx k), true))) b → NN Γ σ ρ b := fun b h => by
      rcases h with h | ⟨j, f, h1, h2⟩
      · exact .inl h
      · rcases own_set h1 with ⟨z, _, _⟩ | ⟨z, h1⟩
        · subst z; exact .inr ⟨j, _, hi, h2⟩
        · exact .inr ⟨j, f, h1, h2⟩
    exact ⟨us, k, y, hu, ru.len, by omega, by omega, by rw [ru.len]; exact hk, hy, hd, rfl, e1.mut hi ha ⟨_, upd_same, (ru.erase k).step (mut_step na)⟩, (ry.step (mut_step na)).less nn⟩
  · cases h
/-- x.pop(e) as a reading -/
def tPop (K : PySem.W.Frag) (i : Nat) (t : TA) : TE := tBM K "list" rPopAt (tVar i) t
theorem seq_last {n : Nat} {k : Nat} (h : seqIndex? (-1) n = some k) : k = n - 1 ∧ 0 < n := by
  unfold seqIndex? at h
  simp only at h
  rw [if_pos (show (-1 : Int) < 0 by omega)] at h
  split at h
  · rename_i hh
    rw [Bool.and_eq_true, decide_eq_true_eq, decide_eq_true_eq] at hh
    cases h
    omega
  · cases h
theorem erase_last {α : Type} (xs : List α) : xs.eraseIdx (xs.length - 1) = xs.dropLast := by
  rw [List.eraseIdx_eq_take_drop_succ, List.dropLast_eq_take]
  cases xs with
  | nil => rfl
  | cons x xs => simp
theorem popK_ok {i : Nat} {m : ME} {k : D → Ro → Option Out} {Γ : Gam} {ρ : Ro} {o : Out} {σ : L2.St} {H : Hp} {Dd : Ends} {Q : VK} (er : ER c Γ σ H ρ) (em : mPopK i m k ρ = some o) (p : SPost c W Γ Dd o)
    (kk : ∀ v H1 d ρ1, ER c Γ σ H1 ρ1 → Re c (NN Γ σ ρ1) H1 v d → k d ρ1 = some o → Q v H1) : tBM c.K "list" rPopAt (tVar i) (tA c W (mCons m mNil)) σ H Q := by
  unfold mPopK at em
  split at em
  · rename_i ds hi
    obtain ⟨a, ha, us, hu, ru⟩ := er.mine i _ hi
    have em' : sE ((mCons m mNil) ρ) ρ (fun es => match es with | [.int z] => (popD ds z).bind fun q => k q.1 (ρ.set i (some (.lst q.2, true))) | _ => none) = some o := by
      unfold mCons mNil
      cases e : m ρ with
      | none => rw [e] at em; cases em
      | some w =>
        rw [e] at em
        cases w with
        | error x => exact em
        | ok d =>
          cases d <;> first | (cases em; done) | exact em
    refine ⟨.ref a, ha, .inl ⟨rfl, us, .of hu⟩, useSA er em' p fun es vs H1 h1 s1 e1 b1 => ?_⟩
    split at h1
    · rename_i z
      obtain ⟨q, hq, h1⟩ := Option.bind_eq_some_iff.mp h1
      obtain ⟨us, k', y, g1, g2, g3, g4, g5, g6, g7, g8, g9, g10⟩ := pop_fin hi e1 hq ha
      match vs, b1 with
      | [v], b1 =>
        rw [Re.of_int b1]
        exact ⟨a, us, z, k', y, rfl, rfl, g1, g3, g4, g5, g6, kk _ _ _ _ g9 g10 h1⟩
      | [], b1 => cases b1
      | _ :: _ :: _, b1 => have := b1.unc.2; cases this
    · cases h1
  · cases em
theorem pop0K_ok {i : Nat} {k : D → Ro → Option Out} {Γ : Gam} {ρ : Ro} {o : Out} {σ : L2.St} {H : Hp} {Dd : Ends} {Q : VK} (er : ER c Γ σ H ρ) (em : mPop0K i k ρ = some o) (p : SPost c W Γ Dd o)
    (kk : ∀ v H1 d ρ1, ER c Γ σ H1 ρ1 → Re c (NN Γ σ ρ1) H1 v d → k d ρ1 = some o → Q v H1) : tBM0 c.K "list" rPop (tVar i) σ H Q := by
  unfold mPop0K at em
  split at em
  · rename_i ds hi
    obtain ⟨a, ha, us, hu, ru⟩ := er.mine i _ hi
    refine ⟨.ref a, ha, .inl ⟨rfl, us, .of hu⟩, ?_⟩
    obtain ⟨q, hq, h1⟩ := Option.bind_eq_some_iff.mp em
    obtain ⟨us, k', y, g1, g2, g3, g4, g5, g6, g7, g8, g9, g10⟩ := pop_fin hi er hq ha
    obtain ⟨z1, z2⟩ := seq_last g5
    subst z1
    rw [erase_last] at g9 g10
    exact ⟨a, us, y, rfl, rfl, g1, g6, kk _ _ _ _ g9 g10 h1⟩
  · cases em
section
variable {i : Nat} {x : Str} {e : Expr} {m : ME} {px apos cpos pos : Pos}
theorem pe_popAt (i : Nat) (he : PE X e (tE c W .dur m)) (hN : X.N[i]? = some x := by rfl) (hv : Vis X.env.scope x := by first | exact Or.inl rfl | exact Or.inr (Or.inl rfl) | exact Or.inr (Or.inr rfl)) (hd : (x == ("__debug__" : Str)) = false := by decide)
    (hcd : (x == ("__classdict__" : Str)) = false := by decide) (hbase : attributeBase (.Name x px) "pop" X.env (eval (.Name x px) X.env) = eval (.Name x px) X.env := by rfl)
    (hfew : ((backTo cpos (starEach [e] X.env)).all (fun x => !x.1) && (backToKw cpos (keywordEach [] X.env)).all (fun x => x.1.isSome)
      && decide ([e].length + ([] : List Keyword).length + (if ([] : List Keyword).isEmpty then 0 else 1) < 30)) = true := by rfl)
    (hline : (apos.endLine == cpos.line) = true := by rfl) (hs : starEach [e] X.env = (false, eval e X.env) :: starEach [] X.env := by rfl) (hplain : (backTo cpos (starEach [] X.env)).any (·.1) = false := by rfl) :
    PE X (.Call (.Attribute (.Name x px) "pop" apos) [e] [] cpos) (tBM X.K "list" rPopAt (tVar i) (tA c W (mCons m mNil))) :=
  pe_bm PySem.F.plainAttrs_list PySem.F.slot_list_pop PySem.F.type_list_pop mt_popAt (pv i hN hv hd hcd) (a_cons he a_nil hs) hbase hfew hline hs hplain
theorem pe_popEnd (i : Nat) (hN : X.N[i]? = some x := by rfl) (hv : Vis X.env.scope x := by first | exact Or.inl rfl | exact Or.inr (Or.inl rfl) | exact Or.inr (Or.inr rfl)) (hd : (x == ("__debug__" : Str)) = false := by decide)
    (hcd : (x == ("__classdict__" : Str)) = false := by decide) (hbase : attributeBase (.Name x px) "pop" X.env (eval (.Name x px) X.env) = eval (.Name x px) X.env := by rfl) (hline : (apos.endLine == cpos.line) = true := by rfl) :
    PE X (.Call (.Attribute (.Name x px) "pop" apos) [] [] cpos) (tBM0 X.K "list" rPop (tVar i)) :=
  pe_bm0 PySem.F.plainAttrs_list PySem.F.slot_list_pop PySem.F.type_list_pop mt_pop (pv i hN hv hd hcd) hbase hline
def kDrop : D → Ro → Option Out := fun _ ρ => some (.nx ρ)
def kSet (j : Nat) : D → Ro → Option Out := fun d ρ => some (.nx (ρ.set j (some (d, false))))
def kApp (j : Nat) : D → Ro → Option Out := fun d ρ => match ρ[j]? with
  | some (some (.lst ds, true)) => if ds.length < lim then some (.nx (ρ.set j (some (.lst (ds ++ [d]), true)))) else none
  | _ => none
def mAppPop (i j : Nat) (m : ME) : MS := fun ρ => match ρ[j]? with
  | some (some (.lst _, true)) => mPopK i m (kApp j) ρ
  | _ => none
/-- x.pop(e) alone -/
theorem s_pop (i : Nat) (h : PE X (.Call (.Attribute (.Name x px) "pop" apos) [e] [] cpos) (tBM X.K "list" rPopAt (tVar i) (tA c W (mCons m mNil))))
    (hsw : swapsWith (.Call (.Attribute (.Name x px) "pop" apos) [e] [] cpos) none pos.line X.env = pure false := by rfl) (hK : c.K = X.K := by rfl) : PS X (.Expr (.Call (.Attribute (.Name x px) "pop" apos) [e] [] cpos) pos) (tS c W (mPopK i m kDrop)) :=
  (ps_expr h hsw).via fun D σ H ⟨Γ, ρ, o, er, em, p⟩ => by
    rw [← hK]
    exact popK_ok er em p fun v H1 d ρ1 e1 r1 h1 => by cases h1; exact p _ _ e1
/-- y = x.pop(e) -/
theorem s_setPop (j : Nat) {y : Str} {py : Pos} (hN : X.N.Nodup) (h : PE X (.Call (.Attribute (.Name x px) "pop" apos) [e] [] cpos) (tBM X.K "list" rPopAt (tVar i) (tA c W (mCons m mNil))))
    (hi : X.N[j]? = some y := by rfl) (hx : Loc X.env.scope y := by first | exact Or.inl rfl | exact Or.inr rfl) (hs : swapsWith (.Call (.Attribute (.Name x px) "pop" apos) [e] [] cpos) (some (.Name y py)) pos.line X.env = pure false := by rfl)
    (hf : X.fn y = true ∨ X.env.scope.names.lookup y = some .local := by first | exact .inl rfl | exact .inr rfl) (k : fxOk c.fx j = true := by rfl) (hK : c.K = X.K := by rfl) : PS X (.Assign [.Name y py] (.Call (.Attribute (.Name x px) "pop" apos) [e] [] cpos) pos) (tS c W (mPopK i m (kSet j))) :=
  (ps_set hN hi hx h hs hf).via fun D σ H ⟨Γ, ρ, o, er, em, p⟩ => by
    rw [← hK]
    exact popK_ok er em p fun v H1 d ρ1 e1 r1 h1 => by cases h1; exact p _ _ (e1.setD r1 k)
theorem s_setPop0 (j : Nat) {y : Str} {py : Pos} (hN : X.N.Nodup) (h : PE X (.Call (.Attribute (.Name x px) "pop" apos) [] [] cpos) (tBM0 X.K "list" rPop (tVar i)))
    (hi : X.N[j]? = some y := by rfl) (hx : Loc X.env.scope y := by first | exact Or.inl rfl | exact Or.inr rfl) (hs : swapsWith (.Call (.Attribute (.Name x px) "pop" apos) [] [] cpos) (some (.Name y py)) pos.line X.env = pure false := by rfl)
    (hf : X.fn y = true ∨ X.env.scope.names.lookup y = some .local := by first | exact .inl rfl | exact .inr rfl) (k : fxOk c.fx j = true := by rfl) (hK : c.K = X.K := by rfl) : PS X (.Assign [.Name y py] (.Call (.Attribute (.Name x px) "pop" apos) [] [] cpos) pos) (tS c W (mPop0K i (kSet j))) :=
  (ps_set hN hi hx h hs hf).via fun D σ H ⟨Γ, ρ, o, er, em, p⟩ => by
    rw [← hK]
    exact pop0K_ok er em p fun v H1 d ρ1 e1 r1 h1 => by cases h1; exact p _ _ (e1.setD r1 k)
/-- y.append(x.pop(e)) -/
theorem s_appPop (j : Nat) {y : Str} {py ay cy : Pos} (h : PE X (.Call (.Attribute (.Name x px) "pop" apos) [e] [] cpos) (tBM X.K "list" rPopAt (tVar i) (tA c W (mCons m mNil))))
    (hN : X.N[j]? = some y := by rfl) (hv : Vis X.env.scope y := by first | exact Or.inl rfl | exact Or.inr (Or.inl rfl) | exact Or.inr (Or.inr rfl)) (hd : (y == ("__debug__" : Str)) = false := by decide)
    (hcd : (y == ("__classdict__" : Str)) = false := by decide) (hbase : attributeBase (.Name y py) "append" X.env (eval (.Name y py) X.env) = eval (.Name y py) X.env := by rfl)
    (hfew : ((backTo cy (starEach [.Call (.Attribute (.Name x px) "pop" apos) [e] [] cpos] X.env)).all (fun x => !x.1) && (backToKw cy (keywordEach [] X.env)).all (fun x => x.1.isSome)
      && decide (1 + ([] : List Keyword).length + (if ([] : List Keyword).isEmpty then 0 else 1) < 30)) = true := by rfl)
    (hline : (ay.endLine == cy.line) = true := by rfl) (hs : starEach [.Call (.Attribute (.Name x px) "pop" apos) [e] [] cpos] X.env = (false, eval (.Call (.Attribute (.Name x px) "pop" apos) [e] [] cpos) X.env) :: starEach [] X.env := by rfl) (hplain : (backTo cy (starEach [] X.env)).any (·.1) = false := by rfl)
    (hsw : swapsWith (.Call (.Attribute (.Name y py) "append" ay) [.Call (.Attribute (.Name x px) "pop" apos) [e] [] cpos] [] cy) none pos.line X.env = pure false := by rfl) (hK : c.K = X.K := by rfl) :
    PS X (.Expr (.Call (.Attribute (.Name y py) "append" ay) [.Call (.Attribute (.Name x px) "pop" apos) [e] [] cpos] [] cy) pos) (tS c W (mAppPop i j m)) :=
  (ps_expr (pe_bm PySem.F.plainAttrs_list PySem.F.slot_list_append PySem.F.type_list_append mt_append (pv j hN hv hd hcd) (pa_cons h pa_nil hs) hbase hfew hline hs hplain) hsw).via fun D σ H ⟨Γ, ρ, o, er, em, p⟩ => by
    rw [← hK]
    unfold mAppPop at em
    split at em
    · rename_i ds0 hj
      obtain ⟨b, hb, us, hu, ru⟩ := er.mine j _ hj
      refine ⟨.ref b, hb, .inl ⟨rfl, us, .of hu⟩, popK_ok er em p fun v H1 d ρ1 e1 r1 h1 => ?_⟩
      unfold kApp at h1
      split at h1
      · rename_i ds hj1
        split at h1
        · rename_i hl
          cases h1
          obtain ⟨b', hb', us1, hu1, ru1⟩ := e1.mine j _ hj1
          rw [hb] at hb'
          cases hb'
          have na : NN Γ σ ρ1 b := .inr ⟨j, _, hj1, hb⟩
          exact ⟨b, us1, v, rfl, rfl, hu1, by rw [ru1.len]; exact lim_lt hl, p _ _ (e1.mut hj1 hb ⟨us1 ++ [v], upd_same, (ru1.app r1).step (mut_step na)⟩)⟩
        · cases h1
      · cases h1
    · cases em
end

/-! ### stores to places -/
def rSetD : V → V → V → Hp → (Hp → Prop) → Prop := fun o y v H Q => ∃ a H', o = .ref a ∧ DPut H a y v H' ∧ Q H'
theorem set_dict (hu : X.A.units + 64 < cLine) : PSet X rSetD := by
  intro pins s σ H o i v ov iv u Q I ro ri rv h
  obtain ⟨a, H', rfl, g, q⟩ := h
  cases ro
  exact d_setItem (by omega) I g ri rv fun s' I' => ⟨H', I', q⟩
theorem _root_.L2.PSet.or {t t' : TSet} (h : PSet X t) (h' : PSet X t') : PSet X (fun o i v H Q => t o i v H Q ∨ t' o i v H Q) := by
  intro pins s σ H o i v ov iv u Q I ro ri rv q
  rcases q with q | q
  · exact h pins s σ H o i v ov iv u Q I ro ri rv q
  · exact h' pins s σ H o i v ov iv u Q I ro ri rv q
abbrev rSet2 : TSet := fun o i v H Q => rSetL o i v H Q ∨ rSetD o i v H Q
def dSet (dd k d : D) : Option D := match dd with
  | .lst ds => (match k with
    | .int j => (ixN ds.length j).map fun n => .lst (ds.set n d)
    | _ => none)
  | .dK kds => (keyD k).bind fun k => if kds.length < lim then some (.dK (ptD kds k d)) else none
  | .dT kds => (tkD k).bind fun k => if kds.length < lim then some (.dT (ptD kds k d)) else none
  | _ => none
theorem set_fin {i : Nat} {Γ : Gam} {ρ : Ro} {σ : L2.St} {H : Hp} {dd k d dd' : DL.D} (hi : ρ[i]? = some (some (dd, true))) (e1 : ER c Γ σ H ρ) (h : dSet dd k d = some dd') {a : Addr} (ha : σ[i]? = some (some (.ref a)))
    {vk v : V} (bk : Bor c (NN Γ σ ρ) H vk k) (rv : Re c (NN Γ σ ρ) H v d) {Q : Hp → Prop} (q : ∀ H', ER c Γ σ H' (ρ.set i (some (dd', true))) → (∀ b u, ¬ NN Γ σ ρ b → H b = some u → H' b = some u ∧ ¬ NN Γ σ ρ b) → Q H') : rSet2 (.ref a) vk v H Q := by
  obtain ⟨a', ha', ow⟩ := e1.mine i _ hi
  rw [ha] at ha'
  cases ha'
  have na : NN Γ σ ρ a := .inr ⟨i, _, hi, ha⟩
  unfold dSet at h
  split at h
  · rename_i ds
    split at h
    · rename_i j
      obtain ⟨n, hn, rfl⟩ := Option.map_eq_some_iff.mp h
      obtain ⟨us, hu, ru⟩ := ow
      rw [bk.int]
      exact .inl ⟨a, us, j, n, rfl, rfl, hu, by rw [ru.len]; exact hn, q _ (e1.mut hi ha ⟨_, upd_same, (ru.set n rv).step (mut_step na)⟩) (mut_step na)⟩
    · cases h
  · rename_i kds
    obtain ⟨k', hk, h⟩ := Option.bind_eq_some_iff.mp h
    split at h
    · rename_i hl
      cases h
      obtain ⟨kvs, hu, ek, ru⟩ := ow
      rw [keyD_v hk bk]
      obtain ⟨p1, p2⟩ := pt_rel ek ru k' rv
      have el : kvs.length = kds.length := by
        have := congrArg List.length ek
        simpa using this
      exact .inr ⟨a, _, rfl, .inl ⟨kvs, k', hu, rfl, by rw [el]; exact lim_lt hl, rfl⟩, q _ (e1.mut hi ha ⟨_, upd_same, p1, p2.step (mut_step na)⟩) (mut_step na)⟩
    · cases h
  · rename_i kds
    obtain ⟨k', hk, h⟩ := Option.bind_eq_some_iff.mp h
    split at h
    · rename_i hl
      cases h
      obtain ⟨kvs, hu, ek, ru⟩ := ow
      obtain ⟨b, ev, eb⟩ := tkD_v hk bk
      obtain ⟨p1, p2⟩ := pt_rel ek ru k' rv
      have el : kvs.length = kds.length := by
        have := congrArg List.length ek
        simpa using this
      exact .inr ⟨a, _, rfl, .inr ⟨kvs, k', b, hu, ev, eb, by rw [el]; exact lim_lt hl, rfl⟩, q _ (e1.mut hi ha ⟨_, upd_same, p1, p2.step (mut_step na)⟩) (mut_step na)⟩
    · cases h
  · cases h
def ownD (ρ : Ro) (i : Nat) : Option D := match ρ[i]? with
  | some (some (d, true)) => some d
  | _ => none
theorem ownD_at {ρ : Ro} {i : Nat} {d : D} (h : ownD ρ i = some d) : ρ[i]? = some (some (d, true)) := by
  unfold ownD at h
  split at h
  · cases h; assumption
  · cases h
/-- x[e] = f -/
def mSub (i : Nat) (me mf : ME) : MS := fun ρ => (ownD ρ i).bind fun dd => sE (mf ρ) ρ fun d => sE (me ρ) ρ fun k => (dSet dd k d).map fun dd' => .nx (ρ.set i (some (dd', true)))
section
variable {i : Nat} {x : Str} {e f : Expr} {me mf : ME} {px pos pos' : Pos}
theorem s_sub (i : Nat) (hu : X.A.units + 64 < cLine) (he : PE X e (tE c W .bor me)) (hf : PE X f (tE c W .dur mf)) (hN : X.N[i]? = some x := by rfl) (hv : Vis X.env.scope x := by first | exact Or.inl rfl | exact Or.inr (Or.inl rfl) | exact Or.inr (Or.inr rfl)) (hd : (x == ("__debug__" : Str)) = false := by decide)
    (hcd : (x == ("__classdict__" : Str)) = false := by decide) (hs : swapsWithSole [.Subscript (.Name x px) e pos'] f pos.line X.env = pure false := by rfl) (hw : swappedStores [.Subscript (.Name x px) e pos'] f X.env = pure none := by rfl)
    (ha : ∀ v, assign (.Subscript (.Name x px) e pos') X.env v = (do let ov ← holding [v] (eval (.Name x px) X.env); let iv ← holding [v, ov] (eval e X.env); standAt pos'; holding [v, ov, iv] (setItem ov iv v); release [v, ov, iv] []) := by intro _; rfl) :
    PS X (.Assign [.Subscript (.Name x px) e pos'] f pos) (tS c W (mSub i me mf)) :=
  (ps_asg hf (pg_sub (pv i hN hv hd hcd) he (set_list.or (set_dict hu)) ha) hs hw).via fun D σ H ⟨Γ, ρ, o, er, em, p⟩ => by
    obtain ⟨dd, hi, em⟩ := Option.bind_eq_some_iff.mp em
    have hi := ownD_at hi
    obtain ⟨a, ha, _⟩ := er.mine i _ hi
    refine useS er em p fun d v H1 h1 s1 r1 => ?_
    refine ⟨.ref a, ha, useS r1.1 h1 p fun k vk H2 h2 s2 r2 => ?_⟩
    obtain ⟨dd', hd', rfl⟩ := Option.map_eq_some_iff.mp h2
    exact set_fin hi r2.1 hd' ha r2.2 (r1.2.same s2) fun H' e' _ => p _ _ e'
/-- x[e] op= f -/
def mAugSub (i : Nat) (g : D → D → R D) (me mf : ME) : MS := fun ρ => (ownD ρ i).bind fun dd => sE (me ρ) ρ fun k => sE (dIx dd k) ρ fun old => sE (mf ρ) ρ fun d => sE (g old d) ρ fun new => (dSet dd k new).map fun dd' => .nx (ρ.set i (some (dd', true)))
def rGetL (K : PySem.W.Frag) : V → V → Hp → VK → Prop := fun o i H Q => ∃ p xs k v, o = .ref p ∧ i = .int k ∧ H p = some (.lst xs) ∧ L2.atI xs k = some v ∧ Q v H
def rGetD : V → V → Hp → VK → Prop := fun o i H Q => ∃ a v, o = .ref a ∧ DGet H a i (some v) ∧ Q v H
theorem get_list : PGet X (rGetL X.K) := by
  intro pins s σ H o i ov iv Q I ro ri h
  obtain ⟨p, xs, k, v, rfl, rfl, hp, hk, q⟩ := h
  cases ro
  obtain ⟨t, rfl⟩ := ri
  obtain ⟨its, r, pl, hz⟩ := I.list (.of hp)
  obtain ⟨j, h1, h2, h3, h4, h5⟩ := atI_get hk
  obtain ⟨w, ew, rw'⟩ := r.get h2
  have hl := r.length
  have hn := line63
  have fin : EP X pins σ Q w s := ⟨v, H, I, rw', q⟩
  by_cases h0 : 0 ≤ k
  · have hj : k.toNat = j := by
      rw [seqIndex_of h0 h5] at h1
      exact Option.some.inj h1
    exact wpAny_getItem_list pl.isList h0 (by omega) (by rw [hj]; simpa using ew) fin
  · have hj : (k + (its.toArray.size : Int)).toNat = j := by
      rw [seqIndex_neg (by omega) h4] at h1
      rw [List.size_toArray, ← hl]
      exact Option.some.inj h1
    exact wpAny_getItem_list_neg pl.isList (by omega) (by rw [List.size_toArray]; omega) (by omega) (by rw [hj]; simpa using ew) fin
theorem get_dict (hu : X.A.units + 64 < cLine) : PGet X rGetD := by
  intro pins s σ H o i ov iv Q I ro ri h
  obtain ⟨a, v, rfl, g, q⟩ := h
  cases ro
  exact d_getItem (by omega) I g ri fun w' s3 I3 rw' => ⟨v, H, I3, rw', q⟩
theorem _root_.L2.PGet.or {t t' : V → V → Hp → VK → Prop} (h : PGet X t) (h' : PGet X t') : PGet X (fun o i H Q => t o i H Q ∨ t' o i H Q) := by
  intro pins s σ H o i ov iv Q I ro ri q
  rcases q with q | q
  · exact h pins s σ H o i ov iv Q I ro ri q
  · exact h' pins s σ H o i ov iv Q I ro ri q
theorem s_augSub (i : Nat) {op : Operator} {r : R2} {g : D → D → R D} (hu : X.A.units + 64 < cLine) (ho : OpR X (inplaceOp op) r) (hr : R2Ok c W .dur r g) (he : PE X e (tE c W .bor me)) (hf : PE X f (tE c W .bor mf)) (hN : X.N[i]? = some x := by rfl) (hv : Vis X.env.scope x := by first | exact Or.inl rfl | exact Or.inr (Or.inl rfl) | exact Or.inr (Or.inr rfl)) (hd : (x == ("__debug__" : Str)) = false := by decide)
    (hcd : (x == ("__classdict__" : Str)) = false := by decide) (ha : ∀ ov iv new, augStore e ov iv new = (do holding [new, ov, iv] (setItem ov iv new); release [new, ov, iv] []; pure .next) := by intros; rfl) :
    PS X (.AugAssign (.Subscript (.Name x px) e pos') op f pos) (tS c W (mAugSub i g me mf)) :=
  (ps_augS (pv i hN hv hd hcd) he (get_list.or (get_dict hu)) hf ho (set_list.or (set_dict hu)) ha).via fun D σ H ⟨Γ, ρ, o, er, em, p⟩ => by
    obtain ⟨dd, hi, em⟩ := Option.bind_eq_some_iff.mp em
    have hi := ownD_at hi
    obtain ⟨a, ha, _⟩ := er.mine i _ hi
    refine ⟨.ref a, ha, useS er em p fun k vk H1 h1 s1 r1 => ?_⟩
    obtain ⟨a', ha', ow⟩ := r1.1.mine i _ hi
    rw [ha] at ha'
    cases ha'
    -- what stands there
    have rest : ∀ old vo, sE (mf ρ) ρ (fun d => sE (g old d) ρ fun new => (dSet dd k new).map fun dd' => Out.nx (ρ.set i (some (dd', true)))) = some o → Re c (NN Γ σ ρ) H1 vo old →
        tE c W .bor mf σ H1 fun y H3 => r vo y H3 fun z H4 => rSet2 (.ref a) vk z H4 fun H5 => D.nx σ H5 := fun old vo h2 ro => by
      refine useS r1.1 h2 p fun d v H2 h3 s2 r2 => ?_
      cases z : g old d with
      | none => rw [z] at h3; cases h3
      | some w =>
        rw [z] at h3
        refine hr Γ σ ρ H2 vo v old d w _ r2.1 (ro.bor.same s2) r2.2 z ?_
        cases w with
        | error x =>
          cases h3
          exact fun C H' e' k => p C σ H' e' k
        | ok new =>
          intro v3 H3 s3 r3
          obtain ⟨dd', hd', rfl⟩ := Option.map_eq_some_iff.mp h3
          exact set_fin hi r3.1 hd' ha ((r1.2.same s2).same s3) r3.2 fun H' e' _ => p _ _ e'
    cases z : dIx dd k with
    | none => rw [z] at h1; cases h1
    | some w =>
      rw [z] at h1
      have b1 := r1.2
      have own := ow
      unfold dIx at z
      split at z
      · obtain ⟨q, hq, rfl⟩ := Option.map_eq_some_iff.mp z
        obtain ⟨us, hu1, ru⟩ := ow
        obtain ⟨v, hv, rv⟩ := ru.atI hq
        rw [b1.int] at rest ⊢
        exact .inl ⟨a, us, _, v, rfl, rfl, hu1, hv, rest _ _ h1 rv⟩
      · exact ow.elim
      · exact ow.elim
      · exact ow.elim
      · obtain ⟨q, hq, rfl⟩ := Option.map_eq_some_iff.mp z
        obtain ⟨k', hk, hq⟩ := Option.bind_eq_some_iff.mp hq
        obtain ⟨kvs, hu1, ek, ru⟩ := ow
        obtain ⟨v, hv, rv⟩ := lk_some ek ru hq
        exact .inr ⟨a, v, rfl, .inl ⟨kvs, k', .inl hu1, keyD_v hk b1, hv.symm⟩, rest _ _ h1 rv⟩
      · obtain ⟨q, hq, rfl⟩ := Option.map_eq_some_iff.mp z
        obtain ⟨k', hk, hq⟩ := Option.bind_eq_some_iff.mp hq
        obtain ⟨kvs, hu1, ek, ru⟩ := ow
        obtain ⟨v, hv, rv⟩ := lk_some ek ru hq
        obtain ⟨b, ev, eb⟩ := tkD_v hk b1
        exact .inr ⟨a, v, rfl, .inr ⟨kvs, k', b, .inl hu1, ev, eb, hv.symm⟩, rest _ _ h1 rv⟩
      · cases z
end
/-- x op= e, x a name -/
def mAug (i : Nat) (g : D → D → R D) (m : ME) : MS := fun ρ => match ρ[i]? with
  | some (some (old, false)) => sE (m ρ) ρ fun d => sE (g old d) ρ fun new => some (.nx (ρ.set i (some (new, false))))
  | _ => none
theorem s_aug (i : Nat) {x : Str} {e : Expr} {m : ME} {op : Operator} {r : R2} {g : D → D → R D} {pos pos' : Pos} (hN : X.N.Nodup) (ho : OpR X (inplaceOp op) r) (hr : R2Ok c W .dur r g) (he : PE X e (tE c W .bor m)) (hi : X.N[i]? = some x := by rfl) (hx : Loc X.env.scope x := by first | exact Or.inl rfl | exact Or.inr rfl)
    (hf : X.fn x = true ∨ X.env.scope.names.lookup x = some .local := by first | exact .inl rfl | exact .inr rfl) (k : fxOk c.fx i = true := by rfl) : PS X (.AugAssign (.Name x pos') op e pos) (tS c W (mAug i g m)) :=
  (ps_aug hN hi hx he ho hf).via fun D σ H ⟨Γ, ρ, o, er, em, p⟩ => by
    unfold mAug at em
    split at em
    · rename_i old hi
      obtain ⟨vo, h0, r0⟩ := er.slot i _ hi
      refine ⟨vo, h0, useS er em p fun d v H2 h3 s2 r2 => ?_⟩
      cases z : g old d with
      | none => rw [z] at h3; cases h3
      | some w =>
        rw [z] at h3
        refine hr Γ σ ρ H2 vo v old d w _ r2.1 (r0.bor.same s2) r2.2 z ?_
        cases w with
        | error x =>
          cases h3
          exact fun C H' e' k => p C σ H' e' k
        | ok new =>
          intro v3 H3 s3 r3
          cases h3
          exact p _ _ (r3.1.setD r3.2 k)
    · cases em
/-- + and the like of op= -/
def dAddA : D → D → R D
  | .int a, .int b => ok (.int (a + b))
  | .str a, .str b => guard (a.length + b.length ≤ lim) (ok (.str (a ++ b)))
  | _, _ => none
theorem r2_addA : R2Ok c W .dur (fun x y H Q => rI0 (fun i j => .int (i + j)) x y H Q ∨ (∃ i j, x = .str i ∧ y = .str j ∧ i.length + j.length ≤ sizeLine ∧ Q (.str (i ++ j)) H)) dAddA := fun Γ σ ρ H x y d e res Q er hx hy h p => by
  cases d <;> cases e <;> first | (cases h; done) | skip
  · cases h
    rw [hx.int, hy.int]
    exact .inl ⟨_, _, rfl, rfl, fin_int p er⟩
  · obtain ⟨hl, h⟩ := guard_ok h
    cases h
    rw [hx.str, hy.str]
    exact .inr ⟨_, _, rfl, rfl, lim_ok hl, fin_str p er⟩
theorem r2_sub : R2Ok c W .dur (rI0 fun i j => .int (i - j)) dSub := fun Γ σ ρ H x y d e res Q er hx hy h p => by
  cases d <;> cases e <;> first | (cases h; done) | skip
  cases h
  rw [hx.int, hy.int]
  exact ⟨_, _, rfl, rfl, fin_int p er⟩
theorem r2_mul : R2Ok c W .dur (rI (fun i j => mulOk i j = true) fun i j => .int (i * j)) dMul := fun Γ σ ρ H x y d e res Q er hx hy h p => by
  cases d <;> cases e <;> first | (cases h; done) | skip
  obtain ⟨hl, h⟩ := guard_ok h
  cases h
  rw [hx.int, hy.int]
  exact ⟨_, _, rfl, rfl, hl, fin_int p er⟩
theorem r2_div : R2Ok c W .dur (rI CDivW fun i j => .int (i / j)) dDiv := fun Γ σ ρ H x y d e res Q er hx hy h p => by
  cases d <;> cases e <;> first | (cases h; done) | skip
  obtain ⟨hl, h⟩ := guard_ok h
  cases h
  rw [hx.int, hy.int]
  exact ⟨_, _, rfl, rfl, div_ok hl _, fin_int p er⟩
/-- what x op= e does -/
structure Aop (X : Cx) (c : Conf) (W : WX) (op : Operator) (g : D → D → R D) : Prop where
  ex : ∃ r : R2, OpR X (inplaceOp op) r ∧ R2Ok c W .dur r g
theorem g_add : Aop X c W .Add dAddA := ⟨_, iop_add.or iop_add_str, r2_addA⟩
theorem g_sub : Aop X c W .Sub dSub := ⟨_, iop_sub, r2_sub⟩
theorem g_mul : Aop X c W .Mult dMul := ⟨_, iop_mulA, r2_mul⟩
theorem g_div : Aop X c W .FloorDiv dDiv := ⟨_, iop_fdivW, r2_div⟩

/-! ### targets -/
abbrev MG := D → Ro → Option Ro
/-- what a target's reading does to the data -/
def GOk (c : Conf) (is : List Nat) (gg : TG) (g : MG) : Prop := ∀ (Γ : Gam) (σ : L2.St) (H : Hp) (ρ ρ' : Ro) (v : V) (d : D) (Q : L2.St → Hp → Prop), ER c Γ σ H ρ → Re c (NN Γ σ ρ) H v d → g d ρ = some ρ' →
    (∀ σ', ER c Γ σ' H ρ' → σ'.length = σ.length → (∀ j, j ∉ is → σ'[j]? = σ[j]? ∧ ρ'[j]? = ρ[j]?) → Q σ' H) → gg v σ H Q
/-- a target: the slots that it changes, what it does -/
structure DG (X : Cx) (c : Conf) (tg : Expr) (is : List Nat) (g : MG) : Prop where
  ex : ∃ gg : TG, PG X tg gg ∧ GOk c is gg g
def gD (i : Nat) : MG := fun d ρ => some (ρ.set i (some (d, false)))
theorem gok_name {i : Nat} (k : fxOk c.fx i = true := by rfl) : GOk c [i] (gName i) (gD i) := fun Γ σ H ρ ρ' v d Q er r h kk => by
  cases h
  refine kk _ (er.setD r k) (by simp) (fun j hj => ?_)
  have ne : i ≠ j := fun z => hj (by simp [z])
  exact ⟨List.getElem?_set_ne ne, List.getElem?_set_ne ne⟩
theorem dg_name (i : Nat) {x : Str} {pos : Pos} (hN : X.N.Nodup) (hi : X.N[i]? = some x := by rfl) (hx : Loc X.env.scope x := by first | exact Or.inl rfl | exact Or.inr rfl) (hf : X.fn x = true ∨ X.env.scope.names.lookup x = some .local := by first | exact .inl rfl | exact .inr rfl)
    (k : fxOk c.fx i = true := by rfl) : DG X c (.Name x pos) [i] (gD i) := ⟨_, pg_name hN hi hx hf, gok_name k⟩
/-- names one after the other -/
def gSets : List Nat → List D → Ro → Option Ro
  | [], [], ρ => some ρ
  | i :: is, d :: ds, ρ => gSets is ds (ρ.set i (some (d, false)))
  | _, _, _ => none
def gNames : List Nat → TGs
  | [] => gNil
  | i :: is => gCons (gName i) (gNames is)
theorem gnames_ok : ∀ {is : List Nat}, is.all (fun i => fxOk c.fx i) = true → ∀ (Γ : Gam) (σ : L2.St) (H : Hp) (ρ ρ' : Ro) (vs : List V) (ds : List D) (Q : L2.St → Hp → Prop), ER c Γ σ H ρ → Rp c (NN Γ σ ρ) H vs ds → gSets is ds ρ = some ρ' →
    (∀ σ', ER c Γ σ' H ρ' → σ'.length = σ.length → (∀ j, j ∉ is → σ'[j]? = σ[j]? ∧ ρ'[j]? = ρ[j]?) → Q σ' H) → gNames is vs σ H Q
  | [], _, Γ, σ, H, ρ, ρ', vs, [], Q, er, r, h, kk => by
    cases r
    cases h
    exact ⟨rfl, kk σ er rfl fun _ _ => ⟨rfl, rfl⟩⟩
  | [], _, _, _, _, _, _, _, _ :: _, _, _, _, h, _ => by cases h
  | _ :: _, _, _, _, _, _, _, _, [], _, _, _, h, _ => by cases h
  | i :: is, k, Γ, σ, H, ρ, ρ', [], d :: ds, Q, er, r, h, kk => by cases r
  | i :: is, k, Γ, σ, H, ρ, ρ', v :: vs, d :: ds, Q, er, r, h, kk => by
    have k' : (fxOk c.fx i && is.all fun i => fxOk c.fx i) = true := k
    rw [Bool.and_eq_true] at k'
    have nn : ∀ a, NN Γ (σ.set i (some v)) (ρ.set i (some (d, false))) a → NN Γ σ ρ a := fun a h => by
      rcases h with h | ⟨j, f, h1, h2⟩
      · exact .inl h
      · rcases own_set h1 with ⟨_, _, z⟩ | ⟨z, h1⟩
        · cases z
        · rw [List.getElem?_set_ne (Ne.symm z)] at h2
          exact .inr ⟨j, f, h1, h2⟩
    refine ⟨v, vs, rfl, gnames_ok k'.2 Γ _ H _ ρ' vs ds Q (er.setD r.unc.1 k'.1) (r.unc.2.less nn) h fun σ' e' l' o' => kk σ' e' (by rw [l']; simp) fun j hj => ?_⟩
    have h1 : j ∉ is := fun z => hj (List.mem_cons_of_mem _ z)
    have ne : i ≠ j := fun z => hj (by simp [z])
    obtain ⟨a, b⟩ := o' j h1
    exact ⟨a.trans (List.getElem?_set_ne ne), b.trans (List.getElem?_set_ne ne)⟩
def gT (is : List Nat) : MG := fun d ρ => match d with
  | .tup ds => gSets is ds ρ
  | .lst ds => gSets is ds ρ
  | _ => none
theorem gSets_len : ∀ {is : List Nat} {ds : List D} {ρ ρ' : Ro}, gSets is ds ρ = some ρ' → ds.length = is.length
  | [], [], _, _, _ => rfl
  | [], _ :: _, _, _, h => by cases h
  | _ :: _, [], _, _, h => by cases h
  | _ :: is, _ :: ds, _, _, h => by simp [gSets_len (is := is) (ds := ds) h]
/-- a tuple or a list is unpacked -/
def gTL (K : PySem.W.Frag) (is : List Nat) : TG := fun v σ H Q => gTup K is.length (gNames is) v σ H Q ∨ gLst K is.length (gNames is) v σ H Q
theorem pg_TL {es : List Expr} {is : List Nat} {k : Nat} {pos : Pos} (hc : X.calm = true) (h : PGs X es (gNames is)) (hn : (assignEach es X.env).length = is.length := by rfl) (hst : (assignEach es X.env).findIdx? (·.1) = none := by rfl) : PG X (.Tuple es k pos) (gTL X.K is) :=
  ⟨fun pins s σ H v u Q I r q => q.elim ((pg_tup hc h hn hst).run pins s σ H v u Q I r) ((pg_lst hc h hn hst).run pins s σ H v u Q I r)⟩
theorem gok_TL {is : List Nat} (k : is.all (fun i => fxOk c.fx i) = true := by rfl) : GOk c is (gTL c.K is) (gT is) := fun Γ σ H ρ ρ' v d Q er r h kk => by
  unfold gT at h
  split at h
  · obtain ⟨a, us, rfl, _, e, ru⟩ := r.of_tup
    exact .inl ⟨a, us, rfl, .of e, by rw [ru.len]; exact gSets_len h, gnames_ok k Γ σ H ρ ρ' us _ Q er ru h kk⟩
  · obtain ⟨a, us, rfl, _, e, ru⟩ := r.of_lst
    exact .inr ⟨a, us, rfl, .of e, by rw [ru.len]; exact gSets_len h, gnames_ok k Γ σ H ρ ρ' us _ Q er ru h kk⟩
  · cases h
theorem gn_nil : PGs X [] (gNames []) := pgs_nil
theorem gn_cons (i : Nat) {x : Str} {pos : Pos} {es : List Expr} {is : List Nat} (hN : X.N.Nodup) (t : PGs X es (gNames is)) (hi : X.N[i]? = some x := by rfl) (hx : Loc X.env.scope x := by first | exact Or.inl rfl | exact Or.inr rfl) (hf : X.fn x = true ∨ X.env.scope.names.lookup x = some .local := by first | exact .inl rfl | exact .inr rfl) :
    PGs X (.Name x pos :: es) (gNames (i :: is)) := pgs_cons (pg_name hN hi hx hf) t
theorem dg_tup {es : List Expr} {is : List Nat} {k : Nat} {pos : Pos} (hc : X.calm = true) (t : PGs X es (gNames is)) (hn : (assignEach es X.env).length = is.length := by rfl) (hst : (assignEach es X.env).findIdx? (·.1) = none := by rfl) (kf : is.all (fun i => fxOk c.fx i) = true := by rfl) (hK : c.K = X.K := by rfl) : DG X c (.Tuple es k pos) is (gT is) :=
  ⟨_, pg_TL hc t hn hst, by rw [← hK]; exact gok_TL kf⟩
/-- a, b = e -/
def mUnp (g : MG) (m : ME) : MS := fun ρ => sE (m ρ) ρ fun d => (g d ρ).map .nx
theorem s_unp {tg e : Expr} {is : List Nat} {g : MG} {m : ME} {pos : Pos} (hg : DG X c tg is g) (he : PE X e (tE c W .dur m)) (hs : swapsWithSole [tg] e pos.line X.env = pure false := by rfl) (hw : swappedStores [tg] e X.env = pure none := by rfl)
    (h1 : (assignEach [tg] X.env).map (·.2) = [assign tg X.env] := by rfl) : PS X (.Assign [tg] e pos) (tS c W (mUnp g m)) := by
  obtain ⟨gg, pg, hg⟩ := hg.ex
  exact (ps_asg he pg hs hw h1).via fun D σ H ⟨Γ, ρ, o, er, em, p⟩ => by
    refine useS er em p fun d v H1 h1 s1 r1 => ?_
    obtain ⟨ρ', h2, rfl⟩ := Option.map_eq_some_iff.mp h1
    exact hg Γ σ H1 ρ ρ' v d _ r1.1 r1.2 h2 fun σ' e' _ _ => p _ _ e'
/-- a, b = e, f for two local names -/
def mPar (i j : Nat) (l : MA) : MS := fun ρ => sE (l ρ) ρ fun ds => match ds with
  | [d, e] => some (.nx ((ρ.set i (some (d, false))).set j (some (e, false))))
  | _ => none
theorem s_par (i j : Nat) {x y : Str} {a b : Expr} {l : MA} {px py pt : Pos} {kt k2 pt2 pos} (hc : X.calm = true) (hN : X.N.Nodup) (ha : PA X [a, b] (tA c W l)) (hw : swappedStores [.Tuple [.Name x px, .Name y py] kt pt] (.Tuple [a, b] k2 pt2) X.env = pure (some [x, y])) (hi : X.N[i]? = some x := by rfl) (hj : X.N[j]? = some y := by rfl) (hij : i ≠ j := by decide)
    (hx : X.env.scope.names.lookup x = some .local := by rfl) (hy : X.env.scope.names.lookup y = some .local := by rfl)
    (hs : swapsWithSole [.Tuple [.Name x px, .Name y py] kt pt] (.Tuple [a, b] k2 pt2) pos.line X.env = pure false := by rfl) (k : fxOk c.fx i = true := by rfl) (k' : fxOk c.fx j = true := by rfl) :
    PS X (.Assign [.Tuple [.Name x px, .Name y py] kt pt] (.Tuple [a, b] k2 pt2) pos) (tS c W (mPar i j l)) :=
  (ps_par hc hN hi hj hij hx hy ha hw hs).via fun D σ H ⟨Γ, ρ, o, er, em, p⟩ => by
    refine useSA er em p fun ds vs H1 h1 s1 e1 r1 => ?_
    split at h1
    · rename_i d e
      cases h1
      match vs, r1 with
      | [v, w], r1 =>
        refine ⟨v, w, rfl, p _ _ (ER.setD (e1.setD r1.unc.1 k) (Rp.less (fun a h => ?_) r1.unc.2) k')⟩
        rcases h with h | ⟨j', f, h1, h2⟩
        · exact .inl h
        · rcases own_set h1 with ⟨_, _, z⟩ | ⟨z, h1⟩
          · cases z
          · rw [List.getElem?_set_ne (Ne.symm z)] at h2
            exact .inr ⟨j', f, h1, h2⟩
      | [], r1 => cases r1
      | [_], r1 => have := r1.unc.2; cases this
      | _ :: _ :: _ :: _, r1 => have := r1.unc.2.unc.2; cases this
    · cases h1
/-- x[e1], x[e2] = f1, f2 -/
def mSwap (i : Nat) (m1 m2 : ME) (l : MA) : MS := fun ρ => (ownD ρ i).bind fun dd => sE (mTup l ρ) ρ fun t => match t with
  | .tup [d, e] => sE (m1 ρ) ρ fun k => (dSet dd k d).bind fun dd1 => sE (m2 (ρ.set i (some (dd1, true)))) (ρ.set i (some (dd1, true))) fun k2 => (dSet dd1 k2 e).map fun dd2 => .nx (ρ.set i (some (dd2, true)))
  | _ => none
theorem s_swap (i : Nat) {x : Str} {e1 e2 f1 f2 : Expr} {m1 m2 : ME} {l : MA} {px px2 p1 p2 pt pt2 pos : Pos} {kt k2 : _} (hc : X.calm = true) (hu : X.A.units + 64 < cLine) (h1 : PE X e1 (tE c W .bor m1)) (h2 : PE X e2 (tE c W .bor m2)) (hf : PA X [f1, f2] (tA c W l))
    (hN : X.N[i]? = some x := by rfl) (hv : Vis X.env.scope x := by first | exact Or.inl rfl | exact Or.inr (Or.inl rfl) | exact Or.inr (Or.inr rfl)) (hd : (x == ("__debug__" : Str)) = false := by decide) (hcd : (x == ("__classdict__" : Str)) = false := by decide)
    (hs : swapsWithSole [.Tuple [.Subscript (.Name x px) e1 p1, .Subscript (.Name x px2) e2 p2] kt pt] (.Tuple [f1, f2] k2 pt2) pos.line X.env = pure false := by rfl) (hw : swappedStores [.Tuple [.Subscript (.Name x px) e1 p1, .Subscript (.Name x px2) e2 p2] kt pt] (.Tuple [f1, f2] k2 pt2) X.env = pure none := by rfl)
    (ha1 : ∀ v, assign (.Subscript (.Name x px) e1 p1) X.env v = (do let ov ← holding [v] (eval (.Name x px) X.env); let iv ← holding [v, ov] (eval e1 X.env); standAt p1; holding [v, ov, iv] (setItem ov iv v); release [v, ov, iv] []) := by intro _; rfl)
    (ha2 : ∀ v, assign (.Subscript (.Name x px2) e2 p2) X.env v = (do let ov ← holding [v] (eval (.Name x px2) X.env); let iv ← holding [v, ov] (eval e2 X.env); standAt p2; holding [v, ov, iv] (setItem ov iv v); release [v, ov, iv] []) := by intro _; rfl)
    (hn : (assignEach [.Subscript (.Name x px) e1 p1, .Subscript (.Name x px2) e2 p2] X.env).length = 2 := by rfl) (hst : (assignEach [.Subscript (.Name x px) e1 p1, .Subscript (.Name x px2) e2 p2] X.env).findIdx? (·.1) = none := by rfl) (hK : c.K = X.K := by rfl) :
    PS X (.Assign [.Tuple [.Subscript (.Name x px) e1 p1, .Subscript (.Name x px2) e2 p2] kt pt] (.Tuple [f1, f2] k2 pt2) pos) (tS c W (mSwap i m1 m2 l)) :=
  (ps_asg (d_tup hf) (pg_tup hc (pgs_cons (pg_sub (pv i hN hv hd hcd) h1 (set_list.or (set_dict hu)) ha1) (pgs_cons (pg_sub (pv i hN hv hd hcd) h2 (set_list.or (set_dict hu)) ha2) pgs_nil)) hn hst) hs hw).via fun D σ H ⟨Γ, ρ, o, er, em, p⟩ => by
    obtain ⟨dd, hi, em⟩ := Option.bind_eq_some_iff.mp em
    have hi := ownD_at hi
    obtain ⟨a, ha, _⟩ := er.mine i _ hi
    refine useS er em p fun d v H1 q1 s1 r1 => ?_
    split at q1
    · rename_i d e
      obtain ⟨b, us, rfl, _, hb, ru⟩ := r1.2.of_tup
      rw [← hK]
      match us, ru with
      | [v, w], ru =>
        refine ⟨b, [v, w], rfl, .of hb, rfl, v, [w], rfl, ?_⟩
        refine ⟨.ref a, ha, useS r1.1 q1 p fun k vk H2 q2 s2 r2 => ?_⟩
        obtain ⟨dd1, hd1, q2⟩ := Option.bind_eq_some_iff.mp q2
        have nn : ∀ x, NN Γ σ (ρ.set i (some (dd1, true))) x → NN Γ σ ρ x := fun x h => by
          rcases h with h | ⟨j, f, g1, g2⟩
          · exact .inl h
          · rcases own_set g1 with ⟨z, _, _⟩ | ⟨z, g1⟩
            · subst z; exact .inr ⟨j, _, hi, g2⟩
            · exact .inr ⟨j, f, g1, g2⟩
        obtain ⟨a', ha', ow⟩ := r2.1.mine i _ hi
        rw [ha] at ha'
        cases ha'
        have na : NN Γ σ ρ a := .inr ⟨i, _, hi, ha⟩
        have i2 : (ρ.set i (some (dd1, true)))[i]? = some (some (dd1, true)) := by
          have hl := (List.getElem?_eq_some_iff.mp hi).1
          rw [List.getElem?_set, if_pos rfl, if_pos hl]
        refine set_fin (Q := fun H3 => _) hi r2.1 hd1 ha r2.2 (ru.unc.1.same s2) fun H3 e3 st => ?_
        have rw2 : Re c (NN Γ σ (ρ.set i (some (dd1, true)))) H3 w e := (Rp.less nn ((Rp.same s2 ru.unc.2).step st))
        refine ⟨w, [], rfl, .ref a, ha, useS e3 q2 p fun k2 vk2 H4 q4 s4 r4 => ?_⟩
        obtain ⟨dd2, hd2, rfl⟩ := Option.map_eq_some_iff.mp q4
        have es : (ρ.set i (some (dd1, true))).set i (some (dd2, true)) = ρ.set i (some (dd2, true)) := by rw [List.set_set]
        exact set_fin i2 r4.1 hd2 ha r4.2 (Rp.same s4 rw2) fun H5 e5 _ => ⟨rfl, p _ _ (by rw [← es]; exact e5)⟩
      | [], ru => cases ru
      | [_], ru => have := ru.unc.2; cases this
      | _ :: _ :: _ :: _, ru => have := ru.unc.2.unc.2; cases this
    · cases q1
end
end DL

set_option Elab.async false
set_option linter.all false
set_option maxRecDepth 100000
set_option maxHeartbeats 2000000
set_option autoImplicit false
/-! DLh: what is walked; for; list comprehensions. -/
namespace DL
open PySem L2
/-- an iterator over the values us, while P stands -/
structure Walks (J : It) (P : Hp → Prop) (us : List V) : Prop where
  go : ∀ (i : Nat) (H : Hp) (x : V), P H → us[i]? = some x → J.go i H ∧ ∀ y H2, J.yld i H y H2 → H2 = H ∧ y = x
  stop : ∀ (i : Nat) (H : Hp), P H → us.length ≤ i → J.stop i H
abbrev MI := Ro → R (List D)
def PostI (c : Conf) (W : WX) (nd : Bool) (Γ : Gam) (σ : L2.St) (ρ : Ro) (H : Hp) (Rr : It → Hp → Prop) : Except EN (List D) → Prop
  | .ok ds => ∀ (J : It) (P : Hp → Prop) (us : List V) (ra : List (Addr × HO)) (H1 : Hp), Same H H1 → ER c Γ σ H1 ρ → Rp c (NN Γ σ ρ) H1 us ds → Walks J P us → (∀ p ∈ ra, (nd = true → ¬ NN Γ σ ρ p.1) ∧ H1 p.1 = some p.2) →
      (∀ H', (∀ p ∈ ra, H' p.1 = some p.2) → P H') → Rr J H1
  | .error x => Er c W Γ σ ρ x
def tI (c : Conf) (W : WX) (nd : Bool) (m : MI) : TI := fun σ H Rr => ∃ Γ ρ r, ER c Γ σ H ρ ∧ m ρ = some r ∧ PostI c W nd Γ σ ρ H Rr r
theorem _root_.L2.PI.via {X : Cx} {tg e : Expr} {t t' : TI} (h : PI X tg e t) (i : ∀ σ H Q, t' σ H Q → t σ H Q) : PI X tg e t' := ⟨fun pins s σ H R I q => h.run pins s σ H R I (i σ H R q)⟩
theorem _root_.L2.PI.or {X : Cx} {tg e : Expr} {t t' : TI} (h : PI X tg e t) (h' : PI X tg e t') : PI X tg e (fun σ H R => t σ H R ∨ t' σ H R) := ⟨fun pins s σ H R I q => q.elim (h.run pins s σ H R I) (h'.run pins s σ H R I)⟩
theorem walks_list {K : PySem.W.Frag} (a : Addr) (us : List V) : Walks (Itl K a) (fun H => SqL K H a us) us where
  go := fun i H x hP hx => ⟨⟨us, x, hP, hx⟩, fun y H2 ⟨e, h⟩ => ⟨e, by have := h us hP; rw [hx] at this; cases this; rfl⟩⟩
  stop := fun i H hP hl => ⟨us, hP, hl⟩
theorem walks_tup {K : PySem.W.Frag} (a : Addr) (us : List V) : Walks (Itt K a) (fun H => SqT K H a us) us where
  go := fun i H x hP hx => ⟨⟨us, x, hP, hx⟩, fun y H2 ⟨e, h⟩ => ⟨e, by have := h us hP; rw [hx] at this; cases this; rfl⟩⟩
  stop := fun i H hP hl => ⟨us, hP, hl⟩
theorem walks_rng (lo : Int) (n : Nat) : Walks (Itr lo n) (fun _ => True) ((List.range n).map fun i => V.int (lo + (i : Nat))) where
  go := fun i H x _ hx => by
    rw [List.getElem?_map] at hx
    obtain ⟨j, hj, rfl⟩ := Option.map_eq_some_iff.mp hx
    obtain ⟨hl, e⟩ := List.getElem?_eq_some_iff.mp hj
    rw [List.getElem_range] at e
    subst e
    rw [List.length_range] at hl
    exact ⟨hl, fun y H2 ⟨e, e2⟩ => ⟨e, e2⟩⟩
  stop := fun i H _ hl => by
    rw [List.length_map, List.length_range] at hl
    exact hl
section
variable {X : Cx} {c : Conf} {W : WX}
theorem PostI.err {nd : Bool} {Γ : Gam} {σ : L2.St} {ρ : Ro} {H : Hp} {Q : It → Hp → Prop} {r : Except EN (List D)} (p : PostI c W nd Γ σ ρ H Q r) : ∀ x, r = .error x → Er c W Γ σ ρ x := fun x e => by subst e; exact p
def mItems (m : ME) : MI := fun ρ => bnd (m ρ) fun d => (seqD d).map .ok
theorem Re.fzT_raw {N : Addr → Prop} {H : Hp} {v : V} {ds : List D} (h : Re c N H v (.fz true ds)) : ∃ (a : Addr) (us : List V) (ra : List (Addr × HO)), v = .ref a ∧ SqT c.K H a us ∧ Rp c N H us ds ∧ (∀ p ∈ ra, ¬ N p.1 ∧ H p.1 = some p.2) ∧ ∀ H' : Hp, (∀ p ∈ ra, H' p.1 = some p.2) → SqT c.K H' a us := by
  cases h with
  | @fzT a us _ _ _ h ru _ =>
    rcases h with ⟨n, o, _, e⟩ | h
    · exact ⟨a, us, [(a, _)], rfl, .inl (.inr ⟨o, e⟩), ru, fun p hp => by simp at hp; subst hp; exact ⟨n, e⟩, fun H' h => .inl (.inr ⟨o, h (a, _) (by simp)⟩)⟩
    · exact ⟨a, us, [], rfl, h.sq, ru, fun p hp => (by cases hp), fun H' _ => h.sq⟩
theorem Re.fzL_raw {N : Addr → Prop} {H : Hp} {v : V} {ds : List D} (h : Re c N H v (.fz false ds)) : ∃ (a : Addr) (us : List V) (ra : List (Addr × HO)), v = .ref a ∧ SqL c.K H a us ∧ Rp c N H us ds ∧ (∀ p ∈ ra, ¬ N p.1 ∧ H p.1 = some p.2) ∧ ∀ H' : Hp, (∀ p ∈ ra, H' p.1 = some p.2) → SqL c.K H' a us := by
  cases h with
  | @fzL a us _ _ _ h ru _ =>
    rcases h with ⟨n, e | ⟨o, e⟩⟩ | h
    · exact ⟨a, us, [(a, _)], rfl, .inl (.inl e), ru, fun p hp => by simp at hp; subst hp; exact ⟨n, e⟩, fun H' h => .inl (.inl (h (a, _) (by simp)))⟩
    · exact ⟨a, us, [(a, _)], rfl, .inl (.inr ⟨o, e⟩), ru, fun p hp => by simp at hp; subst hp; exact ⟨n, e⟩, fun H' h => .inl (.inr ⟨o, h (a, _) (by simp)⟩)⟩
    · exact ⟨a, us, [], rfl, .inr h, ru, fun p hp => (by cases hp), fun H' _ => .inr h⟩
/-- a list or tuple that stays -/
theorem i_dur {tg e : Expr} {m : ME} (he : PE X e (tE c W .dur m)) (hK : c.K = X.K := by rfl) : PI X tg e (tI c W true (mItems m)) := ((pi_list he).or (pi_tup he)).via fun σ H Q ⟨Γ, ρ, r, er, em, p⟩ => by
  rw [← hK]
  cases q : m ρ with
  | none =>
    have em : bnd (m ρ) _ = some r := em
    rw [q] at em; cases em
  | some w =>
    cases w with
    | error x =>
      have em : bnd (m ρ) _ = some r := em
      rw [q] at em
      cases em
      exact .inl ⟨Γ, ρ, _, er, q, p⟩
    | ok d =>
      have em : bnd (m ρ) _ = some r := em
      rw [q] at em
      obtain ⟨ds, hs, rfl⟩ := Option.map_eq_some_iff.mp em
      cases d <;> first | (cases hs; done) | skip
      · cases hs
        refine .inr ⟨Γ, ρ, _, er, q, fun v H1 s1 r1 => ?_⟩
        obtain ⟨a, us, rfl, n, e, ru⟩ := r1.2.of_tup
        exact ⟨a, rfl, ⟨us, .of e⟩, p (Itt c.K a) _ us [(a, .tup us)] H1 s1 r1.1 ru (walks_tup a us) (fun p hp => by simp at hp; subst hp; exact ⟨fun _ => n, e⟩) fun H' h => .of (h (a, .tup us) (by simp))⟩
      · cases hs
        refine .inl ⟨Γ, ρ, _, er, q, fun v H1 s1 r1 => ?_⟩
        obtain ⟨a, us, rfl, n, e, ru⟩ := r1.2.of_lst
        exact ⟨a, rfl, ⟨us, .of e⟩, p (Itl c.K a) _ us [(a, .lst us)] H1 s1 r1.1 ru (walks_list a us) (fun p hp => by simp at hp; subst hp; exact ⟨fun _ => n, e⟩) fun H' h => .of (h (a, .lst us) (by simp))⟩
      · rename_i t _
        cases hs
        cases t with
        | true =>
          refine .inr ⟨Γ, ρ, _, er, q, fun v H1 s1 r1 => ?_⟩
          obtain ⟨a, us, ra, rfl, sq, ru, h1, h2⟩ := Re.fzT_raw (c := c) r1.2
          exact ⟨a, rfl, ⟨us, sq⟩, p (Itt c.K a) _ us ra H1 s1 r1.1 ru (walks_tup a us) (fun p hp => ⟨fun _ => (h1 p hp).1, (h1 p hp).2⟩) h2⟩
        | false =>
          refine .inl ⟨Γ, ρ, _, er, q, fun v H1 s1 r1 => ?_⟩
          obtain ⟨a, us, ra, rfl, sq, ru, h1, h2⟩ := Re.fzL_raw (c := c) r1.2
          exact ⟨a, rfl, ⟨us, sq⟩, p (Itl c.K a) _ us ra H1 s1 r1.1 ru (walks_list a us) (fun p hp => ⟨fun _ => (h1 p hp).1, (h1 p hp).2⟩) h2⟩
/-- one that may belong to a name: for comprehensions alone -/
theorem i_bor {tg e : Expr} {m : ME} (he : PE X e (tE c W .bor m)) (hK : c.K = X.K := by rfl) : PI X tg e (tI c W false (mItems m)) := ((pi_list he).or (pi_tup he)).via fun σ H Q ⟨Γ, ρ, r, er, em, p⟩ => by
  rw [← hK]
  cases q : m ρ with
  | none =>
    have em : bnd (m ρ) _ = some r := em
    rw [q] at em; cases em
  | some w =>
    cases w with
    | error x =>
      have em : bnd (m ρ) _ = some r := em
      rw [q] at em
      cases em
      exact .inl ⟨Γ, ρ, _, er, q, p⟩
    | ok d =>
      have em : bnd (m ρ) _ = some r := em
      rw [q] at em
      obtain ⟨ds, hs, rfl⟩ := Option.map_eq_some_iff.mp em
      cases d <;> first | (cases hs; done) | skip
      · cases hs
        refine .inr ⟨Γ, ρ, _, er, q, fun v H1 s1 r1 => ?_⟩
        obtain ⟨a, us, rfl, n, e, ru⟩ := r1.2.tup
        exact ⟨a, rfl, ⟨us, .of e⟩, p (Itt c.K a) _ us [(a, .tup us)] H1 s1 r1.1 ru (walks_tup a us) (fun p hp => by simp at hp; subst hp; exact ⟨fun z => (by cases z), e⟩) fun H' h => .of (h (a, .tup us) (by simp))⟩
      · cases hs
        refine .inl ⟨Γ, ρ, _, er, q, fun v H1 s1 r1 => ?_⟩
        obtain ⟨a, us, rfl, e, ru⟩ := r1.2
        exact ⟨a, rfl, ⟨us, .of e⟩, p (Itl c.K a) _ us [(a, .lst us)] H1 s1 r1.1 ru (walks_list a us) (fun p hp => by simp at hp; subst hp; exact ⟨fun z => (by cases z), e⟩) fun H' h => .of (h (a, .lst us) (by simp))⟩
      · rename_i t _
        cases hs
        cases t with
        | true =>
          refine .inr ⟨Γ, ρ, _, er, q, fun v H1 s1 r1 => ?_⟩
          obtain ⟨a, us, ra, rfl, sq, ru, h1, h2⟩ := Re.fzT_raw (c := c) r1.2
          exact ⟨a, rfl, ⟨us, sq⟩, p (Itt c.K a) _ us ra H1 s1 r1.1 ru (walks_tup a us) (fun p hp => ⟨fun _ => (h1 p hp).1, (h1 p hp).2⟩) h2⟩
        | false =>
          refine .inl ⟨Γ, ρ, _, er, q, fun v H1 s1 r1 => ?_⟩
          obtain ⟨a, us, ra, rfl, sq, ru, h1, h2⟩ := Re.fzL_raw (c := c) r1.2
          exact ⟨a, rfl, ⟨us, sq⟩, p (Itl c.K a) _ us ra H1 s1 r1.1 ru (walks_list a us) (fun p hp => ⟨fun _ => (h1 p hp).1, (h1 p hp).2⟩) h2⟩
def mRgI1 (m : ME) : MI := fun ρ => bnd (m ρ) fun d => match d with
  | .int n => guard (rgOk 0 n) (ok (rgD 0 n))
  | _ => none
def mRgI2 (m n : ME) : MI := fun ρ => bnd (m ρ) fun d => bnd (n ρ) fun e => match d, e with
  | .int a, .int b => guard (rgOk a b) (ok (rgD a b))
  | _, _ => none
section
variable {tg a b : Expr} {m n : ME} {p pos : Pos} {nd : Bool}
theorem one_bor {N : Addr → Prop} {H : Hp} {vs : List V} {d : D} (h : Bors c N H vs [d]) : ∃ v, vs = [v] ∧ Bor c N H v d := h.one
theorem i_rng1 (hg : Gl X "range") (hm : X.mg "range" = none) (ha : PE X a (tE c W .bor m)) (na : starEach [a] X.env = (false, eval a X.env) :: starEach [] X.env := by rfl) (hs : starEach [a] X.env = [(false, eval a X.env)] := by rfl) : PI X tg (.Call (.Name "range" p) [a] [] pos) (tI c W nd (mRgI1 m)) :=
  (pi_range1 hg hm (b_cons ha b_nil na) hs).via fun σ H Q ⟨Γ, ρ, r, er, em, p⟩ => by
    have em' : bnd ((mCons m mNil) ρ) (fun ds => match ds with | [.int n] => guard (rgOk 0 n) (ok (rgD 0 n)) | _ => none) = some r := by
      unfold mRgI1 at em
      unfold mCons mNil
      cases e : m ρ with
      | none => rw [e] at em; cases em
      | some w =>
        rw [e] at em
        cases w with
        | error x => exact em
        | ok d => cases d <;> first | (cases em; done) | exact em
    refine useB er em' p.err fun ds vs H1 h1 s1 e1 r1 => ?_
    split at h1
    · rename_i k
      obtain ⟨hl, h1⟩ := guard_ok h1
      cases h1
      obtain ⟨v, rfl, b1⟩ := r1.one
      rw [b1.int]
      obtain ⟨l1, l2, l3, l4⟩ := hl
      have e62 : (2 : Int) ^ 62 = 4611686018427387904 := by decide
      refine ⟨k, rfl, by omega, by omega, ?_⟩
      have w := walks_rng 0 k.toNat
      have ek : (k - 0).toNat = k.toNat := by omega
      exact p (Itr 0 k.toNat) _ _ [] H1 s1 e1 (by have := rgV_rp (c := c) (N := NN Γ σ ρ) (H := H1) 0 k; unfold rgV at this; rw [ek] at this; exact this) w (fun p hp => by cases hp) fun _ _ => trivial
    · cases h1
theorem i_rng2 (hg : Gl X "range") (hm : X.mg "range" = none) (ha : PE X a (tE c W .bor m)) (hb : PE X b (tE c W .bor n)) (na : starEach [a, b] X.env = (false, eval a X.env) :: starEach [b] X.env := by rfl) (nb : starEach [b] X.env = (false, eval b X.env) :: starEach [] X.env := by rfl)
    (hs : starEach [a, b] X.env = [(false, eval a X.env), (false, eval b X.env)] := by rfl) (hs2 : starEach [b] X.env = [(false, eval b X.env)] := by rfl) : PI X tg (.Call (.Name "range" p) [a, b] [] pos) (tI c W nd (mRgI2 m n)) :=
  (pi_range2 hg hm (b_cons ha (b_cons hb b_nil nb) na) hs hs2).via fun σ H Q ⟨Γ, ρ, r, er, em, p⟩ => by
    have em' : bnd ((mCons m (mCons n mNil)) ρ) (fun ds => match ds with | [.int a, .int b] => guard (rgOk a b) (ok (rgD a b)) | _ => none) = some r := by
      unfold mRgI2 at em
      unfold mCons mNil
      cases e : m ρ with
      | none => rw [e] at em; cases em
      | some w =>
        rw [e] at em
        cases w with
        | error x => exact em
        | ok d =>
          cases e2 : n ρ with
          | none => simp only [bnd, e2] at em; cases em
          | some w2 =>
            cases w2 with
            | error x => simp only [bnd, e2] at em ⊢; exact em
            | ok d2 =>
              simp only [bnd, e2] at em ⊢
              cases d <;> cases d2 <;> first | (cases em; done) | exact em
    refine useB er em' p.err fun ds vs H1 h1 s1 e1 r1 => ?_
    split at h1
    · rename_i k k2
      obtain ⟨hl, h1⟩ := guard_ok h1
      cases h1
      obtain ⟨v, v2, rfl, b1, b2⟩ := r1.two
      rw [b1.int, b2.int]
      obtain ⟨l1, l2, l3, l4⟩ := hl
      have e62 : (2 : Int) ^ 62 = 4611686018427387904 := by decide
      exact ⟨k, k2, rfl, ⟨by omega, by omega, by omega, by omega⟩, p (Itr k (k2 - k).toNat) _ _ [] H1 s1 e1 (rgV_rp k k2) (walks_rng k _) (fun p hp => by cases hp) fun _ _ => trivial⟩
    · cases h1
end

/-! ### for -/
def forGo (g : MG) (body : MS) : List D → Ro → Option Out
  | [], ρ => some (.nx ρ)
  | d :: ds, ρ => (g d ρ).bind fun ρ1 => match body ρ1 with
    | some (.nx ρ2) => forGo g body ds ρ2
    | some (.ct ρ2) => forGo g body ds ρ2
    | some (.bk ρ2) => some (.nx ρ2)
    | o => o
def mFor (src : MI) (g : MG) (body : MS) : MS := fun ρ => sE (src ρ) ρ fun ds => forGo g body ds ρ
theorem ER.unhold {Γ : Gam} {us : List V} {ds : List D} {ra : List (Addr × HO)} {σ : L2.St} {H : Hp} {ρ : Ro} (e : ER c (Γ.hold us ds ra) σ H ρ) : ER c Γ σ H ρ where
  len := e.len
  ext := e.ext
  utr := e.utr
  held := fun p h => e.held p (List.mem_cons_of_mem _ h)
  raw := fun p h => e.raw p (List.mem_append_right _ h)
  fx := e.fx
  own := e.own
  dis := e.dis
  slot := e.slot
  mine := e.mine
theorem ER.hold {Γ : Gam} {us : List V} {ds : List D} {ra : List (Addr × HO)} {σ : L2.St} {H : Hp} {ρ : Ro} (e : ER c Γ σ H ρ) (r : Rp c (NN Γ σ ρ) H us ds) (q : ∀ p ∈ ra, ¬ NN Γ σ ρ p.1 ∧ H p.1 = some p.2) : ER c (Γ.hold us ds ra) σ H ρ where
  len := e.len
  ext := e.ext
  utr := e.utr
  held := fun p h => by
    rcases List.mem_cons.mp h with h | h
    · subst h; exact r
    · exact e.held p h
  raw := fun p h => by
    rcases List.mem_append.mp h with h | h
    · exact q p h
    · exact e.raw p h
  fx := e.fx
  own := e.own
  dis := e.dis
  slot := e.slot
  mine := e.mine
theorem s_for {tg iter : Expr} {body : List Stmt} {src : MI} {is : List Nat} {g : MG} {s : MS} {pos : Pos} (hp : PassesOwn (model X.prog X.w) X.A X.env X.xe) (hc : X.calm = true) (hi : PI X tg iter (tI c W true src)) (hg : DG X c tg is g) (hb : PSs X body (tS c W s))
    (hs : ∀ x, foldedSetIterable iter X.env x = pure x := by intro _; rfl) : PS X (.For tg iter body [] pos) (tS c W (mFor src g s)) := by
  obtain ⟨gg, pg, hg⟩ := hg.ex
  exact (ps_for hp hc hi pg hb hs).via fun D σ H ⟨Γ, ρ, o, er, em, p⟩ => by
    cases q : src ρ with
    | none =>
      have em : sE (src ρ) ρ _ = some o := em
      rw [q] at em; cases em
    | some w =>
      have em : sE (src ρ) ρ _ = some o := em
      rw [q] at em
      cases w with
      | error x =>
        cases em
        exact ⟨Γ, ρ, _, er, q, fun C H' e' k => p C σ H' e' k⟩
      | ok ds =>
        refine ⟨Γ, ρ, _, er, q, fun J P us ra H1 s1 e1 r1 w1 q1 st => ?_⟩
        have em : forGo g s ds ρ = some o := em
        have lu := r1.len
        refine ⟨fun i m σ H => m = ds.length - i ∧ i ≤ ds.length ∧ ∃ ρ', ER c (Γ.hold us ds ra) σ H ρ' ∧ forGo g s (ds.drop i) ρ' = some o, ⟨_, rfl, Nat.zero_le _, ρ, e1.hold r1 (fun p hp => ⟨(q1 p hp).1 rfl, (q1 p hp).2⟩), em⟩, ?_⟩
        rintro i m σ2 H2 ⟨rfl, hil, ρ2, e2, em2⟩
        have hP : P H2 := st H2 fun p hp => (e2.raw p (List.mem_append_left _ hp)).2
        by_cases hlt : i < ds.length
        · have hx : us[i]? = some us[i] := List.getElem?_eq_getElem (by rw [lu]; exact hlt)
          obtain ⟨go, yl⟩ := w1.go i H2 _ hP hx
          refine .inr ⟨go, fun σ' H' => ∃ m', m' < ds.length - i ∧ m' = ds.length - (i + 1) ∧ ∃ ρ', ER c (Γ.hold us ds ra) σ' H' ρ' ∧ forGo g s (ds.drop (i + 1)) ρ' = some o, fun σ' H' ⟨m', h1, h2, h3⟩ => ⟨m', h1, h2, hlt, h3⟩, fun x H3 y3 => ?_⟩
          obtain ⟨eH, ex⟩ := yl x H3 y3
          subst eH ex
          rw [List.drop_eq_getElem_cons hlt] at em2
          unfold forGo at em2
          obtain ⟨ρ3, hg3, em3⟩ := Option.bind_eq_some_iff.mp em2
          have hr := e2.held (us, ds) List.mem_cons_self
          refine hg (Γ.hold us ds ra) σ2 H3 ρ2 ρ3 _ _ _ e2 (hr.at_ hx (List.getElem?_eq_getElem hlt)) hg3 fun σ4 e4 _ _ => ?_
          cases eb : s ρ3 with
          | none => rw [eb] at em3; cases em3
          | some q =>
            rw [eb] at em3
            refine ⟨Γ.hold us ds ra, ρ3, q, e4, eb, ?_⟩
            cases q with
            | nx ρ5 => exact fun σ5 H5 e5 => ⟨_, by omega, rfl, ρ5, e5, em3⟩
            | ct ρ5 => exact fun σ5 H5 e5 => ⟨_, by omega, rfl, ρ5, e5, em3⟩
            | bk ρ5 => cases em3; exact fun σ5 H5 e5 => p _ _ e5.unhold
            | rt d => cases em3; exact p
            | er x ρ5 => cases em3; exact fun C σ5 H5 e5 k => p C _ _ e5.unhold k
        · have e : i = ds.length := by omega
          subst e
          rw [List.drop_length] at em2
          cases em2
          exact .inl ⟨w1.stop _ _ hP (by rw [lu]; exact Nat.le_refl _), p _ _ e2.unhold⟩

/-! ### list comprehensions -/
def wipeR (ρ : Ro) : List Nat → Ro
  | [] => ρ
  | v :: vs => (wipeR ρ vs).set v none
def noOwn (ρ : Ro) (vs : List Nat) : Bool := vs.all fun v => match ρ[v]? with
  | some (some (_, true)) => false
  | _ => true
theorem wipeR_length (ρ : Ro) : ∀ vs : List Nat, (wipeR ρ vs).length = ρ.length
  | [] => rfl
  | v :: vs => by unfold wipeR; rw [List.length_set, wipeR_length ρ vs]
theorem wipeR_some {ρ : Ro} {i : Nat} {x : D × Bool} : ∀ {vs : List Nat}, (wipeR ρ vs)[i]? = some (some x) → ρ[i]? = some (some x) ∧ i ∉ vs
  | [], h => ⟨h, by simp⟩
  | v :: vs, h => by
    unfold wipeR at h
    by_cases hi : v = i
    · subst hi
      by_cases hv : v < (wipeR ρ vs).length
      · rw [List.getElem?_set_self hv] at h; cases h
      · rw [List.getElem?_eq_none (by simpa using hv)] at h; cases h
    · rw [List.getElem?_set_ne hi] at h
      obtain ⟨h1, h2⟩ := wipeR_some h
      exact ⟨h1, by simp only [List.mem_cons, not_or]; exact ⟨fun e => hi e.symm, h2⟩⟩
theorem wipeR_out {ρ : Ro} {i : Nat} : ∀ {vs : List Nat}, i ∉ vs → (wipeR ρ vs)[i]? = ρ[i]?
  | [], _ => rfl
  | v :: vs, h => by
    unfold wipeR
    simp only [List.mem_cons, not_or] at h
    rw [List.getElem?_set_ne (Ne.symm h.1)]
    exact wipeR_out h.2
theorem wipe_set {σ σ' : L2.St} (l : σ'.length = σ.length) : ∀ {vs : List Nat}, (∀ j, j ∉ vs → σ'[j]? = σ[j]?) → wipe σ' vs = wipe σ vs := fun {vs} h => by
  apply List.ext_getElem?
  intro j
  by_cases hj : j ∈ vs
  · have z : ∀ (τ : L2.St) (ws : List Nat), j ∈ ws → (wipe τ ws)[j]? = if j < τ.length then some none else none := fun τ ws => by
      induction ws with
      | nil => intro h; cases h
      | cons w ws ih =>
        intro h
        unfold wipe
        by_cases e : w = j
        · subst e
          rw [List.getElem?_set, if_pos rfl, wipe_length]
        · rw [List.getElem?_set_ne e]
          rcases List.mem_cons.mp h with h | h
          · exact absurd h.symm e
          · exact ih h
    rw [z _ _ hj, z _ _ hj, l]
  · rw [wipe_out hj, wipe_out hj, h j hj]
theorem fx_out {l : List (Nat × V)} {σ : L2.St} {vs : List Nat} (h : ∀ p ∈ l, σ[p.1]? = some (some p.2)) (k : vs.all (fun v => fxOk l v) = true) : ∀ p ∈ l, (wipe σ vs)[p.1]? = some (some p.2) := fun p hp => by
  have : p.1 ∉ vs := fun z => by
    have := List.all_eq_true.mp k _ z
    have := List.all_eq_true.mp this p hp
    simp at this
  rw [wipe_out this]
  exact h p hp
theorem ER.wipe {Γ : Gam} {σ : L2.St} {H : Hp} {ρ : Ro} {vs : List Nat} (e : ER c Γ σ H ρ) (k : vs.all (fun v => fxOk c.fx v) = true) : ER c Γ (L2.wipe σ vs) H (wipeR ρ vs) := by
  have nn : ∀ a, NN Γ (L2.wipe σ vs) (wipeR ρ vs) a → NN Γ σ ρ a := fun a h => by
    rcases h with h | ⟨j, f, h1, h2⟩
    · exact .inl h
    · exact .inr ⟨j, f, (wipeR_some h1).1, (wipe_some h2).1⟩
  have st : ∀ a o, ¬ NN Γ σ ρ a → H a = some o → H a = some o ∧ ¬ NN Γ (L2.wipe σ vs) (wipeR ρ vs) a := fun a o n q => ⟨q, fun z => n (nn a z)⟩
  refine { len := by rw [wipeR_length, wipe_length, e.len], ext := e.ext, utr := e.utr, held := fun p h => (e.held p h).step st, raw := fun p h => ⟨fun z => (e.raw p h).1 (nn _ z), (e.raw p h).2⟩, fx := fx_out e.fx k, own := ?_, dis := ?_, slot := ?_, mine := ?_ }
  · exact fun i d a h1 h2 => e.own i d a (wipeR_some h1).1 (wipe_some h2).1
  · intro i j d f a ne h1 h2 h3 h4
    exact e.dis i j d f a ne (wipeR_some h1).1 (wipeR_some h2).1 (wipe_some h3).1 (wipe_some h4).1
  · intro i d h
    obtain ⟨h1, h2⟩ := wipeR_some h
    obtain ⟨v, h3, h4⟩ := e.slot i d h1
    exact ⟨v, by rw [wipe_out h2]; exact h3, h4.step st⟩
  · intro i d h
    obtain ⟨h1, h2⟩ := wipeR_some h
    obtain ⟨v, h3, h4⟩ := e.mine i d h1
    exact ⟨v, by rw [wipe_out h2]; exact h3, h4.step (fun _ q => q) st⟩
def lcGo (g : MG) (tt : MT) (me : ME) (ρ : Ro) : List D → Option (List D)
  | [] => some []
  | d :: ds => (g d ρ).bind fun ρ1 => match tt ρ1 with
    | some (.ok true) => (match me ρ1 with
      | some (.ok y) => (lcGo g tt me ρ ds).map (y :: ·)
      | _ => none)
    | some (.ok false) => lcGo g tt me ρ ds
    | _ => none
def mLc (src : MI) (vs : List Nat) (g : MG) (tt : MT) (me : ME) : ME := fun ρ => bnd (src ρ) fun ds => guard (noOwn ρ vs = true ∧ ds.length ≤ lim) ((lcGo g tt me (wipeR ρ vs) ds).map fun ys => .ok (.lst ys))
def W0 : WX := fun _ _ _ _ => False
def mYes : MT := fun _ => ok true
theorem t_yes {X : Cx} : PTs X [] (tT c W mYes) := ⟨fun pins s σ H Q I h => pts_nil.run pins s σ H Q I (by
  obtain ⟨Γ, ρ, r, er, em, p⟩ := h
  cases em
  exact p H (Same.refl _) er)⟩
theorem NN_blk {Γ : Gam} {D : Addr} {σ σ2 : L2.St} {ρ ρ1 : Ro} {is vs : List Nat} (hi : ∀ i ∈ is, i ∈ vs) (no : noOwn ρ vs = true) (hs : ∀ j, j ∉ is → σ2[j]? = (wipe σ vs)[j]? ∧ ρ1[j]? = (wipeR ρ vs)[j]?) : ∀ a, NN (Γ.add D) σ ρ a → NN (Γ.add D) σ2 ρ1 a := fun a h => by
  rcases h with h | ⟨j, f, h1, h2⟩
  · exact .inl h
  · have nj : j ∉ vs := fun z => by
      have := List.all_eq_true.mp no j z
      rw [h1] at this
      cases this
    have nj2 : j ∉ is := fun z => nj (hi j z)
    exact .inr ⟨j, f, by rw [(hs j nj2).2, wipeR_out nj]; exact h1, by rw [(hs j nj2).1, wipe_out nj]; exact h2⟩
theorem lc_ok {src : MI} {vs is : List Nat} {g : MG} {tt : MT} {me : ME} {gg : TG} {X' : Cx} {tg : Expr} (hsub : ∀ i ∈ is, i ∈ vs) (kfx : vs.all (fun v => fxOk c.fx v) = true)
    (hg : GOk c is gg g)
    {σ : L2.St} {H : Hp} {Q : VK} (h : tE c W .own (mLc src vs g tt me) σ H Q) : tLc (tI c W false src) gg (tT c W0 tt) (tE c W0 .dur me) vs σ H Q := by
  obtain ⟨Γ, ρ, r, er, em, p⟩ := h
  have em : bnd (src ρ) _ = some r := em
  cases q : src ρ with
  | none => rw [q] at em; cases em
  | some w =>
    rw [q] at em
    cases w with
    | error x =>
      cases em
      exact ⟨Γ, ρ, _, er, q, p⟩
    | ok ds =>
      obtain ⟨⟨no, hlim⟩, em⟩ := guard_ok em
      obtain ⟨ys, hys, rfl⟩ := Option.map_eq_some_iff.mp em
      refine ⟨Γ, ρ, _, er, q, fun J P us ra H1 s1 e1 r1 w1 q1 st D hD => ?_⟩
      have lu := r1.len
      have h0 : Γ.H0 D = none := e1.ext.free hD
      have nD : ¬ NN Γ σ ρ D := fun z => e1.tracked z hD
      refine ⟨fun i m H' => m = ds.length - i ∧ i ≤ ds.length ∧ ∃ acc ys1 zs, H' D = some (.lst acc) ∧ Rp c (NN (Γ.add D) σ ρ) H' acc ys1 ∧ acc.length ≤ i ∧ Same H1 H' ∧ ER c (Γ.add D) σ H' ρ ∧ lcGo g tt me (wipeR ρ vs) (ds.drop i) = some zs ∧ ys1 ++ zs = ys,
        ⟨_, rfl, Nat.zero_le _, [], [], ys, upd_same, .nil, Nat.le_refl _, same_new hD, e1.addU hD, hys, rfl⟩, ?_⟩
      rintro i m H2 ⟨rfl, hil, acc, ys1, zs, hacc, racc, hal, s2, e2, em2, eys⟩
      have hP : P H2 := st H2 fun p hp => s2 _ _ (q1 p hp).2
      by_cases hlt : i < ds.length
      · have hx : us[i]? = some us[i] := List.getElem?_eq_getElem (by rw [lu]; exact hlt)
        obtain ⟨go, yl⟩ := w1.go i H2 _ hP hx
        refine .inr ⟨go, fun H' => ∃ acc ys1 zs, H' D = some (.lst acc) ∧ Rp c (NN (Γ.add D) σ ρ) H' acc ys1 ∧ acc.length ≤ i + 1 ∧ Same H1 H' ∧ ER c (Γ.add D) σ H' ρ ∧ lcGo g tt me (wipeR ρ vs) (ds.drop (i + 1)) = some zs ∧ ys1 ++ zs = ys,
          fun H' z => ⟨ds.length - (i + 1), by omega, rfl, hlt, z⟩, fun x H3 y3 => ?_⟩
        obtain ⟨eH, ex⟩ := yl x H3 y3
        subst eH ex
        rw [List.drop_eq_getElem_cons hlt] at em2
        unfold lcGo at em2
        obtain ⟨ρ3, hg3, em3⟩ := Option.bind_eq_some_iff.mp em2
        have ew := e2.wipe kfx
        have nnw : ∀ a, NN (Γ.add D) (wipe σ vs) (wipeR ρ vs) a → NN (Γ.add D) σ ρ a := fun a h => by
          rcases h with h | ⟨j, f, h1, h2⟩
          · exact .inl h
          · exact .inr ⟨j, f, (wipeR_some h1).1, (wipe_some h2).1⟩
        -- the item
        have ri : Re c (NN (Γ.add D) (wipe σ vs) (wipeR ρ vs)) H3 us[i] ds[i] := by
          refine Rp.step (fun a o n hq => ?_) (r1.at_ hx (List.getElem?_eq_getElem hlt))
          refine ⟨s2 a o hq, fun z => ?_⟩
          rcases nnw a z with (z | z) | z
          · exact n (.inl z)
          · subst z; rw [hD] at hq; cases hq
          · exact n (.inr z)
        refine hg (Γ.add D) (wipe σ vs) H3 (wipeR ρ vs) ρ3 _ _ _ ew ri hg3 fun σ4 e4 l4 o4 => ⟨?_, ?_⟩
        · have : wipe σ4 vs = wipe (wipe σ vs) vs := wipe_set l4 fun j hj => (o4 j fun z => hj (hsub j z)).1
          rw [this]
          exact wipe_set (wipe_length σ vs) fun j hj => wipe_out hj
        have back : ∀ a, NN (Γ.add D) σ ρ a → NN (Γ.add D) σ4 ρ3 a := NN_blk hsub no o4
        cases et : tt ρ3 with
        | none => rw [et] at em3; cases em3
        | some w =>
          rw [et] at em3
          cases w with
          | error x => cases em3
          | ok b =>
            refine ⟨Γ.add D, ρ3, _, e4, et, fun H5 s5 e5 => ?_⟩
            cases b with
            | false =>
              rw [if_neg Bool.false_ne_true]
              exact ⟨acc, ys1, zs, s5 _ _ hacc, racc.same s5, by omega, s2.trans s5, e2.same s5, em3, eys⟩
            | true =>
              rw [if_pos rfl]
              dsimp only at em3
              cases ee : me ρ3 with
              | none => rw [ee] at em3; cases em3
              | some w =>
                rw [ee] at em3
                cases w with
                | error x => cases em3
                | ok y =>
                  obtain ⟨zs', hz, rfl⟩ := Option.map_eq_some_iff.mp em3
                  refine ⟨Γ.add D, ρ3, _, e5, ee, fun v H6 s6 r6 => ⟨acc, s6 _ _ (s5 _ _ hacc), Nat.lt_of_le_of_lt hal (Nat.lt_of_lt_of_le hlt (lim_ok hlim)), acc ++ [v], ys1 ++ [y], zs', upd_same, ?_, by simp; omega, ?_, ?_, hz, by simpa using eys⟩⟩
                  · have n2 : NN (Γ.add D) σ ρ D := .inl (.inr rfl)
                    exact Rp.step (mut_step n2) (((racc.same s5).same s6).app (r6.2.less back))
                  · intro a o ha
                    rw [upd_ne (ne_of_none ha hD)]
                    exact s6 _ _ (s5 _ _ (s2 _ _ ha))
                  · -- the new list is longer: nothing else is touched
                    have e6 : ER c (Γ.add D) σ H6 ρ := (e2.same s5).same s6
                    have n2 : NN (Γ.add D) σ ρ D := .inl (.inr rfl)
                    have st' := mut_step (H := H6) (o := .lst (acc ++ [v])) n2
                    exact {
                      len := e6.len
                      ext := fun a o ha => by
                        have ne : a ≠ D := fun z => by subst z; have := h0; rw [show Γ.H0 a = some o from ha] at this; cases this
                        rw [upd_ne ne]; exact e6.ext a o ha
                      utr := fun a ha => by
                        by_cases z : a = D
                        · subst z; exact Mt.upd fun _ z => by cases z
                        · exact (e6.utr a ha).off z
                      held := fun p hp => (e6.held p hp).step st'
                      raw := fun p hp => let z := st' _ _ (e6.raw p hp).1 (e6.raw p hp).2; ⟨z.2, z.1⟩
                      fx := e6.fx
                      own := e6.own
                      dis := e6.dis
                      slot := fun j f hf => let ⟨v, h1, h2⟩ := e6.slot j f hf; ⟨v, h1, h2.step st'⟩
                      mine := fun j f hf => let ⟨b, h1, h2⟩ := e6.mine j f hf; ⟨b, h1, h2.step (fun o ho => by
                        have ne : b ≠ D := fun z => by subst z; exact (e6.own j f b hf h1).2 (.inr rfl)
                        rw [upd_ne ne]; exact ho) st'⟩ }
      · have e : i = ds.length := by omega
        subst e
        rw [List.drop_length] at em2
        cases em2
        rw [List.append_nil] at eys
        subst eys
        exact .inl ⟨w1.stop _ _ hP (by rw [lu]; exact Nat.le_refl _), p (.ref D) H2 (s1.trans s2) ⟨D, rfl, h0, nD, e2, acc, hacc, racc⟩⟩
section
variable {elt tg iter : Expr} {ifs : List Expr} {scope : Scope} {own : List (Str × Nat)} {pos : Pos} {src : MI} {is : List Nat} {g : MG} {tt : MT} {me : ME}
/-- [e for t in it if ..] as a value -/
theorem d_lc (own : List (Str × Nat)) (hc : X.calm = true) (hN : X.N.Nodup) (hi : PI X tg iter (tI c W false src)) (ok : blkC X.N X.env.scope scope own = true)
    {gg : TG} (pg : ∀ (s : Shared) (H : Hp) (C : Addr) (cl : List (Str × Addr)) (fp : List Addr), PG (X.blk s H scope (compEnvC scope cl C X.env) fp) tg gg) (hgg : GOk c is gg g)
    (ht : ∀ (s : Shared) (H : Hp) (C : Addr) (cl : List (Str × Addr)) (fp : List Addr), PTs (X.blk s H scope (compEnvC scope cl C X.env) fp) ifs (tT c W0 tt))
    (he : ∀ (s : Shared) (H : Hp) (C : Addr) (cl : List (Str × Addr)) (fp : List Addr), PE (X.blk s H scope (compEnvC scope cl C X.env) fp) elt (tE c W0 .dur me)) (hsub : ∀ i ∈ is, i ∈ own.map (·.2) := by decide)
    (kfx : (own.map (·.2)).all (fun v => fxOk c.fx v) = true := by rfl) (hs : ∀ x, foldedSetIterable iter X.env x = pure x := by intro _; rfl) :
    PE X (.ListComp elt [⟨tg, iter, ifs, 0⟩] scope pos) (tE c W .own (mLc src (own.map (·.2)) g tt me)) :=
  (pe_lc hc hN hi (blkOk_by ok) pg ht he hs).via fun σ H Q h => lc_ok (X' := X) (tg := tg) hsub kfx hgg h
/-- y = [e for t in it if ..] on one line -/
theorem s_setLc (j : Nat) {y : Str} {py spos : Pos} (own : List (Str × Nat)) (hc : X.calm = true) (hN : X.N.Nodup) (hsw : swapsWith (.ListComp elt [⟨tg, iter, ifs, 0⟩] scope pos) (some (.Name y py)) spos.line X.env = pure true)
    (hi : PI X tg iter (tI c W false src)) (ok : blkC X.N X.env.scope scope own = true)
    {gg : TG} (pg : ∀ (s : Shared) (H : Hp) (C : Addr) (cl : List (Str × Addr)) (fp : List Addr), PG (X.blk s H scope (compEnvC scope cl C X.env) fp) tg gg) (hgg : GOk c is gg g)
    (ht : ∀ (s : Shared) (H : Hp) (C : Addr) (cl : List (Str × Addr)) (fp : List Addr), PTs (X.blk s H scope (compEnvC scope cl C X.env) fp) ifs (tT c W0 tt))
    (he : ∀ (s : Shared) (H : Hp) (C : Addr) (cl : List (Str × Addr)) (fp : List Addr), PE (X.blk s H scope (compEnvC scope cl C X.env) fp) elt (tE c W0 .dur me)) (hsub : ∀ i ∈ is, i ∈ own.map (·.2) := by decide)
    (kfx : (own.map (·.2)).all (fun v => fxOk c.fx v) = true := by rfl) (hs : ∀ x, foldedSetIterable iter X.env x = pure x := by intro _; rfl) (hy : X.N[j]? = some y := by rfl) (hyl : X.env.scope.names.lookup y = some .local := by rfl) (k : fxOk c.fx j = true := by rfl) :
    PS X (.Assign [.Name y py] (.ListComp elt [⟨tg, iter, ifs, 0⟩] scope pos) spos) (tS c W (mSet j true (mLc src (own.map (·.2)) g tt me))) :=
  (ps_setLc hc hN hy hyl hsw hi (blkOk_by ok) pg ht he hs).via fun D σ H ⟨Γ, ρ, o, er, em, p⟩ => by
    refine lc_ok (X' := X) (tg := tg) hsub kfx hgg (useS er em p fun d v H1 h1 s1 r1 => ?_)
    cases h1
    obtain ⟨a, rfl, h0, na, e1, ow⟩ := r1
    exact p _ _ (ER.setO e1 h0 na ow k)
end
end
end DL

set_option Elab.async false
set_option linter.all false
set_option maxRecDepth 100000
set_option maxHeartbeats 2000000
set_option autoImplicit false
/-! DLi: defs: what they promise, how they are called; try; isinstance. -/
namespace DL
open PySem L2

/-! ### the promise of a def by a function of data -/
def SpD (c : Conf) (f : List D → R D) : Sp := fun vs H Q E => ∃ (U : Addr → Prop) (ds : List D) (r : Except EN D), (∀ a, U a → Mt H a) ∧ Rp c U H vs ds ∧ f ds = some r ∧
  (match r with
    | .ok d => ∀ v H', Same H H' → Re c U H' v d → Q v H'
    | .error x => ∀ C H', Same H H' → c.err x C → E (.ref C) none H')
/-- a body run on arguments: n names, the first of them the parameters -/
def mDef (n k : Nat) (body : MS) : List D → R D := fun ds => if ds.length = k then (match body (ds.map (fun d => some (d, false)) ++ List.replicate (n - k) none) with
    | some (.nx _) => ok .non
    | some (.rt d) => ok d
    | some (.er x _) => some (.error x)
    | _ => none) else none
section
variable {c : Conf}
theorem start_no {ds : List D} {k i : Nat} {d : D} : (ds.map (fun d => some (d, false)) ++ List.replicate k none : Ro)[i]? ≠ some (some (d, true)) := by
  rw [List.getElem?_append]
  split
  · rw [List.getElem?_map]
    cases ds[i]? with
    | none => exact fun z => by cases z
    | some e => exact fun z => by cases z
  · rw [List.getElem?_replicate]
    split <;> exact fun z => by cases z
theorem start_er {N : List Str} {U : Addr → Prop} {H : Hp} {vs : List V} {ds : List D} {k : Nat} (hfx : c.fx = []) (hk : ds.length = k) (hN : k ≤ N.length) (hU : ∀ a, U a → Mt H a) (r : Rp c U H vs ds) :
    ER c ⟨U, H, [], []⟩ (start N vs) H (ds.map (fun d => some (d, false)) ++ List.replicate (N.length - k) none) := by
  have nn : ∀ a, NN ⟨U, H, [], []⟩ (start N vs) (ds.map (fun d => some (d, false)) ++ List.replicate (N.length - k) none) a → U a := fun a h => by
    rcases h with h | ⟨i, d, h, _⟩
    · exact h
    · exact absurd h start_no
  have lv := r.len
  refine { len := ?_, ext := Same.refl _, utr := hU, held := fun p h => (by cases h), raw := fun p h => (by cases h), fx := fun p h => (by rw [hfx] at h; cases h), own := fun i d a h => absurd h start_no, dis := fun i j d e a _ h => absurd h start_no, slot := ?_, mine := fun i d h => absurd h start_no }
  · unfold L2.start
    simp only [List.length_append, List.length_map, List.length_replicate]
    omega
  · intro i d h
    rw [List.getElem?_append] at h
    split at h
    · rename_i hi
      rw [List.getElem?_map] at h
      obtain ⟨d', h1, h2⟩ := Option.map_eq_some_iff.mp h
      cases h2
      obtain ⟨v, h3, h4⟩ := r.get h1
      refine ⟨v, ?_, h4.less nn⟩
      unfold L2.start
      rw [List.getElem?_append]
      rw [List.length_map] at hi ⊢
      rw [if_pos (by omega), List.getElem?_map, h3]
      rfl
    · rw [List.getElem?_replicate] at h
      split at h <;> cases h
end
section
variable {P : Program} {w : World} {K : PySem.W.Frag} {mg : Str → Option Value} {base : Heap} {c : Conf}
/-- THE RULE for a def -/
theorem fn_ok {x qual : Str} {st : Stmt} {f : Addr} {fd : FuncData} {N ps : List Str} {k : Nat} {body : MS} (F : Fun K x qual st f fd) (S : FnScope N ps (defScope st)) (hfx : c.fx = []) (hps : ps.length ≤ N.length)
    (hb : ∀ (cdv : Value) (A : Around) (outer : List Env) (s : Shared) (H : Hp) (E : XK), Room k (A.deeper (PyProof.Rows.envOfC qual (defScope st) s.heap.objs.size f cdv)) →
      PSs (cxOf (L2.CX P w) P w K mg base N qual (defScope st) f cdv A outer s H E) (defBody st) (tS c (fun cls d _ H' => E cls d H') body)) :
    FnOk P w K mg base (L2.CX P w) (k + 1) f fd ps (SpD c (mDef N.length ps.length body)) := by
  refine F.okX S (fun vs H Q E h => ?_) (fun cdv A outer s H vs Q E hr h => ⟨_, hb cdv A outer s H E hr, ?_⟩)
  · obtain ⟨U, ds, r, hU, hr, hm, _⟩ := h
    unfold mDef at hm
    split at hm
    · rw [hr.len]; assumption
    · cases hm
  · obtain ⟨U, ds, r, hU, hr, hm, q⟩ := h
    unfold mDef at hm
    split at hm
    · rename_i hl
      have e0 := start_er (N := N) hfx hl hps hU hr
      cases eb : body (ds.map (fun d => some (d, false)) ++ List.replicate (N.length - ps.length) none) with
      | none => rw [eb] at hm; cases hm
      | some o =>
        rw [eb] at hm
        refine ⟨_, _, o, e0, eb, ?_⟩
        cases o with
        | nx ρ =>
          cases hm
          exact fun σ1 H1 e1 => q .non H1 e1.ext (.non .nil)
        | rt d =>
          cases hm
          exact fun v H1 s1 r1 => q v H1 s1 r1
        | er x ρ =>
          cases hm
          exact fun C σ1 H1 e1 k => q C H1 e1.ext k
        | bk ρ => cases hm
        | ct ρ => cases hm
    · cases hm
theorem fn_eq {f : Addr} {fd : FuncData} {ps : List Str} {k : Nat} {m m' : List D → R D} (F : FnOk P w K mg base (L2.CX P w) k f fd ps (SpD c m)) (h : ∀ ds r, m' ds = some r → m ds = some r) : FnOk P w K mg base (L2.CX P w) k f fd ps (SpD c m') :=
  FnOk.imp F fun vs H Q E ⟨U, ds, r, h1, h2, h3, h4⟩ => ⟨U, ds, r, h1, h2, h ds r h3, h4⟩
end
section
variable {X : Cx} {c c0 : Conf} {W : WX}
/-- the data do not hang on the held slots -/
theorem Rp.fx {N : Addr → Prop} {H : Hp} {l : List (Nat × V)} {vs : List V} {ds : List D} (r : Rp c N H vs ds) : Rp { c with fx := l } N H vs ds := by
  induction r with
  | nil => exact .nil
  | non _ ih => exact .non ih
  | bl _ ih => exact .bl ih
  | int _ ih => exact .int ih
  | str _ ih => exact .str ih
  | tup n q _ _ i1 i2 => exact .tup n q i1 i2
  | lst n q _ _ i1 i2 => exact .lst n q i1 i2
  | fzT q _ _ i1 i2 => exact .fzT q i1 i2
  | fzL q _ _ i1 i2 => exact .fzL q i1 i2
  | dK n q e _ _ i1 i2 => exact .dK n q e i1 i2
  | dT n q e _ _ i1 i2 => exact .dT n q e i1 i2
  | obj k n q e _ _ i1 i2 => exact .obj k n q e i1 i2
  | fn k _ ih => exact .fn k ih
theorem Own.fx {N : Addr → Prop} {H : Hp} {l : List (Nat × V)} {a : Addr} {d : D} (h : Own c N H a d) : Own { c with fx := l } N H a d := by
  cases d with
  | lst es =>
    obtain ⟨us, q, r⟩ := h
    exact ⟨us, q, r.fx⟩
  | dK kds =>
    obtain ⟨kvs, q, z, r⟩ := h
    exact ⟨kvs, q, z, r.fx⟩
  | dT kds =>
    obtain ⟨kvs, q, z, r⟩ := h
    exact ⟨kvs, q, z, r.fx⟩
  | _ => exact h.elim
theorem ER.fx' {Γ : Gam} {σ : L2.St} {H : Hp} {ρ : Ro} (e : ER c Γ σ H ρ) {l : List (Nat × V)} (h : ∀ p ∈ l, σ[p.1]? = some (some p.2)) : ER { c with fx := l } Γ σ H ρ where
  len := e.len
  ext := e.ext
  utr := e.utr
  held := fun p hp => (e.held p hp).fx
  raw := e.raw
  fx := h
  own := e.own
  dis := e.dis
  slot := fun i d hi => let ⟨v, h1, h2⟩ := e.slot i d hi; ⟨v, h1, h2.fx⟩
  mine := fun i d hi => let ⟨a, h1, h2⟩ := e.mine i d hi; ⟨a, h1, h2.fx⟩

/-! ### calls -/
theorem d_call {x : Str} {k : Nat} {f : Addr} {fd : FuncData} {ps : List Str} {m : List D → R D} {e : Expr} {es : List Expr} {l : MA} {p pos : Pos} (F : FnOk X.prog X.w X.K X.mg X.base (L2.CX X.prog X.w) k f fd ps (SpD c m)) (hr : Room k X.A) (hm : X.mg x = some (.ref f)) (hk : PySem.W.keepIn X.K (.ref f) = true)
    (hb : Binds X.K fd ps []) (tk : Takes X W) (ha : PA X (e :: es) (tA c W l)) (hg : Gl X x := by rfl) (hdb : (x == ("__debug__" : Str)) = false := by decide) (he : starEach (e :: es) X.env = (false, eval e X.env) :: starEach es X.env := by rfl) (hpl : (backTo pos (starEach es X.env)).any (·.1) = false := by rfl) :
    PE X (.Call (.Name x p) (e :: es) [] pos) (tE c W .dur (mCB m l)) := (pe_callS F hr hg hm hk hb (fun σ => passAt tk σ) ha hdb he hpl).via fun σ H Q ⟨Γ, ρ, r, er, em, p⟩ => by
  refine useA er em p.err fun ds vs H1 h1 s1 e1 r1 => ⟨NN Γ σ ρ, ds, r, fun a h => e1.mt h, r1, h1, ?_⟩
  cases r with
  | ok d => exact fun v H' s2 r2 => p v H' (s1.trans s2) ⟨e1.same s2, r2⟩
  | error x => exact fun C H' s2 k => p C H' (e1.same s2) k
/-- a def of the text, by its name -/
structure FnAt (P : Program) (w : World) (K : PySem.W.Frag) (mg : Str → Option Value) (base : Heap) (c : Conf) (x : Str) (k : Nat) (ps : List Str) (m : List D → R D) : Prop where
  ex : ∃ (f : Addr) (fd : FuncData), FnOk P w K mg base (L2.CX P w) k f fd ps (SpD c m) ∧ mg x = some (.ref f) ∧ PySem.W.keepIn K (.ref f) = true ∧ Binds K fd ps []
theorem fn_at {P : Program} {w : World} {K : PySem.W.Frag} {mg : Str → Option Value} {base : Heap} {x qual : Str} {st : Stmt} {f : Addr} {fd : FuncData} {N ps : List Str} {k : Nat} {body : MS} (F : Fun K x qual st f fd) (hm : mg x = some (.ref f)) (b : Binds K fd ps []) (S : FnScope N ps (defScope st)) (hfx : c.fx = []) (hps : ps.length ≤ N.length)
    (hb : ∀ (cdv : Value) (A : Around) (outer : List Env) (s : Shared) (H : Hp) (E : XK), Room k (A.deeper (PyProof.Rows.envOfC qual (defScope st) s.heap.objs.size f cdv)) →
      PSs (cxOf (L2.CX P w) P w K mg base N qual (defScope st) f cdv A outer s H E) (defBody st) (tS c (fun cls d _ H' => E cls d H') body)) :
    FnAt P w K mg base c x (k + 1) ps (mDef N.length ps.length body) := ⟨f, fd, fn_ok F S hfx hps hb, hm, F.kp, b⟩
theorem d_fn {x : Str} {k : Nat} {ps : List Str} {m : List D → R D} {e : Expr} {es : List Expr} {l : MA} {p pos : Pos} (G : FnAt X.prog X.w X.K X.mg X.base c x k ps m) (hr : Room k X.A)
    (tk : Takes X W) (ha : PA X (e :: es) (tA c W l)) (hg : Gl X x := by rfl) (hdb : (x == ("__debug__" : Str)) = false := by decide) (he : starEach (e :: es) X.env = (false, eval e X.env) :: starEach es X.env := by rfl) (hpl : (backTo pos (starEach es X.env)).any (·.1) = false := by rfl) :
    PE X (.Call (.Name x p) (e :: es) [] pos) (tE c W .dur (mCB m l)) := by
  obtain ⟨f, fd, F, hm, hk, hb⟩ := G.ex
  exact d_call F hr hm hk hb tk ha hg hdb he hpl
theorem tk_of {P : Program} {w : World} {K : PySem.W.Frag} {mg : Str → Option Value} {base : Heap} {N : List Str} {qual : Str} {sc : Scope} {f : Addr} {cdv : Value} {A : Around} {outer : List Env} {s : Shared} {H : Hp} {E : XK} :
    Takes (cxOf (L2.CX P w) P w K mg base N qual sc f cdv A outer s H E) (fun cls d _ H => E cls d H) := takes_of rfl rfl rfl rfl
theorem hp_of {P : Program} {w : World} {K : PySem.W.Frag} {mg : Str → Option Value} {base : Heap} {N : List Str} {qual : Str} {sc : Scope} {f : Addr} {cdv : Value} {A : Around} {outer : List Env} {s : Shared} {H : Hp} {E : XK} :
    PassesOwn (model (cxOf (L2.CX P w) P w K mg base N qual sc f cdv A outer s H E).prog (cxOf (L2.CX P w) P w K mg base N qual sc f cdv A outer s H E).w) (cxOf (L2.CX P w) P w K mg base N qual sc f cdv A outer s H E).A (cxOf (L2.CX P w) P w K mg base N qual sc f cdv A outer s H E).env (cxOf (L2.CX P w) P w K mg base N qual sc f cdv A outer s H E).xe := passes_of rfl
theorem tk0 : Takes X W0 := takes0
/-- a call whose arguments may belong to names: its answer is no thing of theirs -/
def scalD : D → Bool
  | .non => true
  | .bl _ => true
  | .int _ => true
  | .str _ => true
  | _ => false
theorem Bor.any {N : Addr → Prop} {H : Hp} {v : V} {d : D} (h : Bor c N H v d) : Re c (fun _ => False) H v d := by
  cases d with
  | lst es =>
    obtain ⟨a, us, rfl, e, r⟩ := h
    exact .lst (fun z => z) e (r.less fun _ z => z.elim) .nil
  | dK kds =>
    obtain ⟨a, kvs, rfl, e, k, r⟩ := h
    exact .dK (fun z => z) e k (r.less fun _ z => z.elim) .nil
  | dT kds =>
    obtain ⟨a, kvs, rfl, e, k, r⟩ := h
    exact .dT (fun z => z) e k (r.less fun _ z => z.elim) .nil
  | _ => exact Rp.less (fun _ z => z.elim) (show Re c N H v _ from h)
theorem Bors.any {N : Addr → Prop} {H : Hp} : ∀ {vs : List V} {ds : List D}, Bors c N H vs ds → Rp c (fun _ => False) H vs ds
  | _, _, .nil => .nil
  | _, _, .cons a b => .cons a.any (Bors.any b)
theorem scal_re {N : Addr → Prop} {H : Hp} {v : V} {d : D} (h : Re c (fun _ => False) H v d) (k : scalD d = true) : Re c N H v d := by
  cases d <;> first | (cases k; done) | skip
  · rw [h.of_non]; exact .non .nil
  · rw [h.of_bl]; exact .bl .nil
  · rw [h.of_int]; exact .int .nil
  · rw [h.of_str]; exact .str .nil
def scalR (m : List D → R D) : List D → R D := fun ds => match m ds with
  | some (.ok d) => if scalD d = true then ok d else none
  | o => o
theorem d_callB {x : Str} {k : Nat} {f : Addr} {fd : FuncData} {ps : List Str} {m : List D → R D} {e : Expr} {es : List Expr} {l : MA} {p pos : Pos} (F : FnOk X.prog X.w X.K X.mg X.base (L2.CX X.prog X.w) k f fd ps (SpD c m)) (hr : Room k X.A) (hm : X.mg x = some (.ref f)) (hk : PySem.W.keepIn X.K (.ref f) = true)
    (hb : Binds X.K fd ps []) (tk : Takes X W) (ha : PA X (e :: es) (tBo c W l)) (hg : Gl X x := by rfl) (hdb : (x == ("__debug__" : Str)) = false := by decide) (he : starEach (e :: es) X.env = (false, eval e X.env) :: starEach es X.env := by rfl) (hpl : (backTo pos (starEach es X.env)).any (·.1) = false := by rfl) :
    PE X (.Call (.Name x p) (e :: es) [] pos) (tE c W .dur (mCB (scalR m) l)) := (pe_callS F hr hg hm hk hb (fun σ => passAt tk σ) ha hdb he hpl).via fun σ H Q ⟨Γ, ρ, r, er, em, p⟩ => by
  refine useB er em p.err fun ds vs H1 h1 s1 e1 r1 => ?_
  unfold scalR at h1
  cases e : m ds with
  | none => rw [e] at h1; cases h1
  | some w =>
    rw [e] at h1
    refine ⟨fun _ => False, ds, w, fun a h => h.elim, r1.any, e, ?_⟩
    cases w with
    | ok d =>
      dsimp only at h1
      split at h1
      · rename_i hs
        cases h1
        exact fun v H' s2 r2 => p v H' (s1.trans s2) ⟨e1.same s2, scal_re r2 hs⟩
      · cases h1
    | error x =>
      cases h1
      exact fun C H' s2 k => p C H' (e1.same s2) k

theorem d_fnB {x : Str} {k : Nat} {ps : List Str} {m : List D → R D} {e : Expr} {es : List Expr} {l : MA} {p pos : Pos} (G : FnAt X.prog X.w X.K X.mg X.base c x k ps m) (hr : Room k X.A)
    (tk : Takes X W) (ha : PA X (e :: es) (tBo c W l)) (hg : Gl X x := by rfl) (hdb : (x == ("__debug__" : Str)) = false := by decide) (he : starEach (e :: es) X.env = (false, eval e X.env) :: starEach es X.env := by rfl) (hpl : (backTo pos (starEach es X.env)).any (·.1) = false := by rfl) :
    PE X (.Call (.Name x p) (e :: es) [] pos) (tE c W .dur (mCB (scalR m) l)) := by
  obtain ⟨f, fd, F, hm, hk, hb⟩ := G.ex
  exact d_callB F hr hm hk hb tk ha hg hdb he hpl

/-! ### try .. except X: suite -/
def clrO (i : Nat) : Out → Out
  | .nx ρ => .nx (ρ.set i none)
  | .bk ρ => .bk (ρ.set i none)
  | .ct ρ => .ct (ρ.set i none)
  | o => o
/-- the clause takes the errors of mt; its suite may hang on which one it is -/
def mTry (s : MS) (mt : EN → Bool) (h : EN → MS) : MS := fun ρ => match s ρ with
  | some (.er x ρ1) => if mt x = true then (match h x ρ1 with
      | some (.er _ _) => none
      | o => o) else some (.er x ρ1)
  | o => o
def mTryAs (i : Nat) (s : MS) (mt : EN → Bool) (h : EN → MS) : MS := fun ρ => match s ρ with
  | some (.er x ρ1) => if mt x = true then (match (if i < ρ1.length then h x (ρ1.set i none) else none) with
      | some (.er _ _) => none
      | some o => some (clrO i o)
      | none => none) else some (.er x ρ1)
  | o => o
/-- a suite's reading: by the error it is for -/
def tSu (c c' : Conf) (h : EN → MS) (cls : Value) (d : Option Addr) : TS := fun D σ H => ∃ x C, cls = .ref C ∧ d = none ∧ c.err x C ∧ tS c' W0 (h x) D σ H
theorem su_of {Y : Cx} {c' : Conf} {h : EN → MS} {cls : Value} {d : Option Addr} {sts : List Stmt} (hh : ∀ x C, cls = .ref C → d = none → c.err x C → PSs Y sts (tS c' W0 (h x))) : PSs Y sts (tSu c c' h cls d) := ⟨fun pins s σ H D I q => by
  obtain ⟨x, C, e1, e2, k, t⟩ := q
  exact (hh x C e1 e2 k).run pins s σ H D I t⟩
/-- what a clause says of the errors -/
def Clause (X : Cx) (c : Conf) (cc : Value) (mt : EN → Bool) : Prop := ∀ x C, c.err x C → PySem.W.exmOne X.K (.ref C) cc = some (mt x)
section
variable {x n : Str} {cc : Value} {body suite : List Stmt} {b₀ : Stmt} {np pos pos' : Pos} {s : MS} {mt : EN → Bool} {h : EN → MS}
theorem s_try (mt : EN → Bool) (hc : Names X x cc) (cl : Clause X c cc mt) (tk : Takes X W)
    (hb : ∀ (W : WX) (pn : List (Addr × Obj)) (xe : Value → Shared → Prop), Takes (X.tr pn xe) W → PassesOwn (model X.prog X.w) X.A X.env xe → PSs (X.tr pn xe) body (tS c W s))
    (hsu : ∀ (a : Addr) (oe : Obj) (cls : Value) (d : Option Addr) (pn : List (Addr × Obj)), Zc cls d oe → (∃ vs, oe.data = .fields vs) → ∀ x C, cls = .ref C → d = none → c.err x C → PSs (X.suite a ((a, oe) :: pn)) (b₀ :: suite) (tS c W0 (h x)))
    (hs : X.stack = X.env :: X.outer := by rfl) (hf : X.env.frame = some X.env.locals := by rfl) :
    PS X (.Try body [.ExceptHandler (some (.Name x np)) none (b₀ :: suite) pos'] [] [] pos) (tS c W (mTry s mt h)) :=
  (ps_try_only (tb := fun W => tS c W s) (ts := fun a cls d => tSu c c h cls d) (Wout := W) hs hf hc tk hb fun a oe cls d pn hz hf => su_of fun x C e1 e2 k => hsu a oe cls d pn hz hf x C e1 e2 k).via fun D σ H ⟨Γ, ρ, o, er, em, p⟩ => by
    unfold mTry at em
    cases e : s ρ with
    | none => rw [e] at em; cases em
    | some q =>
      rw [e] at em
      refine ⟨Γ, ρ, q, er, e, ?_⟩
      cases q with
      | nx ρ1 => cases em; exact p
      | rt d => cases em; exact p
      | bk ρ1 => cases em; exact p
      | ct ρ1 => cases em; exact p
      | er x ρ1 =>
        dsimp only at em
        refine fun C σ1 H1 e1 k => ⟨mt x, cl x C k, fun hm a ha => ?_, fun hm => ?_⟩
        · rw [if_pos hm] at em
          cases eh : h x ρ1 with
          | none => rw [eh] at em; cases em
          | some o' =>
            rw [eh] at em
            refine ⟨x, C, rfl, rfl, k, Γ, ρ1, o', e1, eh, ?_⟩
            cases o' with
            | nx ρ2 => cases em; exact p
            | rt d => cases em; exact p
            | bk ρ2 => cases em; exact p
            | ct ρ2 => cases em; exact p
            | er y ρ2 => cases em
        · rw [if_neg (by rw [hm]; exact Bool.false_ne_true)] at em
          cases em
          exact p C σ1 H1 e1 k
theorem clr_fx {l : List (Nat × V)} {σ : L2.St} {i : Nat} {v : Option V} (h : ∀ p ∈ l, σ[p.1]? = some (some p.2)) (k : fxOk l i = true) : ∀ p ∈ l, (σ.set i v)[p.1]? = some (some p.2) := fun p hp => by
  have := List.all_eq_true.mp k p hp
  have ne : p.1 ≠ i := by simpa using this
  rw [List.getElem?_set_ne (Ne.symm ne)]
  exact h p hp
/-- a name is gone -/
theorem ER.clr {Γ : Gam} {σ : L2.St} {H : Hp} {ρ : Ro} {i : Nat} {v : Option V} (e : ER c Γ σ H ρ) (k : fxOk c.fx i = true) : ER c Γ (σ.set i v) H (ρ.set i none) := by
  have ow : ∀ {j : Nat} {x : D × Bool}, (ρ.set i none)[j]? = some (some x) → j ≠ i ∧ ρ[j]? = some (some x) := fun {j x} h => by
    by_cases z : i = j
    · subst z
      rw [List.getElem?_set, if_pos rfl] at h
      split at h <;> cases h
    · rw [List.getElem?_set_ne z] at h
      exact ⟨Ne.symm z, h⟩
  have nn : ∀ a, NN Γ (σ.set i v) (ρ.set i none) a → NN Γ σ ρ a := fun a h => by
    rcases h with h | ⟨j, f, h1, h2⟩
    · exact .inl h
    · obtain ⟨z, h1⟩ := ow h1
      rw [List.getElem?_set_ne (Ne.symm z)] at h2
      exact .inr ⟨j, f, h1, h2⟩
  have st : ∀ a o, ¬ NN Γ σ ρ a → H a = some o → H a = some o ∧ ¬ NN Γ (σ.set i v) (ρ.set i none) a := fun a o n q => ⟨q, fun z => n (nn a z)⟩
  refine { len := by simp [e.len], ext := e.ext, utr := e.utr, held := fun p h => (e.held p h).step st, raw := fun p h => ⟨fun z => (e.raw p h).1 (nn _ z), (e.raw p h).2⟩, fx := clr_fx e.fx k, own := ?_, dis := ?_, slot := ?_, mine := ?_ }
  · intro j f a h1 h2
    obtain ⟨z, h1⟩ := ow h1
    rw [List.getElem?_set_ne (Ne.symm z)] at h2
    exact e.own j f a h1 h2
  · intro j l f g a ne h1 h2 h3
    obtain ⟨z, h1⟩ := ow h1
    obtain ⟨w, h2⟩ := ow h2
    rw [List.getElem?_set_ne (Ne.symm z)] at h3
    rw [List.getElem?_set_ne (Ne.symm w)]
    exact e.dis j l f g a ne h1 h2 h3
  · intro j f h
    obtain ⟨z, h⟩ := ow h
    obtain ⟨u, h1, h2⟩ := e.slot j f h
    exact ⟨u, by rw [List.getElem?_set_ne (Ne.symm z)]; exact h1, h2.step st⟩
  · intro j f h
    obtain ⟨z, h⟩ := ow h
    obtain ⟨u, h1, h2⟩ := e.mine j f h
    exact ⟨u, by rw [List.getElem?_set_ne (Ne.symm z)]; exact h1, h2.step (fun _ q => q) st⟩
theorem fx_back {l : List (Nat × V)} : ({ ({ c with fx := l } : Conf) with fx := c.fx } : Conf) = c := rfl
theorem s_tryAs (i : Nat) (mt : EN → Bool) (hN : X.N.Nodup) (hc : Names X x cc) (cl : Clause X c cc mt) (tk : Takes X W)
    (hb : ∀ (W : WX) (pn : List (Addr × Obj)) (xe : Value → Shared → Prop), Takes (X.tr pn xe) W → PassesOwn (model X.prog X.w) X.A X.env xe → PSs (X.tr pn xe) body (tS c W s))
    (hsu : ∀ (a : Addr) (oe : Obj) (cls : Value) (d : Option Addr) (pn : List (Addr × Obj)), Zc cls d oe → (∃ vs, oe.data = .fields vs) → ∀ x C, cls = .ref C → d = none → c.err x C → PSs (X.suite a ((a, oe) :: pn)) (b₀ :: suite) (tS { c with fx := [(i, .ref a)] } W0 (h x)))
    (hi : X.N[i]? = some n := by rfl) (hln : X.env.kindOf n = some .local := by rfl) (kfx : c.fx = [] := by rfl)
    (hs : X.stack = X.env :: X.outer := by rfl) (hf : X.env.frame = some X.env.locals := by rfl) :
    PS X (.Try body [.ExceptHandler (some (.Name x np)) (some n) (b₀ :: suite) pos'] [] [] pos) (tS c W (mTryAs i s mt h)) :=
  (ps_try_as (tb := fun W => tS c W s) (ts := fun a cls d => tSu c { c with fx := [(i, .ref a)] } h cls d) (Wout := W) hs hf hN hi hln hc tk hb fun a oe cls d pn hz hf => su_of fun x C e1 e2 k => hsu a oe cls d pn hz hf x C e1 e2 k).via fun D σ H ⟨Γ, ρ, o, er, em, p⟩ => by
    have hil : i < X.N.length := (List.getElem?_eq_some_iff.mp hi).1
    unfold mTryAs at em
    cases e : s ρ with
    | none => rw [e] at em; cases em
    | some q =>
      rw [e] at em
      refine ⟨Γ, ρ, q, er, e, ?_⟩
      cases q with
      | nx ρ1 => cases em; exact p
      | rt d => cases em; exact p
      | bk ρ1 => cases em; exact p
      | ct ρ1 => cases em; exact p
      | er x ρ1 =>
        dsimp only at em
        refine fun C σ1 H1 e1 k => ⟨mt x, cl x C k, fun hm a ha => ?_, fun hm => ?_⟩
        · rw [if_pos hm] at em
          cases eh : (if i < ρ1.length then h x (ρ1.set i none) else none) with
          | none => rw [eh] at em; cases em
          | some o' =>
            rw [eh] at em
            have k0 : fxOk c.fx i = true := by rw [kfx]; rfl
            by_cases hlt : i < σ1.length
            · rw [if_pos (by rw [e1.len]; exact hlt)] at eh
              have e2 : ER { c with fx := [(i, .ref a)] } Γ (σ1.set i (some (.ref a))) H1 (ρ1.set i none) := (e1.clr k0).fx' fun p hp => by
                have : p = (i, V.ref a) := by simpa using hp
                subst this
                rw [List.getElem?_set, if_pos rfl, if_pos hlt]
              refine ⟨x, C, rfl, rfl, k, Γ, _, o', e2, eh, ?_⟩
              have back : ∀ {σ2 : L2.St} {H2 : Hp} {ρ2 : Ro}, ER { c with fx := [(i, .ref a)] } Γ σ2 H2 ρ2 → ER c Γ (σ2.set i none) H2 (ρ2.set i none) := fun {σ2 H2 ρ2} e3 => by
                have e4 : ER c Γ σ2 H2 ρ2 := by
                  have := e3.fx' (l := c.fx) (fun p hp => by rw [kfx] at hp; cases hp)
                  exact this
                exact e4.clr k0
              cases o' with
              | nx ρ2 => cases em; exact fun σ2 H2 e3 => p _ _ (back e3)
              | rt d =>
                cases em
                exact fun v H2 s2 r2 => p v H2 s2 (Rp.fx (c := { c with fx := [(i, .ref a)] }) (l := c.fx) r2)
              | bk ρ2 => cases em; exact fun σ2 H2 e3 => p _ _ (back e3)
              | ct ρ2 => cases em; exact fun σ2 H2 e3 => p _ _ (back e3)
              | er y ρ2 => cases em
            · rw [if_neg (by rw [e1.len]; exact hlt)] at eh
              cases eh
        · rw [if_neg (by rw [hm]; exact Bool.false_ne_true)] at em
          cases em
          exact p C σ1 H1 e1 k
end
/-- isinstance(e, c) of the error that the suite holds -/
theorem d_isE {X0 : Cx} {a C : Addr} {oe : Obj} {pn : List (Addr × Obj)} {i : Nat} {n : Str} {cv : V} {u : Value} {b : Bool} {hx : Expr} {p p1 pos : Pos} (T : ExcC X0.K C) (hz : Zc (.ref C) none oe) (hf : ∃ vs, oe.data = .fields vs) (hfx : (i, V.ref a) ∈ c.fx)
    (hX : PE (X0.suite a ((a, oe) :: pn)) hx (tC cv)) (hu : ∀ v, RelV cv v → v = u) (hk : PySem.W.kitOne X0.K (.ref C) u = some b) (hm : X0.mg "isinstance" = none) (hN : X0.N[i]? = some n := by rfl) (hv : Vis X0.env.scope n := by first | exact Or.inl rfl | exact Or.inr (Or.inl rfl) | exact Or.inr (Or.inr rfl))
    (hd : (n == ("__debug__" : Str)) = false := by decide) (hcd : (n == ("__classdict__" : Str)) = false := by decide) (hg : Gl (X0.suite a ((a, oe) :: pn)) "isinstance" := by rfl) (hb : bootBuiltins "isinstance" = some (.builtin "isinstance") := by decide +kernel)
    (he : starEach [.Name n p1, hx] X0.env = (false, eval (.Name n p1) X0.env) :: starEach [hx] X0.env := by rfl) (he2 : starEach [hx] X0.env = (false, eval hx X0.env) :: starEach [] X0.env := by rfl) (hpl : (backTo pos (starEach [hx] X0.env)).any (·.1) = false := by rfl) :
    PE (X0.suite a ((a, oe) :: pn)) (.Call (.Name "isinstance" p) [.Name n p1, hx] [] pos) (tE c W .dur (mC (.bl b))) :=
  (pe_callB (X := X0.suite a ((a, oe) :: pn)) (call_isE T hz hf) hg hm hb (pa_cons (pv i hN hv hd hcd) (pa_cons hX pa_nil he2) he) (by decide) (by decide) he hpl).via fun σ H Q ⟨Γ, ρ, r, er, em, p⟩ => by
    cases em
    exact ⟨.ref a, er.fx _ hfx, cv, u, b, rfl, hu, hk, fin_bl p er⟩
end
end DL

set_option Elab.async false
set_option linter.all false
set_option maxRecDepth 100000
set_option maxHeartbeats 2000000
set_option autoImplicit false
/-! DLj: names for the printed walks: constants, op= by name of the operator, who is under whom. -/
namespace DL
open PySem L2
/-- is a an error of the class b? -/
def isSub (a b : EN) : Bool := decide (a = b) || decide (b = .base)
/-- more rounds than a while takes -/
def bigN : Nat := 1000
section
variable {X : Cx} {c : Conf} {W : WX}
theorem d_glob_int {x : Str} {i : Int} {pos : Pos} (hm : ∃ t, X.mg x = some (.int i t)) (hg : Gl X x := by rfl) (hd : (x == ("__debug__" : Str)) = false := by decide) : PE X (.Name x pos) (tE c W .dur (mC (.int i))) := by
  obtain ⟨t, hm⟩ := hm
  exact d_const (pe_glob hg hm (show RelV (.int i) _ from ⟨t, rfl⟩) hd) fun _ _ => .int .nil
theorem d_glob_str {x : Str} {i : Str} {pos : Pos} (hm : ∃ t, X.mg x = some (.str i t)) (hg : Gl X x := by rfl) (hd : (x == ("__debug__" : Str)) = false := by decide) : PE X (.Name x pos) (tE c W .dur (mC (.str i))) := by
  obtain ⟨t, hm⟩ := hm
  exact d_const (pe_glob hg hm (show RelV (.str i) _ from ⟨t, rfl⟩) hd) fun _ _ => .str .nil
theorem s_augN (i : Nat) {x : Str} {e : Expr} {m : ME} {op : Operator} {g : D → D → R D} {pos pos' : Pos} (hN : X.N.Nodup) (G : Aop X c W op g) (he : PE X e (tE c W .bor m)) (hi : X.N[i]? = some x := by rfl) (hx : Loc X.env.scope x := by first | exact Or.inl rfl | exact Or.inr rfl)
    (hf : X.fn x = true ∨ X.env.scope.names.lookup x = some .local := by first | exact .inl rfl | exact .inr rfl) (k : fxOk c.fx i = true := by rfl) : PS X (.AugAssign (.Name x pos') op e pos) (tS c W (mAug i g m)) := by
  obtain ⟨r, ho, hr⟩ := G.ex
  exact s_aug i hN ho hr he hi hx hf k
theorem s_augS (i : Nat) {x : Str} {e f : Expr} {me mf : ME} {px pos pos' : Pos} {op : Operator} {g : D → D → R D} (hu : X.A.units + 64 < cLine) (G : Aop X c W op g) (he : PE X e (tE c W .bor me)) (hf : PE X f (tE c W .bor mf)) (hN : X.N[i]? = some x := by rfl) (hv : Vis X.env.scope x := by first | exact Or.inl rfl | exact Or.inr (Or.inl rfl) | exact Or.inr (Or.inr rfl)) (hd : (x == ("__debug__" : Str)) = false := by decide)
    (hcd : (x == ("__classdict__" : Str)) = false := by decide) (ha : ∀ ov iv new, augStore e ov iv new = (do holding [new, ov, iv] (setItem ov iv new); release [new, ov, iv] []; pure .next) := by intros; rfl) :
    PS X (.AugAssign (.Subscript (.Name x px) e pos') op f pos) (tS c W (mAugSub i g me mf)) := by
  obtain ⟨r, ho, hr⟩ := G.ex
  exact s_augSub i hu ho hr he hf hN hv hd hcd ha
end
end DL

set_option Elab.async false
set_option linter.all false
set_option maxRecDepth 100000
set_option maxHeartbeats 2000000
set_option autoImplicit false
/-! DLk: the end of a law. -/
namespace DL
open PySem L2
section
variable {K : PySem.W.Frag}
theorem kit_meta : PySem.W.kitMeta "ValueError" = true := by decide +kernel
/-- isinstance of an error, asked for a class of the program -/
theorem kit_ref {C V : Addr} {b : Bool} (hdct : PySem.W.hasDictIn K V = true) (ht : PySem.W.typeIn K (.ref V) = some (.type "type")) (hs : PySem.W.subIn K (.ref V) (.ref V) = some true) (h : PySem.W.subIn K (.ref C) (.ref V) = some b) : PySem.W.kitOne K (.ref C) (.ref V) = some b := by
  obtain ⟨cd, hc, _⟩ := PySem.W.any_some hdct
  have e2 : ((PySem.W.clsIn K V).isSome && PySem.W.typeIn K (.ref V) == some (.type "type")) = true := by rw [hc, ht] <;> rfl
  have e3 : PySem.W.kitCls K (.ref C) (.ref V) = some b := by
    show (if ((PySem.W.clsIn K V).isSome && PySem.W.typeIn K (.ref V) == some (.type "type")) = true then PySem.W.subIn K (.ref C) (.ref V) else none) = some b
    rw [if_pos e2]
    exact h
  unfold PySem.W.kitOne
  split
  · rename_i q
    have e : C = V := Value.ref.inj (beq_iff_eq.mp q)
    subst e
    rw [hs] at h
    exact h
  · exact e3
theorem kit_VE {C : Addr} (h : PySem.W.subIn K (.ref C) (.type "ValueError") = some true) : PySem.W.kitOne K (.ref C) (.type "ValueError") = some true := by
  have e3 : PySem.W.kitCls K (.ref C) (.type "ValueError") = some true := by
    show (if PySem.W.kitMeta "ValueError" = true then PySem.W.subIn K (.ref C) (.type "ValueError") else none) = some true
    rw [if_pos kit_meta]
    exact h
  unfold PySem.W.kitOne
  split
  · rfl
  · exact e3
/-- what the law is asked: a list of at most 63 ints -/
def spLaw (K : PySem.W.Frag) : Sp := fun vs H Q _ => ∃ (a : Addr) (ns : List Int), vs = [.ref a] ∧ SqL K H a (ns.map V.int) ∧ ns.length ≤ 63 ∧ (∀ z ∈ ns, Builtin.Int.intBits z ≤ 1048576) ∧ ∀ H', Q (.bl true) H'
theorem rp_ints {c : Conf} {N : Addr → Prop} {H : Hp} : ∀ ns : List Int, Rp c N H (ns.map V.int) (ns.map D.int)
  | [] => .nil
  | _ :: ns => .int (rp_ints ns)
theorem law_imp {P : Program} {w : World} {mg : Str → Option Value} {base : Heap} {CX : CXT} {k : Nat} {f : Addr} {fd : FuncData} {ps : List Str} {c : Conf} {m : List D → R D} (hK : c.K = K) (F : FnOk P w K mg base CX k f fd ps (SpD c m))
    (h : ∀ ns : List Int, ns.length ≤ 63 → (∀ z ∈ ns, Builtin.Int.intBits z ≤ 1048576) → m [.fz false (ns.map D.int)] = ok (.bl true)) : FnOk P w K mg base CX k f fd ps (spLaw K) :=
  FnOk.imp F fun vs H Q E ⟨a, ns, e, hS, hl, hb, q⟩ => by
    subst e
    refine ⟨fun _ => False, [.fz false (ns.map D.int)], .ok (.bl true), fun _ z => z.elim, ?_, h ns hl hb, fun v H' _ r => by rw [r.of_bl]; exact q H'⟩
    refine .fzL ?_ (rp_ints ns) .nil
    rw [hK]
    exact hS.imp (fun z => ⟨id, z⟩) id
theorem law_walk {l : PySem.W.OpenLaw} {q : Program} {loose : List Str} {XP : (Str → Option Value) → Heap → Prop} {YP : World → Heap → Prop} {d : DefRec} {K : Params → PySem.W.Frag} {k : Nat} {x : Str} (hn : l.most = some 63) (hdf : d.params.defaults = []) (hr : Room k callerA)
    (hY : ∀ (w : World) (h : Heap), YP w h → (K w.params).In h)
    (F : ∀ (w : World) (mg : Str → Option Value) (fa : Addr) (h : Heap), (K w.params).In h → h.Ns mainGlobals mg → mg d.name = some (.ref fa) →
      ∃ fd : FuncData, (∀ (s : Shared) (u : Value), BindsTo s fd ⟨[u], []⟩ [(x, u)]) ∧ ∀ base : Heap, (K w.params).In base → base.Ns mainGlobals mg → FnOk l.prog w (K w.params) mg base (L2.CX l.prog w) k fa fd [x] (spLaw (K w.params))) :
    PySem.W.WalkO q loose XP YP l.row.toRowW d [] (fun f vs => PySem.call f vs) :=
  L2.walk_ofB (n := 63) (k := k) (x := x) (CX := fun w => L2.CX l.prog w) (sp := fun w => spLaw (K w.params)) hn (by decide) hdf hr hY F (fun _ _ a ns hl hb _ hS => ⟨a, ns, rfl, hS, hl, hb, fun _ => rfl⟩) fun _ _ _ _ _ ⟨_, _, _, _, _, _, _, _, _, _, _, _, z⟩ => z
end
end DL

set_option Elab.async false
set_option linter.all false
set_option maxRecDepth 100000
set_option maxHeartbeats 2000000
set_option autoImplicit false
/-! DLp: the mirrors run: rules to step them by simp. -/
namespace DL
open PySem L2
section
variable {α β : Type}
theorem bnd_ok (a : α) (f : α → R β) : bnd (some (.ok a)) f = f a := (rfl)
theorem bnd_er (x : EN) (f : α → R β) : bnd (some (.error x)) f = some (.error x) := (rfl)
theorem sE_ok (a : α) (ρ : Ro) (k : α → Option Out) : sE (some (.ok a)) ρ k = k a := (rfl)
theorem sE_er (x : EN) (ρ : Ro) (k : α → Option Out) : sE (some (.error x)) ρ k = some (.er x ρ) := (rfl)
def seqO (o : Option Out) (t : MS) : Option Out := match o with
  | some (.nx ρ) => t ρ
  | o => o
theorem mSeq_eq (s t : MS) (ρ : Ro) : mSeq s t ρ = seqO (s ρ) t := (rfl)
theorem seqO_nx (ρ : Ro) (t : MS) : seqO (some (.nx ρ)) t = t ρ := (rfl)
theorem seqO_rt (d : D) (t : MS) : seqO (some (.rt d)) t = some (.rt d) := (rfl)
theorem seqO_er (x : EN) (ρ : Ro) (t : MS) : seqO (some (.er x ρ)) t = some (.er x ρ) := (rfl)
theorem seqO_bk (ρ : Ro) (t : MS) : seqO (some (.bk ρ)) t = some (.bk ρ) := (rfl)
theorem seqO_ct (ρ : Ro) (t : MS) : seqO (some (.ct ρ)) t = some (.ct ρ) := (rfl)
def ifO (c : R Bool) (ρ : Ro) (a b : MS) : Option Out := sE c ρ fun k => match k with
  | true => a ρ
  | false => b ρ
theorem mIf_eq (t : MT) (a b : MS) (ρ : Ro) : mIf t a b ρ = ifO (t ρ) ρ a b := (rfl)
theorem ifO_ok (k : Bool) (ρ : Ro) (a b : MS) : ifO (some (.ok k)) ρ a b = if k = true then a ρ else b ρ := by cases k <;> rfl
theorem ifO_er (x : EN) (ρ : Ro) (a b : MS) : ifO (some (.error x)) ρ a b = some (.er x ρ) := (rfl)
theorem mVar_z (d : D) (b : Bool) (ρ : Ro) : mVar 0 (some (d, b) :: ρ) = some (.ok d) := (rfl)
theorem mVar_s (i : Nat) (x : Option (D × Bool)) (ρ : Ro) : mVar (i + 1) (x :: ρ) = mVar i ρ := (rfl)
theorem mVarD_z (d : D) (ρ : Ro) : mVarD 0 (some (d, false) :: ρ) = some (.ok d) := (rfl)
theorem mVarD_s (i : Nat) (x : Option (D × Bool)) (ρ : Ro) : mVarD (i + 1) (x :: ρ) = mVarD i ρ := (rfl)
theorem mC_eq (d : D) (ρ : Ro) : mC d ρ = some (.ok d) := (rfl)
theorem mBin_eq (f : D → D → R D) (m n : ME) (ρ : Ro) : mBin f m n ρ = bnd (m ρ) fun x => bnd (n ρ) fun y => f x y := (rfl)
theorem mUn_eq (f : D → R D) (m : ME) (ρ : Ro) : mUn f m ρ = bnd (m ρ) f := (rfl)
theorem mCB_eq (f : List D → R D) (l : MA) (ρ : Ro) : mCB f l ρ = bnd (l ρ) f := (rfl)
theorem mNil_eq (ρ : Ro) : mNil ρ = some (.ok []) := (rfl)
theorem mCons_eq (m : ME) (l : MA) (ρ : Ro) : mCons m l ρ = bnd (m ρ) fun d => bnd (l ρ) fun ds => some (.ok (d :: ds)) := (rfl)
theorem mSet_eq (i : Nat) (b : Bool) (m : ME) (ρ : Ro) : mSet i b m ρ = sE (m ρ) ρ fun d => some (.nx (ρ.set i (some (d, b)))) := (rfl)
theorem mRet_eq (m : ME) (ρ : Ro) : mRet m ρ = sE (m ρ) ρ fun d => some (.rt d) := (rfl)
theorem mSkip_eq (ρ : Ro) : mSkip ρ = some (.nx ρ) := (rfl)
theorem mBrk_eq (ρ : Ro) : mBrk ρ = some (.bk ρ) := (rfl)
theorem mCnt_eq (ρ : Ro) : mCnt ρ = some (.ct ρ) := (rfl)
theorem mRaise_eq (x : EN) (ρ : Ro) : mRaise x ρ = some (.er x ρ) := (rfl)
theorem mRetN_eq (ρ : Ro) : mRetN ρ = some (.rt .non) := (rfl)
theorem mDrop_eq (m : ME) (ρ : Ro) : mDrop m ρ = sE (m ρ) ρ fun _ => some (.nx ρ) := (rfl)
def tstO (r : R D) : R Bool := bnd r fun d => match d with
  | .bl b => ok b
  | _ => none
theorem mTst_eq (m : ME) (ρ : Ro) : mTst m ρ = tstO (m ρ) := (rfl)
theorem tstO_bl (b : Bool) : tstO (some (.ok (.bl b))) = some (.ok b) := (rfl)
theorem tstO_er (x : EN) : tstO (some (.error x)) = some (.error x) := (rfl)
def andT (r : R Bool) (n : R Bool) : R Bool := bnd r fun b => match b with
  | true => n
  | false => ok false
theorem mAndT_eq (m n : MT) (ρ : Ro) : mAndT m n ρ = andT (m ρ) (n ρ) := (rfl)
theorem andT_ok (a b : Bool) : andT (some (.ok a)) (some (.ok b)) = some (.ok (a && b)) := by cases a <;> rfl
theorem andT_f (n : R Bool) : andT (some (.ok false)) n = some (.ok false) := (rfl)
theorem andT_t (n : R Bool) : andT (some (.ok true)) n = n := (rfl)
theorem andT_er (x : EN) (n : R Bool) : andT (some (.error x)) n = some (.error x) := (rfl)
def orT (r : R Bool) (n : R Bool) : R Bool := bnd r fun b => match b with
  | true => ok true
  | false => n
theorem mOrT_eq (m n : MT) (ρ : Ro) : mOrT m n ρ = orT (m ρ) (n ρ) := (rfl)
theorem orT_ok (a b : Bool) : orT (some (.ok a)) (some (.ok b)) = some (.ok (a || b)) := by cases a <;> rfl
theorem orT_f (n : R Bool) : orT (some (.ok false)) n = n := (rfl)
theorem orT_t (n : R Bool) : orT (some (.ok true)) n = some (.ok true) := (rfl)
theorem orT_er (x : EN) (n : R Bool) : orT (some (.error x)) n = some (.error x) := (rfl)
theorem mNotT_eq (m : MT) (ρ : Ro) : mNotT m ρ = bnd (m ρ) fun b => some (.ok (!b)) := (rfl)
def andD (r : R D) (n : R D) : R D := bnd r fun d => match d with
  | .bl true => n
  | .bl false => ok (.bl false)
  | _ => none
theorem mAnd_eq (m n : ME) (ρ : Ro) : mAnd m n ρ = andD (m ρ) (n ρ) := (rfl)
theorem andD_ok (a b : Bool) : andD (some (.ok (.bl a))) (some (.ok (.bl b))) = some (.ok (.bl (a && b))) := by cases a <;> rfl
theorem andD_f (n : R D) : andD (some (.ok (.bl false))) n = some (.ok (.bl false)) := (rfl)
theorem andD_t (n : R D) : andD (some (.ok (.bl true))) n = n := (rfl)
theorem andD_er (x : EN) (n : R D) : andD (some (.error x)) n = some (.error x) := (rfl)
def orD (r : R D) (n : R D) : R D := bnd r fun d => match d with
  | .bl true => ok (.bl true)
  | .bl false => n
  | _ => none
theorem mOr_eq (m n : ME) (ρ : Ro) : mOr m n ρ = orD (m ρ) (n ρ) := (rfl)
theorem orD_ok (a b : Bool) : orD (some (.ok (.bl a))) (some (.ok (.bl b))) = some (.ok (.bl (a || b))) := by cases a <;> rfl
theorem orD_f (n : R D) : orD (some (.ok (.bl false))) n = n := (rfl)
theorem orD_t (n : R D) : orD (some (.ok (.bl true))) n = some (.ok (.bl true)) := (rfl)
theorem orD_er (x : EN) (n : R D) : orD (some (.error x)) n = some (.error x) := (rfl)
theorem dNot_bl (b : Bool) : dNot (.bl b) = some (.ok (.bl (!b))) := (rfl)
theorem dAdd_i (a b : Int) : dAdd (.int a) (.int b) = some (.ok (.int (a + b))) := (rfl)
theorem dSub_i (a b : Int) : dSub (.int a) (.int b) = some (.ok (.int (a - b))) := (rfl)
theorem dNeg_i (a : Int) : dNeg (.int a) = some (.ok (.int (-a))) := (rfl)
theorem dCmp_i (f : Int → Int → Bool) (a b : Int) : dCmp f (.int a) (.int b) = some (.ok (.bl (f a b))) := (rfl)
theorem dInt_i (a : Int) : dInt [.int a] = some (.ok (.int a)) := (rfl)
theorem dInt_b (a : Bool) : dInt [.bl a] = some (.ok (.int (if a = true then 1 else 0))) := (rfl)
theorem dAbs_i (a : Int) : dAbs [.int a] = some (.ok (.int (if a < 0 then -a else a))) := (rfl)
theorem dMax_i (a b : Int) : dMax [.int a, .int b] = some (.ok (.int (if b > a then b else a))) := (rfl)
theorem dMin_i (a b : Int) : dMin [.int a, .int b] = some (.ok (.int (if b < a then b else a))) := (rfl)
theorem dLen_l (l : List D) : dLen [.lst l] = some (.ok (.int l.length)) := (rfl)
theorem dLen_t (l : List D) : dLen [.tup l] = some (.ok (.int l.length)) := (rfl)
theorem dLen_f (t : Bool) (l : List D) : dLen [.fz t l] = some (.ok (.int l.length)) := (rfl)
theorem dList_l (l : List D) : dList [.lst l] = some (.ok (.lst l)) := (rfl)
theorem dList_t (l : List D) : dList [.tup l] = some (.ok (.lst l)) := (rfl)
theorem dTuple_l (l : List D) : dTuple [.lst l] = some (.ok (.tup l)) := (rfl)
theorem dTuple_t (l : List D) : dTuple [.tup l] = some (.ok (.tup l)) := (rfl)
theorem dRev_l (l : List D) : dRev (.lst l) = some (.ok (.lst l.reverse)) := (rfl)
theorem dRev_t (l : List D) : dRev (.tup l) = some (.ok (.tup l.reverse)) := (rfl)
theorem dIx_l (l : List D) (i : Int) : dIx (.lst l) (.int i) = (L2.atI l i).map .ok := (rfl)
theorem dIx_t (l : List D) (i : Int) : dIx (.tup l) (.int i) = (L2.atI l i).map .ok := (rfl)
theorem dIx_f (t : Bool) (l : List D) (i : Int) : dIx (.fz t l) (.int i) = (L2.atI l i).map .ok := (rfl)
theorem dIsN_n (d : D) : dIsN d .non = some (.ok (.bl (isNon d))) := (rfl)
theorem dNotN_n (d : D) : dNotN d .non = some (.ok (.bl (!isNon d))) := (rfl)
theorem guard_t {p : Prop} [Decidable p] (h : p) (x : R α) : DL.guard p x = x := if_pos h
theorem dMod_i (a b : Int) (h : 0 < b) : dMod (.int a) (.int b) = some (.ok (.int (a % b))) := guard_t h _
theorem dDiv_i (a b : Int) (h : 0 < b) (h2 : b < 9223372036854775808) : dDiv (.int a) (.int b) = some (.ok (.int (a / b))) := guard_t ⟨h, Nat.lt_of_lt_of_le (show b.natAbs < 2 ^ 63 by omega) (Nat.pow_le_pow_right (by decide) (by decide))⟩ _
theorem dMul_i (a b : Int) (h : mulOk a b = true) : dMul (.int a) (.int b) = some (.ok (.int (a * b))) := guard_t h _
theorem mulOk_r (a b : Int) (h : b.natAbs < 2 ^ 63) : mulOk a b = true := by unfold mulOk; rw [decide_eq_true h]; simp
theorem mulOk_l (a b : Int) (h : a.natAbs < 2 ^ 63) : mulOk a b = true := by unfold mulOk; rw [decide_eq_true h]; simp
theorem dAdd_t (a b : List D) (h : a.length + b.length ≤ 1000000) : dAdd (.tup a) (.tup b) = some (.ok (.tup (a ++ b))) := guard_t h _
theorem dAdd_l (a b : List D) (h : a.length + b.length ≤ 1000000) : dAdd (.lst a) (.lst b) = some (.ok (.lst (a ++ b))) := guard_t h _
theorem dCat_l (a b : List D) (h : a.length + b.length ≤ 1000000) : dCat (.lst a) (.lst b) = some (.ok (.lst (a ++ b))) := guard_t h _
theorem mTup_eq (l : MA) (ρ : Ro) : mTup l ρ = bnd (l ρ) fun ds => DL.guard (ds.length ≤ lim) (some (.ok (.tup ds))) := (rfl)
theorem mLst_eq (l : MA) (ρ : Ro) : mLst l ρ = bnd (l ρ) fun ds => DL.guard (ds.length ≤ lim) (some (.ok (.lst ds))) := (rfl)
theorem guard_lim {n : Nat} (x : R α) (h : n ≤ 1000) : DL.guard (n ≤ lim) x = x := guard_t (Nat.le_trans h (by decide)) x
theorem guard_0 (x : R α) : DL.guard (0 ≤ lim) x = x := guard_t (by decide) x
theorem mSl_eq (m : ME) (l h : MO) (ρ : Ro) : mSl m l h ρ = bnd (m ρ) fun d => bnd (l ρ) fun lo => bnd (h ρ) fun hi => dSl lo hi d := (rfl)
theorem mNone_eq (ρ : Ro) : mNone ρ = some (.ok none) := (rfl)
def someO (r : R D) : R (Option Int) := bnd r fun d => match d with
  | .int i => ok (some i)
  | _ => none
theorem mSome_eq (m : ME) (ρ : Ro) : mSome m ρ = someO (m ρ) := (rfl)
theorem someO_i (i : Int) : someO (some (.ok (.int i))) = some (.ok (some i)) := (rfl)
theorem dSl_t (lo hi : Option Int) (l : List D) : dSl lo hi (.tup l) = some (.ok (.tup (cut l lo hi))) := (rfl)
theorem dSl_l (lo hi : Option Int) (l : List D) : dSl lo hi (.lst l) = some (.ok (.lst (cut l lo hi))) := (rfl)
theorem mFor_eq (src : MI) (g : MG) (body : MS) (ρ : Ro) : mFor src g body ρ = sE (src ρ) ρ fun ds => forGo g body ds ρ := (rfl)
def itemsO (r : R D) : R (List D) := bnd r fun d => (seqD d).map .ok
theorem mItems_eq (m : ME) (ρ : Ro) : mItems m ρ = itemsO (m ρ) := (rfl)
theorem itemsO_l (l : List D) : itemsO (some (.ok (.lst l))) = some (.ok l) := (rfl)
theorem itemsO_t (l : List D) : itemsO (some (.ok (.tup l))) = some (.ok l) := (rfl)
theorem itemsO_f (t : Bool) (l : List D) : itemsO (some (.ok (.fz t l))) = some (.ok l) := (rfl)
def rgI1 (r : R D) : R (List D) := bnd r fun d => match d with
  | .int n => DL.guard (rgOk 0 n) (ok (rgD 0 n))
  | _ => none
theorem mRgI1_eq (m : ME) (ρ : Ro) : mRgI1 m ρ = rgI1 (m ρ) := (rfl)
theorem rgI1_i (n : Int) (h : 0 ≤ n ∧ n ≤ 1000) : rgI1 (some (.ok (.int n))) = some (.ok (rgD 0 n)) := guard_t (show rgOk 0 n from ⟨by decide, by decide, by omega, by omega⟩) _
def rgI2 (r s : R D) : R (List D) := bnd r fun d => bnd s fun e => match d, e with
  | .int a, .int b => DL.guard (rgOk a b) (ok (rgD a b))
  | _, _ => none
theorem mRgI2_eq (m n : ME) (ρ : Ro) : mRgI2 m n ρ = rgI2 (m ρ) (n ρ) := (rfl)
theorem rgI2_i (a b : Int) (h : (-1000 ≤ a ∧ a ≤ 1000) ∧ -1000 ≤ b ∧ b ≤ 1000) : rgI2 (some (.ok (.int a))) (some (.ok (.int b))) = some (.ok (rgD a b)) := guard_t (show rgOk a b from ⟨by omega, by omega, by omega, by omega⟩) _
theorem mDef_eq (n k : Nat) (body : MS) (ds : List D) (h : ds.length = k) : mDef n k body ds = match body (ds.map (fun d => some (d, false)) ++ List.replicate (n - k) none) with
    | some (.nx _) => ok .non
    | some (.rt d) => ok d
    | some (.er x _) => some (.error x)
    | _ => none := if_pos h
/-- what comes out of a body -/
def outR (o : Option Out) : R D := match o with
    | some (.nx _) => ok .non
    | some (.rt d) => ok d
    | some (.er x _) => some (.error x)
    | _ => none
theorem outR_nx (ρ : Ro) : outR (some (.nx ρ)) = some (.ok .non) := (rfl)
theorem outR_rt (d : D) : outR (some (.rt d)) = some (.ok d) := (rfl)
theorem outR_er (x : EN) (ρ : Ro) : outR (some (.er x ρ)) = some (.error x) := (rfl)
theorem run1 (n : Nat) (body : MS) (a : D) : mDef n 1 body [a] = outR (body (some (a, false) :: List.replicate (n - 1) none)) := (rfl)
theorem run2 (n : Nat) (body : MS) (a b : D) : mDef n 2 body [a, b] = outR (body (some (a, false) :: some (b, false) :: List.replicate (n - 2) none)) := (rfl)
theorem run3 (n : Nat) (body : MS) (a b c : D) : mDef n 3 body [a, b, c] = outR (body (some (a, false) :: some (b, false) :: some (c, false) :: List.replicate (n - 3) none)) := (rfl)
theorem run4 (n : Nat) (body : MS) (a b c d : D) : mDef n 4 body [a, b, c, d] = outR (body (some (a, false) :: some (b, false) :: some (c, false) :: some (d, false) :: List.replicate (n - 4) none)) := (rfl)
theorem forGo_nil (g : MG) (body : MS) (ρ : Ro) : forGo g body [] ρ = some (.nx ρ) := (rfl)
/-- what a turn's way out makes of the loop -/
def forO (o : Option Out) (k : Ro → Option Out) : Option Out := match o with
    | some (.nx ρ2) => k ρ2
    | some (.ct ρ2) => k ρ2
    | some (.bk ρ2) => some (.nx ρ2)
    | o => o
theorem forGo_cons (g : MG) (body : MS) (d : D) (ds : List D) (ρ : Ro) : forGo g body (d :: ds) ρ = (g d ρ).bind fun ρ1 => forO (body ρ1) (forGo g body ds) := by
  unfold forGo
  congr 1
theorem forO_nx (ρ : Ro) (k : Ro → Option Out) : forO (some (.nx ρ)) k = k ρ := (rfl)
theorem forO_ct (ρ : Ro) (k : Ro → Option Out) : forO (some (.ct ρ)) k = k ρ := (rfl)
theorem forO_bk (ρ : Ro) (k : Ro → Option Out) : forO (some (.bk ρ)) k = some (.nx ρ) := (rfl)
theorem forO_rt (d : D) (k : Ro → Option Out) : forO (some (.rt d)) k = some (.rt d) := (rfl)
theorem forO_er (x : EN) (ρ : Ro) (k : Ro → Option Out) : forO (some (.er x ρ)) k = some (.er x ρ) := (rfl)
theorem gD_eq (i : Nat) (d : D) (ρ : Ro) : gD i d ρ = some (ρ.set i (some (d, false))) := (rfl)
def mutO (o : Option (Option (D × Bool))) (i : Nat) (ρ : Ro) (f : List D → List D → Option (List D)) (l : R (List D)) : Option Out := match o with
  | some (some (.lst ds, true)) => sE l ρ fun es => (f ds es).map fun ds' => .nx (ρ.set i (some (.lst ds', true)))
  | _ => none
theorem mMut_eq (i : Nat) (f : List D → List D → Option (List D)) (l : MA) (ρ : Ro) : mMut i f l ρ = mutO ρ[i]? i ρ f (l ρ) := (rfl)
theorem mutO_l (ds es : List D) (i : Nat) (ρ : Ro) (f : List D → List D → Option (List D)) : mutO (some (some (.lst ds, true))) i ρ f (some (.ok es)) = (f ds es).map fun ds' => .nx (ρ.set i (some (.lst ds', true))) := (rfl)
theorem fApp_1 (ds : List D) (d : D) (h : ds.length < 1000000) : fApp ds [d] = some (ds ++ [d]) := if_pos h
theorem subO_eq (i : Nat) (me mf : ME) (ρ : Ro) : mSub i me mf ρ = (ownD ρ i).bind fun dd => sE (mf ρ) ρ fun d => sE (me ρ) ρ fun k => (dSet dd k d).map fun dd' => .nx (ρ.set i (some (dd', true))) := (rfl)
theorem ownD_z (d : D) (ρ : Ro) : ownD (some (d, true) :: ρ) 0 = some d := (rfl)
theorem ownD_s (i : Nat) (x : Option (D × Bool)) (ρ : Ro) : ownD (x :: ρ) (i + 1) = ownD ρ i := (rfl)
theorem dSet_l (ds : List D) (j : Int) (d : D) : dSet (.lst ds) (.int j) d = (ixN ds.length j).map fun n => .lst (ds.set n d) := (rfl)
end
end DL

set_option Elab.async false
set_option linter.all false
set_option maxRecDepth 100000
set_option maxHeartbeats 2000000
set_option autoImplicit false
/-! DLq: == of plain data. -/
namespace DL
open PySem L2
theorem gk0 {α : Type} (x : R α) : DL.guard (0 ≤ lim) x = x := guard_lim x (by decide)
theorem gk1 {α : Type} (x : R α) : DL.guard (1 ≤ lim) x = x := guard_lim x (by decide)
theorem gk2 {α : Type} (x : R α) : DL.guard (2 ≤ lim) x = x := guard_lim x (by decide)
theorem gk3 {α : Type} (x : R α) : DL.guard (3 ≤ lim) x = x := guard_lim x (by decide)
theorem gk4 {α : Type} (x : R α) : DL.guard (4 ≤ lim) x = x := guard_lim x (by decide)
theorem gk5 {α : Type} (x : R α) : DL.guard (5 ≤ lim) x = x := guard_lim x (by decide)
theorem gk6 {α : Type} (x : R α) : DL.guard (6 ≤ lim) x = x := guard_lim x (by decide)
theorem gk7 {α : Type} (x : R α) : DL.guard (7 ≤ lim) x = x := guard_lim x (by decide)
theorem gk8 {α : Type} (x : R α) : DL.guard (8 ≤ lim) x = x := guard_lim x (by decide)
theorem gk9 {α : Type} (x : R α) : DL.guard (9 ≤ lim) x = x := guard_lim x (by decide)
theorem gk10 {α : Type} (x : R α) : DL.guard (10 ≤ lim) x = x := guard_lim x (by decide)
theorem gk11 {α : Type} (x : R α) : DL.guard (11 ≤ lim) x = x := guard_lim x (by decide)
theorem gk12 {α : Type} (x : R α) : DL.guard (12 ≤ lim) x = x := guard_lim x (by decide)
theorem eqv_ii (a b : Int) : PyData.eqv (.int a) (.int b) = decide (a = b) := by
  simp only [PyData.eqv]
  rw [Bool.eq_iff_iff, beq_iff_eq, decide_eq_true_iff]
theorem eqv_ss (a b : Str) : PyData.eqv (.str a) (.str b) = decide (a = b) := by
  simp only [PyData.eqv]
  rw [Bool.eq_iff_iff, beq_iff_eq, decide_eq_true_iff]
theorem eqvAll_ii : ∀ l l' : List Int, PyData.eqvAll (l.map .int) (l'.map .int) = decide (l = l')
  | [], [] => by simp [PyData.eqvAll]
  | [], _ :: _ => by simp [PyData.eqvAll]
  | _ :: _, [] => by simp [PyData.eqvAll]
  | a :: l, b :: l' => by
    simp only [List.map_cons, PyData.eqvAll, eqv_ii, eqvAll_ii l l', List.cons.injEq]
    rw [Bool.decide_and]
theorem toP_i (n : Nat) (a : Int) : toP n (.int a) = some (.int a) := by cases n <;> rfl
theorem toPs_i (n : Nat) : ∀ l : List Int, (l.map D.int).mapM (toP n) = some (l.map PyData.int)
  | [] => rfl
  | a :: l => by
    rw [List.map_cons, List.mapM_cons, toP_i, toPs_i n l]
    rfl
theorem toP_t (n : Nat) (l : List Int) : toP (n + 1) (.tup (l.map D.int)) = some (.tuple (l.map .int)) := by
  show ((l.map D.int).mapM (toP n)).map PyData.tuple = _
  rw [toPs_i]
  rfl
theorem toP_l (n : Nat) (l : List Int) : toP (n + 1) (.lst (l.map D.int)) = some (.list (l.map .int)) := by
  show ((l.map D.int).mapM (toP n)).map PyData.list = _
  rw [toPs_i]
  rfl
theorem dEqv_i (a b : Int) : dEqv (.int a) (.int b) = some (decide (a = b)) := by
  unfold dEqv
  rw [toP_i, toP_i]
  show some (PyData.eqv _ _) = _
  rw [eqv_ii]
theorem dEqv_s (a b : Str) : dEqv (.str a) (.str b) = some (decide (a = b)) := by
  show some (PyData.eqv _ _) = _
  rw [eqv_ss]
theorem dEqv_t (l l' : List Int) : dEqv (.tup (l.map D.int)) (.tup (l'.map D.int)) = some (decide (l = l')) := by
  unfold dEqv
  rw [toP_t, toP_t]
  show some (PyData.eqv _ _) = _
  rw [PyData.eqv, eqvAll_ii]
theorem dEqv_l (l l' : List Int) : dEqv (.lst (l.map D.int)) (.lst (l'.map D.int)) = some (decide (l = l')) := by
  unfold dEqv
  rw [toP_l, toP_l]
  show some (PyData.eqv _ _) = _
  rw [PyData.eqv, eqvAll_ii]
theorem dEqv_tn (l : List Int) : dEqv (.tup (l.map D.int)) .non = some false := by
  unfold dEqv
  rw [toP_t]
  show some (PyData.eqv _ .none) = _
  simp [PyData.eqv]
theorem dEqv_nt (l : List Int) : dEqv .non (.tup (l.map D.int)) = some false := by
  unfold dEqv
  rw [toP_t]
  show some (PyData.eqv .none _) = _
  simp [PyData.eqv]
theorem dEqv_nn : dEqv .non .non = some true := by
  show some (PyData.eqv .none .none) = _
  simp [PyData.eqv]
theorem dEqv_bb (a b : Bool) : dEqv (.bl a) (.bl b) = some (decide (a = b)) := by
  show some (PyData.eqv (.bool a) (.bool b)) = _
  cases a <;> cases b <;> simp [PyData.eqv]
theorem dEq_of {d e : D} {b : Bool} (h : dEqv d e = some b) : dEq d e = some (.ok (.bl b)) := by unfold dEq; rw [h]
theorem dNe_of {d e : D} {b : Bool} (h : dEqv d e = some b) : dNe d e = some (.ok (.bl (!b))) := by unfold dNe; rw [h]
theorem dEq_i (a b : Int) : dEq (.int a) (.int b) = some (.ok (.bl (decide (a = b)))) := dEq_of (dEqv_i a b)
theorem dNe_i (a b : Int) : dNe (.int a) (.int b) = some (.ok (.bl (!decide (a = b)))) := dNe_of (dEqv_i a b)
theorem dEq_s (a b : Str) : dEq (.str a) (.str b) = some (.ok (.bl (decide (a = b)))) := dEq_of (dEqv_s a b)
theorem dNe_s (a b : Str) : dNe (.str a) (.str b) = some (.ok (.bl (!decide (a = b)))) := dNe_of (dEqv_s a b)
theorem dEq_t (l l' : List Int) : dEq (.tup (l.map D.int)) (.tup (l'.map D.int)) = some (.ok (.bl (decide (l = l')))) := dEq_of (dEqv_t l l')
theorem dNe_t (l l' : List Int) : dNe (.tup (l.map D.int)) (.tup (l'.map D.int)) = some (.ok (.bl (!decide (l = l')))) := dNe_of (dEqv_t l l')
theorem dEq_l (l l' : List Int) : dEq (.lst (l.map D.int)) (.lst (l'.map D.int)) = some (.ok (.bl (decide (l = l')))) := dEq_of (dEqv_l l l')
theorem dNe_l (l l' : List Int) : dNe (.lst (l.map D.int)) (.lst (l'.map D.int)) = some (.ok (.bl (!decide (l = l')))) := dNe_of (dEqv_l l l')
theorem dNe_nn : dNe .non .non = some (.ok (.bl false)) := dNe_of dEqv_nn
theorem dNe_tn (l : List Int) : dNe (.tup (l.map D.int)) .non = some (.ok (.bl true)) := dNe_of (dEqv_tn l)
theorem dEq_bb (a b : Bool) : dEq (.bl a) (.bl b) = some (.ok (.bl (decide (a = b)))) := dEq_of (dEqv_bb a b)
theorem dNe_bb (a b : Bool) : dNe (.bl a) (.bl b) = some (.ok (.bl (!decide (a = b)))) := dNe_of (dEqv_bb a b)
end DL

set_option Elab.async false
set_option linter.all false
set_option maxRecDepth 100000
set_option maxHeartbeats 2000000
set_option autoImplicit false
/-! DLr: plain lemmas over the data, for the laws' proofs. -/
namespace DL
open PySem L2
theorem atI_nat {α : Type} (l : List α) (k : Nat) (h : k < l.length) : L2.atI l (k : Int) = some l[k] := by
  unfold L2.atI ixN
  have h1 : ¬ ((k : Int) < 0) := by omega
  simp [h]
theorem lc_map {g : MG} {me : ME} {ρ : Ro} (f : D → D) : ∀ {ds : List D}, (∀ d ∈ ds, ∃ ρ1, g d ρ = some ρ1 ∧ me ρ1 = some (.ok (f d))) → lcGo g mYes me ρ ds = some (ds.map f)
  | [], _ => rfl
  | d :: ds, h => by
    obtain ⟨ρ1, h1, h2⟩ := h d List.mem_cons_self
    have e := lc_map (g := g) (me := me) (ρ := ρ) f (ds := ds) fun d hd => h d (List.mem_cons_of_mem _ hd)
    unfold lcGo
    rw [h1, Option.bind_some]
    show (match me ρ1 with | some (.ok y) => (lcGo g mYes me ρ ds).map (y :: ·) | _ => none) = _
    rw [h2, e]
    rfl
theorem mLc_eq (src : MI) (vs : List Nat) (g : MG) (tt : MT) (me : ME) (ρ : Ro) : mLc src vs g tt me ρ = bnd (src ρ) fun ds => DL.guard (noOwn ρ vs = true ∧ ds.length ≤ lim) ((lcGo g tt me (wipeR ρ vs) ds).map fun ys => .ok (.lst ys)) := (rfl)
theorem rgD_nat (n : Nat) : rgD 0 (n : Int) = (List.range n).map fun i : Nat => D.int (i : Int) := by
  unfold rgD
  rw [show ((n : Int) - 0).toNat = n by omega]
  exact List.map_congr_left fun i _ => by rw [Int.zero_add]
def upto (n : Nat) : List Int := (List.range n).map fun i : Nat => (i : Int) + 1
theorem popD_nat (l : List D) (k : Nat) (h : k < l.length) (h2 : l.length ≤ 1000) : popD l (k : Int) = some (l[k], l.eraseIdx k) := by
  unfold popD
  rw [if_pos (show -1000000 ≤ (k : Int) ∧ (k : Int) ≤ 1000000 by omega)]
  have e : seqIndex? (k : Int) l.length = some k := by
    unfold seqIndex?
    simp
    omega
  rw [e, Option.bind_some, List.getElem?_eq_getElem h]
  rfl
theorem map_erase {α β : Type} (f : α → β) : ∀ (l : List α) (k : Nat), (l.eraseIdx k).map f = (l.map f).eraseIdx k
  | [], _ => rfl
  | _ :: _, 0 => rfl
  | a :: l, k + 1 => congrArg (f a :: ·) (map_erase f l k)
theorem erase_perm {α : Type} : ∀ {l : List α} {k : Nat} (h : k < l.length), (l[k] :: l.eraseIdx k).Perm l
  | _ :: _, 0, _ => .refl _
  | a :: l, k + 1, h => by
    have e := erase_perm (l := l) (k := k) (by simpa using h)
    exact (List.Perm.swap _ _ _).trans (e.cons a)
theorem dSorted_i (l : List Int) : dSorted [.lst (l.map D.int)] = some (.ok (.lst ((isort l).map D.int))) := by
  show (some (l.map D.int)).bind (fun ds => (ints? ds).map fun ns => (.ok (.lst ((isort ns).map D.int)) : Except EN D)) = _
  rw [Option.bind_some, ints?_map]
  rfl
theorem rgD_1 (n : Nat) : rgD 1 ((n : Int) + 1) = (upto n).map D.int := by
  unfold rgD upto
  rw [show ((n : Int) + 1 - 1).toNat = n by omega, List.map_map]
  exact List.map_congr_left fun i _ => congrArg D.int (Int.add_comm _ _)
theorem mRg2_ok (f : List D → D) (m n : ME) (ρ : Ro) (a b : Int) (h : (-1000 ≤ a ∧ a ≤ 1000) ∧ -1000 ≤ b ∧ b ≤ 1000) (h1 : m ρ = some (.ok (.int a))) (h2 : n ρ = some (.ok (.int b))) : mRg2 f m n ρ = some (.ok (f (rgD a b))) := by
  unfold mRg2
  rw [h1, bnd_ok, h2, bnd_ok]
  exact guard_t (show rgOk a b from ⟨by omega, by omega, by omega, by omega⟩) _
theorem lim900 {n : Nat} (h : n ≤ 900) : n ≤ lim := Nat.le_trans h (by decide)
theorem lc_is {src : MI} {vs : List Nat} {g : MG} {me : ME} {ρ : Ro} (f : D → D) {ds : List D} (h1 : src ρ = some (.ok ds)) (h2 : noOwn ρ vs = true) (h3 : ds.length ≤ 900) (h : ∀ d ∈ ds, ∃ ρ1, g d (wipeR ρ vs) = some ρ1 ∧ me ρ1 = some (.ok (f d))) :
    mLc src vs g mYes me ρ = some (.ok (.lst (ds.map f))) := by
  rw [mLc_eq, h1, bnd_ok, guard_t ⟨h2, lim900 h3⟩, lc_map f h]
  rfl
theorem cut_nn {α : Type} (l : List α) (i j : Nat) (hi : i ≤ l.length) (hj : j ≤ l.length) : cut l (some (i : Int)) (some (j : Int)) = (l.drop i).take (j - i) := by
  unfold cut HT.sIx
  simp only [if_neg (show ¬ ((i : Int) < 0) by omega), if_neg (show ¬ ((j : Int) < 0) by omega), Int.toNat_natCast, Nat.min_eq_left hi, Nat.min_eq_left hj]
theorem cut_0n {α : Type} (l : List α) (j : Nat) (hj : j ≤ l.length) : cut l none (some (j : Int)) = l.take j := by
  unfold cut HT.sIx
  simp only [if_neg (show ¬ ((j : Int) < 0) by omega), Int.toNat_natCast, Nat.min_eq_left hj, List.drop_zero, Nat.sub_zero]
theorem cut_n0 {α : Type} (l : List α) (i : Nat) (hi : i ≤ l.length) : cut l (some (i : Int)) none = l.drop i := by
  unfold cut HT.sIx
  simp only [if_neg (show ¬ ((i : Int) < 0) by omega), Int.toNat_natCast, Nat.min_eq_left hi]
  rw [List.take_of_length_le (by simp)]
theorem dAdd_m (a b : List Int) (h : a.length + b.length ≤ 2000) : dAdd (.tup (a.map D.int)) (.tup (b.map D.int)) = some (.ok (.tup ((a ++ b).map D.int))) := by
  rw [dAdd_t _ _ (by simp; omega), List.map_append]
theorem ixN_nat (n k : Nat) (h : k < n) : ixN n (k : Int) = some k := by
  unfold ixN
  simp [h]
theorem upto_sorted (n : Nat) : (upto n).Pairwise (· ≤ ·) := by
  unfold upto
  rw [List.pairwise_map]
  refine List.Pairwise.imp (R := (· < ·)) (fun h => by omega) List.pairwise_lt_range
theorem mCh_nil (d : D) (ρ : Ro) : mCh d [] ρ = some (.ok (.bl true)) := (rfl)
def chO (r : R D) (k : R D) : R D := bnd r fun b => match b with
    | .bl true => k
    | .bl false => ok (.bl false)
    | _ => none
theorem mCh_cons (d : D) (f : D → D → R D) (m : ME) (l : List ((D → D → R D) × ME)) (ρ : Ro) : mCh d ((f, m) :: l) ρ = bnd (m ρ) fun e => chO (f d e) (mCh e l ρ) := (rfl)
theorem chO_t (k : R D) : chO (some (.ok (.bl true))) k = k := (rfl)
theorem chO_f (k : R D) : chO (some (.ok (.bl false))) k = some (.ok (.bl false)) := (rfl)
theorem mChain_eq (m : ME) (l : List ((D → D → R D) × ME)) (ρ : Ro) : mChain m l ρ = bnd (m ρ) fun d => mCh d l ρ := (rfl)
theorem at3_0 (a b c : D) : L2.atI [a, b, c] 0 = some a := (rfl)
theorem at3_1 (a b c : D) : L2.atI [a, b, c] 1 = some b := (rfl)
theorem at3_2 (a b c : D) : L2.atI [a, b, c] 2 = some c := (rfl)
theorem gl (n : Nat) {α : Type} (x : R α) (h : n ≤ 1000) : DL.guard (n ≤ lim) x = x := guard_lim x h
theorem at4_0 (a b c d : D) : L2.atI [a, b, c, d] 0 = some a := (rfl)
theorem at4_1 (a b c d : D) : L2.atI [a, b, c, d] 1 = some b := (rfl)
theorem at4_2 (a b c d : D) : L2.atI [a, b, c, d] 2 = some c := (rfl)
theorem at4_3 (a b c d : D) : L2.atI [a, b, c, d] 3 = some d := (rfl)
theorem at5_0 (a b c d e : D) : L2.atI [a, b, c, d, e] 0 = some a := (rfl)
theorem at5_1 (a b c d e : D) : L2.atI [a, b, c, d, e] 1 = some b := (rfl)
theorem at5_2 (a b c d e : D) : L2.atI [a, b, c, d, e] 2 = some c := (rfl)
theorem at5_3 (a b c d e : D) : L2.atI [a, b, c, d, e] 3 = some d := (rfl)
theorem at5_4 (a b c d e : D) : L2.atI [a, b, c, d, e] 4 = some e := (rfl)
theorem at1_0 (a : D) : L2.atI [a] 0 = some a := (rfl)
theorem at2_0 (a b : D) : L2.atI [a, b] 0 = some a := (rfl)
theorem at2_1 (a b : D) : L2.atI [a, b] 1 = some b := (rfl)
theorem at6_0 (a b c d e f : D) : L2.atI [a, b, c, d, e, f] 0 = some a := (rfl)
theorem at6_1 (a b c d e f : D) : L2.atI [a, b, c, d, e, f] 1 = some b := (rfl)
theorem at6_2 (a b c d e f : D) : L2.atI [a, b, c, d, e, f] 2 = some c := (rfl)
theorem at6_3 (a b c d e f : D) : L2.atI [a, b, c, d, e, f] 3 = some d := (rfl)
theorem at6_4 (a b c d e f : D) : L2.atI [a, b, c, d, e, f] 4 = some e := (rfl)
theorem at6_5 (a b c d e f : D) : L2.atI [a, b, c, d, e, f] 5 = some f := (rfl)
end DL

set_option Elab.async false
set_option linter.all false
set_option maxRecDepth 100000
set_option maxHeartbeats 2000000
set_option autoImplicit false
/-! DLm: isinstance of data, dict comprehensions with keys, ranges that go down. -/
namespace DL
open PySem L2

/-! ### isinstance(x, T) -/
def tyD : D → Option String
  | .non => some "NoneType"
  | .bl _ => some "bool"
  | .int _ => some "int"
  | .str _ => some "str"
  | .tup _ => some "tuple"
  | .lst _ => some "list"
  | .dK _ => some "dict"
  | .fz true _ => some "tuple"
  | _ => none
def dIsi (T : String) (d : D) : R D := (tyD d).bind fun t => (kitB t T).map fun b => .ok (.bl b)
section
variable {X : Cx} {c : Conf} {W : WX} {N : Addr → Prop} {H : Hp}
theorem ty_rd {K : PySem.W.Frag} {a : Addr} {kvs : List (Key × V)} (h : Rd H a (.dK kvs)) : TyX K H (.ref a) (.type "dict") := by
  rcases h with h | ⟨o, h⟩
  · exact .base (.dK h)
  · exact .fDict h
theorem ty_wr {K : PySem.W.Frag} {a : Addr} {us : List V} (h : WrT K a us) : TyX K H (.ref a) (.type "tuple") := by
  obtain ⟨o, its, n, h1, h2, _⟩ := h
  exact .kTuple h1 h2
theorem bor_ty {v : V} {d : D} {t : String} (r : Bor c N H v d) (h : tyD d = some t) : TyX c.K H v (.type t) := by
  cases d with
  | non => cases h; rw [r.non]; exact .base .non
  | bl b => cases h; rw [r.bl]; exact .base (.bl b)
  | int i => cases h; rw [r.int]; exact .base (.int i)
  | str s => cases h; rw [r.str]; exact .base (.str s)
  | tup ds =>
    cases h
    obtain ⟨a, us, rfl, _, e, _⟩ := r.tup
    exact .base (.tup e)
  | lst ds =>
    cases h
    obtain ⟨a, us, rfl, e, _⟩ := r
    exact .base (.lst e)
  | dK kds =>
    cases h
    obtain ⟨a, kvs, rfl, e, _⟩ := r
    exact ty_rd e
  | fz b ds =>
    cases b with
    | false => cases h
    | true =>
      cases h
      have r : Re c N H v (.fz true ds) := r
      cases r with
      | fzT q _ _ =>
        rcases q with ⟨_, o, _, e⟩ | e
        · exact .fTuple e
        · exact ty_wr e
  | _ => cases h
theorem d_isi {T : Str} {n : String} {e : Expr} {m : ME} {p p2 pos : Pos} (he : PE X e (tE c W .bor m)) (hm : X.mg "isinstance" = none) (hmT : X.mg T = none) (hv : bootBuiltins T = some (.type n)) (hK : c.K = X.K := by rfl) (hg : Gl X "isinstance" := by rfl) (hgT : Gl X T := by rfl)
    (hnT : T ≠ "__name__" := by decide) (hdT : (T == ("__debug__" : Str)) = false := by decide) (hb : bootBuiltins "isinstance" = some (.builtin "isinstance") := by decide +kernel)
    (he1 : starEach [e, .Name T p2] X.env = (false, eval e X.env) :: starEach [.Name T p2] X.env := by rfl) (he2 : starEach [.Name T p2] X.env = (false, eval (.Name T p2) X.env) :: starEach [] X.env := by rfl) (hpl : (backTo pos (starEach [.Name T p2] X.env)).any (·.1) = false := by rfl) :
    PE X (.Call (.Name "isinstance" p) [e, .Name T p2] [] pos) (tE c W .dur (mUn (dIsi n) m)) :=
  (pe_callB call_isi hg hm hb (pa_cons he (pa_cons (pe_bltn (v := .ty n) hgT hmT hv rfl hnT hdT) pa_nil he2) he1) (by decide) (by decide) he1 hpl).via fun σ H Q ⟨Γ, ρ, r, er, em, p⟩ => by
    have em : bnd (m ρ) (dIsi n) = some r := em
    refine use er em p.err fun d v H1 h1 s1 r1 => ?_
    obtain ⟨t, ht, h1⟩ := Option.bind_eq_some_iff.mp h1
    obtain ⟨b, hb, rfl⟩ := Option.map_eq_some_iff.mp h1
    refine ⟨v, .ty n, .type t, .type n, b, rfl, .ty n, ?_, kit_ty hb, fin_bl (p.mono s1) r1.1⟩
    rw [← hK]
    exact bor_ty r1.2 ht
end

/-! ### {k: v for t in it if ..} -/
def dcGo (g : MG) (tt : MT) (mk mv : ME) (ρ : Ro) : List D → List (Key × D) → Option (List (Key × D))
  | [], acc => some acc
  | d :: ds, acc => (g d ρ).bind fun ρ1 => match tt ρ1 with
    | some (.ok true) => (match mk ρ1 with
      | some (.ok kd) => (match mv ρ1 with
        | some (.ok y) => (keyD kd).bind fun k => dcGo g tt mk mv ρ ds (ptD acc k y)
        | _ => none)
      | _ => none)
    | some (.ok false) => dcGo g tt mk mv ρ ds acc
    | _ => none
def mDc (src : MI) (vs : List Nat) (g : MG) (tt : MT) (mk mv : ME) : ME := fun ρ => bnd (src ρ) fun ds => guard (noOwn ρ vs = true ∧ ds.length ≤ lim) ((dcGo g tt mk mv (wipeR ρ vs) ds []).map fun ys => .ok (.dK ys))
section
variable {X : Cx} {c : Conf} {W : WX}
theorem dc_ok {src : MI} {vs is : List Nat} {g : MG} {tt : MT} {mk mv : ME} {gg : TG} {X' : Cx} {tg : Expr} (hsub : ∀ i ∈ is, i ∈ vs) (kfx : vs.all (fun v => fxOk c.fx v) = true)
    (hg : GOk c is gg g)
    {σ : L2.St} {H : Hp} {Q : VK} (h : tE c W .own (mDc src vs g tt mk mv) σ H Q) : tDc (tI c W false src) gg (tT c W0 tt) (tE c W0 .bor mk) (tE c W0 .dur mv) vs σ H Q := by
  obtain ⟨Γ, ρ, r, er, em, p⟩ := h
  have em : bnd (src ρ) _ = some r := em
  cases q : src ρ with
  | none => rw [q] at em; cases em
  | some w =>
    rw [q] at em
    cases w with
    | error x =>
      cases em
      exact ⟨Γ, ρ, _, er, q, p⟩
    | ok ds =>
      obtain ⟨⟨no, hlim⟩, em⟩ := guard_ok em
      obtain ⟨ys, hys, rfl⟩ := Option.map_eq_some_iff.mp em
      refine ⟨Γ, ρ, _, er, q, fun J P us ra H1 s1 e1 r1 w1 q1 st D hD => ?_⟩
      have lu := r1.len
      have h0 : Γ.H0 D = none := e1.ext.free hD
      have nD : ¬ NN Γ σ ρ D := fun z => e1.tracked z hD
      refine ⟨fun i m H' => m = ds.length - i ∧ i ≤ ds.length ∧ ∃ (acc : List (Key × V)) (ys1 : List (Key × DL.D)), H' D = some (.dK acc) ∧ acc.map (·.1) = ys1.map (·.1) ∧ Rp c (NN (Γ.add D) σ ρ) H' (acc.map (·.2)) (ys1.map (·.2)) ∧ acc.length ≤ i ∧ Same H1 H' ∧ ER c (Γ.add D) σ H' ρ ∧ dcGo g tt mk mv (wipeR ρ vs) (ds.drop i) ys1 = some ys,
        ⟨_, rfl, Nat.zero_le _, [], [], upd_same, rfl, .nil, Nat.le_refl _, same_new hD, e1.addU hD, hys⟩, ?_⟩
      rintro i m H2 ⟨rfl, hil, acc, ys1, hacc, kacc, racc, hal, s2, e2, em2⟩
      have hP : P H2 := st H2 fun p hp => s2 _ _ (q1 p hp).2
      by_cases hlt : i < ds.length
      · have hx : us[i]? = some us[i] := List.getElem?_eq_getElem (by rw [lu]; exact hlt)
        obtain ⟨go, yl⟩ := w1.go i H2 _ hP hx
        refine .inr ⟨go, fun H' => ∃ (acc : List (Key × V)) (ys1 : List (Key × DL.D)), H' D = some (.dK acc) ∧ acc.map (·.1) = ys1.map (·.1) ∧ Rp c (NN (Γ.add D) σ ρ) H' (acc.map (·.2)) (ys1.map (·.2)) ∧ acc.length ≤ i + 1 ∧ Same H1 H' ∧ ER c (Γ.add D) σ H' ρ ∧ dcGo g tt mk mv (wipeR ρ vs) (ds.drop (i + 1)) ys1 = some ys,
          fun H' z => ⟨ds.length - (i + 1), by omega, rfl, hlt, z⟩, fun x H3 y3 => ?_⟩
        obtain ⟨eH, ex⟩ := yl x H3 y3
        subst eH ex
        rw [List.drop_eq_getElem_cons hlt] at em2
        unfold dcGo at em2
        obtain ⟨ρ3, hg3, em3⟩ := Option.bind_eq_some_iff.mp em2
        have ew := e2.wipe kfx
        have nnw : ∀ a, NN (Γ.add D) (wipe σ vs) (wipeR ρ vs) a → NN (Γ.add D) σ ρ a := fun a h => by
          rcases h with h | ⟨j, f, h1, h2⟩
          · exact .inl h
          · exact .inr ⟨j, f, (wipeR_some h1).1, (wipe_some h2).1⟩
        have ri : Re c (NN (Γ.add D) (wipe σ vs) (wipeR ρ vs)) H3 us[i] ds[i] := by
          refine Rp.step (fun a o n hq => ?_) (r1.at_ hx (List.getElem?_eq_getElem hlt))
          refine ⟨s2 a o hq, fun z => ?_⟩
          rcases nnw a z with (z | z) | z
          · exact n (.inl z)
          · subst z; rw [hD] at hq; cases hq
          · exact n (.inr z)
        refine hg (Γ.add D) (wipe σ vs) H3 (wipeR ρ vs) ρ3 _ _ _ ew ri hg3 fun σ4 e4 l4 o4 => ⟨?_, ?_⟩
        · have : wipe σ4 vs = wipe (wipe σ vs) vs := wipe_set l4 fun j hj => (o4 j fun z => hj (hsub j z)).1
          rw [this]
          exact wipe_set (wipe_length σ vs) fun j hj => wipe_out hj
        have back : ∀ a, NN (Γ.add D) σ ρ a → NN (Γ.add D) σ4 ρ3 a := NN_blk hsub no o4
        cases et : tt ρ3 with
        | none => rw [et] at em3; cases em3
        | some w =>
          rw [et] at em3
          cases w with
          | error x => cases em3
          | ok b =>
            refine ⟨Γ.add D, ρ3, _, e4, et, fun H5 s5 e5 => ?_⟩
            cases b with
            | false =>
              rw [if_neg Bool.false_ne_true]
              exact ⟨acc, ys1, s5 _ _ hacc, kacc, racc.same s5, by omega, s2.trans s5, e2.same s5, em3⟩
            | true =>
              rw [if_pos rfl]
              dsimp only at em3
              cases ek : mk ρ3 with
              | none => rw [ek] at em3; cases em3
              | some w =>
                rw [ek] at em3
                cases w with
                | error x => cases em3
                | ok kd =>
                  dsimp only at em3
                  refine ⟨Γ.add D, ρ3, _, e5, ek, fun kv H6 s6 r6 => ?_⟩
                  cases ee : mv ρ3 with
                  | none => rw [ee] at em3; cases em3
                  | some w =>
                    rw [ee] at em3
                    cases w with
                    | error x => cases em3
                    | ok y =>
                      obtain ⟨k, hk, em4⟩ := Option.bind_eq_some_iff.mp em3
                      refine ⟨Γ.add D, ρ3, _, r6.1, ee, fun v H7 s7 r7 => ?_⟩
                      have sx : Same H3 H7 := (s5.trans s6).trans s7
                      have n2 : NN (Γ.add D) σ ρ D := .inl (.inr rfl)
                      obtain ⟨pk, pr⟩ := pt_rel kacc (racc.same sx) k (r7.2.less back)
                      have hl : (putK acc k v).length ≤ acc.length + 1 := length_putK acc k v
                      refine ⟨acc, k, keyD_v hk r6.2, sx _ _ hacc, Nat.lt_of_le_of_lt hal (Nat.lt_of_lt_of_le hlt (lim_ok hlim)), putK acc k v, ptD ys1 k y, upd_same, pk, ?_, by omega, ?_, ?_, em4⟩
                      · exact Rp.step (mut_step n2) pr
                      · intro a o ha
                        rw [upd_ne (ne_of_none ha hD)]
                        exact sx _ _ (s2 _ _ ha)
                      · have e6 : ER c (Γ.add D) σ H7 ρ := e2.same sx
                        have st' := mut_step (H := H7) (o := .dK (putK acc k v)) n2
                        exact {
                          len := e6.len
                          ext := fun a o ha => by
                            have ne : a ≠ D := fun z => by subst z; have := h0; rw [show Γ.H0 a = some o from ha] at this; cases this
                            rw [upd_ne ne]; exact e6.ext a o ha
                          utr := fun a ha => by
                            by_cases z : a = D
                            · subst z; exact Mt.upd fun _ z => by cases z
                            · exact (e6.utr a ha).off z
                          held := fun p hp => (e6.held p hp).step st'
                          raw := fun p hp => let z := st' _ _ (e6.raw p hp).1 (e6.raw p hp).2; ⟨z.2, z.1⟩
                          fx := e6.fx
                          own := e6.own
                          dis := e6.dis
                          slot := fun j f hf => let ⟨v, h1, h2⟩ := e6.slot j f hf; ⟨v, h1, h2.step st'⟩
                          mine := fun j f hf => let ⟨b, h1, h2⟩ := e6.mine j f hf; ⟨b, h1, h2.step (fun o ho => by
                            have ne : b ≠ D := fun z => by subst z; exact (e6.own j f b hf h1).2 (.inr rfl)
                            rw [upd_ne ne]; exact ho) st'⟩ }
      · have e : i = ds.length := by omega
        subst e
        rw [List.drop_length] at em2
        cases em2
        exact .inl ⟨w1.stop _ _ hP (by rw [lu]; exact Nat.le_refl _), p (.ref D) H2 (s1.trans s2) ⟨D, rfl, h0, nD, e2, acc, hacc, kacc, racc⟩⟩
variable {kx vx tg iter : Expr} {ifs : List Expr} {scope : Scope} {own : List (Str × Nat)} {pos : Pos} {src : MI} {is : List Nat} {g : MG} {tt : MT} {mk mv : ME}
theorem d_dc (own : List (Str × Nat)) (hc : X.calm = true) (hN : X.N.Nodup) (hi : PI X tg iter (tI c W false src)) (ok : blkC X.N X.env.scope scope own = true)
    {gg : TG} (pg : ∀ (s : Shared) (H : Hp) (C : Addr) (cl : List (Str × Addr)) (fp : List Addr), PG (X.blk s H scope (compEnvC scope cl C X.env) fp) tg gg) (hgg : GOk c is gg g)
    (ht : ∀ (s : Shared) (H : Hp) (C : Addr) (cl : List (Str × Addr)) (fp : List Addr), PTs (X.blk s H scope (compEnvC scope cl C X.env) fp) ifs (tT c W0 tt))
    (hk : ∀ (s : Shared) (H : Hp) (C : Addr) (cl : List (Str × Addr)) (fp : List Addr), PE (X.blk s H scope (compEnvC scope cl C X.env) fp) kx (tE c W0 .bor mk))
    (he : ∀ (s : Shared) (H : Hp) (C : Addr) (cl : List (Str × Addr)) (fp : List Addr), PE (X.blk s H scope (compEnvC scope cl C X.env) fp) vx (tE c W0 .dur mv)) (hsub : ∀ i ∈ is, i ∈ own.map (·.2) := by decide)
    (kfx : (own.map (·.2)).all (fun v => fxOk c.fx v) = true := by rfl) (hs : ∀ x, foldedSetIterable iter X.env x = pure x := by intro _; rfl) :
    PE X (.DictComp kx vx [⟨tg, iter, ifs, 0⟩] scope pos) (tE c W .own (mDc src (own.map (·.2)) g tt mk mv)) :=
  (pe_dc hc hN hi (blkOk_by ok) pg ht hk he hs).via fun σ H Q h => dc_ok (X' := X) (tg := tg) hsub kfx hgg h
theorem sw_trueD {kx vx : Expr} {gs : List Comprehension} {scope : Scope} {pos py : Pos} {y : Str} {l : Nat} {env : Env} (hk : env.scope.kind = .function) (hy : env.scope.names.lookup y = some .local) (hl : (py.line == pos.line) = true)
    (ha : (scope.names.any fun (n, k) => n == y && (k == .local || k == .cell)) = false) : swapsWith (.DictComp kx vx gs scope pos) (some (.Name y py)) l env = pure true := by
  have ky : env.kindOf y = some .local := hy
  have hb : env.blockKind = .function := by unfold Env.blockKind; rw [hk]; rfl
  unfold swapsWith
  simp only [hb, ky, ha, Expr.pos, hl]
  rfl
open PySem.Spec PyProof.Rows in
theorem ps_setDc {i : Nat} {y : Str} {py : Pos} {kx vx tg iter : Expr} {ifs : List Expr} {scope : Scope} {own : List (Str × Nat)} {pos spos : Pos} {wi : TI} {g : TG} {tt : TT} {tk tv : TE} (hc : X.calm = true) (hN : X.N.Nodup) (hy : X.N[i]? = some y) (hyl : X.env.scope.names.lookup y = some .local)
    (hsw : swapsWith (.DictComp kx vx [⟨tg, iter, ifs, 0⟩] scope pos) (some (.Name y py)) spos.line X.env = pure true) (hi : PI X tg iter wi) (ok : BlkOk X.N X.env.scope scope own)
    (hg : ∀ (s : Shared) (H : Hp) (C : Addr) (cl : List (Str × Addr)) (fp : List Addr), PG (X.blk s H scope (compEnvC scope cl C X.env) fp) tg g) (ht : ∀ (s : Shared) (H : Hp) (C : Addr) (cl : List (Str × Addr)) (fp : List Addr), PTs (X.blk s H scope (compEnvC scope cl C X.env) fp) ifs tt)
    (hk : ∀ (s : Shared) (H : Hp) (C : Addr) (cl : List (Str × Addr)) (fp : List Addr), PE (X.blk s H scope (compEnvC scope cl C X.env) fp) kx tk)
    (he : ∀ (s : Shared) (H : Hp) (C : Addr) (cl : List (Str × Addr)) (fp : List Addr), PE (X.blk s H scope (compEnvC scope cl C X.env) fp) vx tv) (hs : ∀ x, foldedSetIterable iter X.env x = pure x := by intro _; rfl) :
    PS X (.Assign [.Name y py] (.DictComp kx vx [⟨tg, iter, ifs, 0⟩] scope pos) spos) (tAsg (tDc wi g tt tk tv (own.map (·.2))) (gName i)) := by
  refine ⟨fun pins s σ H D I h => ?_⟩
  rw [exec_Assign_Name_used _ _ _ _ hsw]
  refine wpAny_bind (wpAny_standAt (wpAny_bind ?_))
  show wpAny _ X.A (do let _ ← comprehension (.DictComp kx vx [⟨tg, iter, ifs, 0⟩] scope pos) scope X.env (firstIterPos [⟨tg, iter, ifs, 0⟩] pos) newDict false (eval iter X.env) (some (assign (.Name y py) X.env))) _ _ s
  have h : tDc wi g tt tk tv (own.map (·.2)) σ H (fun x H1 => gName i x σ H1 D.nx) := h
  refine wpAny_bind (thn (dc_core (Qf := fun _ s' => SP X pins D .next s') hc hN I hi ok hg ht hk he hs h fun L C s' m H' I' q hn f => ?_) fun _ s' hq => wpAny_pure (wpAny_pure hq))
  show wpAny _ _ (assign (.Name y py) X.env (.ref L)) _ _ _
  refine wpAny_assign_Name (store_ok2 (v := V.ref L) I' hN hy (.inl hyl) rfl (fun s2 I2 ⟨a, sb, ha⟩ => ?_) (.inr hyl))
  obtain ⟨f0, f1, f2, f3, f4, f5⟩ := f
  have haC : C ≠ a := by
    rcases ha with z | z
    · rw [z]; exact f1
    · exact fun e => f4 y a z e.symm
  refine ⟨m, hn.sameBut sb haC, fun h3 sb3 => ?_⟩
  exact ⟨_, H', I2.turned (t' := s2.toks) (fun b o hb e => (sb3.2 b hb).trans e) f0 f1 f3 f4 f5, q⟩
/-- y = {k: v for ..} on one line -/
theorem s_setDc (j : Nat) {y : Str} {py spos : Pos} (own : List (Str × Nat)) (hc : X.calm = true) (hN : X.N.Nodup) (hsw : swapsWith (.DictComp kx vx [⟨tg, iter, ifs, 0⟩] scope pos) (some (.Name y py)) spos.line X.env = pure true)
    (hi : PI X tg iter (tI c W false src)) (ok : blkC X.N X.env.scope scope own = true)
    {gg : TG} (pg : ∀ (s : Shared) (H : Hp) (C : Addr) (cl : List (Str × Addr)) (fp : List Addr), PG (X.blk s H scope (compEnvC scope cl C X.env) fp) tg gg) (hgg : GOk c is gg g)
    (ht : ∀ (s : Shared) (H : Hp) (C : Addr) (cl : List (Str × Addr)) (fp : List Addr), PTs (X.blk s H scope (compEnvC scope cl C X.env) fp) ifs (tT c W0 tt))
    (hk : ∀ (s : Shared) (H : Hp) (C : Addr) (cl : List (Str × Addr)) (fp : List Addr), PE (X.blk s H scope (compEnvC scope cl C X.env) fp) kx (tE c W0 .bor mk))
    (he : ∀ (s : Shared) (H : Hp) (C : Addr) (cl : List (Str × Addr)) (fp : List Addr), PE (X.blk s H scope (compEnvC scope cl C X.env) fp) vx (tE c W0 .dur mv)) (hsub : ∀ i ∈ is, i ∈ own.map (·.2) := by decide)
    (kfx : (own.map (·.2)).all (fun v => fxOk c.fx v) = true := by rfl) (hs : ∀ x, foldedSetIterable iter X.env x = pure x := by intro _; rfl) (hy : X.N[j]? = some y := by rfl) (hyl : X.env.scope.names.lookup y = some .local := by rfl) (k : fxOk c.fx j = true := by rfl) :
    PS X (.Assign [.Name y py] (.DictComp kx vx [⟨tg, iter, ifs, 0⟩] scope pos) spos) (tS c W (mSet j true (mDc src (own.map (·.2)) g tt mk mv))) :=
  (ps_setDc hc hN hy hyl hsw hi (blkOk_by ok) pg ht hk he hs).via fun D σ H ⟨Γ, ρ, o, er, em, p⟩ => by
    refine dc_ok (X' := X) (tg := tg) hsub kfx hgg (useS er em p fun d v H1 h1 s1 r1 => ?_)
    cases h1
    obtain ⟨a, rfl, h0, na, e1, ow⟩ := r1
    exact p _ _ (ER.setO e1 h0 na ow k)
end
end DL

set_option Elab.async false
set_option linter.all false
set_option maxRecDepth 100000
set_option maxHeartbeats 2000000
set_option autoImplicit false
/-! DLn: plain lemmas over dicts, upto-lists. -/
namespace DL
open PySem L2
theorem mDc_eq (src : MI) (vs : List Nat) (g : MG) (tt : MT) (mk mv : ME) (ρ : Ro) : mDc src vs g tt mk mv ρ = bnd (src ρ) fun ds => DL.guard (noOwn ρ vs = true ∧ ds.length ≤ lim) ((dcGo g tt mk mv (wipeR ρ vs) ds []).map fun ys => .ok (.dK ys)) := (rfl)
theorem ptD_new {κ : Type} [DecidableEq κ] {kds : List (κ × D)} {k : κ} {d : D} (h : k ∉ kds.map (·.1)) : ptD kds k d = kds ++ [(k, d)] := by
  unfold ptD
  rw [if_neg]
  intro z
  obtain ⟨p, hp, e⟩ := List.any_eq_true.mp z
  exact h (List.mem_map.mpr ⟨p, hp, of_decide_eq_true e⟩)
/-- a dict comprehension whose keys are all different -/
theorem dc_map {g : MG} {mk mv : ME} {ρ : Ro} (kf vf : D → D) (key : D → Key) : ∀ {ds : List D} {acc : List (Key × D)}, (∀ d ∈ ds, ∃ ρ1, g d ρ = some ρ1 ∧ mk ρ1 = some (.ok (kf d)) ∧ keyD (kf d) = some (key d) ∧ mv ρ1 = some (.ok (vf d))) → (acc.map (·.1) ++ ds.map key).Nodup →
    dcGo g mYes mk mv ρ ds acc = some (acc ++ ds.map fun d => (key d, vf d))
  | [], acc, _, _ => by rw [List.map_nil, List.append_nil]; rfl
  | d :: ds, acc, h, nd => by
    obtain ⟨ρ1, h1, h2, h3, h4⟩ := h d List.mem_cons_self
    have new : key d ∉ acc.map (·.1) := fun z => by
      have := (List.nodup_append.mp nd).2.2 _ z (key d) (by simp)
      exact this rfl
    have e := dc_map (g := g) (mk := mk) (mv := mv) (ρ := ρ) kf vf key (ds := ds) (acc := acc ++ [(key d, vf d)]) (fun d hd => h d (List.mem_cons_of_mem _ hd)) (by simpa using nd)
    unfold dcGo
    rw [h1, Option.bind_some]
    show (match mk ρ1 with | some (.ok kd) => (match mv ρ1 with | some (.ok y) => (keyD kd).bind fun k => dcGo g mYes mk mv ρ ds (ptD acc k y) | _ => none) | _ => none) = _
    rw [h2]
    dsimp only
    rw [h4]
    dsimp only
    rw [h3, Option.bind_some, ptD_new new, e]
    simp
theorem dc_is {src : MI} {vs : List Nat} {g : MG} {mk mv : ME} {ρ : Ro} (kf vf : D → D) (key : D → Key) {ds : List D} (h1 : src ρ = some (.ok ds)) (h2 : noOwn ρ vs = true) (h3 : ds.length ≤ 900) (nd : (ds.map key).Nodup) (h : ∀ d ∈ ds, ∃ ρ1, g d (wipeR ρ vs) = some ρ1 ∧ mk ρ1 = some (.ok (kf d)) ∧ keyD (kf d) = some (key d) ∧ mv ρ1 = some (.ok (vf d))) :
    mDc src vs g mYes mk mv ρ = some (.ok (.dK (ds.map fun d => (key d, vf d)))) := by
  rw [mDc_eq, h1, bnd_ok, guard_t ⟨h2, lim900 h3⟩, dc_map kf vf key h (by simpa using nd)]
  rfl
/-- a row's pieces with their places, from off + 1 on -/
def plcs : List Int → Nat → List (Key × D)
  | [], _ => []
  | x :: l, off => (.inl x, .int ((off : Int) + 1)) :: plcs l (off + 1)
theorem plcs_at : ∀ (l : List Int) (off : Nat) (x : Int), x ∈ l → lkD (plcs l off) (Sum.inl x : Key) = some (.int (((off + l.idxOf x : Nat) : Int) + 1))
  | y :: l, off, x, h => by
    unfold plcs lkD
    rw [List.find?_cons]
    by_cases e : y = x
    · subst e
      simp
    · have e2 : decide ((Sum.inl y : Key) = Sum.inl x) = false := decide_eq_false fun z => e (Sum.inl.inj z)
      have hx : x ∈ l := by
        rcases List.mem_cons.mp h with z | z
        · exact absurd z.symm e
        · exact z
      have ih := plcs_at l (off + 1) x hx
      unfold lkD at ih
      dsimp only
      rw [e2]
      dsimp only
      rw [ih, List.idxOf_cons]
      have e3 : (y == x) = false := by simpa using e
      rw [e3]
      simp only [cond_false]
      congr 3
      omega
theorem plcs_keys : ∀ (l : List Int) (off : Nat), (plcs l off).map (·.1) = l.map Sum.inl
  | [], _ => rfl
  | x :: l, off => by simp [plcs, plcs_keys l]
theorem plcs_rng (l : List Int) : ∀ (m : Nat), m ≤ l.length → ((List.range' m (l.length - m)).map fun i : Nat => ((Sum.inl (l.getD i 0) : Key), D.int ((i : Int) + 1))) = plcs (l.drop m) m := by
  intro m hm
  obtain ⟨r, hr⟩ : ∃ r, r = l.length - m := ⟨_, rfl⟩
  induction r generalizing m with
  | zero =>
    rw [show l.length - m = 0 by omega, show l.drop m = [] by rw [List.drop_eq_nil_iff]; omega]
    rfl
  | succ r ih =>
    have hlt : m < l.length := by omega
    rw [show l.length - m = (l.length - (m + 1)) + 1 by omega, List.range'_succ, List.map_cons, ih (m + 1) (by omega) (by omega), List.drop_eq_getElem_cons hlt]
    rw [List.getD_eq_getElem?_getD, List.getElem?_eq_getElem hlt]
    rfl
theorem upto_nodup (n : Nat) : (upto n).Nodup := by
  unfold upto
  refine List.Pairwise.map _ (fun a b h => ?_) (List.nodup_range (n := n))
  omega
theorem upto_len (n : Nat) : (upto n).length = n := by unfold upto; simp
theorem mem_upto {n : Nat} {x : Int} : x ∈ upto n ↔ 1 ≤ x ∧ x ≤ n := by
  unfold upto
  simp only [List.mem_map, List.mem_range]
  constructor
  · rintro ⟨i, h, rfl⟩
    omega
  · intro h
    exact ⟨(x - 1).toNat, by omega, by omega⟩
theorem dSorted_t (l : List Int) : dSorted [.tup (l.map D.int)] = some (.ok (.lst ((isort l).map D.int))) := by
  show (some (l.map D.int)).bind (fun ds => (ints? ds).map fun ns => (.ok (.lst ((isort ns).map D.int)) : Except EN D)) = _
  rw [Option.bind_some, ints?_map]
  rfl
theorem isort_upto {l : List Int} {n : Nat} (p : l.Perm (upto n)) : isort l = upto n := sorted_unique ((isort_perm _).trans p) (isort_sorted _) (upto_sorted _)
theorem lc_up (src : MI) (v : Nat) (ρ : Ro) (n : Nat) (hn : n ≤ 900) (h1 : src ρ = some (.ok ((List.range n).map fun i : Nat => D.int (i : Int)))) (h2 : noOwn ρ [v] = true) (hv : v < ρ.length) : mLc src [v] (gD v) mYes (mBin dAdd (mVar v) (mC (.int 1))) ρ = some (.ok (.lst ((upto n).map D.int))) := by
  rw [lc_is (fun d => match d with | .int i => .int (i + 1) | d => d) h1 h2 (by simpa using hn)]
  · unfold upto
    rw [List.map_map, List.map_map]
    rfl
  · intro d hd
    obtain ⟨i, _, rfl⟩ := List.mem_map.mp hd
    refine ⟨_, rfl, ?_⟩
    have e : mVar v ((wipeR ρ [v]).set v (some (D.int (i : Int), false))) = some (.ok (.int (i : Int))) := by
      unfold mVar
      rw [List.getElem?_set_self (by rw [wipeR_length]; exact hv)]
    rw [mBin_eq, e]
    rfl
end DL

set_option Elab.async false
set_option linter.all false
set_option maxRecDepth 100000
set_option maxHeartbeats 1000000
set_option autoImplicit false
/-! DLo: ranges that go down by one. -/
namespace DL
open PySem L2
def rgDn (i j : Int) : List D := (List.range (i - j).toNat).map fun k : Nat => D.int (i - (k : Int))
def rgUp (i j : Int) : List D := (List.range ((j - i + 1) / 2).toNat).map fun k : Nat => D.int (i + (k : Int) * 2)
def mRgI3 (m n q : ME) : MI := fun ρ => bnd (m ρ) fun d => bnd (n ρ) fun e => bnd (q ρ) fun f => match d, e, f with
  | .int a, .int b, .int z => if z = -1 then DL.guard (rgOk a b) (ok (rgDn a b)) else if z = 2 then DL.guard (rgOk a b) (ok (rgUp a b)) else none
  | _, _, _ => none
section
variable {X : Cx} {c : Conf} {W : WX} {tg a b e : Expr} {m n q : ME} {p pos : Pos} {nd : Bool}
theorem walks_dn (lo : Int) (n : Nat) : Walks (Itc lo (-1) n) (fun _ => True) ((List.range n).map fun i : Nat => V.int (lo - (i : Int))) where
  go := fun i H x _ hx => by
    rw [List.getElem?_map] at hx
    obtain ⟨j, hj, rfl⟩ := Option.map_eq_some_iff.mp hx
    obtain ⟨hl, e⟩ := List.getElem?_eq_some_iff.mp hj
    rw [List.getElem_range] at e
    subst e
    rw [List.length_range] at hl
    refine ⟨hl, fun y H2 ⟨e, e2⟩ => ⟨e, e2.trans ?_⟩⟩
    congr 1
    omega
  stop := fun i H _ hl => by
    rw [List.length_map, List.length_range] at hl
    exact hl
theorem rgDn_rp {N : Addr → Prop} {H : Hp} (a b : Int) : Rp c N H ((List.range (a - b).toNat).map fun i : Nat => V.int (a - (i : Int))) (rgDn a b) := by
  unfold rgDn
  generalize List.range (a - b).toNat = l
  induction l with
  | nil => exact .nil
  | cons x l ih => exact .int ih
theorem rgC_up2 {i j : Int} (h1 : -1000000 ≤ i) (h2 : i ≤ 1000000) (h3 : -1000000 ≤ j) (h4 : j ≤ 1000000) : RgC i j 2 ((j - i + 1) / 2).toNat := by
  have e : Builtin.Range.rangeSize i j 2 = (((j - i + 1) / 2).toNat : Int) := by
    unfold Builtin.Range.rangeSize
    simp only [show (2 : Int) > 0 by decide, if_true]
    split <;> omega
  refine ⟨by decide, by decide, ?_, e⟩
  unfold Builtin.Range.small
  rw [e]
  simp only [Builtin.Range.rangeFitsLong, Bool.and_eq_true, Bool.or_eq_true, decide_eq_true_eq, beq_iff_eq, show (2 : Int) > 0 by decide, if_true]
  omega
theorem walks_up2 (lo : Int) (n : Nat) : Walks (Itc lo 2 n) (fun _ => True) ((List.range n).map fun i : Nat => V.int (lo + (i : Int) * 2)) where
  go := fun i H x _ hx => by
    rw [List.getElem?_map] at hx
    obtain ⟨j, hj, rfl⟩ := Option.map_eq_some_iff.mp hx
    obtain ⟨hl, e⟩ := List.getElem?_eq_some_iff.mp hj
    rw [List.getElem_range] at e
    subst e
    rw [List.length_range] at hl
    refine ⟨hl, fun y H2 ⟨e, e2⟩ => ⟨e, e2.trans ?_⟩⟩
    congr 1
  stop := fun i H _ hl => by
    rw [List.length_map, List.length_range] at hl
    exact hl
theorem rgUp_rp {N : Addr → Prop} {H : Hp} (a b : Int) : Rp c N H ((List.range ((b - a + 1) / 2).toNat).map fun i : Nat => V.int (a + (i : Int) * 2)) (rgUp a b) := by
  have e : ((List.range ((b - a + 1) / 2).toNat).map fun i : Nat => V.int (a + (i : Int) * 2)) = ((List.range ((b - a + 1) / 2).toNat).map fun i : Nat => a + (i : Int) * 2).map V.int := by rw [List.map_map]; rfl
  have e2 : rgUp a b = ((List.range ((b - a + 1) / 2).toNat).map fun i : Nat => a + (i : Int) * 2).map D.int := by unfold rgUp; rw [List.map_map]; rfl
  rw [e, e2]
  exact Rp.of_ints
theorem i_rng3 (hg : Gl X "range") (hm : X.mg "range" = none) (ha : PE X a (tE c W .bor m)) (hb : PE X b (tE c W .bor n)) (hq : PE X e (tE c W .bor q)) (na : starEach [a, b, e] X.env = (false, eval a X.env) :: starEach [b, e] X.env := by rfl) (nb : starEach [b, e] X.env = (false, eval b X.env) :: starEach [e] X.env := by rfl) (nc : starEach [e] X.env = (false, eval e X.env) :: starEach [] X.env := by rfl)
    (hpl : (backTo pos (starEach [b, e] X.env)).any (·.1) = false := by rfl) : PI X tg (.Call (.Name "range" p) [a, b, e] [] pos) (tI c W nd (mRgI3 m n q)) :=
  (pi_range3 hg hm (b_cons ha (b_cons hb (b_cons hq b_nil nc) nb) na) na hpl).via fun σ H Q ⟨Γ, ρ, r, er, em, p⟩ => by
    have em' : bnd ((mCons m (mCons n (mCons q mNil))) ρ) (fun ds => match ds with | [.int a, .int b, .int z] => if z = -1 then DL.guard (rgOk a b) (ok (rgDn a b)) else if z = 2 then DL.guard (rgOk a b) (ok (rgUp a b)) else none | _ => none) = some r := by
      unfold mRgI3 at em
      unfold mCons mNil
      cases e : m ρ with
      | none => rw [e] at em; cases em
      | some w =>
        rw [e] at em
        cases w with
        | error x => exact em
        | ok d =>
          cases e2 : n ρ with
          | none => simp only [bnd, e2] at em; cases em
          | some w2 =>
            cases w2 with
            | error x => simp only [bnd, e2] at em ⊢; exact em
            | ok d2 =>
              cases e3 : q ρ with
              | none => simp only [bnd, e2, e3] at em; cases em
              | some w3 =>
                cases w3 with
                | error x => simp only [bnd, e2, e3] at em ⊢; exact em
                | ok d3 =>
                  simp only [bnd, e2, e3] at em ⊢
                  cases d <;> cases d2 <;> cases d3 <;> first | (cases em; done) | exact em
    refine useB er em' p.err fun ds vs H1 h1 s1 e1 r1 => ?_
    split at h1
    · rename_i k k2 z
      split at h1
      · rename_i hz
        subst hz
        obtain ⟨hl, h1⟩ := guard_ok h1
        cases h1
        cases r1 with
        | cons b1 r1 => cases r1 with
          | cons b2 r1 => cases r1 with
            | cons b3 r1 =>
              cases r1
              rw [b1.int, b2.int, b3.int]
              obtain ⟨l1, l2, l3, l4⟩ := hl
              have e62 : (2 : Int) ^ 62 = 4611686018427387904 := by decide
              exact ⟨k, k2, -1, (k - k2).toNat, rfl, RgC.neg (by omega) (by omega) (by omega) (by omega), p (Itc k (-1) (k - k2).toNat) _ _ [] H1 s1 e1 (rgDn_rp k k2) (walks_dn k _) (fun p hp => by cases hp) fun _ _ => trivial⟩
      · split at h1
        · rename_i hz
          subst hz
          obtain ⟨hl, h1⟩ := guard_ok h1
          cases h1
          cases r1 with
          | cons b1 r1 => cases r1 with
            | cons b2 r1 => cases r1 with
              | cons b3 r1 =>
                cases r1
                rw [b1.int, b2.int, b3.int]
                obtain ⟨l1, l2, l3, l4⟩ := hl
                exact ⟨k, k2, 2, ((k2 - k + 1) / 2).toNat, rfl, rgC_up2 l1 l2 l3 l4, p (Itc k 2 ((k2 - k + 1) / 2).toNat) _ _ [] H1 s1 e1 (rgUp_rp k k2) (walks_up2 k _) (fun p hp => by cases hp) fun _ _ => trivial⟩
        · cases h1
    · cases h1
end
end DL

set_option Elab.async false
set_option linter.all false
set_option maxRecDepth 100000
set_option maxHeartbeats 1000000
set_option autoImplicit false
/-! DLs: plain lemmas over loops, comprehensions, lists. -/
namespace DL
open PySem L2
theorem lc_filter {g : MG} {tt : MT} {me : ME} {ρ : Ro} (q : D → Bool) (f : D → D) : ∀ {ds : List D}, (∀ d ∈ ds, ∃ ρ1, g d ρ = some ρ1 ∧ tt ρ1 = some (.ok (q d)) ∧ me ρ1 = some (.ok (f d))) → lcGo g tt me ρ ds = some ((ds.filter q).map f)
  | [], _ => rfl
  | d :: ds, h => by
    obtain ⟨ρ1, h1, h2, h3⟩ := h d List.mem_cons_self
    have e := lc_filter (g := g) (tt := tt) (me := me) (ρ := ρ) q f (ds := ds) fun d hd => h d (List.mem_cons_of_mem _ hd)
    unfold lcGo
    rw [h1, Option.bind_some, h2]
    cases hq : q d with
    | true =>
      dsimp only
      rw [h3, e, List.filter_cons_of_pos hq]
      rfl
    | false =>
      dsimp only
      rw [e, List.filter_cons_of_neg (by simp [hq])]
theorem lcf_is {src : MI} {vs : List Nat} {g : MG} {tt : MT} {me : ME} {ρ : Ro} (q : D → Bool) (f : D → D) {ds : List D} (h1 : src ρ = some (.ok ds)) (h2 : noOwn ρ vs = true) (h3 : ds.length ≤ 900) (h : ∀ d ∈ ds, ∃ ρ1, g d (wipeR ρ vs) = some ρ1 ∧ tt ρ1 = some (.ok (q d)) ∧ me ρ1 = some (.ok (f d))) :
    mLc src vs g tt me ρ = some (.ok (.lst ((ds.filter q).map f))) := by
  rw [mLc_eq, h1, bnd_ok, guard_t ⟨h2, lim900 h3⟩, lc_filter q f h]
  rfl
/-- the places below n -/
def rng (n : Nat) : List D := (List.range n).map fun i : Nat => D.int (i : Int)
theorem rng_eq (n : Nat) : ((List.range n).map fun i : Nat => D.int (i : Int)) = rng n := rfl
theorem rng_len (n : Nat) : (rng n).length = n := by unfold rng; simp
theorem rng_ints (n : Nat) : rng n = ((List.range n).map fun i : Nat => (i : Int)).map D.int := by unfold rng; rw [List.map_map]; rfl
/-- a comprehension with a test over a range -/
theorem lcr_is {src : MI} {v : Nat} {tt : MT} {me : ME} {ρ : Ro} (n : Nat) (q : Nat → Bool) (f : Nat → D) (h1 : src ρ = some (.ok (rng n))) (h2 : noOwn ρ [v] = true) (h3 : n ≤ 900) (h : ∀ i, i < n → tt ((wipeR ρ [v]).set v (some (.int (i : Int), false))) = some (.ok (q i)) ∧ (q i = true → me ((wipeR ρ [v]).set v (some (.int (i : Int), false))) = some (.ok (f i)))) :
    mLc src [v] (gD v) tt me ρ = some (.ok (.lst (((List.range n).filter q).map f))) := by
  rw [mLc_eq, h1, bnd_ok, guard_t ⟨h2, lim900 (by rw [rng_len]; exact h3)⟩]
  have go : ∀ (l : List Nat), (∀ i ∈ l, i < n) → lcGo (gD v) tt me (wipeR ρ [v]) (l.map fun i : Nat => D.int (i : Int)) = some ((l.filter q).map f) := by
    intro l
    induction l with
    | nil => exact fun _ => rfl
    | cons i l ih =>
      intro hi
      obtain ⟨a, b⟩ := h i (hi i List.mem_cons_self)
      have e := ih fun j hj => hi j (List.mem_cons_of_mem _ hj)
      rw [List.map_cons]
      unfold lcGo
      rw [gD_eq, Option.bind_some, a]
      cases hq : q i with
      | true =>
        dsimp only
        rw [b hq, e, List.filter_cons_of_pos hq]
        rfl
      | false =>
        dsimp only
        rw [e, List.filter_cons_of_neg (by simp [hq])]
  show (lcGo (gD v) tt me (wipeR ρ [v]) (rng n)).map _ = _
  unfold rng
  rw [go _ fun i hi => List.mem_range.mp hi]
  rfl
/-- a comprehension with a test over a list of data that come from a list -/
theorem lcx_is {α : Type} {src : MI} {v : Nat} {tt : MT} {me : ME} {ρ : Ro} (xs : List α) (j : α → D) (q : α → Bool) (f : α → D) (h1 : src ρ = some (.ok (xs.map j))) (h2 : noOwn ρ [v] = true) (h3 : xs.length ≤ 900) (h : ∀ x ∈ xs, tt ((wipeR ρ [v]).set v (some (j x, false))) = some (.ok (q x)) ∧ (q x = true → me ((wipeR ρ [v]).set v (some (j x, false))) = some (.ok (f x)))) :
    mLc src [v] (gD v) tt me ρ = some (.ok (.lst ((xs.filter q).map f))) := by
  rw [mLc_eq, h1, bnd_ok, guard_t ⟨h2, lim900 (by simpa using h3)⟩]
  have go : ∀ (l : List α), (∀ i ∈ l, i ∈ xs) → lcGo (gD v) tt me (wipeR ρ [v]) (l.map j) = some ((l.filter q).map f) := by
    intro l
    induction l with
    | nil => exact fun _ => rfl
    | cons i l ih =>
      intro hi
      obtain ⟨a, b⟩ := h i (hi i List.mem_cons_self)
      have e := ih fun j hj => hi j (List.mem_cons_of_mem _ hj)
      rw [List.map_cons]
      unfold lcGo
      rw [gD_eq, Option.bind_some, a]
      cases hq : q i with
      | true =>
        dsimp only
        rw [b hq, e, List.filter_cons_of_pos hq]
        rfl
      | false =>
        dsimp only
        rw [e, List.filter_cons_of_neg (by simp [hq])]
  rw [go _ fun i hi => hi]
  rfl
theorem mYes_t (ρ : Ro) : mYes ρ = some (.ok true) := (rfl)
theorem filter_yes {α : Type} (l : List α) : l.filter (fun _ => true) = l := List.filter_eq_self.mpr fun _ _ => rfl
/-- a loop's invariant -/
theorem for_inv {body : MS} {v : Nat} (I : Nat → Ro → Prop) : ∀ (xs : List D) (m : Nat), (∀ (k : Nat) (x : D) (ρ : Ro), xs[k]? = some x → I (m + k) ρ → ∃ ρ', (body (ρ.set v (some (x, false))) = some (.nx ρ') ∨ body (ρ.set v (some (x, false))) = some (.ct ρ')) ∧ I (m + k + 1) ρ') → ∀ (ρ : Ro), I m ρ → ∃ ρ', forGo (gD v) body xs ρ = some (.nx ρ') ∧ I (m + xs.length) ρ'
  | [], m, _, ρ, h => ⟨ρ, rfl, h⟩
  | x :: xs, m, st, ρ, h => by
    obtain ⟨ρ1, e1, i1⟩ := st 0 x ρ rfl h
    obtain ⟨ρ2, e2, i2⟩ := for_inv I xs (m + 1) (fun k y ρ e i => by
      have := st (k + 1) y ρ (by simpa using e) (by rw [show m + (k + 1) = m + 1 + k by omega]; exact i)
      rw [show m + (k + 1) + 1 = m + 1 + k + 1 by omega] at this
      exact this) ρ1 i1
    refine ⟨ρ2, ?_, by rw [List.length_cons, show m + (xs.length + 1) = m + 1 + xs.length by omega]; exact i2⟩
    rw [forGo_cons, gD_eq, Option.bind_some]
    rcases e1 with e1 | e1
    · rw [e1, forO_nx]; exact e2
    · rw [e1, forO_ct]; exact e2
/-- over the places from a on, below b -/
theorem for_rng {body : MS} {v : Nat} (I : Nat → Ro → Prop) (n : Nat) (st : ∀ (k : Nat) (ρ : Ro), k < n → I k ρ → ∃ ρ', (body (ρ.set v (some (.int (k : Int), false))) = some (.nx ρ') ∨ body (ρ.set v (some (.int (k : Int), false))) = some (.ct ρ')) ∧ I (k + 1) ρ') (ρ : Ro) (h : I 0 ρ) : ∃ ρ', forGo (gD v) body (rng n) ρ = some (.nx ρ') ∧ I n ρ' := by
  obtain ⟨ρ', e, i⟩ := for_inv (body := body) (v := v) I (rng n) 0 (fun k x ρ e i => by
    obtain ⟨hk, e⟩ := List.getElem?_eq_some_iff.mp e
    rw [rng_len] at hk
    have ex : x = .int (k : Int) := by rw [← e]; simp [rng]
    subst ex
    rw [Nat.zero_add] at i ⊢
    exact st k ρ hk i) ρ h
  rw [rng_len, Nat.zero_add] at i
  exact ⟨ρ', e, i⟩
theorem for_rng_from {body : MS} {v : Nat} (I : Nat → Ro → Prop) (a b : Nat) (st : ∀ (k : Nat) (ρ : Ro), a ≤ k → k < b → I k ρ → ∃ ρ', (body (ρ.set v (some (.int (k : Int), false))) = some (.nx ρ') ∨ body (ρ.set v (some (.int (k : Int), false))) = some (.ct ρ')) ∧ I (k + 1) ρ') (ρ : Ro) (h : I a ρ) (hab : a ≤ b) : ∃ ρ', forGo (gD v) body (rgD (a : Int) (b : Int)) ρ = some (.nx ρ') ∧ I b ρ' := by
  have el : rgD (a : Int) (b : Int) = (List.range (b - a)).map fun i : Nat => D.int ((a + i : Nat) : Int) := by
    unfold rgD
    rw [show ((b : Int) - (a : Int)).toNat = b - a by omega]
    exact List.map_congr_left fun i _ => congrArg D.int (by omega)
  obtain ⟨ρ', e, i⟩ := for_inv (body := body) (v := v) I (rgD (a : Int) (b : Int)) a (fun k x ρ e i => by
    rw [el] at e
    obtain ⟨hk, e⟩ := List.getElem?_eq_some_iff.mp e
    simp only [List.length_map, List.length_range] at hk
    have ex : x = .int ((a + k : Nat) : Int) := by rw [← e]; simp
    subst ex
    exact st (a + k) ρ (by omega) (by omega) i) ρ h
  rw [el, List.length_map, List.length_range, show a + (b - a) = b by omega] at i
  exact ⟨ρ', e, i⟩
/-- downwards: at the round of place k, the places k+1.. are done -/
theorem for_down {body : MS} {v : Nat} (I : Nat → Ro → Prop) : ∀ (n : Nat), (∀ (k : Nat) (ρ : Ro), k < n → I (k + 1) ρ → ∃ ρ', (body (ρ.set v (some (.int (k : Int), false))) = some (.nx ρ') ∨ body (ρ.set v (some (.int (k : Int), false))) = some (.ct ρ')) ∧ I k ρ') → ∀ (ρ : Ro), I n ρ → ∃ ρ', forGo (gD v) body (rng n).reverse ρ = some (.nx ρ') ∧ I 0 ρ'
  | 0, _, ρ, h => ⟨ρ, rfl, h⟩
  | n + 1, st, ρ, h => by
    obtain ⟨ρ1, e1, i1⟩ := st n ρ (by omega) h
    obtain ⟨ρ2, e2, i2⟩ := for_down I n (fun k ρ hk => st k ρ (by omega)) ρ1 i1
    refine ⟨ρ2, ?_, i2⟩
    have er : (rng (n + 1)).reverse = .int (n : Int) :: (rng n).reverse := by unfold rng; rw [List.range_succ]; simp
    rw [er, forGo_cons, gD_eq, Option.bind_some]
    rcases e1 with e1 | e1
    · rw [e1, forO_nx]; exact e2
    · rw [e1, forO_ct]; exact e2
theorem at_getD (l : List Int) (k : Nat) (h : k < l.length) : L2.atI (l.map D.int) (k : Int) = some (.int (l.getD k 0)) := by
  rw [atI_nat _ _ (by simpa using h), List.getElem_map, List.getD_eq_getElem?_getD, List.getElem?_eq_getElem h]
  rfl
/-- the greatest of a list, from m on -/
def mx (m : Int) : List Int → Int
  | [] => m
  | x :: l => mx (if x > m then x else m) l
theorem maxI_mx : ∀ (m : Int) (l : List Int), maxI (m :: l) = some (mx m l)
  | m, [] => by unfold maxI mx; rfl
  | m, x :: l => by unfold maxI mx; exact maxI_mx _ l
theorem dMax_l (m : Int) (l : List Int) : dMax [.lst (.int m :: l.map D.int)] = some (.ok (.int (mx m l))) := by
  show (ints? ((m :: l).map D.int)).bind (fun ns => (maxI ns).map fun m => (.ok (.int m) : Except EN D)) = _
  rw [ints?_map, Option.bind_some, maxI_mx]
  rfl
theorem mx_ge : ∀ (l : List Int) (m : Int), m ≤ mx m l
  | [], m => Int.le_refl _
  | x :: l, m => by
    unfold mx
    have h2 := mx_ge l (if x > m then x else m)
    by_cases c : x > m
    · rw [if_pos c] at h2 ⊢; omega
    · rw [if_neg c] at h2 ⊢; omega
theorem mx_le : ∀ (l : List Int) (m x : Int), x ∈ l → x ≤ mx m l
  | y :: l, m, x, h => by
    unfold mx
    rcases List.mem_cons.mp h with e | h
    · subst e
      have h2 := mx_ge l (if x > m then x else m)
      by_cases c : x > m
      · rw [if_pos c] at h2 ⊢; omega
      · rw [if_neg c] at h2 ⊢; omega
    · exact mx_le l _ x h
theorem mx_mem : ∀ (l : List Int) (m : Int), mx m l = m ∨ mx m l ∈ l
  | [], m => .inl rfl
  | y :: l, m => by
    unfold mx
    rcases mx_mem l (if y > m then y else m) with e | e
    · rw [e]
      split
      · exact .inr List.mem_cons_self
      · exact .inl rfl
    · exact .inr (List.mem_cons_of_mem _ e)
theorem getD_app_l {α : Type} (l l' : List α) (k : Nat) (d : α) (h : k < l.length) : (l ++ l').getD k d = l.getD k d := by
  rw [List.getD_eq_getElem?_getD, List.getD_eq_getElem?_getD, List.getElem?_append_left h]
theorem getD_app_at {α : Type} (l : List α) (x d : α) : (l ++ [x]).getD l.length d = x := by
  rw [List.getD_eq_getElem?_getD, List.getElem?_append_right (Nat.le_refl _), Nat.sub_self]
  rfl
theorem getD_mem {α : Type} (l : List α) (k : Nat) (d : α) (h : k < l.length) : l.getD k d ∈ l := by
  rw [List.getD_eq_getElem?_getD, List.getElem?_eq_getElem h]
  exact List.getElem_mem h
theorem getD_inj {α : Type} {l : List α} (nd : l.Nodup) {i j : Nat} (hi : i < l.length) (hj : j < l.length) (d : α) (e : l.getD i d = l.getD j d) : i = j := by
  rw [List.getD_eq_getElem?_getD, List.getD_eq_getElem?_getD, List.getElem?_eq_getElem hi, List.getElem?_eq_getElem hj] at e
  exact (List.getElem_inj nd).mp e
/-- what is shared out by its number, put together -/
theorem parts_perm (f : Nat → Nat) (L : Nat) (xs : List Nat) (h : ∀ x ∈ xs, f x < L) : ((List.range L).flatMap fun k => xs.filter fun x => decide (f x = k)).Perm xs := by
  induction xs with
  | nil =>
    rw [show ((List.range L).flatMap fun k => ([] : List Nat).filter fun x => decide (f x = k)) = [] by simp]
  | cons x xs ih =>
    have ih := ih fun y hy => h y (List.mem_cons_of_mem _ hy)
    refine List.Perm.trans ?_ (ih.cons x)
    have hx := h x List.mem_cons_self
    have sp : ∀ (M : Nat), ((List.range M).flatMap fun k => (x :: xs).filter fun x => decide (f x = k)).Perm (if f x < M then x :: ((List.range M).flatMap fun k => xs.filter fun x => decide (f x = k)) else ((List.range M).flatMap fun k => xs.filter fun x => decide (f x = k))) := by
      intro M
      induction M with
      | zero => simp
      | succ M ih =>
        rw [List.range_succ, List.flatMap_append, List.flatMap_append, List.flatMap_singleton, List.flatMap_singleton]
        by_cases h1 : f x < M
        · rw [if_pos h1] at ih
          rw [if_pos (by omega), List.filter_cons_of_neg (by simp; omega)]
          exact ih.append_right _
        · rw [if_neg h1] at ih
          by_cases h2 : f x = M
          · rw [if_pos (by omega), List.filter_cons_of_pos (by simpa using h2)]
            refine (ih.append_right _).trans ?_
            exact List.perm_middle
          · rw [if_neg (by omega), List.filter_cons_of_neg (by simpa using h2)]
            exact ih.append_right _
    have := sp L
    rw [if_pos hx] at this
    exact this
theorem isort_rng {l : List Int} {n : Nat} (p : l.Perm ((List.range n).map fun i : Nat => (i : Int))) : isort l = (List.range n).map fun i : Nat => (i : Int) :=
  sorted_unique ((isort_perm _).trans p) (isort_sorted _) (by
    rw [List.pairwise_map]
    exact List.Pairwise.imp (R := (· < ·)) (fun h => by omega) List.pairwise_lt_range)
theorem isi_tup (l : List D) : dIsi "tuple" (.tup l) = some (.ok (.bl true)) := by
  show (kitB "tuple" "tuple").map (fun b => (.ok (.bl b) : Except EN D)) = _
  rw [show kitB "tuple" "tuple" = some true from by decide +kernel]
  rfl
theorem isi_lst (l : List D) : dIsi "list" (.lst l) = some (.ok (.bl true)) := by
  show (kitB "list" "list").map (fun b => (.ok (.bl b) : Except EN D)) = _
  rw [show kitB "list" "list" = some true from by decide +kernel]
  rfl
theorem isi_int (i : Int) : dIsi "int" (.int i) = some (.ok (.bl true)) := by
  show (kitB "int" "int").map (fun b => (.ok (.bl b) : Except EN D)) = _
  rw [show kitB "int" "int" = some true from by decide +kernel]
  rfl
theorem isi_intb (i : Int) : dIsi "bool" (.int i) = some (.ok (.bl false)) := by
  show (kitB "int" "bool").map (fun b => (.ok (.bl b) : Except EN D)) = _
  rw [show kitB "int" "bool" = some false from by decide +kernel]
  rfl
/-- a loop that looks, and goes back with one answer at the first hit -/
theorem for_chk {body : MS} {v : Nat} (ρ : Ro) (q : D → Bool) (d0 : D) : ∀ (xs : List D), (∀ x ∈ xs, body (ρ.set v (some (x, false))) = if q x then some (.rt d0) else some (.nx (ρ.set v (some (x, false))))) → ∀ s : Option (D × Bool), ((∃ x ∈ xs, q x = true) ∧ forGo (gD v) body xs (ρ.set v s) = some (.rt d0)) ∨ ((∀ x ∈ xs, q x = false) ∧ ∃ s', forGo (gD v) body xs (ρ.set v s) = some (.nx (ρ.set v s')))
  | [], _, s => .inr ⟨fun _ h => by simp at h, s, rfl⟩
  | x :: xs, h, s => by
    have h0 := h x List.mem_cons_self
    have hx := for_chk ρ q d0 xs (fun y hy => h y (List.mem_cons_of_mem _ hy)) (some (x, false))
    rw [forGo_cons, gD_eq, Option.bind_some, List.set_set, h0]
    cases hq : q x with
    | true => exact .inl ⟨⟨x, List.mem_cons_self, hq⟩, rfl⟩
    | false =>
      show (_ ∧ forGo (gD v) body xs (ρ.set v (some (x, false))) = _) ∨ (_ ∧ ∃ s', forGo (gD v) body xs (ρ.set v (some (x, false))) = _)
      rcases hx with ⟨⟨y, hy, hq2⟩, e⟩ | ⟨hn, s', e⟩
      · exact .inl ⟨⟨y, List.mem_cons_of_mem _ hy, hq2⟩, e⟩
      · refine .inr ⟨fun y hy => ?_, s', e⟩
        rcases List.mem_cons.mp hy with z | z
        · rw [z]; exact hq
        · exact hn y z
theorem mem_rng {n : Nat} {x : D} : x ∈ rng n ↔ ∃ i, i < n ∧ x = .int (i : Int) := by
  unfold rng
  simp only [List.mem_map, List.mem_range]
  constructor
  · rintro ⟨i, h, rfl⟩; exact ⟨i, h, rfl⟩
  · rintro ⟨i, h, rfl⟩; exact ⟨i, h, rfl⟩
theorem mem_rgD {a b : Nat} {x : D} : x ∈ rgD (a : Int) (b : Int) ↔ ∃ i : Nat, a ≤ i ∧ i < b ∧ x = .int (i : Int) := by
  unfold rgD
  simp only [List.mem_map, List.mem_range]
  constructor
  · rintro ⟨i, h, rfl⟩; exact ⟨a + i, by omega, by omega, congrArg D.int (by omega)⟩
  · rintro ⟨i, h1, h2, rfl⟩; exact ⟨i - a, by omega, congrArg D.int (by omega)⟩
def rg3O (r1 r2 r3 : R D) : R (List D) := bnd r1 fun d => bnd r2 fun e => bnd r3 fun f => match d, e, f with
  | .int a, .int b, .int z => if z = -1 then DL.guard (rgOk a b) (ok (rgDn a b)) else if z = 2 then DL.guard (rgOk a b) (ok (rgUp a b)) else none
  | _, _, _ => none
theorem rg3_up2 (a b : Int) (h : (-1000 ≤ a ∧ a ≤ 1000) ∧ -1000 ≤ b ∧ b ≤ 1000) : rg3O (some (.ok (.int a))) (some (.ok (.int b))) (some (.ok (.int 2))) = some (.ok (rgUp a b)) := by
  show DL.guard (rgOk a b) _ = _
  exact guard_t (show rgOk a b from ⟨by omega, by omega, by omega, by omega⟩) _
theorem mRgI3_eq (m n q : ME) (ρ : Ro) : mRgI3 m n q ρ = rg3O (m ρ) (n ρ) (q ρ) := (rfl)
theorem rg3_dn (a b : Int) (h : (-1000 ≤ a ∧ a ≤ 1000) ∧ -1000 ≤ b ∧ b ≤ 1000) : rg3O (some (.ok (.int a))) (some (.ok (.int b))) (some (.ok (.int (-1)))) = some (.ok (rgDn a b)) := by
  show DL.guard (rgOk a b) _ = _
  exact guard_t (show rgOk a b from ⟨by omega, by omega, by omega, by omega⟩) _
def frzO (s : Option (Option (D × Bool))) (i : Nat) (ρ : Ro) : Option Out := match s with
  | some (some (d, _)) => some (.nx (ρ.set i (some (d, false))))
  | _ => none
theorem mFrz_eq (i : Nat) (ρ : Ro) : mFrz i ρ = frzO (ρ[i]?) i ρ := (rfl)
theorem frzO_s (d : D) (b : Bool) (i : Nat) (ρ : Ro) : frzO (some (some (d, b))) i ρ = some (.nx (ρ.set i (some (d, false)))) := (rfl)
theorem rgDn_all (n : Nat) : rgDn ((n : Int) - 1) (-1) = (rng n).reverse := by
  unfold rgDn rng
  rw [show ((n : Int) - 1 - -1).toNat = n by omega]
  induction n with
  | zero => rfl
  | succ n ih =>
    rw [List.range_succ, List.map_append (l₁ := List.range n) (f := fun i : Nat => D.int (i : Int)), List.reverse_append, ← ih]
    rw [← List.range_succ, List.range_succ_eq_map, List.map_cons, List.map_map]
    simp only [List.map_cons, List.map_nil, List.reverse_cons, List.reverse_nil, List.nil_append, List.singleton_append]
    congr 1
    · congr 1; omega
    · exact List.map_congr_left fun i _ => congrArg D.int (by simp; omega)
end DL

set_option Elab.async false
set_option linter.all false
set_option maxRecDepth 100000
set_option maxHeartbeats 1000000
set_option autoImplicit false
/-! DLt: methods of built-in things that give a value: x.index(y). -/
namespace DL
open PySem L2
def mMeth (f : D → List D → R D) (mo : ME) (ma : MA) : ME := fun ρ => bnd (mo ρ) fun d => match ma ρ with
  | some (.ok es) => f d es
  | _ => none
section
variable {X : Cx} {c : Conf} {W : WX}
structure MethOk (c : Conf) (W : WX) (k : Kd) (T : String) (r : V → List V → Hp → VK → Prop) (f : D → List D → R D) : Prop where
  ty : ∀ (N : Addr → Prop) (H : Hp) (x : V) (d : D) (es : List D) (res : Except EN D), Bor c N H x d → f d es = some res → tyV c.K T x H
  go : ∀ (Γ : Gam) (σ : L2.St) (ρ : Ro) (H : Hp) (x : V) (vs : List V) (d : D) (es : List D) (res : Except EN D) (Q : VK), ER c Γ σ H ρ → Bor c (NN Γ σ ρ) H x d → Bors c (NN Γ σ ρ) H vs es → f d es = some res → PostE c W k Γ σ ρ H Q res → r x vs H Q
theorem d_meth {o e : Expr} {es : List Expr} {mo : ME} {l : MA} {name : Str} {apos cpos : Pos} {T id : String} {k : Kd} {r : V → List V → Hp → VK → Prop} {f : D → List D → R D} (hp : PySem.PlainAttrs T) (hs : PySem.Slot T name id) (hm : typeOf (.builtin id) = pure (.type "method_descriptor")) (mt : MtR X id r) (mk : MethOk c W k T r f)
    (ho : PE X o (tE c W .bor mo)) (ha : PA X (e :: es) (tBo c W l)) (hbase : attributeBase o name X.env (eval o X.env) = eval o X.env := by rfl)
    (hfew : ((backTo cpos (starEach (e :: es) X.env)).all (fun x => !x.1) && (backToKw cpos (keywordEach [] X.env)).all (fun x => x.1.isSome)
      && decide ((e :: es).length + ([] : List Keyword).length + (if ([] : List Keyword).isEmpty then 0 else 1) < 30)) = true := by rfl)
    (hline : (apos.endLine == cpos.line) = true := by rfl) (hst : starEach (e :: es) X.env = (false, eval e X.env) :: starEach es X.env := by rfl) (hplain : (backTo cpos (starEach es X.env)).any (·.1) = false := by rfl) (hK : c.K = X.K := by rfl) :
    PE X (.Call (.Attribute o name apos) (e :: es) [] cpos) (tE c W k (mMeth f mo l)) :=
  (pe_bm hp hs hm mt ho ha hbase hfew hline hst hplain).via fun σ H Q ⟨Γ, ρ, res, er, em, p⟩ => by
    rw [← hK]
    have em : bnd (mo ρ) (fun d => match l ρ with | some (.ok es) => f d es | _ => none) = some res := em
    refine use er em p.err fun d v H1 h1 s1 r1 => ?_
    cases q : l ρ with
    | none => rw [q] at h1; cases h1
    | some w =>
      cases w with
      | error x => rw [q] at h1; cases h1
      | ok ds =>
        rw [q] at h1
        have h1 : f d ds = some res := h1
        refine ⟨mk.ty _ _ _ _ _ _ r1.2 h1, Γ, ρ, _, r1.1, q, fun vs H2 s2 e2 r2 => ?_⟩
        exact mk.go Γ σ ρ H2 v vs d ds res Q e2 (r1.2.same s2) r2 h1 (p.mono (s1.trans s2))
/-- the first place of a number in a list -/
def dIdxL : D → List D → R D
  | .lst ds, [.int i] => (ints? ds).bind fun ns => if i ∈ ns then ok (.int (ns.idxOf i : Nat)) else none
  | _, _ => none
theorem idx_first {ns : List Int} {i : Int} (h : i ∈ ns) : ns[ns.idxOf i]? = some i ∧ ∀ m z, m < ns.idxOf i → ns[m]? = some z → z ≠ i := by
  induction ns with
  | nil => cases h
  | cons a ns ih =>
    by_cases e : a = i
    · subst e
      refine ⟨by simp, fun m z hm => ?_⟩
      simp at hm
    · have hm : i ∈ ns := by
        rcases List.mem_cons.mp h with z | z
        · exact absurd z.symm e
        · exact z
      obtain ⟨h1, h2⟩ := ih hm
      have e2 : (a :: ns).idxOf i = ns.idxOf i + 1 := by
        rw [List.idxOf_cons]
        have : (a == i) = false := by simpa using e
        rw [this]
        rfl
      rw [e2]
      refine ⟨by simpa using h1, fun m z hm hz => ?_⟩
      cases m with
      | zero =>
        simp at hz
        rw [← hz]
        exact e
      | succ m => exact h2 m z (by omega) (by simpa using hz)
theorem flat_ints (ns : List Int) : (ns.map V.int).all flatV = true := by
  rw [List.all_eq_true]
  intro x hx
  obtain ⟨i, _, rfl⟩ := List.mem_map.mp hx
  rfl
theorem ok_idxL : MethOk c W .dur "list" (rIndex c.K) dIdxL where
  ty := fun N H x d es res b h => by
    unfold dIdxL at h
    split at h
    · obtain ⟨a, us, rfl, e, r⟩ := b
      exact .inl ⟨rfl, us, .of e⟩
    · cases h
  go := fun Γ σ ρ H x vs d es res Q er bx bv h p => by
    unfold dIdxL at h
    split at h
    · rename_i ds i
      obtain ⟨ns, hn, h⟩ := Option.bind_eq_some_iff.mp h
      split at h
      · rename_i hm
        cases h
        obtain ⟨a, us, rfl, e, r⟩ := bx
        have eu := r.ints? hn
        subst eu
        obtain ⟨v, rfl, b⟩ := bv.one
        have ev := b.int
        subst ev
        obtain ⟨h1, h2⟩ := idx_first hm
        refine ⟨a, _, .int i, ns.idxOf i, .int i, rfl, rfl, .of e, rfl, flat_ints ns, ?_, by simp [eqV], fun m z hm hz => ?_, fin_int p er⟩
        · rw [List.getElem?_map, h1]
          rfl
        · rw [List.getElem?_map] at hz
          obtain ⟨y, hy, rfl⟩ := Option.map_eq_some_iff.mp hz
          have := h2 m y hm hy
          simpa [eqV] using this
      · cases h
    · cases h
theorem i_idxL {o e : Expr} {mo : ME} {l : MA} {apos cpos : Pos} (ho : PE X o (tE c W .bor mo)) (ha : PA X [e] (tBo c W l)) (hbase : attributeBase o "index" X.env (eval o X.env) = eval o X.env := by rfl)
    (hfew : ((backTo cpos (starEach [e] X.env)).all (fun x => !x.1) && (backToKw cpos (keywordEach [] X.env)).all (fun x => x.1.isSome)
      && decide ([e].length + ([] : List Keyword).length + (if ([] : List Keyword).isEmpty then 0 else 1) < 30)) = true := by rfl)
    (hline : (apos.endLine == cpos.line) = true := by rfl) (hst : starEach [e] X.env = (false, eval e X.env) :: starEach [] X.env := by rfl) (hplain : (backTo cpos (starEach [] X.env)).any (·.1) = false := by rfl) (hK : c.K = X.K := by rfl) :
    PE X (.Call (.Attribute o "index" apos) [e] [] cpos) (tE c W .dur (mMeth dIdxL mo l)) :=
  d_meth PySem.F.plainAttrs_list PySem.F.slot_list_index PySem.F.type_list_index mt_index (by rw [← hK]; exact ok_idxL) ho ha hbase hfew hline hst hplain hK
end
def methO (r : R D) (s : R (List D)) (f : D → List D → R D) : R D := bnd r fun d => match s with
  | some (.ok es) => f d es
  | _ => none
theorem mMeth_eq (f : D → List D → R D) (mo : ME) (ma : MA) (ρ : Ro) : mMeth f mo ma ρ = methO (mo ρ) (ma ρ) f := (rfl)
theorem methO_ok (d : D) (es : List D) (f : D → List D → R D) : methO (some (.ok d)) (some (.ok es)) f = f d es := (rfl)
theorem dIdxL_i (ns : List Int) (i : Int) (h : i ∈ ns) : dIdxL (.lst (ns.map D.int)) [.int i] = some (.ok (.int (ns.idxOf i : Nat))) := by
  show (ints? (ns.map D.int)).bind _ = _
  rw [ints?_map, Option.bind_some, if_pos h]
end DL

set_option Elab.async false
set_option linter.all false
set_option maxRecDepth 100000
set_option maxHeartbeats 1000000
set_option autoImplicit false
/-! DLu: while-loops; the rings of a one-to-one map. -/
namespace DL
open PySem L2
theorem while_inv {t : MT} {s : MS} (I : Nat → Ro → Prop) : ∀ (N m : Nat) (ρ : Ro), m < N → I m ρ → (∀ m ρ, I m ρ → t ρ = some (.ok false) ∨ (t ρ = some (.ok true) ∧ ∃ ρ' m', (s ρ = some (.nx ρ') ∨ s ρ = some (.ct ρ')) ∧ I m' ρ' ∧ m' < m)) → ∃ ρ' m', mWhile N t s ρ = some (.nx ρ') ∧ I m' ρ' ∧ t ρ' = some (.ok false)
  | 0, m, ρ, hm, _, _ => by omega
  | N + 1, m, ρ, hm, h, st => by
    rcases st m ρ h with e | ⟨e, ρ1, m1, e1, i1, l1⟩
    · refine ⟨ρ, m, ?_, h, e⟩
      show sE (t ρ) ρ _ = _
      rw [e]
      rfl
    · obtain ⟨ρ2, m2, e2, i2, f2⟩ := while_inv I N m1 ρ1 (by omega) i1 st
      refine ⟨ρ2, m2, ?_, i2, f2⟩
      show sE (t ρ) ρ _ = _
      rw [e]
      rcases e1 with e1 | e1
      · show (match s ρ with
          | some (.nx ρ') => mWhile N t s ρ'
          | some (.ct ρ') => mWhile N t s ρ'
          | some (.bk ρ') => some (.nx ρ')
          | o => o) = _
        rw [e1]
        exact e2
      · show (match s ρ with
          | some (.nx ρ') => mWhile N t s ρ'
          | some (.ct ρ') => mWhile N t s ρ'
          | some (.bk ρ') => some (.nx ρ')
          | o => o) = _
        rw [e1]
        exact e2
/-- a set of numbers as a dict -/
def seenD (l : List Int) : List (Key × D) := l.map fun x => (Sum.inl x, D.bl true)
theorem seen_has (l : List Int) (x : Int) : dHas (.int x) (.dK (seenD l)) = some (decide (x ∈ l)) := by
  show some ((lkD (seenD l) (Sum.inl x)).isSome) = _
  congr 1
  unfold lkD seenD
  rw [Option.isSome_map, List.find?_map, Option.isSome_map, Bool.eq_iff_iff, List.find?_isSome, decide_eq_true_iff]
  constructor
  · rintro ⟨y, hy, e⟩
    have := of_decide_eq_true e
    cases Sum.inl.inj this
    exact hy
  · intro h
    exact ⟨x, h, decide_eq_true rfl⟩
theorem seen_in (l : List Int) (x : Int) : dIn (.int x) (.dK (seenD l)) = some (.ok (.bl (decide (x ∈ l)))) := by
  unfold dIn
  rw [seen_has]
theorem seen_notIn (l : List Int) (x : Int) : dNotIn (.int x) (.dK (seenD l)) = some (.ok (.bl (!decide (x ∈ l)))) := by
  unfold dNotIn
  rw [seen_has]
theorem seen_put (l : List Int) (x : Int) (h : x ∉ l) (hl : l.length < 1000000) : dSet (.dK (seenD l)) (.int x) (.bl true) = some (.dK (seenD (l ++ [x]))) := by
  unfold dSet
  show (some (Sum.inl x : Key)).bind (fun k => if (seenD l).length < lim then some (D.dK (ptD (seenD l) k (.bl true))) else none) = _
  rw [Option.bind_some, if_pos (show (seenD l).length < lim by unfold seenD; rw [List.length_map]; exact hl), ptD_new]
  · unfold seenD
    rw [List.map_append]
    rfl
  · unfold seenD
    rw [List.map_map]
    intro z
    obtain ⟨y, hy, e⟩ := List.mem_map.mp z
    cases Sum.inl.inj e
    exact h hy
/-- a map as a dict over its places -/
def mapD (f : Int → Int) (S : List Int) : List (Key × D) := S.map fun x => (Sum.inl x, D.int (f x))
theorem mapD_at (f : Int → Int) (S : List Int) (x : Int) (h : x ∈ S) : dIx (.dK (mapD f S)) (.int x) = some (.ok (.int (f x))) := by
  show ((some (Sum.inl x : Key)).bind (lkD (mapD f S))).map Except.ok = _
  rw [Option.bind_some]
  have : lkD (mapD f S) (Sum.inl x) = some (.int (f x)) := by
    induction S with
    | nil => cases h
    | cons y S ih =>
      unfold lkD mapD
      rw [List.map_cons, List.find?_cons]
      by_cases e : y = x
      · subst e
        simp
      · have e2 : decide ((Sum.inl y : Key) = Sum.inl x) = false := decide_eq_false fun z => e (Sum.inl.inj z)
        dsimp only
        rw [e2]
        dsimp only
        rcases List.mem_cons.mp h with z | z
        · exact absurd z.symm e
        · exact ih z
  rw [this]
  rfl
theorem mapD_keys (f : Int → Int) (S : List Int) : (mapD f S).mapM (fun kd => inlD kd.1) = some S := by
  induction S with
  | nil => rfl
  | cons x S ih =>
    unfold mapD at ih ⊢
    rw [List.map_cons, List.mapM_cons, ih]
    rfl
/-- a dict comprehension over things that come from a list, keys all different -/
theorem dcx_is {α : Type} {src : MI} {v : Nat} {mk mv : ME} {ρ : Ro} (xs : List α) (j : α → D) (key : α → Int) (val : α → D) (h1 : src ρ = some (.ok (xs.map j))) (h2 : noOwn ρ [v] = true) (h3 : xs.length ≤ 900) (nd : (xs.map key).Nodup) (h : ∀ x ∈ xs, mk ((wipeR ρ [v]).set v (some (j x, false))) = some (.ok (.int (key x))) ∧ mv ((wipeR ρ [v]).set v (some (j x, false))) = some (.ok (val x))) :
    mDc src [v] (gD v) mYes mk mv ρ = some (.ok (.dK (xs.map fun x => (Sum.inl (key x), val x)))) := by
  rw [mDc_eq, h1, bnd_ok, guard_t ⟨h2, lim900 (by simpa using h3)⟩]
  have go : ∀ (l : List α) (acc : List (Key × D)), (∀ x ∈ l, x ∈ xs) → (acc.map (·.1) ++ l.map fun x => (Sum.inl (key x) : Key)).Nodup → dcGo (gD v) mYes mk mv (wipeR ρ [v]) (l.map j) acc = some (acc ++ l.map fun x => (Sum.inl (key x), val x)) := by
    intro l
    induction l with
    | nil => intro acc _ _; rw [List.map_nil, List.map_nil, List.append_nil]; rfl
    | cons x l ih =>
      intro acc hx nd
      obtain ⟨a, b⟩ := h x (hx x List.mem_cons_self)
      have new : (Sum.inl (key x) : Key) ∉ acc.map (·.1) := fun z => (List.nodup_append.mp nd).2.2 _ z _ List.mem_cons_self rfl
      have e := ih (acc ++ [(Sum.inl (key x), val x)]) (fun y hy => hx y (List.mem_cons_of_mem _ hy)) (by simpa using nd)
      rw [List.map_cons]
      unfold dcGo
      rw [gD_eq, Option.bind_some]
      show (match mk ((wipeR ρ [v]).set v (some (j x, false))) with | some (.ok kd) => (match mv ((wipeR ρ [v]).set v (some (j x, false))) with | some (.ok y) => (keyD kd).bind fun k => dcGo (gD v) mYes mk mv (wipeR ρ [v]) (l.map j) (ptD acc k y) | _ => none) | _ => none) = _
      rw [a]
      dsimp only
      rw [b]
      dsimp only
      show (some (Sum.inl (key x) : Key)).bind _ = _
      rw [Option.bind_some, ptD_new new, e]
      simp
  rw [go xs [] (fun _ hx => hx) (by
    show (([] : List Key) ++ _).Nodup
    rw [List.nil_append]
    have : (xs.map fun x => (Sum.inl (key x) : Key)) = (xs.map key).map Sum.inl := by rw [List.map_map]; rfl
    rw [this]
    exact List.Pairwise.map _ (fun a b h z => h (Sum.inl.inj z)) nd)]
  rfl
/-- the places of a list's numbers, as a dict -/
def idxD : List Int → Nat → List (Key × D)
  | [], _ => []
  | x :: l, off => (.inl x, .int (off : Int)) :: idxD l (off + 1)
theorem idxD_at : ∀ (l : List Int) (off : Nat) (x : Int), x ∈ l → lkD (idxD l off) (Sum.inl x : Key) = some (.int ((off + l.idxOf x : Nat) : Int))
  | y :: l, off, x, h => by
    unfold idxD lkD
    rw [List.find?_cons]
    by_cases e : y = x
    · subst e
      simp
    · have e2 : decide ((Sum.inl y : Key) = Sum.inl x) = false := decide_eq_false fun z => e (Sum.inl.inj z)
      have hx : x ∈ l := by
        rcases List.mem_cons.mp h with z | z
        · exact absurd z.symm e
        · exact z
      have ih := idxD_at l (off + 1) x hx
      unfold lkD at ih
      dsimp only
      rw [e2]
      dsimp only
      rw [ih, List.idxOf_cons]
      have e3 : (y == x) = false := by simpa using e
      rw [e3]
      simp only [cond_false]
      congr 3
      omega
theorem idxD_rng (l : List Int) : ∀ (m : Nat), m ≤ l.length → ((List.range' m (l.length - m)).map fun i : Nat => ((Sum.inl (l.getD i 0) : Key), D.int (i : Int))) = idxD (l.drop m) m := by
  intro m hm
  obtain ⟨r, hr⟩ : ∃ r, r = l.length - m := ⟨_, rfl⟩
  induction r generalizing m with
  | zero =>
    rw [show l.length - m = 0 by omega, show l.drop m = [] by rw [List.drop_eq_nil_iff]; omega]
    rfl
  | succ r ih =>
    have hlt : m < l.length := by omega
    rw [show l.length - m = (l.length - (m + 1)) + 1 by omega, List.range'_succ, List.map_cons, ih (m + 1) (by omega) (by omega), List.drop_eq_getElem_cons hlt]
    rw [List.getD_eq_getElem?_getD, List.getElem?_eq_getElem hlt]
    rfl
theorem idxD_rng0 (l : List Int) : ((List.range l.length).map fun i : Nat => ((Sum.inl (l.getD i 0) : Key), D.int (i : Int))) = idxD l 0 := by
  have := idxD_rng l 0 (Nat.zero_le _)
  rwa [Nat.sub_zero, List.drop_zero, ← List.range_eq_range'] at this
theorem idxD_get (l : List Int) (x : Int) (h : x ∈ l) : dIx (.dK (idxD l 0)) (.int x) = some (.ok (.int ((l.idxOf x : Nat) : Int))) := by
  show ((some (Sum.inl x : Key)).bind (lkD (idxD l 0))).map Except.ok = _
  rw [Option.bind_some, idxD_at l 0 x h, Nat.zero_add]
  rfl
theorem atI_last (l : List Int) (h : l ≠ []) : L2.atI (l.map D.int) (-1) = some (.int (l.getD (l.length - 1) 0)) := by
  have hl := List.length_pos_iff.mpr h
  unfold L2.atI ixN
  have h1 : ¬ (0 : Int) ≤ -1 := by omega
  have h2 : -((l.map D.int).length : Int) ≤ -1 := by rw [List.length_map]; omega
  rw [if_neg h1, if_pos h2, List.length_map, Option.bind_some, show (-1 + (l.length : Int)).toNat = l.length - 1 by omega]
  simp [List.getD_eq_getElem?_getD, List.getElem?_eq_getElem (show l.length - 1 < l.length by omega)]
theorem maxI_some : ∀ {l : List Int}, l ≠ [] → ∃ m, maxI l = some m
  | m :: l, _ => ⟨mx m l, maxI_mx m l⟩
/-- the least of a list -/
def mn (m : Int) : List Int → Int
  | [] => m
  | x :: l => mn (if x < m then x else m) l
theorem minI_mn : ∀ (m : Int) (l : List Int), minI (m :: l) = some (mn m l)
  | m, [] => by unfold minI mn; rfl
  | m, x :: l => by unfold minI mn; exact minI_mn _ l
theorem minI_low {l : List Int} {m : Int} (h1 : m ∈ l) (h2 : ∀ x ∈ l, m ≤ x) : minI l = some m := by
  cases l with
  | nil => cases h1
  | cons a l =>
    have h3 := minI_mn a l
    obtain ⟨h4, h5⟩ := minI_is _ _ h3
    rw [h3]
    exact congrArg some (Int.le_antisymm (h5 m h1) (h2 _ h4))
theorem maxI_high {l : List Int} {m : Int} (h1 : m ∈ l) (h2 : ∀ x ∈ l, x ≤ m) : maxI l = some m := by
  cases l with
  | nil => cases h1
  | cons a l =>
    have h3 := maxI_mx a l
    obtain ⟨h4, h5⟩ := maxI_is _ _ h3
    rw [h3]
    exact congrArg some (Int.le_antisymm (h2 _ h4) (h5 m h1))
theorem dMin_t (l : List Int) (m : Int) (h1 : m ∈ l) (h2 : ∀ x ∈ l, m ≤ x) : dMin [.tup (l.map D.int)] = some (.ok (.int m)) := by
  show (ints? (l.map D.int)).bind (fun ns => (minI ns).map fun m => (.ok (.int m) : Except EN D)) = _
  rw [ints?_map, Option.bind_some, minI_low h1 h2]
  rfl
theorem dMin_ll (l : List Int) (m : Int) (h1 : m ∈ l) (h2 : ∀ x ∈ l, m ≤ x) : dMin [.lst (l.map D.int)] = some (.ok (.int m)) := by
  show (ints? (l.map D.int)).bind (fun ns => (minI ns).map fun m => (.ok (.int m) : Except EN D)) = _
  rw [ints?_map, Option.bind_some, minI_low h1 h2]
  rfl
theorem mapD_list (f : Int → Int) (S : List Int) : dList [.dK (mapD f S)] = some (.ok (.lst (S.map D.int))) := by
  show some (Except.ok (D.lst ((mapD f S).map fun kd => kD kd.1))) = _
  unfold mapD
  rw [List.map_map]
  rfl
theorem mapD_put (f : Int → Int) (S : List Int) (x : Int) (h : x ∉ S) (hl : S.length < 1000000) : dSet (.dK (mapD f S)) (.int x) (.int (f x)) = some (.dK (mapD f (S ++ [x]))) := by
  unfold dSet
  show (some (Sum.inl x : Key)).bind (fun k => if (mapD f S).length < lim then some (D.dK (ptD (mapD f S) k (.int (f x)))) else none) = _
  rw [Option.bind_some, if_pos (show (mapD f S).length < lim by unfold mapD; rw [List.length_map]; exact hl), ptD_new]
  · unfold mapD
    rw [List.map_append]
    rfl
  · unfold mapD
    rw [List.map_map]
    intro z
    obtain ⟨y, hy, e⟩ := List.mem_map.mp z
    cases Sum.inl.inj e
    exact h hy
/-- one ring of a map -/
structure IsRing (f : Int → Int) (c : List Int) : Prop where
  ne : c ≠ []
  step : ∀ k, k + 1 < c.length → f (c.getD k 0) = c.getD (k + 1) 0
  last : f (c.getD (c.length - 1) 0) = c.getD 0 0
structure Rings (f : Int → Int) (S : List Int) (R : List (List Int)) : Prop where
  ring : ∀ c ∈ R, IsRing f c
  perm : R.flatten.Perm S
  low : ∀ c ∈ R, ∀ x ∈ c, c.getD 0 0 ≤ x
  asc : R.Pairwise fun c d => c.getD 0 0 < d.getD 0 0
/-- what leads into a ring lies in it -/
theorem IsRing.into {f : Int → Int} {c : List Int} (h : IsRing f c) {y : Int} (hy : y ∈ c) : ∃ z ∈ c, f z = y := by
  obtain ⟨k, hk, e⟩ := List.getElem_of_mem hy
  have e' : c.getD k 0 = y := by rw [List.getD_eq_getElem?_getD, List.getElem?_eq_getElem hk]; exact e
  cases k with
  | zero => exact ⟨_, getD_mem c (c.length - 1) 0 (by omega), by rw [h.last, e']⟩
  | succ k => exact ⟨_, getD_mem c k 0 (by omega), by rw [h.step k hk, e']⟩
theorem IsRing.out {f : Int → Int} {c : List Int} (h : IsRing f c) {y : Int} (hy : y ∈ c) : f y ∈ c := by
  obtain ⟨k, hk, e⟩ := List.getElem_of_mem hy
  have e' : c.getD k 0 = y := by rw [List.getD_eq_getElem?_getD, List.getElem?_eq_getElem hk]; exact e
  rw [← e']
  by_cases z : k + 1 < c.length
  · rw [h.step k z]
    exact getD_mem _ _ _ z
  · rw [show k = c.length - 1 by omega, h.last]
    exact getD_mem _ _ _ (by omega)
/-- a walk from a place on: a, f a, f (f a), .. -/
def orb (f : Int → Int) (a : Int) : Nat → List Int
  | 0 => []
  | m + 1 => a :: orb f (f a) m
def itf (f : Int → Int) (a : Int) : Nat → Int
  | 0 => a
  | m + 1 => f (itf f a m)
theorem itf_f (f : Int → Int) : ∀ (m : Nat) (a : Int), itf f (f a) m = f (itf f a m)
  | 0, _ => rfl
  | m + 1, a => congrArg f (itf_f f m a)
theorem orb_len (f : Int → Int) : ∀ (m : Nat) (a : Int), (orb f a m).length = m
  | 0, _ => rfl
  | m + 1, a => congrArg (· + 1) (orb_len f m (f a))
theorem orb_at (f : Int → Int) : ∀ (m : Nat) (a : Int) (k : Nat), k < m → (orb f a m).getD k 0 = itf f a k
  | m + 1, a, 0, _ => rfl
  | m + 1, a, k + 1, h => by
    show (a :: orb f (f a) m).getD (k + 1) 0 = _
    rw [List.getD_cons_succ, orb_at f m (f a) k (by omega), itf_f]
    rfl
theorem orb_snoc (f : Int → Int) : ∀ (m : Nat) (a : Int), orb f a m ++ [itf f a m] = orb f a (m + 1)
  | 0, _ => rfl
  | m + 1, a => by
    show a :: (orb f (f a) m ++ [itf f a (m + 1)]) = a :: orb f (f a) (m + 1)
    rw [← orb_snoc f m (f a), itf_f]
    rfl
theorem orb_mem {f : Int → Int} {m : Nat} {a x : Int} (h : x ∈ orb f a m) : ∃ k, k < m ∧ x = itf f a k := by
  obtain ⟨k, hk, e⟩ := List.getElem_of_mem h
  rw [orb_len] at hk
  refine ⟨k, hk, ?_⟩
  rw [← orb_at f m a k hk, ← e, List.getD_eq_getElem?_getD, List.getElem?_eq_getElem (by rw [orb_len]; exact hk)]
  rfl
/-- the walk closes at its start -/
theorem orb_ring {f : Int → Int} {S : List Int} (into : ∀ x ∈ S, f x ∈ S) (inj : ∀ x ∈ S, ∀ y ∈ S, f x = f y → x = y) {a : Int} {m : Nat} (hm : 0 < m) (ha : a ∈ S) (nd : (orb f a m).Nodup) (h : itf f a m ∈ orb f a m) : IsRing f (orb f a m) := by
  have inS : ∀ k, itf f a k ∈ S := fun k => by
    induction k with
    | zero => exact ha
    | succ k ih => exact into _ ih
  obtain ⟨j, hj, e⟩ := orb_mem h
  have j0 : j = 0 := by
    cases j with
    | zero => rfl
    | succ j =>
      obtain ⟨m', rfl⟩ : ∃ m', m = m' + 1 := ⟨m - 1, by omega⟩
      have := inj _ (inS m') _ (inS j) e
      have h1 := orb_at f (m' + 1) a m' (by omega)
      have h2 := orb_at f (m' + 1) a j (by omega)
      have := getD_inj nd (i := m') (j := j) (by rw [orb_len]; omega) (by rw [orb_len]; omega) 0 (by rw [h1, h2, this])
      omega
  subst j0
  refine ⟨fun z => ?_, fun k hk => ?_, ?_⟩
  · have := orb_len f m a
    rw [z] at this
    simp at this
    omega
  · rw [orb_len] at hk
    rw [orb_at f m a k (by omega), orb_at f m a (k + 1) hk]
    rfl
  · rw [orb_len, orb_at f m a (m - 1) (by omega), orb_at f m a 0 hm]
    have e2 : itf f a m = f (itf f a (m - 1)) := by
      obtain ⟨m', rfl⟩ : ∃ m', m = m' + 1 := ⟨m - 1, by omega⟩
      rfl
    rw [← e2, e]
end DL

set_option Elab.async false
set_option linter.all false
set_option maxRecDepth 100000
set_option maxHeartbeats 1000000
set_option autoImplicit false
/-! DLv: tuples of tuples; least and greatest of a list. -/
namespace DL
open PySem L2
def ttD (l : List (List Int)) : List D := l.map fun x => .tup (x.map D.int)
theorem ttD_len (l : List (List Int)) : (ttD l).length = l.length := by unfold ttD; simp
theorem ttD_app (l l' : List (List Int)) : ttD (l ++ l') = ttD l ++ ttD l' := by unfold ttD; rw [List.map_append]
theorem toPs_tt (n : Nat) : ∀ l : List (List Int), (ttD l).mapM (toP (n + 1)) = some (l.map fun x => PyData.tuple (x.map .int))
  | [] => rfl
  | a :: l => by
    show (D.tup (a.map D.int) :: ttD l).mapM (toP (n + 1)) = _
    rw [List.mapM_cons, toP_t, toPs_tt n l]
    rfl
theorem toP_tt (n : Nat) (l : List (List Int)) : toP (n + 2) (.tup (ttD l)) = some (.tuple (l.map fun x => PyData.tuple (x.map .int))) := by
  show ((ttD l).mapM (toP (n + 1))).map PyData.tuple = _
  rw [toPs_tt]
  rfl
theorem toP_lt (n : Nat) (l : List (List Int)) : toP (n + 2) (.lst (ttD l)) = some (.list (l.map fun x => PyData.tuple (x.map .int))) := by
  show ((ttD l).mapM (toP (n + 1))).map PyData.list = _
  rw [toPs_tt]
  rfl
theorem eqvAll_tt : ∀ l l' : List (List Int), PyData.eqvAll (l.map fun x => PyData.tuple (x.map .int)) (l'.map fun x => PyData.tuple (x.map .int)) = decide (l = l')
  | [], [] => by simp [PyData.eqvAll]
  | [], _ :: _ => by simp [PyData.eqvAll]
  | _ :: _, [] => by simp [PyData.eqvAll]
  | a :: l, b :: l' => by
    simp only [List.map_cons, PyData.eqvAll, PyData.eqv, eqvAll_ii, eqvAll_tt l l', List.cons.injEq]
    rw [Bool.decide_and]
theorem dEqv_tt (l l' : List (List Int)) : dEqv (.tup (ttD l)) (.tup (ttD l')) = some (decide (l = l')) := by
  unfold dEqv
  rw [toP_tt, toP_tt]
  show some (PyData.eqv _ _) = _
  rw [PyData.eqv, eqvAll_tt]
theorem dEqv_lt (l l' : List (List Int)) : dEqv (.lst (ttD l)) (.lst (ttD l')) = some (decide (l = l')) := by
  unfold dEqv
  rw [toP_lt, toP_lt]
  show some (PyData.eqv _ _) = _
  rw [PyData.eqv, eqvAll_tt]
theorem dEq_tt (l l' : List (List Int)) : dEq (.tup (ttD l)) (.tup (ttD l')) = some (.ok (.bl (decide (l = l')))) := dEq_of (dEqv_tt l l')
theorem dNe_tt (l l' : List (List Int)) : dNe (.tup (ttD l)) (.tup (ttD l')) = some (.ok (.bl (!decide (l = l')))) := dNe_of (dEqv_tt l l')
theorem dEq_lt (l l' : List (List Int)) : dEq (.lst (ttD l)) (.lst (ttD l')) = some (.ok (.bl (decide (l = l')))) := dEq_of (dEqv_lt l l')
theorem dNe_lt (l l' : List (List Int)) : dNe (.lst (ttD l)) (.lst (ttD l')) = some (.ok (.bl (!decide (l = l')))) := dNe_of (dEqv_lt l l')
/-! ### least and greatest -/
def mnL (l : List Int) : Int := mn (l.headD 0) l
def mxL (l : List Int) : Int := mx (l.headD 0) l
theorem mnL_is {l : List Int} (h : l ≠ []) : mnL l ∈ l ∧ ∀ x ∈ l, mnL l ≤ x := by
  cases l with
  | nil => exact absurd rfl h
  | cons a l =>
    have e : mnL (a :: l) = mn a l := by
      show mn a (a :: l) = mn a l
      unfold mn
      rw [if_neg (by omega)]
      cases l <;> rfl
    rw [e]
    exact minI_is _ _ (minI_mn a l)
theorem mxL_is {l : List Int} (h : l ≠ []) : mxL l ∈ l ∧ ∀ x ∈ l, x ≤ mxL l := by
  cases l with
  | nil => exact absurd rfl h
  | cons a l =>
    have e : mxL (a :: l) = mx a l := by
      show mx a (a :: l) = mx a l
      unfold mx
      rw [if_neg (by omega)]
      cases l <;> rfl
    rw [e]
    exact maxI_is _ _ (maxI_mx a l)
theorem mnL_eq {l : List Int} {m : Int} (h1 : m ∈ l) (h2 : ∀ x ∈ l, m ≤ x) : mnL l = m := by
  obtain ⟨h3, h4⟩ := mnL_is (List.ne_nil_of_mem h1)
  exact Int.le_antisymm (h4 m h1) (h2 _ h3)
theorem mxL_eq {l : List Int} {m : Int} (h1 : m ∈ l) (h2 : ∀ x ∈ l, x ≤ m) : mxL l = m := by
  obtain ⟨h3, h4⟩ := mxL_is (List.ne_nil_of_mem h1)
  exact Int.le_antisymm (h2 _ h3) (h4 m h1)
theorem isort_0 {l : List Int} (h : l ≠ []) : (isort l).getD 0 0 = mnL l := by
  have p := isort_perm l
  have hn : 0 < (isort l).length := by rw [p.length_eq]; exact List.length_pos_iff.mpr h
  refine (mnL_eq (p.mem_iff.mp (getD_mem _ _ _ hn)) fun x hx => ?_).symm
  obtain ⟨k, hk, e⟩ := List.getElem_of_mem (p.mem_iff.mpr hx)
  rw [List.getD_eq_getElem?_getD, List.getElem?_eq_getElem hn, ← e]
  rcases Nat.eq_zero_or_pos k with z | z
  · subst z
    exact Int.le_refl _
  · exact List.pairwise_iff_getElem.mp (isort_sorted l) 0 k hn hk z
theorem isort_last {l : List Int} (h : l ≠ []) : (isort l).getD ((isort l).length - 1) 0 = mxL l := by
  have p := isort_perm l
  have hn : 0 < (isort l).length := by rw [p.length_eq]; exact List.length_pos_iff.mpr h
  refine (mxL_eq (p.mem_iff.mp (getD_mem _ _ _ (by omega))) fun x hx => ?_).symm
  obtain ⟨k, hk, e⟩ := List.getElem_of_mem (p.mem_iff.mpr hx)
  rw [List.getD_eq_getElem?_getD, List.getElem?_eq_getElem (show (isort l).length - 1 < (isort l).length by omega), ← e]
  rcases Nat.lt_or_ge k ((isort l).length - 1) with z | z
  · exact List.pairwise_iff_getElem.mp (isort_sorted l) k _ hk (by omega) z
  · have : k = (isort l).length - 1 := by omega
    subst this
    exact Int.le_refl _
theorem range'_snoc (a n : Nat) : List.range' a (n + 1) = List.range' a n ++ [a + n] := by
  rw [List.range'_concat]
  simp
end DL

set_option Elab.async false
set_option linter.all false
set_option maxRecDepth 100000
set_option maxHeartbeats 1000000
set_option autoImplicit false
/-! DLw: loops with any target; rings along two kinds of lines by turns. -/
namespace DL
open PySem L2
theorem for_invG {g : MG} {body : MS} (I : Nat → Ro → Prop) : ∀ (xs : List D) (m : Nat), (∀ (k : Nat) (x : D) (ρ : Ro), xs[k]? = some x → I (m + k) ρ → ∃ ρ1 ρ', g x ρ = some ρ1 ∧ (body ρ1 = some (.nx ρ') ∨ body ρ1 = some (.ct ρ')) ∧ I (m + k + 1) ρ') → ∀ (ρ : Ro), I m ρ → ∃ ρ', forGo g body xs ρ = some (.nx ρ') ∧ I (m + xs.length) ρ'
  | [], m, _, ρ, h => ⟨ρ, rfl, h⟩
  | x :: xs, m, st, ρ, h => by
    obtain ⟨ρ0, ρ1, e0, e1, i1⟩ := st 0 x ρ rfl h
    obtain ⟨ρ2, e2, i2⟩ := for_invG I xs (m + 1) (fun k y ρ e i => by
      have := st (k + 1) y ρ (by simpa using e) (by rw [show m + (k + 1) = m + 1 + k by omega]; exact i)
      rw [show m + (k + 1) + 1 = m + 1 + k + 1 by omega] at this
      exact this) ρ1 i1
    refine ⟨ρ2, ?_, by rw [List.length_cons, show m + (xs.length + 1) = m + 1 + xs.length by omega]; exact i2⟩
    rw [forGo_cons, e0, Option.bind_some]
    rcases e1 with e1 | e1
    · rw [e1, forO_nx]; exact e2
    · rw [e1, forO_ct]; exact e2
theorem isort_eq {a b : List Int} (p : a.Perm b) : isort a = isort b := sorted_unique ((isort_perm a).trans (p.trans (isort_perm b).symm)) (isort_sorted a) (isort_sorted b)
theorem isort_id {a : List Int} (h : a.Pairwise (· ≤ ·)) : isort a = a := sorted_unique (isort_perm a) (isort_sorted a) h
def augO (s : Option (Option (D × Bool))) (i : Nat) (g : D → D → R D) (m : ME) (ρ : Ro) : Option Out := match s with
  | some (some (old, false)) => sE (m ρ) ρ fun d => sE (g old d) ρ fun new => some (.nx (ρ.set i (some (new, false))))
  | _ => none
theorem mAug_eq (i : Nat) (g : D → D → R D) (m : ME) (ρ : Ro) : mAug i g m ρ = augO (ρ[i]?) i g m ρ := (rfl)
theorem augO_s (d : D) (i : Nat) (g : D → D → R D) (m : ME) (ρ : Ro) : augO (some (some (d, false))) i g m ρ = sE (m ρ) ρ fun e => sE (g d e) ρ fun new => some (.nx (ρ.set i (some (new, false)))) := (rfl)
theorem dAddA_i (a b : Int) : dAddA (.int a) (.int b) = some (.ok (.int (a + b))) := (rfl)
theorem dIsN_b (a b : Bool) : dIsN (.bl a) (.bl b) = some (.ok (.bl (decide (a = b)))) := (rfl)
theorem dNotN_b (a b : Bool) : dNotN (.bl a) (.bl b) = some (.ok (.bl (!decide (a = b)))) := (rfl)
theorem any_ints (x : Int) : ∀ l : List Int, ((l.map PyData.int).any fun y => PyData.eqv y (.int x)) = decide (x ∈ l)
  | [] => by simp
  | a :: l => by
    rw [List.map_cons, List.any_cons, any_ints x l, eqv_ii, Bool.eq_iff_iff, Bool.or_eq_true, decide_eq_true_eq, decide_eq_true_eq, decide_eq_true_eq, List.mem_cons]
    exact ⟨fun h => h.imp Eq.symm id, fun h => h.imp Eq.symm id⟩
theorem dHas_l (l : List Int) (x : Int) : dHas (.int x) (.lst (l.map D.int)) = some (decide (x ∈ l)) := by
  have e : toPs 31 (l.map D.int) = some (l.map PyData.int) := toPs_i 31 l
  have e2 : toP 32 (.int x) = some (.int x) := toP_i 32 x
  show (match toP 32 (.int x), toPs 31 (l.map D.int) with | some p, some q => some (q.any fun y => PyData.eqv y p) | _, _ => none) = _
  rw [e, e2]
  exact congrArg some (any_ints x l)
theorem dHas_t (l : List Int) (x : Int) : dHas (.int x) (.tup (l.map D.int)) = some (decide (x ∈ l)) := by
  have e : toPs 31 (l.map D.int) = some (l.map PyData.int) := toPs_i 31 l
  have e2 : toP 32 (.int x) = some (.int x) := toP_i 32 x
  show (match toP 32 (.int x), toPs 31 (l.map D.int) with | some p, some q => some (q.any fun y => PyData.eqv y p) | _, _ => none) = _
  rw [e, e2]
  exact congrArg some (any_ints x l)
theorem dIn_l (l : List Int) (x : Int) : dIn (.int x) (.lst (l.map D.int)) = some (.ok (.bl (decide (x ∈ l)))) := by unfold dIn; rw [dHas_l]
theorem dNotIn_l (l : List Int) (x : Int) : dNotIn (.int x) (.lst (l.map D.int)) = some (.ok (.bl (!decide (x ∈ l)))) := by unfold dNotIn; rw [dHas_l]
theorem dIn_t (l : List Int) (x : Int) : dIn (.int x) (.tup (l.map D.int)) = some (.ok (.bl (decide (x ∈ l)))) := by unfold dIn; rw [dHas_t]
theorem dNotIn_t (l : List Int) (x : Int) : dNotIn (.int x) (.tup (l.map D.int)) = some (.ok (.bl (!decide (x ∈ l)))) := by unfold dNotIn; rw [dHas_t]
theorem seen_old (l : List Int) (x : Int) (h : x ∈ l) (hl : l.length < 1000000) : dSet (.dK (seenD l)) (.int x) (.bl true) = some (.dK (seenD l)) := by
  unfold dSet
  show (some (Sum.inl x : Key)).bind (fun k => if (seenD l).length < lim then some (D.dK (ptD (seenD l) k (.bl true))) else none) = _
  rw [Option.bind_some, if_pos (show (seenD l).length < lim by unfold seenD; rw [List.length_map]; exact hl)]
  unfold ptD
  rw [if_pos]
  · congr 2
    unfold seenD
    rw [List.map_map]
    refine List.map_congr_left fun y _ => ?_
    show (if (Sum.inl y : Key) = Sum.inl x then ((Sum.inl y : Key), D.bl true) else (Sum.inl y, D.bl true)) = _
    split <;> rfl
  · unfold seenD
    rw [List.any_eq_true]
    exact ⟨(Sum.inl x, D.bl true), List.mem_map.mpr ⟨x, h, rfl⟩, decide_eq_true rfl⟩
/-- a loop that may be left early -/
theorem for_invB {body : MS} {v : Nat} (I : Nat → Ro → Prop) (Q : Ro → Prop) : ∀ (xs : List D) (m : Nat), (∀ (k : Nat) (x : D) (ρ : Ro), xs[k]? = some x → I (m + k) ρ → (∃ ρ', (body (ρ.set v (some (x, false))) = some (.nx ρ') ∨ body (ρ.set v (some (x, false))) = some (.ct ρ')) ∧ I (m + k + 1) ρ') ∨ (∃ ρ', body (ρ.set v (some (x, false))) = some (.bk ρ') ∧ Q ρ')) → ∀ (ρ : Ro), I m ρ → ∃ ρ', forGo (gD v) body xs ρ = some (.nx ρ') ∧ (I (m + xs.length) ρ' ∨ Q ρ')
  | [], m, _, ρ, h => ⟨ρ, rfl, .inl h⟩
  | x :: xs, m, st, ρ, h => by
    rw [forGo_cons, gD_eq, Option.bind_some]
    rcases st 0 x ρ rfl h with ⟨ρ1, e1, i1⟩ | ⟨ρ1, e1, q1⟩
    · obtain ⟨ρ2, e2, i2⟩ := for_invB I Q xs (m + 1) (fun k y ρ e i => by
        have := st (k + 1) y ρ (by simpa using e) (by rw [show m + (k + 1) = m + 1 + k by omega]; exact i)
        rw [show m + (k + 1) + 1 = m + 1 + k + 1 by omega] at this
        exact this) ρ1 i1
      refine ⟨ρ2, ?_, by rw [List.length_cons, show m + (xs.length + 1) = m + 1 + xs.length by omega]; exact i2⟩
      rcases e1 with e1 | e1
      · rw [e1, forO_nx]; exact e2
      · rw [e1, forO_ct]; exact e2
    · exact ⟨ρ1, by rw [e1, forO_bk], .inr q1⟩
structure Invo (d : Int → Int) (S : List Int) : Prop where
  into : ∀ x ∈ S, d x ∈ S
  inv : ∀ x ∈ S, d (d x) = x
  ne : ∀ x ∈ S, d x ≠ x
def full (d : Int → Int) (b : List Int) : List Int := b.flatMap fun x => [x, d x]
theorem full_len (d : Int → Int) : ∀ b : List Int, (full d b).length = 2 * b.length
  | [] => rfl
  | x :: b => by
    have := full_len d b
    show (x :: d x :: full d b).length = _
    rw [List.length_cons, List.length_cons, List.length_cons, this]
    omega
theorem full_cons (d : Int → Int) (x : Int) (b : List Int) : full d (x :: b) = x :: d x :: full d b := rfl
theorem full_app (d : Int → Int) (b c : List Int) : full d (b ++ c) = full d b ++ full d c := by unfold full; rw [List.flatMap_append]
theorem full_mem {d : Int → Int} {b : List Int} {x : Int} : x ∈ full d b ↔ x ∈ b ∨ ∃ y ∈ b, x = d y := by
  unfold full
  rw [List.mem_flatMap]
  constructor
  · rintro ⟨y, hy, h⟩
    rcases List.mem_cons.mp h with e | h
    · subst e; exact .inl hy
    · rw [List.mem_singleton] at h
      exact .inr ⟨y, hy, h⟩
  · rintro (h | ⟨y, hy, e⟩)
    · exact ⟨x, h, by simp⟩
    · exact ⟨y, hy, by rw [e]; simp⟩
theorem full_even (d : Int → Int) : ∀ (b : List Int) (k : Nat), k < b.length → (full d b).getD (2 * k) 0 = b.getD k 0 ∧ (full d b).getD (2 * k + 1) 0 = d (b.getD k 0)
  | x :: b, 0, _ => ⟨rfl, rfl⟩
  | x :: b, k + 1, h => by
    have ih := full_even d b k (by simpa using h)
    rw [full_cons, show 2 * (k + 1) = 2 * k + 1 + 1 by omega]
    simp only [List.getD_cons_succ]
    exact ih
theorem full_sep {d : Int → Int} : ∀ {b : List Int}, (full d b).Nodup → (∀ x ∈ b, ∀ y ∈ b, x ≠ d y) ∧ b.Nodup
  | [], _ => ⟨fun x h => by simp at h, List.nodup_nil⟩
  | c :: b, nd => by
    rw [full_cons] at nd
    obtain ⟨n1, nd⟩ := List.nodup_cons.mp nd
    obtain ⟨n2, nd⟩ := List.nodup_cons.mp nd
    obtain ⟨ih, ihn⟩ := full_sep nd
    refine ⟨fun x hx y hy => ?_, List.nodup_cons.mpr ⟨fun z => n1 (List.mem_cons_of_mem _ (full_mem.mpr (.inl z))), ihn⟩⟩
    rcases List.mem_cons.mp hx with e1 | h1
    · rcases List.mem_cons.mp hy with e2 | h2
      · rw [e1, e2]
        exact fun z => n1 (by rw [← z]; exact List.mem_cons_self)
      · rw [e1]
        exact fun z => n1 (List.mem_cons_of_mem _ (full_mem.mpr (.inr ⟨y, h2, z⟩)))
    · rcases List.mem_cons.mp hy with e2 | h2
      · rw [e2]
        exact fun z => n2 (by rw [← z]; exact full_mem.mpr (.inl h1))
      · exact ih x h1 y h2
/-- the rings along d and l by turns; R tells each one's every second spot -/
structure DRings (d l : Int → Int) (S : List Int) (R : List (List Int)) : Prop where
  ring : ∀ b ∈ R, IsRing (fun x => l (d x)) b
  perm : (R.flatMap (full d)).Perm S
  low : ∀ b ∈ R, ∀ x ∈ full d b, b.getD 0 0 ≤ x
  asc : R.Pairwise fun b c => b.getD 0 0 < c.getD 0 0
theorem dring_close {d l : Int → Int} {S : List Int} (hd : Invo d S) (hl : Invo l S) {a : Int} {m : Nat} (hm : 0 < m) (ha : a ∈ S) (nd : (full d (orb (fun x => l (d x)) a m)).Nodup) (h : itf (fun x => l (d x)) a m ∈ full d (orb (fun x => l (d x)) a m)) : IsRing (fun x => l (d x)) (orb (fun x => l (d x)) a m) := by
  have gin : ∀ x ∈ S, l (d x) ∈ S := fun x hx => hl.into _ (hd.into x hx)
  have ginj : ∀ x ∈ S, ∀ y ∈ S, l (d x) = l (d y) → x = y := fun x hx y hy e => by
    have e1 := congrArg l e
    rw [hl.inv _ (hd.into x hx), hl.inv _ (hd.into y hy)] at e1
    have e2 := congrArg d e1
    rwa [hd.inv x hx, hd.inv y hy] at e2
  have inS : ∀ k, itf (fun x => l (d x)) a k ∈ S := fun k => by
    induction k with
    | zero => exact ha
    | succ k ih => exact gin _ ih
  obtain ⟨sep, nb⟩ := full_sep nd
  have inO : ∀ k, k < m → itf (fun x => l (d x)) a k ∈ orb (fun x => l (d x)) a m := fun k hk => by
    rw [← orb_at (fun x => l (d x)) m a k hk]
    exact getD_mem _ _ _ (by rw [orb_len]; exact hk)
  refine orb_ring gin ginj hm ha nb ?_
  rcases full_mem.mp h with h | ⟨y, hy, e⟩
  · exact h
  · exfalso
    obtain ⟨j, hj, rfl⟩ := orb_mem hy
    obtain ⟨m', rfl⟩ : ∃ m', m = m' + 1 := ⟨m - 1, by omega⟩
    have e : l (d (itf (fun x => l (d x)) a m')) = d (itf (fun x => l (d x)) a j) := e
    have e1 := congrArg l e
    rw [hl.inv _ (hd.into _ (inS m'))] at e1
    have e1 : d (itf (fun x => l (d x)) a m') = itf (fun x => l (d x)) a (j + 1) := e1
    by_cases z : j + 1 < m' + 1
    · exact sep _ (inO (j + 1) z) _ (inO m' (by omega)) e1.symm
    · have : j = m' := by omega
      subst this
      exact hl.ne _ (hd.into _ (inS j)) e1.symm
end DL

set_option Elab.async false
set_option linter.all false
set_option maxRecDepth 100000
set_option maxHeartbeats 1000000
set_option autoImplicit false
/-! DLx: pairs of a list that stand in some relation, counted. -/
namespace DL
open PySem L2
def cp (s : Int → Int → Bool) : List Int → Nat
  | [] => 0
  | x :: l => (l.filter (s x)).length + cp s l
theorem cp_map (s : Int → Int → Bool) (f : Int → Int) : ∀ l : List Int, cp s (l.map f) = cp (fun x y => s (f x) (f y)) l
  | [] => rfl
  | x :: l => by
    rw [List.map_cons]
    unfold cp
    rw [cp_map s f l, List.filter_map, List.length_map]
    rfl
theorem filter_len_congr {p q : Int → Bool} {l : List Int} (h : ∀ x ∈ l, p x = q x) : (l.filter p).length = (l.filter q).length := by
  rw [List.filter_congr h]
theorem cp_congr {s t : Int → Int → Bool} : ∀ {l : List Int}, l.Pairwise (fun x y => s x y = t x y) → cp s l = cp t l
  | [], _ => rfl
  | x :: l, h => by
    obtain ⟨h1, h2⟩ := List.pairwise_cons.mp h
    unfold cp
    rw [filter_len_congr h1, cp_congr h2]
theorem cp_le (s : Int → Int → Bool) : ∀ l : List Int, cp s l ≤ l.length * l.length
  | [] => Nat.le_refl _
  | x :: l => by
    have h1 := cp_le s l
    have h2 := List.length_filter_le (s x) l
    unfold cp
    rw [List.length_cons, Nat.add_mul, Nat.mul_add]
    omega
theorem cp_perm {s : Int → Int → Bool} {l l' : List Int} (p : l.Perm l') : l.Nodup → (∀ x ∈ l, ∀ y ∈ l, x ≠ y → s x y = s y x) → cp s l = cp s l' := by
  induction p with
  | nil => exact fun _ _ => rfl
  | cons x p ih =>
    intro nd h
    obtain ⟨n1, n2⟩ := List.nodup_cons.mp nd
    unfold cp
    rw [ih n2 fun a ha b hb => h a (List.mem_cons_of_mem _ ha) b (List.mem_cons_of_mem _ hb), (p.filter (s x)).length_eq]
  | swap x y l =>
    intro nd h
    have ne : y ≠ x := fun z => (List.nodup_cons.mp nd).1 (z ▸ List.mem_cons_self)
    have e := h y (by simp) x (by simp) ne
    simp only [cp, List.filter_cons]
    rw [e]
    cases s x y <;> simp <;> omega
  | trans p q a b =>
    intro nd h
    rw [a nd h]
    exact b (p.nodup_iff.mp nd) fun x hx y hy => h x (p.mem_iff.mpr hx) y (p.mem_iff.mpr hy)
/-- two neighbors exchanged -/
theorem cp_adj (s : Int → Int → Bool) (x y : Int) (l : List Int) : ∀ l1 : List Int, cp s (l1 ++ y :: x :: l) + (if s x y = true then 1 else 0) = cp s (l1 ++ x :: y :: l) + (if s y x = true then 1 else 0)
  | [] => by
    simp only [List.nil_append, cp, List.filter_cons]
    cases s x y <;> cases s y x <;> simp <;> omega
  | a :: l1 => by
    have ih := cp_adj s x y l l1
    have e : ((l1 ++ y :: x :: l).filter (s a)).length = ((l1 ++ x :: y :: l).filter (s a)).length := (((List.Perm.swap x y l).append_left l1).filter (s a)).length_eq
    simp only [List.cons_append, cp]
    omega
theorem idx_lt_of_before : ∀ {a : List Int}, a.Nodup → a.Pairwise fun x y => a.idxOf x < a.idxOf y := fun {a} nd => by
  rw [List.pairwise_iff_getElem]
  intro i j hi hj h
  rw [nd.idxOf_getElem i hi, nd.idxOf_getElem j hj]
  exact h
/-- the pairs that two rows hold in different order -/
def dis (a b : List Int) (x y : Int) : Bool := decide (a.idxOf x < a.idxOf y) != decide (b.idxOf x < b.idxOf y)
theorem idx_ne {a : List Int} {x y : Int} (hx : x ∈ a) (hy : y ∈ a) (h : x ≠ y) : a.idxOf x ≠ a.idxOf y := fun e => h (by
  have h1 := List.idxOf_lt_length_of_mem hx
  have h2 := List.idxOf_lt_length_of_mem hy
  have e1 : a[a.idxOf x] = x := by simp
  have e2 : a[a.idxOf y] = y := by simp
  have e3 : a[a.idxOf x]? = a[a.idxOf y]? := by rw [e]
  rw [List.getElem?_eq_getElem h1, List.getElem?_eq_getElem h2, e1, e2] at e3
  exact Option.some.inj e3)
theorem inv_dis {a b : List Int} (na : a.Nodup) (m : ∀ x ∈ a, x ∈ b) : cp (fun x y => decide (b.idxOf y < b.idxOf x)) a = cp (dis a b) a := by
  refine cp_congr ?_
  have h := idx_lt_of_before na
  refine (List.pairwise_iff_forall_sublist (R := fun x y => decide (b.idxOf y < b.idxOf x) = dis a b x y)).mpr fun {x y} hs => ?_
  have hxy := List.pairwise_iff_forall_sublist.mp h hs
  have hx : x ∈ a := hs.subset (by simp)
  have hy : y ∈ a := hs.subset (by simp)
  have ne : x ≠ y := fun z => by subst z; omega
  have ni := idx_ne (m x hx) (m y hy) ne
  unfold dis
  rw [decide_eq_true hxy]
  by_cases c : b.idxOf x < b.idxOf y
  · rw [decide_eq_true c, decide_eq_false (by omega)]
    rfl
  · rw [decide_eq_false c, decide_eq_true (by omega)]
    rfl
theorem dis_sym {a b : List Int} {x y : Int} (ha : x ∈ a) (hb : x ∈ b) (ka : y ∈ a) (kb : y ∈ b) (h : x ≠ y) : dis a b x y = dis a b y x := by
  have n1 := idx_ne ha ka h
  have n2 := idx_ne hb kb h
  unfold dis
  by_cases c1 : a.idxOf x < a.idxOf y <;> by_cases c2 : b.idxOf x < b.idxOf y
  · rw [decide_eq_true c1, decide_eq_true c2, decide_eq_false (by omega), decide_eq_false (by omega)]; rfl
  · rw [decide_eq_true c1, decide_eq_false c2, decide_eq_false (by omega), decide_eq_true (by omega)]; rfl
  · rw [decide_eq_false c1, decide_eq_true c2, decide_eq_true (by omega), decide_eq_false (by omega)]; rfl
  · rw [decide_eq_false c1, decide_eq_false c2, decide_eq_true (by omega), decide_eq_true (by omega)]; rfl
/-- the pairs in the wrong order are as many there as back -/
theorem inv_back {a b : List Int} (na : a.Nodup) (p : a.Perm b) : cp (fun x y => decide (b.idxOf y < b.idxOf x)) a = cp (fun x y => decide (a.idxOf y < a.idxOf x)) b := by
  have nb := p.nodup_iff.mp na
  rw [inv_dis na fun x hx => p.mem_iff.mp hx, inv_dis nb fun x hx => p.mem_iff.mpr hx]
  rw [cp_perm p na fun x hx y hy h => dis_sym hx (p.mem_iff.mp hx) hy (p.mem_iff.mp hy) h]
  have e : dis b a = dis a b := by
    funext x y
    unfold dis
    cases decide (b.idxOf x < b.idxOf y) <;> cases decide (a.idxOf x < a.idxOf y) <;> rfl
  rw [e]
end DL

set_option Elab.async false
set_option linter.all false
set_option maxRecDepth 100000
set_option maxHeartbeats 1000000
set_option autoImplicit false
/-! DLy: common choices of two rows. -/
namespace DL
open PySem L2
/-- what stands in order in a row is a choice of it -/
theorem sub_of_idx : ∀ {l c : List Int}, l.Nodup → (∀ x ∈ c, x ∈ l) → c.Pairwise (fun x y => l.idxOf x < l.idxOf y) → c.Sublist l
  | [], c, _, h, _ => by
    cases c with
    | nil => exact .slnil
    | cons x c => exact absurd (h x List.mem_cons_self) (by simp)
  | y :: l, [], _, _, _ => List.nil_sublist _
  | y :: l, x :: c, nd, h, p => by
    obtain ⟨n1, n2⟩ := List.nodup_cons.mp nd
    obtain ⟨p1, p2⟩ := List.pairwise_cons.mp p
    have idx : ∀ z, z ≠ y → (y :: l).idxOf z = l.idxOf z + 1 := fun z hz => by
      rw [List.idxOf_cons]
      have : (y == z) = false := by simpa using fun e => hz e.symm
      rw [this]
      rfl
    by_cases e : x = y
    · subst e
      have i0 : (x :: l).idxOf x = 0 := by simp
      have ne : ∀ z ∈ c, z ≠ x := fun z hz q => by
        have := p1 z hz
        rw [q] at this
        omega
      refine (sub_of_idx n2 (fun z hz => ?_) ?_).cons₂ x
      · rcases List.mem_cons.mp (h z (List.mem_cons_of_mem _ hz)) with q | q
        · exact absurd q (ne z hz)
        · exact q
      · refine p2.imp_of_mem fun {a b} ha hb hab => ?_
        rw [idx a (ne a ha), idx b (ne b hb)] at hab
        omega
    · have ne : ∀ z ∈ x :: c, z ≠ y := fun z hz q => by
        rcases List.mem_cons.mp hz with k | k
        · exact e (k ▸ q)
        · have := p1 z k
          rw [q] at this
          simp at this
      refine (sub_of_idx n2 (fun z hz => ?_) ?_).cons y
      · rcases List.mem_cons.mp (h z hz) with q | q
        · exact absurd q (ne z hz)
        · exact q
      · refine p.imp_of_mem fun {a b} ha hb hab => ?_
        rw [idx a (ne a ha), idx b (ne b hb)] at hab
        omega
theorem idx_of_sub {l c : List Int} (nd : l.Nodup) (s : c.Sublist l) : c.Pairwise (fun x y => l.idxOf x < l.idxOf y) := (idx_lt_of_before nd).sublist s
theorem map_sub {α β : Type} (f : α → β) {l l' : List α} (s : l.Sublist l') : (l.map f).Sublist (l'.map f) := s.map f
/-- erasing one thing keeps a choice -/
theorem erase_len {c : List Int} (x : Int) : c.length ≤ (c.erase x).length + 1 := by
  rw [List.length_erase]
  split <;> omega
end DL

set_option Elab.async false
set_option linter.all false
set_option maxRecDepth 100000
set_option maxHeartbeats 1000000
set_option autoImplicit false
/-! DLz: tuples that are known to be nothing but tuples: tuple(list), t.index(x). -/
namespace DL
open PySem L2
section
open PySem.Spec PyProof.Rows
variable {X : Cx}
theorem call_tuple_X : CallR X (.type "tuple") (fun xs H Q => ∃ p ys, xs = [.ref p] ∧ SqL X.K H p ys ∧ ∀ l o, H l = none → o.dict = none → Q (.ref l) (upd H l (.frz o (.tup ys)))) := by
  intro pins s σ H xs us Q I r h
  obtain ⟨p, ys, rfl, hq, q⟩ := h
  obtain ⟨u, rfl, rx⟩ := vals1 r
  cases rx
  obtain ⟨its, r', pl, hz⟩ := I.list hq
  have hlen := r'.length
  refine call_tuple_list pl.isList (fun h' kp => ?_) (by simp only [List.size_toArray] <;> omega)
  have I1 : Inv X pins σ H { s with heap := h' } := I.kept (t' := s.toks) kp
  have I2 : Inv X pins σ (upd H h'.objs.size (.frz { cls := .type "tuple", data := .seq its.toArray } (.tup ys))) { s with heap := h'.push { cls := .type "tuple", data := .seq its.toArray } } :=
    I1.laid (t' := s.toks) (fun b o e => Heap.get?_push_of_some _ e) (Nat.le_refl _) (show ObjOk X.prog X.w _ _ _ (.frz _ (.tup ys)) from ⟨Heap.get?_push_size _ rfl, hz, its, r', IsTup.new _ _⟩)
  exact ⟨.ref h'.objs.size, _, I2, rfl, q _ _ (I1.hok.fresh (Nat.le_refl _)) rfl⟩
/-- t.index(i), the first place, of ints -/
def rIndexT (K : PySem.W.Frag) : V → List V → Hp → VK → Prop := fun x xs H Q => ∃ p, ∃ ys : List Int, ∃ z j, x = .ref p ∧ xs = [.int z] ∧ SqT K H p (ys.map V.int) ∧ ys[j]? = some z ∧ (∀ m, m < j → ys[m]? ≠ some z) ∧ Q (.int (j : Nat)) H
theorem mt_tup_indexI : MtR X "tuple.index" (rIndexT X.K) := by
  intro pins s σ H x xs v us Q I rx rs h
  obtain ⟨p, ys, z, j, rfl, rfl, hq, hy, hno, q⟩ := h
  cases rx
  obtain ⟨u, rfl, t, rfl⟩ := vals1 rs
  obtain ⟨its, r, pl, hz⟩ := I.tuple hq
  obtain ⟨⟨cls, dd, dt, sl⟩, ho, hc, n, hd⟩ := pl
  simp only at hc hd
  subst hc
  subst hd
  have hl : its.toArray.size = ys.length := by rw [List.size_toArray, ← r.length, List.length_map]
  have hj : j < its.toArray.size := by rw [hl]; exact (List.getElem?_eq_some_iff.mp hy).1
  have at' : ∀ (m : Nat) (hm : m < its.toArray.size), ∃ y t', ys[m]? = some y ∧ its.toArray[m] = Value.int y t' := fun m hm => by
    have hm' : m < ys.length := by rw [← hl]; exact hm
    obtain ⟨w, hw, t', hw'⟩ := r.get (i := m) (x := .int ys[m]) (by simp [hm'])
    refine ⟨ys[m], t', List.getElem?_eq_getElem hm', ?_⟩
    have e := (List.getElem?_eq_some_iff.mp hw).2
    rw [← hw', ← e]
    simp
  refine call_meets PySem.F.slot_tuple_index ⟨_, ho, rfl⟩ PySem.F.entry_tuple_index (PySem.F.args_tuple_index_2 _ _) (TI.tuple_indexAt p its.toArray n dd sl (.int z t) (eqU (.int z)) j hj ?_ ?_)
    ⟨ho, fun w hw => mem_eqAt (x := .int z) ⟨t, rfl⟩ rfl r (DL.flat_ints ys) w (by simpa using hw), ⟨.int (j : Nat), H, I.tok _, ⟨_, rfl⟩, q⟩⟩
  · obtain ⟨y, t', h1, h2⟩ := at' j hj
    rw [hy] at h1
    cases h1
    rw [h2]
    show (z == z) = true
    exact beq_self_eq_true z
  · intro m hm hmj
    obtain ⟨y, t', h1, h2⟩ := at' m hm
    rw [h2]
    show (y == z) = false
    exact beq_eq_false_iff_ne.mpr fun e => hno m hmj (e ▸ h1)
/-- a method of a tuple that is known to be nothing but one -/
def tBX (K : PySem.W.Frag) (r : V → List V → Hp → VK → Prop) (to : TE) (t : TA) : TE := fun σ H Q => to σ H fun x H1 => (∃ p, x = .ref p ∧ ((∃ o us, o.dict = none ∧ H1 p = some (.frz o (.tup us))) ∨ ∃ o, K.lookup p = some o ∧ o.cls = .type "tuple" ∧ o.dict = none)) ∧ t σ H1 fun xs H2 => r x xs H2 Q
theorem pe_bmX {o e : Expr} {es : List Expr} {to : TE} {t : TA} {name : Str} {apos cpos : Pos} {id : String} {r : V → List V → Hp → VK → Prop} (pa : PlainAttrs "tuple") (slot : Slot "tuple" name id) (hty : typeOf (.builtin id) = pure (.type "method_descriptor")) (hm : MtR X id r) (ho : PE X o to) (ha : PA X (e :: es) t)
    (hbase : attributeBase o name X.env (eval o X.env) = eval o X.env := by rfl)
    (hfew : ((backTo cpos (starEach (e :: es) X.env)).all (fun x => !x.1) && (backToKw cpos (keywordEach [] X.env)).all (fun x => x.1.isSome)
      && decide ((e :: es).length + ([] : List Keyword).length + (if ([] : List Keyword).isEmpty then 0 else 1) < 30)) = true := by rfl)
    (hline : (apos.endLine == cpos.line) = true := by rfl) (hs : starEach (e :: es) X.env = (false, eval e X.env) :: starEach es X.env := by rfl) (hplain : (backTo cpos (starEach es X.env)).any (·.1) = false := by rfl) :
    PE X (.Call (.Attribute o name apos) (e :: es) [] cpos) (tBX X.K r to t) := by
  refine ⟨fun pins s σ H Q I h => ?_⟩
  refine wpAny_Call_method_late hbase hfew hline rfl (thn (ho.run pins s σ H _ I h) fun v s1 ⟨x, H1, I1, r1, ty, q1⟩ => ?_)
  obtain ⟨p, rfl, ty⟩ := ty
  cases r1
  have h12 : s1.TypeIs (.ref p) "tuple" ∧ ∀ a, Value.ref p = .ref a → ∃ ob, s1.heap.get? a = some ob ∧ ob.dict = none := by
    rcases ty with ⟨ob, us, hd, hp⟩ | ⟨ob, hk, hc, hd⟩
    · have hok : s1.heap.get? p = some ob ∧ us.length ≤ sizeLine ∧ ∃ its : List Value, Vals us its ∧ IsTup s1.heap p its.toArray := I1.hok p _ hp
      obtain ⟨g1, _, its, _, o2, g2, hc, _⟩ := hok
      exact ⟨⟨o2, g2, hc⟩, fun a e => by
        cases e
        exact ⟨ob, g1, hd⟩⟩
    · exact ⟨⟨ob, I1.kIn p ob hk, hc⟩, fun a e => by
        cases e
        exact ⟨ob, I1.kIn _ ob hk, hd⟩⟩
  obtain ⟨h1, h2⟩ := h12
  refine ⟨"tuple", id, pa, slot, hty, h1, h2, ?_⟩
  have hA := ha.run cpos pins s1 σ H1 _ I1 q1
  rw [hs] at hA ⊢
  refine Calls.callWith_builtin (by show (false || (backTo cpos (starEach es X.env)).any (·.1)) = false; rw [hplain] <;> rfl) (Calls.evalArgs_plain ?_)
  exact thn hA fun us s2 ⟨vs, H2, I2, r2, q2⟩ => hm pins s2 σ H2 (V.ref p) vs (.ref p) us Q I2 rfl r2 q2
end
section
variable {X : Cx} {c : Conf} {W : WX} {Γ : Gam} {σ : L2.St} {H : Hp} {ρ : Ro} {Q : VK}
theorem fin_fzT {us : List V} {ds : List D} {q : Addr} {o : Obj} (p : PostE c W .dur Γ σ ρ H Q (.ok (.fz true ds))) (e : ER c Γ σ H ρ) (r : Rp c (NN Γ σ ρ) H us ds) (hq : H q = none) (hd : o.dict = none) : Q (.ref q) (upd H q (.frz o (.tup us))) :=
  p _ _ (same_new hq) ⟨e.same (same_new hq), .fzT (.inl ⟨fun z => e.tracked z hq, o, hd, upd_same⟩) (r.same (same_new hq)) .nil⟩
/-- tuple(xs) of a list, known to be nothing but a tuple -/
def dTupX : List D → R D
  | [.lst ds] => ok (.fz true ds)
  | [.fz true ds] => ok (.fz true ds)
  | [.tup ds] => ok (.tup ds)
  | _ => none
theorem bi_tupX (hK : c.K = X.K := by rfl) : Bi X c W .dur (.type "tuple") dTupX := ⟨_, call_tuple_X.or call_tuple_of, by
  rw [← hK]
  intro Γ σ ρ H xs ds res Q er bx h p
  unfold dTupX at h
  split at h
  · cases h
    obtain ⟨x, rfl, a, us, rfl, e, r⟩ := bx.one
    exact .inl ⟨a, us, rfl, .of e, fun l o hl hd => fin_fzT p er r hl hd⟩
  · cases h
    obtain ⟨x, rfl, b⟩ := bx.one
    have b' : Re c (NN Γ σ ρ) H x (.fz true _) := b
    obtain ⟨a, us, rfl, e, r⟩ := b.fzT
    exact .inr ⟨a, us, rfl, .inr ⟨e, fin_re p er b'⟩⟩
  · cases h
    obtain ⟨x, rfl, b⟩ := bx.one
    obtain ⟨a, us, rfl, n, e, r⟩ := b.tup
    exact .inr ⟨a, us, rfl, .inr ⟨.of e, fin_re p er (.tup n e r .nil)⟩⟩
  · cases h⟩
/-- the first place of a number in such a tuple -/
def dIdxT : D → List D → R D
  | .fz true ds, [.int i] => (ints? ds).bind fun ns => if i ∈ ns then ok (.int (ns.idxOf i : Nat)) else none
  | _, _ => none
theorem Bor.exact {N : Addr → Prop} {v : V} {ds : List D} (h : Bor c N H v (.fz true ds)) : ∃ p, v = .ref p ∧ ((∃ o us, o.dict = none ∧ H p = some (.frz o (.tup us))) ∨ ∃ o, c.K.lookup p = some o ∧ o.cls = .type "tuple" ∧ o.dict = none) := by
  have h : Re c N H v (.fz true ds) := h
  cases h with
  | fzT q _ _ =>
    rcases q with ⟨_, o, hd, e⟩ | ⟨o, its, n, h1, h2, h3, _⟩
    · exact ⟨_, rfl, .inl ⟨o, _, hd, e⟩⟩
    · exact ⟨_, rfl, .inr ⟨o, h1, h2, h3⟩⟩
theorem i_idxT {o e : Expr} {mo : ME} {l : MA} {apos cpos : Pos} (ho : PE X o (tE c W .bor mo)) (ha : PA X [e] (tBo c W l)) (hbase : attributeBase o "index" X.env (eval o X.env) = eval o X.env := by rfl)
    (hfew : ((backTo cpos (starEach [e] X.env)).all (fun x => !x.1) && (backToKw cpos (keywordEach [] X.env)).all (fun x => x.1.isSome)
      && decide ([e].length + ([] : List Keyword).length + (if ([] : List Keyword).isEmpty then 0 else 1) < 30)) = true := by rfl)
    (hline : (apos.endLine == cpos.line) = true := by rfl) (hst : starEach [e] X.env = (false, eval e X.env) :: starEach [] X.env := by rfl) (hplain : (backTo cpos (starEach [] X.env)).any (·.1) = false := by rfl) (hK : c.K = X.K := by rfl) :
    PE X (.Call (.Attribute o "index" apos) [e] [] cpos) (tE c W .dur (mMeth dIdxT mo l)) :=
  (pe_bmX PySem.F.plainAttrs_tuple PySem.F.slot_tuple_index PySem.F.type_tuple_index mt_tup_indexI ho ha hbase hfew hline hst hplain).via fun σ H Q ⟨Γ, ρ, res, er, em, p⟩ => by
    rw [← hK]
    have em : bnd (mo ρ) (fun d => match l ρ with | some (.ok es) => dIdxT d es | _ => none) = some res := em
    refine use er em p.err fun d v H1 h1 s1 r1 => ?_
    cases q : l ρ with
    | none => rw [q] at h1; cases h1
    | some w =>
      cases w with
      | error x => rw [q] at h1; cases h1
      | ok es =>
        rw [q] at h1
        replace h1 : dIdxT d es = some res := h1
        unfold dIdxT at h1
        split at h1
        · rename_i ds i
          obtain ⟨ns, hn, h1⟩ := Option.bind_eq_some_iff.mp h1
          split at h1
          · rename_i hm
            cases h1
            refine ⟨Bor.exact r1.2, Γ, ρ, _, r1.1, q, fun vs H2 s2 e2 r2 => ?_⟩
            have bx := r1.2.same s2
            obtain ⟨a, us, rfl, e, r⟩ := bx.fzT
            have eu := r.ints? hn
            subst eu
            obtain ⟨v, rfl, b⟩ := r2.one
            have ev := b.int
            subst ev
            obtain ⟨g1, g2⟩ := idx_first hm
            refine ⟨a, ns, i, ns.idxOf i, rfl, rfl, e, g1, fun m hm hz => ?_, fin_int (p.mono (s1.trans s2)) e2⟩
            exact g2 m i hm hz rfl
          · cases h1
        · cases h1
end
def rowD (q : Bool) (l : List Int) : D := match q with
  | true => .fz true (l.map D.int)
  | false => .tup (l.map D.int)
theorem rowD_t (l : List Int) : rowD true l = .fz true (l.map D.int) := (rfl)
theorem rowD_f (l : List Int) : rowD false l = .tup (l.map D.int) := (rfl)
theorem dList_f (t : Bool) (l : List D) : dList [.fz t l] = some (.ok (.lst l)) := (rfl)
theorem dTupX_f (l : List D) : dTupX [.fz true l] = some (.ok (.fz true l)) := (rfl)
theorem dRev_f (l : List D) : dRev (.fz true l) = some (.ok (.tup l.reverse)) := (rfl)
theorem dSl_fz (lo hi : Option Int) (l : List D) : dSl lo hi (.fz true l) = if HT.sIx l.length 0 lo = 0 ∧ HT.sIx l.length l.length hi = l.length then some (.ok (.fz true l)) else some (.ok (.tup (cut l lo hi))) := (rfl)
theorem toP_f (n : Nat) (l : List Int) : toP (n + 1) (.fz true (l.map D.int)) = some (.tuple (l.map .int)) := by
  show ((l.map D.int).mapM (toP n)).map PyData.tuple = _
  rw [toPs_i]
  rfl
theorem toP_row (n : Nat) (q : Bool) (l : List Int) : toP (n + 1) (rowD q l) = some (.tuple (l.map .int)) := by
  cases q
  · exact toP_t n l
  · exact toP_f n l
theorem dEqv_row (q q' : Bool) (l l' : List Int) : dEqv (rowD q l) (rowD q' l') = some (decide (l = l')) := by
  unfold dEqv
  rw [toP_row, toP_row]
  show some (PyData.eqv _ _) = _
  rw [PyData.eqv, eqvAll_ii]
theorem dEq_row (q q' : Bool) (l l' : List Int) : dEq (rowD q l) (rowD q' l') = some (.ok (.bl (decide (l = l')))) := dEq_of (dEqv_row q q' l l')
theorem dNe_row (q q' : Bool) (l l' : List Int) : dNe (rowD q l) (rowD q' l') = some (.ok (.bl (!decide (l = l')))) := dNe_of (dEqv_row q q' l l')
theorem dSorted_f (l : List Int) : dSorted [.fz true (l.map D.int)] = some (.ok (.lst ((isort l).map D.int))) := by
  show (some (l.map D.int)).bind (fun ds => (ints? ds).map fun ns => (.ok (.lst ((isort ns).map D.int)) : Except EN D)) = _
  rw [Option.bind_some, ints?_map]
  rfl
theorem dTupX_t (ds : List D) : dTupX [.tup ds] = some (.ok (.tup ds)) := (rfl)
theorem dTupX_l (ds : List D) : dTupX [.lst ds] = some (.ok (.fz true ds)) := (rfl)
theorem dIdxT_i (ns : List Int) (i : Int) (h : i ∈ ns) : dIdxT (.fz true (ns.map D.int)) [.int i] = some (.ok (.int (ns.idxOf i : Nat))) := by
  show (ints? (ns.map D.int)).bind _ = _
  rw [ints?_map, Option.bind_some, if_pos h]
end DL

set_option Elab.async false
set_option linter.all false
set_option maxRecDepth 100000
set_option maxHeartbeats 2000000
set_option autoImplicit false
/-! DNa: for x in d, d a dict that a name holds: its keys; the dict is locked while the loop runs. -/
namespace DL
open PySem L2
def keyDat : Key → D
  | .inl i => .int i
  | .inr s => .str s
section
variable {c : Conf} {H : Hp} {a : Addr} {od : Obj} {kvs : List (Key × V)}
theorem Rp.lock (ha : H a = some (.dK kvs)) {N : Addr → Prop} {vs : List V} {ds : List D} (r : Rp c N H vs ds) : Rp c N (upd H a (.frz od (.dK kvs))) vs ds := by
  have ne : ∀ {b : Addr} {u : HO}, H b = some u → (∀ k, u ≠ .dK k) → b ≠ a := fun {b u} e n z => by
    rw [z, ha] at e
    cases e
    exact n _ rfl
  induction r with
  | nil => exact .nil
  | non _ ih => exact .non ih
  | bl _ ih => exact .bl ih
  | int _ ih => exact .int ih
  | str _ ih => exact .str ih
  | tup n q _ _ i1 i2 => exact .tup n (by rw [upd_ne (ne q fun _ z => nomatch z)]; exact q) i1 i2
  | lst n q _ _ i1 i2 => exact .lst n (by rw [upd_ne (ne q fun _ z => nomatch z)]; exact q) i1 i2
  | fzT q _ _ i1 i2 => exact .fzT (q.imp (fun ⟨n, o, hd, e⟩ => ⟨n, o, hd, by rw [upd_ne (ne e fun _ z => nomatch z)]; exact e⟩) id) i1 i2
  | fzL q _ _ i1 i2 => exact .fzL (q.imp (fun ⟨n, z⟩ => ⟨n, z.imp (fun e => by rw [upd_ne (ne e fun _ z => nomatch z)]; exact e) fun ⟨o, e⟩ => ⟨o, by rw [upd_ne (ne e fun _ z => nomatch z)]; exact e⟩⟩) id) i1 i2
  | @dK b kvs2 _ _ _ n q e _ _ i1 i2 =>
    refine .dK n ?_ e i1 i2
    by_cases z : b = a
    · rcases q with q | ⟨o, q⟩
      · rw [z, ha] at q
        cases q
        exact .inr ⟨od, by rw [z, upd_same]⟩
      · rw [z, ha] at q
        cases q
    · exact q.imp (fun q => by rw [upd_ne z]; exact q) fun ⟨o, q⟩ => ⟨o, by rw [upd_ne z]; exact q⟩
  | dT n q e _ _ i1 i2 => exact .dT n (q.imp (fun q => by rw [upd_ne (ne q fun _ z => nomatch z)]; exact q) fun ⟨o, q⟩ => ⟨o, by rw [upd_ne (ne q fun _ z => nomatch z)]; exact q⟩) e i1 i2
  | obj k n q e _ _ i1 i2 => exact .obj k n (by rw [upd_ne (ne q fun _ z => nomatch z)]; exact q) e i1 i2
  | fn k _ ih => exact .fn k ih
theorem Rp.unlock (ha : H a = some (.frz od (.dK kvs))) {N : Addr → Prop} {vs : List V} {ds : List D} (r : Rp c N H vs ds) : Rp c N (upd H a (.dK kvs)) vs ds := by
  have ne : ∀ {b : Addr} {u : HO}, H b = some u → (∀ o k, u ≠ .frz o (.dK k)) → b ≠ a := fun {b u} e n z => by
    rw [z, ha] at e
    cases e
    exact n _ _ rfl
  induction r with
  | nil => exact .nil
  | non _ ih => exact .non ih
  | bl _ ih => exact .bl ih
  | int _ ih => exact .int ih
  | str _ ih => exact .str ih
  | tup n q _ _ i1 i2 => exact .tup n (by rw [upd_ne (ne q fun _ _ z => nomatch z)]; exact q) i1 i2
  | lst n q _ _ i1 i2 => exact .lst n (by rw [upd_ne (ne q fun _ _ z => nomatch z)]; exact q) i1 i2
  | fzT q _ _ i1 i2 => exact .fzT (q.imp (fun ⟨n, o, hd, e⟩ => ⟨n, o, hd, by rw [upd_ne (ne e fun _ _ z => nomatch z)]; exact e⟩) id) i1 i2
  | fzL q _ _ i1 i2 => exact .fzL (q.imp (fun ⟨n, z⟩ => ⟨n, z.imp (fun e => by rw [upd_ne (ne e fun _ _ z => nomatch z)]; exact e) fun ⟨o, e⟩ => ⟨o, by rw [upd_ne (ne e fun _ _ z => nomatch z)]; exact e⟩⟩) id) i1 i2
  | @dK b kvs2 _ _ _ n q e _ _ i1 i2 =>
    refine .dK n ?_ e i1 i2
    by_cases z : b = a
    · rcases q with q | ⟨o, q⟩
      · rw [z, ha] at q
        cases q
      · rw [z, ha] at q
        cases q
        exact .inl (by rw [z, upd_same])
    · exact q.imp (fun q => by rw [upd_ne z]; exact q) fun ⟨o, q⟩ => ⟨o, by rw [upd_ne z]; exact q⟩
  | dT n q e _ _ i1 i2 => exact .dT n (q.imp (fun q => by rw [upd_ne (ne q fun _ _ z => nomatch z)]; exact q) fun ⟨o, q⟩ => ⟨o, by rw [upd_ne (ne q fun _ _ z => nomatch z)]; exact q⟩) e i1 i2
  | obj k n q e _ _ i1 i2 => exact .obj k n (by rw [upd_ne (ne q fun _ _ z => nomatch z)]; exact q) e i1 i2
  | fn k _ ih => exact .fn k ih
/-- an own thing, that is another one, while Rp goes over -/
theorem Own.other {N : Addr → Prop} {H' : Hp} {b : Addr} {d : D} (h : Own c N H b d) (e : H' b = H b) (k : ∀ vs ds, Rp c N H vs ds → Rp c N H' vs ds) : Own c N H' b d := by
  cases d with
  | lst es =>
    obtain ⟨us, q, r⟩ := h
    exact ⟨us, by rw [e]; exact q, k _ _ r⟩
  | dK kds =>
    obtain ⟨kvs, q, z, r⟩ := h
    exact ⟨kvs, by rw [e]; exact q, z, k _ _ r⟩
  | dT kds =>
    obtain ⟨kvs, q, z, r⟩ := h
    exact ⟨kvs, by rw [e]; exact q, z, k _ _ r⟩
  | _ => exact h.elim
def Gam.lock (Γ : Gam) (a : Addr) (u : HO) : Gam := ⟨Γ.U, upd Γ.H0 a u, Γ.held, (a, u) :: Γ.raw.filter fun p => decide (p.1 ≠ a)⟩
theorem nn_lock {Γ : Gam} {a : Addr} {u : HO} {σ : L2.St} {ρ : Ro} : NN (Γ.lock a u) σ ρ = NN Γ σ ρ := rfl
theorem ER.lock {Γ : Gam} {σ : L2.St} {ρ : Ro} (e : ER c Γ σ H ρ) (ha : H a = some (.dK kvs)) (na : ¬ NN Γ σ ρ a) : ER c (Γ.lock a (.frz od (.dK kvs))) σ (upd H a (.frz od (.dK kvs))) ρ where
  len := e.len
  ext := fun b u h => by
    have h : (upd Γ.H0 a (.frz od (.dK kvs))) b = some u := h
    by_cases z : b = a
    · subst z
      rw [upd_same] at h ⊢
      exact h
    · rw [upd_ne z] at h ⊢
      exact e.ext b u h
  utr := fun b h => by
    by_cases z : b = a
    · subst z; exact Mt.upd fun _ z => by cases z
    · exact (e.utr b h).off z
  held := fun p h => (e.held p h).lock ha
  raw := fun p h => by
    rcases List.mem_cons.mp h with h | h
    · subst h
      exact ⟨na, upd_same⟩
    · obtain ⟨h1, h2⟩ := List.mem_filter.mp h
      have := e.raw p h1
      exact ⟨this.1, by rw [upd_ne (of_decide_eq_true h2)]; exact this.2⟩
  fx := e.fx
  own := fun i d b h1 h2 => by
    obtain ⟨q1, q2⟩ := e.own i d b h1 h2
    have ne : b ≠ a := fun z => na (.inr ⟨i, d, h1, by rw [← z]; exact h2⟩)
    exact ⟨by show (upd Γ.H0 a _) b = none; rw [upd_ne ne]; exact q1, q2⟩
  dis := e.dis
  slot := fun i d h => let ⟨v, h1, h2⟩ := e.slot i d h; ⟨v, h1, Rp.lock ha h2⟩
  mine := fun i d h => by
    obtain ⟨b, h1, h2⟩ := e.mine i d h
    have ne : b ≠ a := fun z => na (.inr ⟨i, d, h, by rw [← z]; exact h1⟩)
    exact ⟨b, h1, h2.other (upd_ne ne) fun _ _ r => r.lock ha⟩
theorem ER.unlock {Γ : Gam} {σ : L2.St} {ρ : Ro} (e : ER c (Γ.lock a (.frz od (.dK kvs))) σ H ρ) (h0 : ∀ u, Γ.H0 a = some u → u = .dK kvs) (hr : ∀ p ∈ Γ.raw, p.1 = a → p.2 = .dK kvs) : ER c Γ σ (upd H a (.dK kvs)) ρ := by
  obtain ⟨na, ha⟩ := e.raw (a, .frz od (.dK kvs)) List.mem_cons_self
  exact {
    len := e.len
    ext := fun b u h => by
      by_cases z : b = a
      · subst z
        rw [upd_same, h0 u h]
      · rw [upd_ne z]
        exact e.ext b u (by show (upd Γ.H0 a _) b = some u; rw [upd_ne z]; exact h)
    utr := fun b h => by
      by_cases z : b = a
      · subst z; exact Mt.upd fun _ z => by cases z
      · exact (e.utr b h).off z
    held := fun p h => (e.held p h).unlock ha
    raw := fun p h => by
      by_cases z : p.1 = a
      · rw [z, upd_same, hr p h z]
        exact ⟨na, rfl⟩
      · have := e.raw p (List.mem_cons_of_mem _ (List.mem_filter.mpr ⟨h, decide_eq_true z⟩))
        exact ⟨this.1, by rw [upd_ne z]; exact this.2⟩
    fx := e.fx
    own := fun i d b h1 h2 => by
      obtain ⟨q1, q2⟩ := e.own i d b h1 h2
      have ne : b ≠ a := fun z => na (.inr ⟨i, d, h1, by rw [← z]; exact h2⟩)
      have q1 : (upd Γ.H0 a (.frz od (.dK kvs))) b = none := q1
      rw [upd_ne ne] at q1
      exact ⟨q1, q2⟩
    dis := e.dis
    slot := fun i d h => let ⟨v, h1, h2⟩ := e.slot i d h; ⟨v, h1, Rp.unlock ha h2⟩
    mine := fun i d h => by
      obtain ⟨b, h1, h2⟩ := e.mine i d h
      have ne : b ≠ a := fun z => na (.inr ⟨i, d, h, by rw [← z]; exact h1⟩)
      exact ⟨b, h1, h2.other (upd_ne ne) fun _ _ r => r.unlock ha⟩ }
theorem keys_rp : ∀ {kvs : List (Key × V)} {kds : List (Key × D)}, kvs.map (·.1) = kds.map (·.1) → ∀ (N : Addr → Prop) (H : Hp), Rp c N H (kvs.map fun p => kV p.1) (kds.map fun p => keyDat p.1)
  | [], [], _, _, _ => .nil
  | [], _ :: _, e, _, _ => by cases e
  | _ :: _, [], e, _, _ => by cases e
  | (k, v) :: kvs, (k2, d) :: kds, e, N, H => by
    simp only [List.map_cons, List.cons.injEq] at e
    obtain ⟨e1, e2⟩ := e
    subst e1
    have t := keys_rp e2 N H
    cases k with
    | inl i => exact Rp.int t
    | inr s => exact Rp.str t
theorem walks_keys (a : Addr) (o : Obj) (kvs : List (Key × V)) : Walks (Itk a o kvs) (fun H => H a = some (.frz o (.dK kvs))) (kvs.map fun p => kV p.1) where
  go := fun i H x hP hx => by
    rw [List.getElem?_map] at hx
    obtain ⟨⟨k, v⟩, h1, rfl⟩ := Option.map_eq_some_iff.mp hx
    obtain ⟨hl, _⟩ := List.getElem?_eq_some_iff.mp h1
    refine ⟨⟨hP, hl⟩, fun y H2 ⟨e, k', v', h2, h3⟩ => ⟨e, ?_⟩⟩
    rw [h1] at h2
    cases h2
    exact h3
  stop := fun i H hP hl => ⟨hP, by rwa [List.length_map] at hl⟩
end
/-- a name's dict, read -/
def slotK (ρ : Ro) (i : Nat) : Option (List (Key × D)) := match ρ[i]? with
  | some (some (.dK kds, false)) => some kds
  | _ => none
theorem slotK_at {ρ : Ro} {i : Nat} {kds : List (Key × D)} (h : slotK ρ i = some kds) : ρ[i]? = some (some (.dK kds, false)) := by
  unfold slotK at h
  split at h
  · cases h; assumption
  · cases h
def noEr : Option Out → Option Out
  | some (.er _ _) => none
  | o => o
/-- for x in d: its keys -/
def mForK (i : Nat) (g : MG) (body : MS) : MS := fun ρ => (slotK ρ i).bind fun kds => noEr (forGo g body (kds.map fun p => keyDat p.1) ρ)
section
variable {X : Cx} {c : Conf} {W : WX}
theorem _root_.L2.PS.or {st : Stmt} {t t' : TS} (h : PS X st t) (h' : PS X st t') : PS X st (fun D σ H => t D σ H ∨ t' D σ H) := ⟨fun pins s σ H D I q => q.elim (h.run pins s σ H D I) (h'.run pins s σ H D I)⟩
theorem forK_core {gg : TG} {g : MG} {is : List Nat} {s : MS} {i : Nat} {Dd : Ends} (hg : GOk c is gg g) {Γ : Gam} {σ : L2.St} {H : Hp} {ρ : Ro} {o : Out} {a : Addr} {od : Obj} {kvs : List (Key × V)} {kds : List (Key × D)} (er : ER c Γ σ H ρ)
    (ha : σ[i]? = some (some (V.ref a))) (hf : H a = some (.frz od (.dK kvs))) (ek : kvs.map (·.1) = kds.map (·.1)) (na : ¬ NN Γ σ ρ a) (em : forGo g s (kds.map fun p => keyDat p.1) ρ = some o) (ne : ∀ x ρ', o ≠ .er x ρ') (p : SPost c W Γ Dd o) :
    tFor (iKeys (tVar i)) gg (tS c W s) Dd σ H := by
  refine ⟨.ref a, ha, a, od, rfl, .inl ⟨kvs, hf, ?_⟩⟩
  have w1 := walks_keys a od kvs
  have r1 := keys_rp (c := c) ek (NN Γ σ ρ) H
  generalize kds.map (fun p => keyDat p.1) = ds at em r1
  generalize kvs.map (fun p => kV p.1) = us at w1 r1
  obtain ⟨ra, hra⟩ : ∃ ra : List (Addr × HO), ra = [(a, .frz od (.dK kvs))] := ⟨_, rfl⟩
  have q1 : ∀ p ∈ ra, ¬ NN Γ σ ρ p.1 ∧ H p.1 = some p.2 := fun p hp => by
    rw [hra, List.mem_singleton] at hp
    subst hp
    exact ⟨na, hf⟩
  have st : ∀ H' : Hp, (∀ p ∈ ra, H' p.1 = some p.2) → H' a = some (.frz od (.dK kvs)) := fun H' h => h (a, _) (by rw [hra]; exact List.mem_singleton.mpr rfl)
  have lu := r1.len
  refine ⟨fun i m σ H => m = ds.length - i ∧ i ≤ ds.length ∧ ∃ ρ', ER c (Γ.hold us ds ra) σ H ρ' ∧ forGo g s (ds.drop i) ρ' = some o, ⟨_, rfl, Nat.zero_le _, ρ, er.hold r1 q1, em⟩, ?_⟩
  rintro i m σ2 H2 ⟨rfl, hil, ρ2, e2, em2⟩
  have hP := st H2 fun p hp => (e2.raw p (List.mem_append_left _ hp)).2
  by_cases hlt : i < ds.length
  · have hx : us[i]? = some us[i] := List.getElem?_eq_getElem (by rw [lu]; exact hlt)
    obtain ⟨go, yl⟩ := w1.go i H2 _ hP hx
    refine .inr ⟨go, fun σ' H' => ∃ m', m' < ds.length - i ∧ m' = ds.length - (i + 1) ∧ ∃ ρ', ER c (Γ.hold us ds ra) σ' H' ρ' ∧ forGo g s (ds.drop (i + 1)) ρ' = some o, fun σ' H' ⟨m', h1, h2, h3⟩ => ⟨m', h1, h2, hlt, h3⟩, fun x H3 y3 => ?_⟩
    obtain ⟨eH, ex⟩ := yl x H3 y3
    subst eH ex
    rw [List.drop_eq_getElem_cons hlt] at em2
    unfold forGo at em2
    obtain ⟨ρ3, hg3, em3⟩ := Option.bind_eq_some_iff.mp em2
    have hr := e2.held (us, ds) List.mem_cons_self
    refine hg (Γ.hold us ds ra) σ2 H3 ρ2 ρ3 _ _ _ e2 (hr.at_ hx (List.getElem?_eq_getElem hlt)) hg3 fun σ4 e4 _ _ => ?_
    cases eb : s ρ3 with
    | none => rw [eb] at em3; cases em3
    | some q =>
      rw [eb] at em3
      refine ⟨Γ.hold us ds ra, ρ3, q, e4, eb, ?_⟩
      cases q with
      | nx ρ5 => exact fun σ5 H5 e5 => ⟨_, by omega, rfl, ρ5, e5, em3⟩
      | ct ρ5 => exact fun σ5 H5 e5 => ⟨_, by omega, rfl, ρ5, e5, em3⟩
      | bk ρ5 => cases em3; exact fun σ5 H5 e5 => p _ _ e5.unhold
      | rt d => cases em3; exact p
      | er x ρ5 => cases em3; exact absurd rfl (ne x ρ5)
  · have e : i = ds.length := by omega
    subst e
    rw [List.drop_length] at em2
    cases em2
    exact .inl ⟨w1.stop _ _ hP (by rw [lu]; exact Nat.le_refl _), p _ _ e2.unhold⟩
theorem s_forK (i : Nat) {tg : Expr} {x : Str} {body : List Stmt} {is : List Nat} {g : MG} {s : MS} {px pos : Pos} (hp : PassesOwn (model X.prog X.w) X.A X.env X.xe) (hc : X.calm = true) (hg : DG X c tg is g) (hb : PSs X body (tS c W s))
    (hN : X.N[i]? = some x := by rfl) (hv : Vis X.env.scope x := by first | exact Or.inl rfl | exact Or.inr (Or.inl rfl) | exact Or.inr (Or.inr rfl)) (hd : (x == ("__debug__" : Str)) = false := by decide)
    (hcd : (x == ("__classdict__" : Str)) = false := by decide) (hs : ∀ y, foldedSetIterable (.Name x px) X.env y = pure y := by intro _; rfl) : PS X (.For tg (.Name x px) body [] pos) (tS c W (mForK i g s)) := by
  obtain ⟨gg, pg, hg⟩ := hg.ex
  have base := ps_for hp hc (pi_keys (pv i hN hv hd hcd)) pg hb hs (pos := pos)
  refine (base.or (ps_lock base)).via fun Dd σ H ⟨Γ, ρ, o, er, em, p⟩ => ?_
  obtain ⟨kds, hk, em⟩ := Option.bind_eq_some_iff.mp em
  obtain ⟨em, ne⟩ : forGo g s (kds.map fun p => keyDat p.1) ρ = some o ∧ ∀ x ρ', o ≠ .er x ρ' := by
    cases z : forGo g s (kds.map fun p => keyDat p.1) ρ with
    | none => rw [z] at em; cases em
    | some q =>
      rw [z] at em
      cases q with
      | er x ρ5 => cases em
      | nx ρ5 => cases em; exact ⟨rfl, fun _ _ z => nomatch z⟩
      | ct ρ5 => cases em; exact ⟨rfl, fun _ _ z => nomatch z⟩
      | bk ρ5 => cases em; exact ⟨rfl, fun _ _ z => nomatch z⟩
      | rt d => cases em; exact ⟨rfl, fun _ _ z => nomatch z⟩
  obtain ⟨v, hv1, r⟩ := er.slot i _ (slotK_at hk)
  cases r with
  | @dK a kvs _ _ _ na rd ek rv _ =>
    rcases rd with rd | ⟨od, rd⟩
    · right
      refine ⟨a, .dK kvs, rd, trivial, fun od => ?_⟩
      have e2 := er.lock (od := od) rd na
      have h0 : ∀ u, Γ.H0 a = some u → u = .dK kvs := fun u h => by
        have := er.ext a u h
        rw [rd] at this
        cases this
        rfl
      have hr : ∀ p ∈ Γ.raw, p.1 = a → p.2 = .dK kvs := fun p h z => by
        have := (er.raw p h).2
        rw [z, rd] at this
        exact (Option.some.inj this).symm
      refine forK_core hg e2 hv1 upd_same ek na em ne ?_
      have fin : ∀ {σ' : L2.St} {H' : Hp} {ρ' : Ro}, ER c (Γ.lock a (.frz od (.dK kvs))) σ' H' ρ' → H' a = some (.frz od (.dK kvs)) ∧ ER c Γ σ' (upd H' a (.dK kvs)) ρ' := fun e => ⟨(e.raw _ List.mem_cons_self).2, e.unlock h0 hr⟩
      cases o with
      | nx ρ5 => exact fun σ' H' e => ⟨(fin e).1, p _ _ (fin e).2⟩
      | bk ρ5 => exact fun σ' H' e => ⟨(fin e).1, p _ _ (fin e).2⟩
      | ct ρ5 => exact fun σ' H' e => ⟨(fin e).1, p _ _ (fin e).2⟩
      | er x ρ5 => exact absurd rfl (ne x ρ5)
      | rt d =>
        intro v H' sm rr
        have ha : H' a = some (.frz od (.dK kvs)) := sm a _ upd_same
        refine ⟨ha, p v _ (fun b u h => ?_) (Rp.unlock ha rr)⟩
        by_cases z : b = a
        · subst z
          rw [upd_same, h0 u h]
        · rw [upd_ne z]
          exact sm b u (by show (upd Γ.H0 a _) b = some u; rw [upd_ne z]; exact h)
    · left
      exact forK_core hg er hv1 rd ek na em ne p
end
end DL

set_option Elab.async false
set_option linter.all false
set_option maxRecDepth 100000
set_option maxHeartbeats 2000000
set_option autoImplicit false
/-! DNb: a def that calls itself: at depth 0 it promises nothing. -/
namespace DL
open PySem L2
section
variable {P : Program} {w : World} {K : PySem.W.Frag} {mg : Str → Option Value} {base : Heap} {c : Conf}
theorem fn_none {x qual y : Str} {st : Stmt} {f : Addr} {fd : FuncData} {ps : List Str} {k : Nat} (F : Fun K x qual st f fd) (hm : mg y = some (.ref f)) (b : Binds K fd ps []) : FnAt P w K mg base c y k ps (fun _ => none) :=
  ⟨f, fd, ⟨fun _ _ _ _ h => (by obtain ⟨_, _, _, _, _, h, _⟩ := h; cases h), fun _ _ _ _ _ _ _ _ _ _ _ _ _ h => (by obtain ⟨_, _, _, _, _, h, _⟩ := h; cases h)⟩, hm, F.kp, b⟩
end
end DL

set_option Elab.async false
set_option linter.all false
set_option maxRecDepth 100000
set_option maxHeartbeats 2000000
set_option autoImplicit false
/-! DNc: dict comprehensions whose keys are tuples of ints and texts. -/
namespace DL
open PySem L2
open PySem.Spec PyProof.Rows
section
variable {X : Cx}
/-- the store of a comprehension's pair, the key a tuple -/
theorem put_dT {pins : List (Addr × Obj)} {σ : L2.St} {H : Hp} {s : Shared} {E : Value → Shared → Prop} {D b : Addr} {kvs : List (List Key × V)} {k : List Key} {v : V} {r : Value} {Q : Unit → Shared → Prop} (hu : X.A.units < cLine) (I : Inv X pins σ H s) (hD : H D = some (.dT kvs)) (hz : kvs.length < sizeLine)
    (hb : H b = some (.tup (k.map kV))) (rv : RelV v r) (h : ∀ s', Inv X pins σ (upd H D (.dT (putK kvs k v))) s' → Q () s') : wpAny (model X.prog X.w) X.A (dictSet D (.ref b) r) Q E s := by
  obtain ⟨z, hs, xs, rel, dd⟩ := dt_of I.hok hD
  have few : xs.length ≤ sizeLine := Nat.le_trans (Nat.le_of_eq (Paired.length rel).symm) z
  refine wpAny_dictSet_heap (hsz := few) (knd := tupleKind (mixKind X.prog X.w)) hu (key_of I.hok hb) dd fun h' dd' same => h _ ?_
  obtain ⟨q, es, ep, g1, g2, g3, g4, _, g6⟩ := dd'
  have rel2 := (rel.put k hb rv).keeps (H' := upd H D (.dT (putK kvs k v))) fun c ys ec => by
    rw [upd_ne fun w : c = D => by rw [w, hD] at ec; cases ec]
    exact ec
  exact d_write I (by rw [hD]; exact True.intro) same ⟨q, g1⟩ ⟨Nat.le_trans (length_putK kvs k v) hz, hs, _, rel2, q, es, ep, g1, g2, g3, g4, g6⟩
/-- the reading of {k: v for ..}: D the new dict -/
def tDcT (wi : TI) (g : TG) (tt : TT) (tk tv : TE) (vs : List Nat) : TE := fun σ H Q => wi σ H fun J H1 => ∀ D, H1 D = none → ∃ W : Nat → Nat → Hp → Prop, (∃ m, W 0 m (upd H1 D (.dT []))) ∧ ∀ i m H, W i m H →
  (J.stop i H ∧ Q (.ref D) H) ∨ (J.go i H ∧ ∃ Nx : Hp → Prop, (∀ H', Nx H' → ∃ m', m' < m ∧ W (i + 1) m' H') ∧ ∀ x H', J.yld i H x H' → g x (wipe σ vs) H' fun σ2 H2 => wipe σ2 vs = wipe σ vs ∧ tt σ2 H2 fun b H3 =>
    if b = true then tk σ2 H3 fun y H4 => tv σ2 H4 fun z H5 => ∃ kvs k b, y = .ref b ∧ H5 b = some (.tup (k.map kV)) ∧ H5 D = some (.dT kvs) ∧ kvs.length < sizeLine ∧ Nx (upd H5 D (.dT (putK kvs k z))) else Nx H3)
theorem run_dcT {pins : List (Addr × Obj)} {s : Shared} {σ : L2.St} {H : Hp} {Q : VK} {kx vx tg iter : Expr} {ifs : List Expr} {scope : Scope} {own : List (Str × Nat)} {pos pos' : Pos} {wi : TI} {g : TG} {tt : TT} {tk tv : TE} {use : Option (Value → Sem Unit)} {Qf : Value → Shared → Prop}
    (hu : X.A.units < cLine) (hc : X.calm = true) (hN : X.N.Nodup) (I : Inv X pins σ H s) (hi : PI X tg iter wi) (ok : BlkOk X.N X.env.scope scope own)
    (hg : ∀ (s : Shared) (H : Hp) (C : Addr) (cl : List (Str × Addr)) (fp : List Addr), PG (X.blk s H scope (compEnvC scope cl C X.env) fp) tg g) (ht : ∀ (s : Shared) (H : Hp) (C : Addr) (cl : List (Str × Addr)) (fp : List Addr), PTs (X.blk s H scope (compEnvC scope cl C X.env) fp) ifs tt)
    (hk : ∀ (s : Shared) (H : Hp) (C : Addr) (cl : List (Str × Addr)) (fp : List Addr), PE (X.blk s H scope (compEnvC scope cl C X.env) fp) kx tk)
    (he : ∀ (s : Shared) (H : Hp) (C : Addr) (cl : List (Str × Addr)) (fp : List Addr), PE (X.blk s H scope (compEnvC scope cl C X.env) fp) vx tv) (hs : ∀ x, foldedSetIterable iter X.env x = pure x)
    (h : tDcT wi g tt tk tv (own.map (·.2)) σ H Q)
    (fin : ∀ D C s' m H', Inv X pins σ H' s' → Q (.ref D) H' → s'.heap.Ns C m → FpOk X pins H' C → compPost (model X.prog X.w) X.A X.xe use Qf (.ref D) C (.ok .next) s') :
    wpAny (model X.prog X.w) X.A (comprehension (.DictComp kx vx [⟨tg, iter, ifs, 0⟩] scope pos) scope X.env pos' newDict false (eval iter X.env) use) Qf X.xe s := by
  have cells : ∀ y ∈ scope.names, y.2 = .free → ∃ c, X.env.cells.lookup y.1 = some c := fun y hy e => I.ok.has _ ((ok.free y hy e).imp id id)
  refine wpAny_comprehension_free (use := use) rfl hs (closure_ok cells) ok.kind (fun y hy e => by rw [ok.uniq y hy, e]) (thn (hi.run pins s σ H _ I h) fun _ s1 a1 => thn a1 fun _ s2 a2 => ?_)
  obtain ⟨it, fp, tn, J, H2, rfl, I2, T, run2, off2, q⟩ := a2
  refine wpAny_newObj_type (newEnv_comp ?_)
  -- the new dict D, then the block's own frame
  obtain ⟨D, hD⟩ : ∃ D, D = s2.heap.objs.size := ⟨_, rfl⟩
  rw [← hD]
  have newD : H2 D = none := I2.hok.fresh (Nat.le_of_eq hD.symm)
  obtain ⟨W, ⟨m0, w0⟩, turn⟩ := q D newD
  obtain ⟨s3, hs3⟩ : ∃ s3 : Shared, s3 = { s2 with heap := s2.heap.push { cls := .type "dict", data := .dict #[] } } := ⟨_, rfl⟩
  have h3 : s3.heap = s2.heap.push { cls := .type "dict", data := .dict #[] } := by rw [hs3]
  have I3 : Inv X pins σ (upd H2 D (.dT [])) s3 := by
    have z := dt_empty (P := X.prog) (w := X.w) (H := upd H2 D (.dT [])) s2.heap I2.big
    rw [← hD] at z
    rw [hs3]
    exact I2.laid (t' := s2.toks) (fun b o e => Heap.get?_push_of_some _ e) (Nat.le_of_eq hD.symm) z
  have small : ∀ b ∈ fp, b < s2.heap.objs.size := fun b hb => let ⟨_, e, _⟩ := T.obj _ _ run2 b hb; Heap.lt_size e
  have off3 : ∀ b ∈ fp, FpOk X pins (upd H2 D (.dT [])) b ∧ b < s3.heap.objs.size := fun b hb => by
    have lt := small b hb
    have ne : b ≠ D := fun w => by rw [w, hD] at lt; exact Nat.lt_irrefl _ lt
    refine ⟨⟨by rw [upd_ne ne]; exact (off2 b hb).1, (off2 b hb).2⟩, ?_⟩
    rw [h3, Heap.size_push]
    exact Nat.lt_succ_of_lt lt
  have run3 : tn 0 s3.heap := T.keep _ _ _ run2 fun b _ o e => by rw [h3]; exact Heap.get?_push_of_some _ e
  have I4 := block_start I3 ok hN off3
  obtain ⟨cl, hcl⟩ : ∃ cl, cl = cellsFrom (s3.heap.objs.size + 1) scope.names (cloFrom X.env.cells scope.names []) := ⟨_, rfl⟩
  rw [← hcl] at I4
  have pg := hg s3 (upd H2 D (.dT [])) s3.heap.objs.size cl fp
  have pt := ht s3 (upd H2 D (.dT [])) s3.heap.objs.size cl fp
  have pk := hk s3 (upd H2 D (.dT [])) s3.heap.objs.size cl fp
  have pv := he s3 (upd H2 D (.dT [])) s3.heap.objs.size cl fp
  have blank : ∀ b ∈ fp, (upd H2 D (.dT [])) b = none := fun b hb => (off3 b hb).1.1
  obtain ⟨s4, hs4⟩ : ∃ s4 : Shared, s4 = { s3 with heap := pushCells (s3.heap.push { cls := .type "dict", data := .dict #[] }) scope.names } := ⟨_, rfl⟩
  rw [← hs4] at I4
  have goal : codeAny (model X.prog X.w) X.A (.compStart (.DictComp kx vx [⟨tg, iter, ifs, 0⟩] scope pos) 0 (.ref it) (.ref D) (compEnvC scope cl s3.heap.objs.size X.env)) (compPost (model X.prog X.w) X.A X.xe use Qf (.ref D) s3.heap.objs.size) s4 := by
    obtain ⟨ce, hce⟩ : ∃ ce, ce = compEnvC scope cl s3.heap.objs.size X.env := ⟨_, rfl⟩
    rw [← hce] at I4 pg pt pk pv ⊢
    have loc : ce.locals = s3.heap.objs.size := by rw [hce]; rfl
    obtain ⟨H3, hH3⟩ : ∃ H3, H3 = upd H2 D (.dT []) := ⟨_, rfl⟩
    rw [← hH3] at I3 I4 pg pt pk pv w0 blank off3
    have run4 : tn 0 s4.heap := T.keep _ _ _ run3 fun b _ o e => by rw [hs4]; exact pushCells_keeps _ _ _ _ (Heap.get?_push_of_some _ e)
    have rest : ∀ {σ' : L2.St} {H' : Hp} {s' : Shared}, Inv (X.blk s3 H3 scope ce fp) [] σ' H' s' → (∀ b ∈ fp, H' b = none) → ∀ b ∈ fp, FpOk (X.blk s3 H3 scope ce fp) [] H' b := fun I' hn b hb =>
      ⟨hn b hb, (I'.ok.exf b hb).1, I'.ok.exfs b hb, .inl hb, fun x c e => (I'.ok.exf b hb).2 x c e, fun p hp => nomatch (show p ∈ ([] : List (Addr × Obj)) from hp)⟩
    refine codeAny_compStart_dict (?_ : codeAny _ _ (.compLoop (.DictComp kx vx [⟨tg, iter, ifs, 0⟩] scope pos) 0 (.ref it) (.ref D) ce) _ s4) (T.self X.A 0 _ _ _ run4 ?_)
    all_goals
      refine compLoop_anyD (fun n s' => ∃ i H', Inv (X.blk s3 H3 scope ce fp) [] (wipe σ (own.map (·.2))) H' s' ∧ tn i s'.heap ∧ (∀ b ∈ fp, H' b = none) ∧ W i n H') ?_ m0 ⟨0, H3, I4, run4, blank, w0⟩
      rintro n s5 ⟨i, H5, I5, run5, blank5, w5⟩
      rcases turn i n H5 w5 with ⟨stop, qq⟩ | ⟨go, Nx, less, step⟩
      · refine thnF (T.done (X.blk s3 H3 scope ce fp) rfl rfl rfl hc i [] s5 _ H5 (fun _ _ => False) I5 (rest I5 blank5) run5 stop) fun _ s6 ⟨e6, I6⟩ => ?_
        subst e6
        have I7 : Inv X pins σ H5 s6 := I3.call' (ch := fp) I6.os I6.base I6.hok I6.bare fun b hb => let z := (off3 b hb).1; ⟨z.2.2.2.1, z.2.1, z.2.2.2.2.1, z.2.2.2.2.2⟩
        have noC : H5 s3.heap.objs.size = none := loc ▸ (show H5 ce.locals = none from I6.free)
        obtain ⟨m, ns, _⟩ := I6.loc
        exact fin D s3.heap.objs.size s6 m H5 I7 qq (loc ▸ (show s6.heap.Ns ce.locals m from ns)) (I3.fpOk (Nat.le_refl _) noC)
      · refine thnF (T.item (X.blk s3 H3 scope ce fp) rfl rfl rfl hc i [] s5 _ H5 (fun _ _ => False) I5 (rest I5 blank5) run5 go) fun _ s6 ⟨u, e6, a6⟩ => ?_
        subst e6
        refine thnF a6 fun _ s7 ⟨x, H7, I7, r7, y7, run7, blank7⟩ => ?_
        have pin7 := I7.pinned (rest I7 blank7) (T.obj _ _ run7)
        refine thnF (pg.run _ s7 _ H7 x u _ pin7 r7 (step x H7 y7)) fun _ s8 ⟨σ8, H8, I8, wi8, q8⟩ => ?_
        refine thnF (pt.run _ s8 σ8 H8 _ I8 q8) fun b s9 ⟨H9, I9, q9⟩ => ?_
        have again : ∀ {s' : Shared} {H' : Hp}, Inv (X.blk s3 H3 scope ce fp) ([] ++ pinsAt fp s7.heap) σ8 H' s' → Nx H' → ∃ m, m < n ∧ ∃ i H', Inv (X.blk s3 H3 scope ce fp) [] (wipe σ (own.map (·.2))) H' s' ∧ tn i s'.heap ∧ (∀ b ∈ fp, H' b = none) ∧ W i m H' := fun {s' H'} I' nx => by
          obtain ⟨m', lt, w'⟩ := less H' nx
          have pinned : ∀ b ∈ fp, ∀ o, s7.heap.get? b = some o → s'.heap.get? b = some o ∧ H' b = none := fun b hb o e => let z := I'.pin (b, o) (List.mem_append_right _ (List.mem_append_right _ (mem_pinsAt hb e))); ⟨z.1, z.2.1⟩
          have le : (wipe σ (own.map (·.2))).length = σ8.length := (congrArg List.length wi8).symm.trans (wipe_length _ _)
          refine ⟨m', lt, i + 1, H', (I'.unpinned (pins := [])).weak le (fun j v e => (wipe_some (wi8 ▸ e)).1), T.keep _ _ _ run7 fun b hb o e => (pinned b hb o e).1, fun b hb => ?_, w'⟩
          obtain ⟨o, e, _⟩ := T.obj _ _ run7 b hb
          exact (pinned b hb o e).2
        cases b with
        | false => exact again I9 (by simpa using q9)
        | true =>
          have q9 := (if_pos rfl).mp q9
          show (if true = true then _ else _)
          rw [if_pos rfl]
          refine thnF (pk.run _ s9 σ8 H9 _ I9 q9) fun z s10 ⟨yk, H10, I10, r10, q10⟩ => ?_
          refine thnF (pv.run _ s10 σ8 H10 _ I10 q10) fun z2 s11 ⟨yv, H11, I11, r11, kvs, k, b, ek, hb, hD11, hz11, nx⟩ => ?_
          subst ek
          cases r10
          exact put_dT (X := X.blk s3 H3 scope ce fp) hu I11 hD11 hz11 hb r11 fun s12 I12 => again I12 nx
  rw [hs4, hcl] at goal
  subst hs3
  exact goal
/-- as a value -/
theorem pe_dcT (hu : X.A.units < cLine) {kx vx tg iter : Expr} {ifs : List Expr} {scope : Scope} {own : List (Str × Nat)} {pos : Pos} {wi : TI} {g : TG} {tt : TT} {tk tv : TE} (hc : X.calm = true) (hN : X.N.Nodup) (hi : PI X tg iter wi) (ok : BlkOk X.N X.env.scope scope own)
    (hg : ∀ (s : Shared) (H : Hp) (C : Addr) (cl : List (Str × Addr)) (fp : List Addr), PG (X.blk s H scope (compEnvC scope cl C X.env) fp) tg g) (ht : ∀ (s : Shared) (H : Hp) (C : Addr) (cl : List (Str × Addr)) (fp : List Addr), PTs (X.blk s H scope (compEnvC scope cl C X.env) fp) ifs tt)
    (hk : ∀ (s : Shared) (H : Hp) (C : Addr) (cl : List (Str × Addr)) (fp : List Addr), PE (X.blk s H scope (compEnvC scope cl C X.env) fp) kx tk)
    (he : ∀ (s : Shared) (H : Hp) (C : Addr) (cl : List (Str × Addr)) (fp : List Addr), PE (X.blk s H scope (compEnvC scope cl C X.env) fp) vx tv) (hs : ∀ x, foldedSetIterable iter X.env x = pure x := by intro _; rfl) :
    PE X (.DictComp kx vx [⟨tg, iter, ifs, 0⟩] scope pos) (tDcT wi g tt tk tv (own.map (·.2))) := by
  refine ⟨fun pins s σ H Q I h => ?_⟩
  rw [arm_eval_DictComp]
  refine run_dcT hu hc hN I hi ok hg ht hk he hs h fun D C s' m H' I' q hn f => ⟨m, hn, fun h2 sb => ⟨.ref D, H', ?_, rfl, q⟩⟩
  exact I'.turned (t' := s'.toks) (fun b o hb e => (sb.2 b hb).trans e) f.1 f.2.1 f.2.2.2.1 f.2.2.2.2.1 f.2.2.2.2.2
end
/-! ### {k: v for t in it if ..} -/
def dcGoT (g : MG) (tt : MT) (mk mv : ME) (ρ : Ro) : List D → List (List Key × D) → Option (List (List Key × D))
  | [], acc => some acc
  | d :: ds, acc => (g d ρ).bind fun ρ1 => match tt ρ1 with
    | some (.ok true) => (match mk ρ1 with
      | some (.ok kd) => (match mv ρ1 with
        | some (.ok y) => (tkD kd).bind fun k => dcGoT g tt mk mv ρ ds (ptD acc k y)
        | _ => none)
      | _ => none)
    | some (.ok false) => dcGoT g tt mk mv ρ ds acc
    | _ => none
def mDcT (src : MI) (vs : List Nat) (g : MG) (tt : MT) (mk mv : ME) : ME := fun ρ => bnd (src ρ) fun ds => guard (noOwn ρ vs = true ∧ ds.length ≤ lim) ((dcGoT g tt mk mv (wipeR ρ vs) ds []).map fun ys => .ok (.dT ys))
section
variable {X : Cx} {c : Conf} {W : WX}
theorem dcT_ok {src : MI} {vs is : List Nat} {g : MG} {tt : MT} {mk mv : ME} {gg : TG} {X' : Cx} {tg : Expr} (hsub : ∀ i ∈ is, i ∈ vs) (kfx : vs.all (fun v => fxOk c.fx v) = true)
    (hg : GOk c is gg g)
    {σ : L2.St} {H : Hp} {Q : VK} (h : tE c W .own (mDcT src vs g tt mk mv) σ H Q) : tDcT (tI c W false src) gg (tT c W0 tt) (tE c W0 .bor mk) (tE c W0 .dur mv) vs σ H Q := by
  obtain ⟨Γ, ρ, r, er, em, p⟩ := h
  have em : bnd (src ρ) _ = some r := em
  cases q : src ρ with
  | none => rw [q] at em; cases em
  | some w =>
    rw [q] at em
    cases w with
    | error x =>
      cases em
      exact ⟨Γ, ρ, _, er, q, p⟩
    | ok ds =>
      obtain ⟨⟨no, hlim⟩, em⟩ := guard_ok em
      obtain ⟨ys, hys, rfl⟩ := Option.map_eq_some_iff.mp em
      refine ⟨Γ, ρ, _, er, q, fun J P us ra H1 s1 e1 r1 w1 q1 st D hD => ?_⟩
      have lu := r1.len
      have h0 : Γ.H0 D = none := e1.ext.free hD
      have nD : ¬ NN Γ σ ρ D := fun z => e1.tracked z hD
      refine ⟨fun i m H' => m = ds.length - i ∧ i ≤ ds.length ∧ ∃ (acc : List (List Key × V)) (ys1 : List (List Key × DL.D)), H' D = some (.dT acc) ∧ acc.map (·.1) = ys1.map (·.1) ∧ Rp c (NN (Γ.add D) σ ρ) H' (acc.map (·.2)) (ys1.map (·.2)) ∧ acc.length ≤ i ∧ Same H1 H' ∧ ER c (Γ.add D) σ H' ρ ∧ dcGoT g tt mk mv (wipeR ρ vs) (ds.drop i) ys1 = some ys,
        ⟨_, rfl, Nat.zero_le _, [], [], upd_same, rfl, .nil, Nat.le_refl _, same_new hD, e1.addU hD, hys⟩, ?_⟩
      rintro i m H2 ⟨rfl, hil, acc, ys1, hacc, kacc, racc, hal, s2, e2, em2⟩
      have hP : P H2 := st H2 fun p hp => s2 _ _ (q1 p hp).2
      by_cases hlt : i < ds.length
      · have hx : us[i]? = some us[i] := List.getElem?_eq_getElem (by rw [lu]; exact hlt)
        obtain ⟨go, yl⟩ := w1.go i H2 _ hP hx
        refine .inr ⟨go, fun H' => ∃ (acc : List (List Key × V)) (ys1 : List (List Key × DL.D)), H' D = some (.dT acc) ∧ acc.map (·.1) = ys1.map (·.1) ∧ Rp c (NN (Γ.add D) σ ρ) H' (acc.map (·.2)) (ys1.map (·.2)) ∧ acc.length ≤ i + 1 ∧ Same H1 H' ∧ ER c (Γ.add D) σ H' ρ ∧ dcGoT g tt mk mv (wipeR ρ vs) (ds.drop (i + 1)) ys1 = some ys,
          fun H' z => ⟨ds.length - (i + 1), by omega, rfl, hlt, z⟩, fun x H3 y3 => ?_⟩
        obtain ⟨eH, ex⟩ := yl x H3 y3
        subst eH ex
        rw [List.drop_eq_getElem_cons hlt] at em2
        unfold dcGoT at em2
        obtain ⟨ρ3, hg3, em3⟩ := Option.bind_eq_some_iff.mp em2
        have ew := e2.wipe kfx
        have nnw : ∀ a, NN (Γ.add D) (wipe σ vs) (wipeR ρ vs) a → NN (Γ.add D) σ ρ a := fun a h => by
          rcases h with h | ⟨j, f, h1, h2⟩
          · exact .inl h
          · exact .inr ⟨j, f, (wipeR_some h1).1, (wipe_some h2).1⟩
        have ri : Re c (NN (Γ.add D) (wipe σ vs) (wipeR ρ vs)) H3 us[i] ds[i] := by
          refine Rp.step (fun a o n hq => ?_) (r1.at_ hx (List.getElem?_eq_getElem hlt))
          refine ⟨s2 a o hq, fun z => ?_⟩
          rcases nnw a z with (z | z) | z
          · exact n (.inl z)
          · subst z; rw [hD] at hq; cases hq
          · exact n (.inr z)
        refine hg (Γ.add D) (wipe σ vs) H3 (wipeR ρ vs) ρ3 _ _ _ ew ri hg3 fun σ4 e4 l4 o4 => ⟨?_, ?_⟩
        · have : wipe σ4 vs = wipe (wipe σ vs) vs := wipe_set l4 fun j hj => (o4 j fun z => hj (hsub j z)).1
          rw [this]
          exact wipe_set (wipe_length σ vs) fun j hj => wipe_out hj
        have back : ∀ a, NN (Γ.add D) σ ρ a → NN (Γ.add D) σ4 ρ3 a := NN_blk hsub no o4
        cases et : tt ρ3 with
        | none => rw [et] at em3; cases em3
        | some w =>
          rw [et] at em3
          cases w with
          | error x => cases em3
          | ok b =>
            refine ⟨Γ.add D, ρ3, _, e4, et, fun H5 s5 e5 => ?_⟩
            cases b with
            | false =>
              rw [if_neg Bool.false_ne_true]
              exact ⟨acc, ys1, s5 _ _ hacc, kacc, racc.same s5, by omega, s2.trans s5, e2.same s5, em3⟩
            | true =>
              rw [if_pos rfl]
              dsimp only at em3
              cases ek : mk ρ3 with
              | none => rw [ek] at em3; cases em3
              | some w =>
                rw [ek] at em3
                cases w with
                | error x => cases em3
                | ok kd =>
                  dsimp only at em3
                  refine ⟨Γ.add D, ρ3, _, e5, ek, fun kv H6 s6 r6 => ?_⟩
                  cases ee : mv ρ3 with
                  | none => rw [ee] at em3; cases em3
                  | some w =>
                    rw [ee] at em3
                    cases w with
                    | error x => cases em3
                    | ok y =>
                      obtain ⟨k, hk, em4⟩ := Option.bind_eq_some_iff.mp em3
                      refine ⟨Γ.add D, ρ3, _, r6.1, ee, fun v H7 s7 r7 => ?_⟩
                      have sx : Same H3 H7 := (s5.trans s6).trans s7
                      have n2 : NN (Γ.add D) σ ρ D := .inl (.inr rfl)
                      obtain ⟨pk, pr⟩ := pt_rel kacc (racc.same sx) k (r7.2.less back)
                      have hl : (putK acc k v).length ≤ acc.length + 1 := length_putK acc k v
                      obtain ⟨b, eb, hb⟩ := tkD_v hk r6.2
                      refine ⟨acc, k, b, eb, s7 _ _ hb, sx _ _ hacc, Nat.lt_of_le_of_lt hal (Nat.lt_of_lt_of_le hlt (lim_ok hlim)), putK acc k v, ptD ys1 k y, upd_same, pk, ?_, by omega, ?_, ?_, em4⟩
                      · exact Rp.step (mut_step n2) pr
                      · intro a o ha
                        rw [upd_ne (ne_of_none ha hD)]
                        exact sx _ _ (s2 _ _ ha)
                      · have e6 : ER c (Γ.add D) σ H7 ρ := e2.same sx
                        have st' := mut_step (H := H7) (o := .dT (putK acc k v)) n2
                        exact {
                          len := e6.len
                          ext := fun a o ha => by
                            have ne : a ≠ D := fun z => by subst z; have := h0; rw [show Γ.H0 a = some o from ha] at this; cases this
                            rw [upd_ne ne]; exact e6.ext a o ha
                          utr := fun a ha => by
                            by_cases z : a = D
                            · subst z; exact Mt.upd fun _ z => by cases z
                            · exact (e6.utr a ha).off z
                          held := fun p hp => (e6.held p hp).step st'
                          raw := fun p hp => let z := st' _ _ (e6.raw p hp).1 (e6.raw p hp).2; ⟨z.2, z.1⟩
                          fx := e6.fx
                          own := e6.own
                          dis := e6.dis
                          slot := fun j f hf => let ⟨v, h1, h2⟩ := e6.slot j f hf; ⟨v, h1, h2.step st'⟩
                          mine := fun j f hf => let ⟨b, h1, h2⟩ := e6.mine j f hf; ⟨b, h1, h2.step (fun o ho => by
                            have ne : b ≠ D := fun z => by subst z; exact (e6.own j f b hf h1).2 (.inr rfl)
                            rw [upd_ne ne]; exact ho) st'⟩ }
      · have e : i = ds.length := by omega
        subst e
        rw [List.drop_length] at em2
        cases em2
        exact .inl ⟨w1.stop _ _ hP (by rw [lu]; exact Nat.le_refl _), p (.ref D) H2 (s1.trans s2) ⟨D, rfl, h0, nD, e2, acc, hacc, kacc, racc⟩⟩
variable {kx vx tg iter : Expr} {ifs : List Expr} {scope : Scope} {own : List (Str × Nat)} {pos : Pos} {src : MI} {is : List Nat} {g : MG} {tt : MT} {mk mv : ME}
theorem d_dcT (hu : X.A.units + 64 < cLine) (own : List (Str × Nat)) (hc : X.calm = true) (hN : X.N.Nodup) (hi : PI X tg iter (tI c W false src)) (ok : blkC X.N X.env.scope scope own = true)
    {gg : TG} (pg : ∀ (s : Shared) (H : Hp) (C : Addr) (cl : List (Str × Addr)) (fp : List Addr), PG (X.blk s H scope (compEnvC scope cl C X.env) fp) tg gg) (hgg : GOk c is gg g)
    (ht : ∀ (s : Shared) (H : Hp) (C : Addr) (cl : List (Str × Addr)) (fp : List Addr), PTs (X.blk s H scope (compEnvC scope cl C X.env) fp) ifs (tT c W0 tt))
    (hk : ∀ (s : Shared) (H : Hp) (C : Addr) (cl : List (Str × Addr)) (fp : List Addr), PE (X.blk s H scope (compEnvC scope cl C X.env) fp) kx (tE c W0 .bor mk))
    (he : ∀ (s : Shared) (H : Hp) (C : Addr) (cl : List (Str × Addr)) (fp : List Addr), PE (X.blk s H scope (compEnvC scope cl C X.env) fp) vx (tE c W0 .dur mv)) (hsub : ∀ i ∈ is, i ∈ own.map (·.2) := by decide)
    (kfx : (own.map (·.2)).all (fun v => fxOk c.fx v) = true := by rfl) (hs : ∀ x, foldedSetIterable iter X.env x = pure x := by intro _; rfl) :
    PE X (.DictComp kx vx [⟨tg, iter, ifs, 0⟩] scope pos) (tE c W .own (mDcT src (own.map (·.2)) g tt mk mv)) :=
  (pe_dcT (by omega) hc hN hi (blkOk_by ok) pg ht hk he hs).via fun σ H Q h => dcT_ok (X' := X) (tg := tg) hsub kfx hgg h
open PySem.Spec PyProof.Rows in
theorem ps_setDcT (hu : X.A.units < cLine) {i : Nat} {y : Str} {py : Pos} {kx vx tg iter : Expr} {ifs : List Expr} {scope : Scope} {own : List (Str × Nat)} {pos spos : Pos} {wi : TI} {g : TG} {tt : TT} {tk tv : TE} (hc : X.calm = true) (hN : X.N.Nodup) (hy : X.N[i]? = some y) (hyl : X.env.scope.names.lookup y = some .local)
    (hsw : swapsWith (.DictComp kx vx [⟨tg, iter, ifs, 0⟩] scope pos) (some (.Name y py)) spos.line X.env = pure true) (hi : PI X tg iter wi) (ok : BlkOk X.N X.env.scope scope own)
    (hg : ∀ (s : Shared) (H : Hp) (C : Addr) (cl : List (Str × Addr)) (fp : List Addr), PG (X.blk s H scope (compEnvC scope cl C X.env) fp) tg g) (ht : ∀ (s : Shared) (H : Hp) (C : Addr) (cl : List (Str × Addr)) (fp : List Addr), PTs (X.blk s H scope (compEnvC scope cl C X.env) fp) ifs tt)
    (hk : ∀ (s : Shared) (H : Hp) (C : Addr) (cl : List (Str × Addr)) (fp : List Addr), PE (X.blk s H scope (compEnvC scope cl C X.env) fp) kx tk)
    (he : ∀ (s : Shared) (H : Hp) (C : Addr) (cl : List (Str × Addr)) (fp : List Addr), PE (X.blk s H scope (compEnvC scope cl C X.env) fp) vx tv) (hs : ∀ x, foldedSetIterable iter X.env x = pure x := by intro _; rfl) :
    PS X (.Assign [.Name y py] (.DictComp kx vx [⟨tg, iter, ifs, 0⟩] scope pos) spos) (tAsg (tDcT wi g tt tk tv (own.map (·.2))) (gName i)) := by
  refine ⟨fun pins s σ H D I h => ?_⟩
  rw [exec_Assign_Name_used _ _ _ _ hsw]
  refine wpAny_bind (wpAny_standAt (wpAny_bind ?_))
  show wpAny _ X.A (do let _ ← comprehension (.DictComp kx vx [⟨tg, iter, ifs, 0⟩] scope pos) scope X.env (firstIterPos [⟨tg, iter, ifs, 0⟩] pos) newDict false (eval iter X.env) (some (assign (.Name y py) X.env))) _ _ s
  have h : tDcT wi g tt tk tv (own.map (·.2)) σ H (fun x H1 => gName i x σ H1 D.nx) := h
  refine wpAny_bind (thn (run_dcT hu (Qf := fun _ s' => SP X pins D .next s') hc hN I hi ok hg ht hk he hs h fun L C s' m H' I' q hn f => ?_) fun _ s' hq => wpAny_pure (wpAny_pure hq))
  show wpAny _ _ (assign (.Name y py) X.env (.ref L)) _ _ _
  refine wpAny_assign_Name (store_ok2 (v := V.ref L) I' hN hy (.inl hyl) rfl (fun s2 I2 ⟨a, sb, ha⟩ => ?_) (.inr hyl))
  obtain ⟨f0, f1, f2, f3, f4, f5⟩ := f
  have haC : C ≠ a := by
    rcases ha with z | z
    · rw [z]; exact f1
    · exact fun e => f4 y a z e.symm
  refine ⟨m, hn.sameBut sb haC, fun h3 sb3 => ?_⟩
  exact ⟨_, H', I2.turned (t' := s2.toks) (fun b o hb e => (sb3.2 b hb).trans e) f0 f1 f3 f4 f5, q⟩
/-- y = {k: v for ..} on one line -/
theorem s_setDcT (hu : X.A.units + 64 < cLine) (j : Nat) {y : Str} {py spos : Pos} (own : List (Str × Nat)) (hc : X.calm = true) (hN : X.N.Nodup) (hsw : swapsWith (.DictComp kx vx [⟨tg, iter, ifs, 0⟩] scope pos) (some (.Name y py)) spos.line X.env = pure true)
    (hi : PI X tg iter (tI c W false src)) (ok : blkC X.N X.env.scope scope own = true)
    {gg : TG} (pg : ∀ (s : Shared) (H : Hp) (C : Addr) (cl : List (Str × Addr)) (fp : List Addr), PG (X.blk s H scope (compEnvC scope cl C X.env) fp) tg gg) (hgg : GOk c is gg g)
    (ht : ∀ (s : Shared) (H : Hp) (C : Addr) (cl : List (Str × Addr)) (fp : List Addr), PTs (X.blk s H scope (compEnvC scope cl C X.env) fp) ifs (tT c W0 tt))
    (hk : ∀ (s : Shared) (H : Hp) (C : Addr) (cl : List (Str × Addr)) (fp : List Addr), PE (X.blk s H scope (compEnvC scope cl C X.env) fp) kx (tE c W0 .bor mk))
    (he : ∀ (s : Shared) (H : Hp) (C : Addr) (cl : List (Str × Addr)) (fp : List Addr), PE (X.blk s H scope (compEnvC scope cl C X.env) fp) vx (tE c W0 .dur mv)) (hsub : ∀ i ∈ is, i ∈ own.map (·.2) := by decide)
    (kfx : (own.map (·.2)).all (fun v => fxOk c.fx v) = true := by rfl) (hs : ∀ x, foldedSetIterable iter X.env x = pure x := by intro _; rfl) (hy : X.N[j]? = some y := by rfl) (hyl : X.env.scope.names.lookup y = some .local := by rfl) (k : fxOk c.fx j = true := by rfl) :
    PS X (.Assign [.Name y py] (.DictComp kx vx [⟨tg, iter, ifs, 0⟩] scope pos) spos) (tS c W (mSet j true (mDcT src (own.map (·.2)) g tt mk mv))) :=
  (ps_setDcT (by omega) hc hN hy hyl hsw hi (blkOk_by ok) pg ht hk he hs).via fun D σ H ⟨Γ, ρ, o, er, em, p⟩ => by
    refine dcT_ok (X' := X) (tg := tg) hsub kfx hgg (useS er em p fun d v H1 h1 s1 r1 => ?_)
    cases h1
    obtain ⟨a, rfl, h0, na, e1, ow⟩ := r1
    exact p _ _ (ER.setO e1 h0 na ow k)
end
end DL

set_option Elab.async false
set_option linter.all false
set_option maxRecDepth 100000
set_option maxHeartbeats 2000000
set_option autoImplicit false
/-! DMa: instances of one class: fields, methods, the class called. -/
namespace DL
open PySem PySem.Spec L2
/-- what is known of the class x -/
structure ClsX (K : PySem.W.Frag) (c : Conf) (x : Str) (C : Addr) : Prop where
  at_ : c.cls x C
  un : ∀ D, c.cls x D → D = C
  cls : Cls K C
section
variable {c : Conf} {N : Addr → Prop} {H : Hp}
theorem Re.of_obj {v : V} {y : Str} {fds : List (Str × D)} (h : Re c N H v (.obj y fds)) : ∃ a dx C fs, v = .ref a ∧ c.cls y C ∧ ¬ N a ∧ H a = some (.ins C dx fs) ∧ fs.map (·.1) = fds.map (·.1) ∧ Rp c N H (fs.map (·.2)) (fds.map (·.2)) := by
  cases h with
  | obj k n e f r _ => exact ⟨_, _, _, _, rfl, k, n, e, f, r⟩
theorem Bor.obj {v : V} {y : Str} {fds : List (Str × D)} (h : Bor c N H v (.obj y fds)) : Re c N H v (.obj y fds) := h
theorem lookup_rel : ∀ {fs : List (Str × V)} {fds : List (Str × D)}, fs.map (·.1) = fds.map (·.1) → Rp c N H (fs.map (·.2)) (fds.map (·.2)) → ∀ {f : Str} {d : D}, fds.lookup f = some d → ∃ v, fs.lookup f = some v ∧ Re c N H v d
  | [], [], _, _, f, d, h => by cases h
  | [], q :: fds, k, _, _, _, _ => by cases k
  | p :: fs, [], k, _, _, _, _ => by cases k
  | (x, v) :: fs, (y, e) :: fds, k, r, f, d, h => by
    obtain ⟨rfl, k2⟩ : x = y ∧ fs.map (·.1) = fds.map (·.1) := by
      have := List.cons.inj k
      exact ⟨this.1, this.2⟩
    have r : Rp c N H (v :: fs.map (·.2)) (e :: fds.map (·.2)) := r
    rw [List.lookup_cons] at h ⊢
    by_cases q : f = x
    · subst q
      rw [beq_self_eq_true] at h ⊢
      cases h
      exact ⟨v, rfl, r.unc.1⟩
    · rw [beq_false_of_ne q] at h ⊢
      exact lookup_rel k2 r.unc.2 h
theorem lookup_none : ∀ {fs : List (Str × V)} {fds : List (Str × D)}, fs.map (·.1) = fds.map (·.1) → ∀ {f : Str}, fds.lookup f = none → fs.lookup f = none
  | [], [], _, f, _ => rfl
  | [], q :: fds, k, _, _ => by cases k
  | p :: fs, [], k, _, _ => by cases k
  | (x, v) :: fs, (y, e) :: fds, k, f, h => by
    obtain ⟨rfl, k2⟩ : x = y ∧ fs.map (·.1) = fds.map (·.1) := by
      have := List.cons.inj k
      exact ⟨this.1, this.2⟩
    rw [List.lookup_cons] at h ⊢
    by_cases q : f = x
    · subst q
      rw [beq_self_eq_true] at h
      cases h
    · rw [beq_false_of_ne q] at h ⊢
      exact lookup_none k2 h
end
section
variable {X : Cx} {c : Conf} {W : WX}
/-- o.f -/
def dFld (x f : Str) : D → R D
  | .obj y fs => if y = x then (fs.lookup f).map .ok else none
  | _ => none
theorem d_fld {x f : Str} {C : Addr} {o : Expr} {m : ME} {pos : Pos} (k : ClsX X.K c x C) (n : NoAttr X.K C f) (ho : PE X o (tE c W .bor m)) (hb : attributeBase o f X.env (eval o X.env) = eval o X.env := by rfl) :
    PE X (.Attribute o f pos) (tE c W .dur (mUn (dFld x f) m)) := (pe_fld ho hb).via fun σ H Q ⟨Γ, ρ, r, er, em, p⟩ => by
  refine use er em p.err fun d v H1 h1 s1 r1 => ?_
  unfold dFld at h1
  split at h1
  · split at h1
    · rename_i y fds hy
      subst hy
      obtain ⟨e, he, h1⟩ := Option.map_eq_some_iff.mp h1
      subst h1
      obtain ⟨a, dx, C', fs, rfl, hc, na, ha, kf, rf⟩ := Re.of_obj r1.2
      obtain rfl := k.un _ hc
      obtain ⟨u, hu, ru⟩ := lookup_rel kf rf he
      exact ⟨a, C', dx, fs, u, rfl, ha, k.cls, n, hu, p _ _ s1 ⟨r1.1, ru⟩⟩
    · cases h1
  · cases h1
/-! ### methods -/
def tMethD (C : Addr) (m : Str) (sp : Sp) (E : L2.St → XK) (ta : TE) (t : TA) : TE := fun σ H Q => ta σ H fun x H1 => ∃ a dx fs, x = .ref a ∧ H1 a = some (.ins C dx fs) ∧ fs.lookup m = none ∧ t σ H1 fun vs H2 => sp (x :: vs) H2 Q (E σ)
section
variable {CX : CXT} {k : Nat} {C f : Addr} {fd : FuncData} {ps : List Str} {m : Str} {sp : Sp} {E : L2.St → XK} {o e : Expr} {es : List Expr} {ta : TE} {t : TA} {apos pos : Pos}
theorem pe_methD {pl : Sem Bool} (he : PE X o ta) (cl : Cls X.K C) (hm : Meth X.K C m f) (F : FnOk X.prog X.w X.K X.mg X.base CX k f fd ps sp) (hr : Room k X.A) (hb : Binds X.K fd ps []) (hx : ∀ σ, PassesAt CX X σ (E σ)) (ha : PA X (e :: es) t)
    (hst : starEach (e :: es) X.env = (false, eval e X.env) :: starEach es X.env := by rfl) (hpl : (backTo pos (starEach es X.env)).any (·.1) = false := by rfl)
    (ht : eval (.Call (.Attribute o m apos) (e :: es) [] pos) X.env = (do
      let ov ← eval o X.env
      standAt apos.atName
      let (f, first) ← holding [ov] (getMethod ov m pl)
      callWith pos f first (backTo pos (starEach (e :: es) X.env)) (backToKw pos (keywordEach [] X.env))) := by rfl) :
    PE X (.Call (.Attribute o m apos) (e :: es) [] pos) (tMethD C m sp E ta t) := by
  refine ⟨fun pins s σ H Q I h => ?_⟩
  refine PySem.W.methodCall_KW (pl := pl) (thn (he.run pins s σ H _ I h) fun u s1 ⟨x, H1, I1, rx, a, dx, fs, ex, ea, l, q⟩ => ?_) ht
  subst ex
  obtain rfl : u = Value.ref a := rx
  refine getmeth_ok I1 ea cl hm l ?_
  refine PySem.W.callWith_K (first := [.ref a]) (h₀ := X.base) I.ok.mod.kin hm.kp (thn (ha.run pos pins s1 σ H1 _ I1 q) fun us s2 ⟨vs, H2, I2, r, q2⟩ => ⟨I2.kIn, ?_⟩) hst hpl
  exact run_fnS (us := .ref a :: us) (vs := .ref a :: vs) F hr hb (hx σ) I2 (.cons rfl r) q2
theorem pe_methD0 {pl : Sem Bool} (he : PE X o ta) (cl : Cls X.K C) (hm : Meth X.K C m f) (F : FnOk X.prog X.w X.K X.mg X.base CX k f fd ps sp) (hr : Room k X.A) (hb : Binds X.K fd ps []) (hx : ∀ σ, PassesAt CX X σ (E σ))
    (ht : eval (.Call (.Attribute o m apos) [] [] pos) X.env = (do
      let ov ← eval o X.env
      standAt apos.atName
      let (f, first) ← holding [ov] (getMethod ov m pl)
      callWith pos f first (backTo pos (starEach [] X.env)) (backToKw pos (keywordEach [] X.env))) := by rfl) :
    PE X (.Call (.Attribute o m apos) [] [] pos) (tMethD C m sp E ta tNil) := by
  refine ⟨fun pins s σ H Q I h => ?_⟩
  refine PySem.W.methodCall_KW (pl := pl) (thn (he.run pins s σ H _ I h) fun u s1 ⟨x, H1, I1, rx, a, dx, fs, ex, ea, l, q⟩ => ?_) ht
  subst ex
  obtain rfl : u = Value.ref a := rx
  refine getmeth_ok I1 ea cl hm l ?_
  exact PySem.W.callWith_K0 (first := [.ref a]) I1.kIn hm.kp (run_fnS (us := [.ref a]) (vs := [.ref a]) F hr hb (hx σ) I1 (.cons rfl .nil) q)
end
/-- a method of the class -/
structure MtAt (P : Program) (w : World) (K : PySem.W.Frag) (mg : Str → Option Value) (base : Heap) (c : Conf) (x m : Str) (k : Nat) (ps : List Str) (f : List D → R D) : Prop where
  ex : ∃ (C g : Addr) (fd : FuncData), ClsX K c x C ∧ Meth K C m g ∧ FnOk P w K mg base (L2.CX P w) k g fd ps (SpD c f) ∧ Binds K fd ps []
def mMt (x m : Str) (f : List D → R D) (mo : ME) (ml : MA) : ME := fun ρ => bnd (mo ρ) fun d => match d with
  | .obj y fs => if y = x ∧ fs.lookup m = none then bnd (ml ρ) fun ds => f (.obj y fs :: ds) else none
  | _ => none
theorem d_mt {x m : Str} {k : Nat} {ps : List Str} {f : List D → R D} {o e : Expr} {es : List Expr} {mo : ME} {l : MA} {apos pos : Pos} (G : MtAt X.prog X.w X.K X.mg X.base c x m k ps f) (hr : Room k X.A) (tk : Takes X W) (ho : PE X o (tE c W .bor mo)) (ha : PA X (e :: es) (tA c W l))
    (hst : starEach (e :: es) X.env = (false, eval e X.env) :: starEach es X.env := by rfl) (hpl : (backTo pos (starEach es X.env)).any (·.1) = false := by rfl) {pl : Sem Bool}
    (ht : eval (.Call (.Attribute o m apos) (e :: es) [] pos) X.env = (do
      let ov ← eval o X.env
      standAt apos.atName
      let (f, first) ← holding [ov] (getMethod ov m pl)
      callWith pos f first (backTo pos (starEach (e :: es) X.env)) (backToKw pos (keywordEach [] X.env))) := by rfl) :
    PE X (.Call (.Attribute o m apos) (e :: es) [] pos) (tE c W .dur (mMt x m f mo l)) := by
  obtain ⟨C, g, fd, kc, hm, F, hb⟩ := G.ex
  refine (pe_methD ho kc.cls hm F hr hb (fun σ => passAt tk σ) ha hst hpl ht).via fun σ H Q ⟨Γ, ρ, r, er, em, p⟩ => ?_
  refine use er em p.err fun d v H1 h1 s1 r1 => ?_
  split at h1
  · split at h1
    · rename_i y fds hy
      obtain ⟨rfl, hn⟩ := hy
      obtain ⟨a, dx, C', fs, rfl, hc, na, hh, kf, rf⟩ := Re.of_obj r1.2
      obtain rfl := kc.un _ hc
      refine ⟨a, dx, fs, rfl, hh, lookup_none kf hn, ?_⟩
      refine useA r1.1 h1 p.err fun ds vs H2 h2 s2 e2 r2 => ⟨NN Γ σ ρ, _ :: ds, r, fun a h => e2.mt h, Rp.cons (r1.2.same s2) r2, h2, ?_⟩
      cases r with
      | ok d => exact fun v H' s3 r3 => p v H' (s1.trans (s2.trans s3)) ⟨e2.same s3, r3⟩
      | error x => exact fun C H' s3 k => p C H' (e2.same s3) k
    · cases h1
  · cases h1
theorem d_mt0 {x m : Str} {k : Nat} {ps : List Str} {f : List D → R D} {o : Expr} {mo : ME} {apos pos : Pos} (G : MtAt X.prog X.w X.K X.mg X.base c x m k ps f) (hr : Room k X.A) (tk : Takes X W) (ho : PE X o (tE c W .bor mo)) {pl : Sem Bool}
    (ht : eval (.Call (.Attribute o m apos) [] [] pos) X.env = (do
      let ov ← eval o X.env
      standAt apos.atName
      let (f, first) ← holding [ov] (getMethod ov m pl)
      callWith pos f first (backTo pos (starEach [] X.env)) (backToKw pos (keywordEach [] X.env))) := by rfl) :
    PE X (.Call (.Attribute o m apos) [] [] pos) (tE c W .dur (mMt x m f mo mNil)) := by
  obtain ⟨C, g, fd, kc, hm, F, hb⟩ := G.ex
  refine (pe_methD0 ho kc.cls hm F hr hb (fun σ => passAt tk σ) ht).via fun σ H Q ⟨Γ, ρ, r, er, em, p⟩ => ?_
  refine use er em p.err fun d v H1 h1 s1 r1 => ?_
  split at h1
  · split at h1
    · rename_i y fds hy
      obtain ⟨rfl, hn⟩ := hy
      obtain ⟨a, dx, C', fs, rfl, hc, na, hh, kf, rf⟩ := Re.of_obj r1.2
      obtain rfl := kc.un _ hc
      refine ⟨a, dx, fs, rfl, hh, lookup_none kf hn, ?_⟩
      have h1 : f [.obj y fds] = some r := h1
      refine ⟨NN Γ σ ρ, [.obj y fds], r, fun a h => r1.1.mt h, r1.2, h1, ?_⟩
      cases r with
      | ok d => exact fun v H' s3 r3 => p v H' (s1.trans s3) ⟨r1.1.same s3, r3⟩
      | error x => exact fun C H' s3 k => p C H' (r1.1.same s3) k
    · cases h1
  · cases h1
end
end DL

set_option Elab.async false
set_option linter.all false
set_option maxRecDepth 100000
set_option maxHeartbeats 2000000
set_option autoImplicit false
/-! DMb: the class called; the walk of an __init__ that fills three fields, the last one a dict of pairs. -/
namespace DL
open PySem PySem.Spec L2
/-- what __init__ promises: of the new instance it makes one that stands for d -/
def SpI (c : Conf) (f : List D → R D) : Sp := fun vs H Q E => ∃ (a C dx : Addr) (ws : List V) (U : Addr → Prop) (H0 : Hp) (ds : List D) (r : Except EN D),
  vs = .ref a :: ws ∧ H = upd (upd H0 dx (.own a)) a (.ins C dx []) ∧ (∀ x, c.cls x C ↔ x = "Body") ∧ H0 a = none ∧ H0 dx = none ∧ dx ≠ a ∧ (∀ b, U b → Mt H0 b) ∧ Rp c U H0 ws ds ∧ f ds = some r ∧
  (match r with
    | .ok d => ∀ H', Same H0 H' → Re c U H' (.ref a) d → Q .non H'
    | .error x => ∀ C H', Same H0 H' → c.err x C → E (.ref C) none H')
section
variable {X : Cx} {c : Conf} {W : WX}
def tMakeS (C : Addr) (sp : Sp) (E : L2.St → XK) (t : TA) : TE := fun σ H Q => t σ H fun vs H1 => ∀ x dx, H1 x = none → H1 dx = none → dx ≠ x →
  sp (.ref x :: vs) (upd (upd H1 dx (.own x)) x (.ins C dx [])) (fun v H2 => v = .non ∧ Q (.ref x) H2) (E σ)
section
variable {CX : CXT} {k : Nat} {C f : Addr} {fd : FuncData} {ps : List Str} {sp : Sp} {E : L2.St → XK} {x : Str} {e : Expr} {es : List Expr} {t : TA} {p pos : Pos}
theorem run_makeS {pins : List (Addr × Obj)} {σ : L2.St} {H : Hp} {s : Shared} {Q : VK} {us : List Value} {vs : List V} (M : Mk X.K C f) (F : FnOk X.prog X.w X.K X.mg X.base CX k f fd ps sp) (hr : Room (k + 1) X.A) (hb : Binds X.K fd ps [])
    (hx : PassesAt CX X σ (E σ)) (I : Inv X pins σ H s) (r : Vals vs us)
    (h : ∀ x dx, H x = none → H dx = none → dx ≠ x → sp (.ref x :: vs) (upd (upd H dx (.own x)) x (.ins C dx [])) (fun v H2 => v = .non ∧ Q (.ref x) H2) (E σ)) :
    wpAny (model X.prog X.w) X.A (call (.ref C) us) (EP X pins σ Q) X.xe s := by
  have hq := h (s.heap.objs.size + 1) s.heap.objs.size (I.hok.fresh (Nat.le_succ _)) (I.hok.fresh (Nat.le_refl _)) (Nat.ne_of_lt (Nat.lt_succ_self _))
  have I2 := Inv.made (C := C) I
  have r2 : Vals (V.ref (s.heap.objs.size + 1) :: vs) (Value.ref (s.heap.objs.size + 1) :: us) := .cons rfl r
  have hl : (Value.ref (s.heap.objs.size + 1) :: us ++ []).length = ps.length := by
    have e := r2.length
    rw [F.len _ _ _ _ hq] at e
    rw [List.append_nil]
    exact e.symm
  have hbs := hb _ (Value.ref (s.heap.objs.size + 1) :: us) I2.kIn hl
  rw [List.append_nil] at hbs
  refine wpAny_call (make_map (f := f) I.kIn M.makes M.init (beq_iff_eq.mp M.fn) (codeAny_mono (F.run _ X.stack _ _ ⟨Value.ref (s.heap.objs.size + 1) :: us, []⟩ (Value.ref (s.heap.objs.size + 1) :: us) _ _ (E σ) (hr.make C us [])
    (I2.env0.make C us []) hbs r2 hq) fun r s' hq' => ?_))
  cases r with
  | error e => exact hx pins _ _ e s' I2 hq'
  | ok fl =>
    cases fl with
    | ret u =>
      obtain ⟨v, H', I3, rv, ev, q3⟩ := I2.after hq'
      subst ev
      exact ⟨rv, ⟨V.ref (s.heap.objs.size + 1), H', I3, rfl, q3⟩⟩
    | next => exact False.elim hq'
    | brk => exact False.elim hq'
    | cont => exact False.elim hq'
theorem pe_makeS (M : Mk X.K C f) (F : FnOk X.prog X.w X.K X.mg X.base CX k f fd ps sp) (hr : Room (k + 1) X.A) (hg : Gl X x) (hm : X.mg x = some (.ref C)) (hb : Binds X.K fd ps []) (hx : ∀ σ, PassesAt CX X σ (E σ))
    (ha : PA X (e :: es) t) (hdb : (x == ("__debug__" : Str)) = false := by decide) (he : starEach (e :: es) X.env = (false, eval e X.env) :: starEach es X.env := by rfl) (hpl : (backTo pos (starEach es X.env)).any (·.1) = false := by rfl) :
    PE X (.Call (.Name x p) (e :: es) [] pos) (tMakeS C sp E t) := by
  refine ⟨fun pins s σ H Q I h => ?_⟩
  refine wpAny_Call_Name_kw (ld_glob I hg hm ?_ hdb)
  refine PySem.W.callWith_K (h₀ := X.base) I.ok.mod.kin M.kp (thn (ha.run pos pins s σ H _ I h) fun us s1 ⟨vs, H1, I1, r, q⟩ => ⟨I1.kIn, ?_⟩) he hpl
  exact run_makeS M F hr hb (hx σ) I1 r q
end
/-- the class, called by its name -/
structure MkAt (P : Program) (w : World) (K : PySem.W.Frag) (mg : Str → Option Value) (base : Heap) (c : Conf) (x : Str) (k : Nat) (ps : List Str) (f : List D → R D) : Prop where
  ex : ∃ (C g : Addr) (fd : FuncData), (∀ y, c.cls y C ↔ y = "Body") ∧ Mk K C g ∧ FnOk P w K mg base (L2.CX P w) k g fd ps (SpI c f) ∧ mg x = some (.ref C) ∧ Binds K fd ps []
theorem d_make {x : Str} {k : Nat} {ps : List Str} {f : List D → R D} {e : Expr} {es : List Expr} {l : MA} {p pos : Pos} (G : MkAt X.prog X.w X.K X.mg X.base c x k ps f) (hr : Room (k + 1) X.A) (tk : Takes X W) (ha : PA X (e :: es) (tA c W l)) (hg : Gl X x := by rfl)
    (hdb : (x == ("__debug__" : Str)) = false := by decide) (he : starEach (e :: es) X.env = (false, eval e X.env) :: starEach es X.env := by rfl) (hpl : (backTo pos (starEach es X.env)).any (·.1) = false := by rfl) :
    PE X (.Call (.Name x p) (e :: es) [] pos) (tE c W .dur (mCB f l)) := by
  obtain ⟨C, g, fd, hC, M, F, hm, hb⟩ := G.ex
  refine (pe_makeS M F hr hg hm hb (fun σ => passAt tk σ) ha hdb he hpl).via fun σ H Q ⟨Γ, ρ, r, er, em, p⟩ => ?_
  refine useA er em p.err fun ds vs H1 h1 s1 e1 r1 a dx ha hdx ne => ?_
  refine ⟨a, C, dx, vs, NN Γ σ ρ, H1, ds, r, rfl, rfl, hC, ha, hdx, ne, fun a h => e1.mt h, r1, h1, ?_⟩
  cases r with
  | ok d => exact fun H' s2 r2 => ⟨rfl, p _ H' (s1.trans s2) ⟨e1.same s2, r2⟩⟩
  | error x => exact fun C H' s2 k => p C H' (e1.same s2) k

/-! ### the frame with one more name ahead that stands for nothing -/
theorem ER.cons0 {Γ : Gam} {σ : L2.St} {H : Hp} {ρ : Ro} {y : Option V} (hfx : c.fx = []) (e : ER c Γ σ H ρ) {l : List (Nat × V)} (hl : ∀ p ∈ l, ((y :: σ : L2.St))[p.1]? = some (some p.2)) : ER { c with fx := l } Γ (y :: σ) H (none :: ρ) := by
  have nn : ∀ b, NN Γ (y :: σ) (none :: ρ) b → NN Γ σ ρ b := fun b h => by
    rcases h with h | ⟨i, d, h1, h2⟩
    · exact .inl h
    · cases i with
      | zero => cases h1
      | succ i => exact .inr ⟨i, d, h1, h2⟩
  have st : ∀ b u, ¬ NN Γ σ ρ b → H b = some u → H b = some u ∧ ¬ NN Γ (y :: σ) (none :: ρ) b := fun b u n q => ⟨q, fun z => n (nn b z)⟩
  exact {
    len := by simp [e.len]
    ext := e.ext
    utr := e.utr
    held := fun p h => ((e.held p h).step st).fx
    raw := fun p h => ⟨fun z => (e.raw p h).1 (nn _ z), (e.raw p h).2⟩
    fx := hl
    own := fun i d a h1 h2 => by
      cases i with
      | zero => cases h1
      | succ i => exact e.own i d a h1 h2
    dis := fun i j d d' a ne h1 h2 h3 h4 => by
      cases i with
      | zero => cases h1
      | succ i =>
        cases j with
        | zero => cases h2
        | succ j => exact e.dis i j d d' a (fun z => ne (by rw [z])) h1 h2 h3 h4
    slot := fun i d h => by
      cases i with
      | zero => cases h
      | succ i =>
        obtain ⟨v, h1, h2⟩ := e.slot i d h
        exact ⟨v, h1, (h2.step st).fx⟩
    mine := fun i d h => by
      cases i with
      | zero => cases h
      | succ i =>
        obtain ⟨a, h1, h2⟩ := e.mine i d h
        exact ⟨a, h1, (h2.step (fun _ q => q) st).fx⟩ }
/-- a thing kept from all names changes -/
theorem ER.updU {Γ : Gam} {σ : L2.St} {H : Hp} {ρ : Ro} {a : Addr} {o : HO} (e : ER c Γ σ H ρ) (hu : Γ.U a) (ho : ∀ us, o ≠ .tup us := by exact fun _ z => by cases z) : ER c { Γ with H0 := upd Γ.H0 a o } σ (upd H a o) ρ := by
  have na : NN Γ σ ρ a := .inl hu
  have st : ∀ b u, ¬ NN Γ σ ρ b → H b = some u → (upd H a o) b = some u ∧ ¬ NN { Γ with H0 := upd Γ.H0 a o } σ ρ b := fun b u n q => by
    have ne : b ≠ a := fun z => n (z ▸ na)
    exact ⟨by rw [upd_ne ne]; exact q, n⟩
  exact {
    len := e.len
    ext := fun b u h => by
      show (upd H a o) b = some u
      have h : (upd Γ.H0 a o) b = some u := h
      by_cases z : b = a
      · subst z
        rw [upd_same] at h ⊢
        exact h
      · rw [upd_ne z] at h ⊢
        exact e.ext b u h
    utr := fun b h => by
      by_cases z : b = a
      · subst z; exact Mt.upd ho
      · exact (e.utr b h).off z
    held := fun p h => (e.held p h).step st
    raw := fun p h => let z := st _ _ (e.raw p h).1 (e.raw p h).2; ⟨z.2, z.1⟩
    fx := e.fx
    own := fun i d b h1 h2 => by
      obtain ⟨q1, q2⟩ := e.own i d b h1 h2
      refine ⟨?_, q2⟩
      show (upd Γ.H0 a o) b = none
      rw [upd_ne (fun z : b = a => q2 (by rw [z]; exact hu))]
      exact q1
    dis := e.dis
    slot := fun i d h => let ⟨v, h1, h2⟩ := e.slot i d h; ⟨v, h1, h2.step st⟩
    mine := fun i d h => let ⟨b, h1, h2⟩ := e.mine i d h; ⟨b, h1, h2.step (fun u q => by rw [upd_ne (fun z : b = a => (e.own i d b h h1).2 (by rw [z]; exact hu))]; exact q) st⟩ }
end
end DL

set_option Elab.async false
set_option linter.all false
set_option maxRecDepth 100000
set_option maxHeartbeats 2000000
set_option autoImplicit false
/-! DMc: the walk of Body.__init__ by its statements' rules. -/
namespace DL
open PySem PySem.Spec L2
/-- pairs of numbers stored both ways -/
def pairGo (g : MG) (ia ib : Nat) : List D → Ro → List (Key × D) → Option (List (Key × D))
  | [], _, k => some k
  | d :: ds, ρ, k => (g d ρ).bind fun ρ1 => match mVarD ia ρ1, mVarD ib ρ1 with
    | some (.ok (.int x)), some (.ok (.int y)) => if k.length + 1 < lim then pairGo g ia ib ds ρ1 (ptD (ptD k (.inl x) (.int y)) (.inl y) (.int x)) else none
    | _, _ => none
def isI : D → Bool
  | .int _ => true
  | _ => false
/-- the object that the three fields make -/
def endI (m1 m2 m3 : ME) (src : MI) (g : MG) (ia ib : Nat) (ρ : Ro) : R D := match m1 ρ, m2 ρ, m3 ρ, src ρ with
  | some (.ok d1), some (.ok d2), some (.ok (.dK kds)), some (.ok items) => if (kds.map (·.2)).all isI = true then (pairGo g ia ib items ρ kds).map fun k => .ok (.obj "Body" [("n", d1), ("_joints", d2), ("_partners", .dK k)]) else none
  | _, _, _, _ => none
def mInit (n k : Nat) (s1 : MS) (m1 m2 m3 : ME) (src : MI) (g : MG) (ia ib : Nat) : List D → R D := fun ds => if ds.length = k then (match s1 (none :: (ds.map (fun d => some (d, false)) ++ List.replicate (n - k) none)) with
    | some (.nx ρ) => endI m1 m2 m3 src g ia ib ρ
    | some (.er x _) => some (.error x)
    | _ => none) else none
def stI (K : PySem.W.Frag) (c : Conf) (W : WX) (ia ib : Nat) : TS := tAsg (tE c W .dur (mVarD ib)) (gSub (tFld K (tVar 0) "_partners") (tE c W .bor (mVarD ia)) DL.rSetD)
/-- the reading of the whole body -/
def tInit (K : PySem.W.Frag) (c : Conf) (W : WX) (s1 : MS) (m1 m2 m3 : ME) (src : MI) (gg : TG) (ia ib : Nat) : TS :=
  tSeq (tS c W s1) (tSeq (sFld K (tVar 0) (tE c W .dur m1) "n") (tSeq (sFld K (tVar 0) (tE c W .dur m2) "_joints") (tSeq (sFld K (tVar 0) (tE c W .own m3) "_partners")
    (tFor (tI c W true src) gg (tSeq (stI K c W ia ib) (stI K c W ib ia))))))
section
variable {K : PySem.W.Frag} {c : Conf} {W : WX}
theorem pt_len {κ : Type} [DecidableEq κ] (k : List (κ × D)) (x : κ) (v : D) : (ptD k x v).length ≤ k.length + 1 := by
  unfold ptD
  split
  · simp
  · simp
/-- what stands in the loop: the instance at a, its dict at p -/
structure SI (c : Conf) (U0 : Addr → Prop) (He : Hp) (a p C dx : Addr) (y1 y2 : V) (d1 d2 : D) (us : List V) (ds : List D) (ra : List (Addr × HO)) (Γ : Gam) (σ : L2.St) (H : Hp) (ρ : Ro) (k : List (Key × D)) : Prop where
  er : ER c Γ σ H ρ
  ua : Γ.U a
  up : Γ.U p
  ne : a ≠ p
  u0 : ∀ b, U0 b → Γ.U b
  ext : ∀ b u, b ≠ a → He b = some u → Γ.H0 b = some u
  he : He a = none ∧ He p = none
  hold : (us, ds) ∈ Γ.held ∧ ([y1, y2], [d1, d2]) ∈ Γ.held
  raw : ∀ q ∈ ra, q ∈ Γ.raw
  ha : Γ.H0 a = some (.ins C dx [("n", y1), ("_joints", y2), ("_partners", .ref p)])
  hp : ∃ kvs : List (Key × V), Γ.H0 p = some (.dK kvs) ∧ kvs.map (·.1) = k.map (·.1) ∧ ∀ (N : Addr → Prop) (H : Hp), Rp c N H (kvs.map (·.2)) (k.map (·.2))
theorem step_I {U0 : Addr → Prop} {He : Hp} {a p C dx : Addr} {y1 y2 : V} {d1 d2 : D} {us : List V} {ds : List D} {ra : List (Addr × HO)} {Γ : Gam} {σ : L2.St} {H : Hp} {ρ : Ro} {k : List (Key × D)} {ia ib : Nat} {x y : Int} {D' : Ends}
    (hfx : c.fx = [(0, .ref a)]) (cl : Cls K C) (na : NoAttr K C "_partners") (s : SI c U0 He a p C dx y1 y2 d1 d2 us ds ra Γ σ H ρ k) (hx : mVarD ia ρ = some (.ok (.int x))) (hy : mVarD ib ρ = some (.ok (.int y))) (hl : k.length < lim)
    (q : ∀ Γ' H', SI c U0 He a p C dx y1 y2 d1 d2 us ds ra Γ' σ H' ρ (ptD k (.inl x) (.int y)) → D'.nx σ H') : stI K c W ia ib D' σ H := by
  refine ⟨Γ, ρ, _, s.er, hy, fun v H1 s1 r1 => ?_⟩
  have e0 : σ[0]? = some (some (V.ref a)) := s.er.fx (0, .ref a) (by rw [hfx]; exact List.mem_singleton.mpr rfl)
  have h1a := r1.1.ext _ _ s.ha
  refine ⟨.ref a, e0, a, C, dx, _, .ref p, rfl, h1a, cl, na, rfl, ?_⟩
  refine ⟨Γ, ρ, _, r1.1, hx, fun v2 H2 s2 r2 => ?_⟩
  have ev : v = .int y := r1.2.of_int
  have ev2 : v2 = .int x := Bor.int r2.2
  subst ev ev2
  obtain ⟨kvs, hp, kk, rk⟩ := s.hp
  have el : kvs.length = k.length := by
    have := congrArg List.length kk
    simpa using this
  refine ⟨p, _, rfl, .inl ⟨kvs, .inl x, r2.1.ext _ _ hp, rfl, by rw [el]; exact lim_lt hl, rfl⟩, ?_⟩
  refine q { Γ with H0 := upd Γ.H0 p (.dK (putK kvs (.inl x) (.int y))) } _ {
    er := r2.1.updU s.up
    ua := s.ua
    up := s.up
    ne := s.ne
    u0 := s.u0
    ext := fun b u hb h => by
      show (upd Γ.H0 p _) b = some u
      have : b ≠ p := fun z => by rw [z, s.he.2] at h; cases h
      rw [upd_ne this]
      exact s.ext b u hb h
    he := s.he
    hold := s.hold
    raw := s.raw
    ha := by
      show (upd Γ.H0 p _) a = _
      rw [upd_ne s.ne]
      exact s.ha
    hp := ⟨_, by show (upd Γ.H0 p _) p = _; rw [upd_same], (pt_rel (N := fun _ => False) (H := H) kk (rk _ _) (.inl x) (v := .int y) (d := .int y) (.int .nil)).1, fun N H => (pt_rel kk (rk N H) (.inl x) (.int .nil)).2⟩ }
theorem loop_I {U0 : Addr → Prop} {He : Hp} {a p C dx : Addr} {y1 y2 : V} {d1 d2 : D} {ds : List D} {Γ : Gam} {σ : L2.St} {H : Hp} {ρ : Ro} {k k' : List (Key × D)} {is : List Nat} {ia ib : Nat} {D' : Ends} {src : MI} {gg : TG} {g : MG}
    (hfx : c.fx = [(0, .ref a)]) (cl : Cls K C) (na : NoAttr K C "_partners") (hg : GOk c is gg g) (hsrc : src ρ = some (.ok ds)) (hgo : pairGo g ia ib ds ρ k = some k')
    (s : SI c U0 He a p C dx y1 y2 d1 d2 [] [] [] Γ σ H ρ k)
    (q : ∀ us ds ra Γ' σ' H' ρ', SI c U0 He a p C dx y1 y2 d1 d2 us ds ra Γ' σ' H' ρ' k' → D'.nx σ' H') :
    tFor (tI c W true src) gg (tSeq (stI K c W ia ib) (stI K c W ib ia)) D' σ H := by
  refine ⟨Γ, ρ, _, s.er, hsrc, fun J P us ra H1 s1 e1 r1 w1 q1 st => ?_⟩
  have lu := r1.len
  have s0 : SI c U0 He a p C dx y1 y2 d1 d2 us ds ra (Γ.hold us ds ra) σ H1 ρ k := {
    er := e1.hold r1 (fun p hp => ⟨(q1 p hp).1 rfl, (q1 p hp).2⟩)
    ua := s.ua
    up := s.up
    ne := s.ne
    u0 := s.u0
    ext := s.ext
    he := s.he
    hold := ⟨List.mem_cons_self, List.mem_cons_of_mem _ s.hold.2⟩
    raw := fun q hq => List.mem_append_left _ hq
    ha := s.ha
    hp := s.hp }
  refine ⟨fun i m σ H => m = ds.length - i ∧ i ≤ ds.length ∧ ∃ Γ' ρ' kk, SI c U0 He a p C dx y1 y2 d1 d2 us ds ra Γ' σ H ρ' kk ∧ pairGo g ia ib (ds.drop i) ρ' kk = some k', ⟨_, rfl, Nat.zero_le _, _, ρ, k, s0, hgo⟩, ?_⟩
  rintro i m σ2 H2 ⟨rfl, hil, Γ2, ρ2, kk, s2, em2⟩
  have hP : P H2 := st H2 fun p hp => (s2.er.raw p (s2.raw p hp)).2
  by_cases hlt : i < ds.length
  · have hx : us[i]? = some us[i] := List.getElem?_eq_getElem (by rw [lu]; exact hlt)
    obtain ⟨go, yl⟩ := w1.go i H2 _ hP hx
    refine .inr ⟨go, fun σ' H' => ∃ m', m' < ds.length - i ∧ m' = ds.length - (i + 1) ∧ ∃ Γ' ρ' kk, SI c U0 He a p C dx y1 y2 d1 d2 us ds ra Γ' σ' H' ρ' kk ∧ pairGo g ia ib (ds.drop (i + 1)) ρ' kk = some k', fun σ' H' ⟨m', h1, h2, h3⟩ => ⟨m', h1, h2, hlt, h3⟩, fun x H3 y3 => ?_⟩
    obtain ⟨eH, ex⟩ := yl x H3 y3
    subst eH ex
    rw [List.drop_eq_getElem_cons hlt] at em2
    unfold pairGo at em2
    obtain ⟨ρ3, hg3, em3⟩ := Option.bind_eq_some_iff.mp em2
    have hr := s2.er.held (us, ds) s2.hold.1
    refine hg Γ2 σ2 H3 ρ2 ρ3 _ _ _ s2.er (hr.at_ hx (List.getElem?_eq_getElem hlt)) hg3 fun σ4 e4 _ _ => ?_
    split at em3
    · rename_i x y hx hy
      split at em3
      · rename_i hl
        have s3 : SI c U0 He a p C dx y1 y2 d1 d2 us ds ra Γ2 σ4 H3 ρ3 kk := { s2 with er := e4 }
        refine step_I hfx cl na s3 hx hy (by omega) fun Γ5 H5 s5 => ?_
        refine step_I hfx cl na s5 hy hx (Nat.lt_of_le_of_lt (pt_len _ _ _) hl) fun Γ6 H6 s6 => ?_
        exact ⟨_, by omega, rfl, Γ6, ρ3, _, s6, em3⟩
      · cases em3
    · cases em3
  · have hi : i = ds.length := by omega
    subst hi
    rw [List.drop_length] at em2
    unfold pairGo at em2
    cases em2
    exact .inl ⟨w1.stop _ _ hP (by omega), q _ _ _ _ _ _ _ s2⟩
theorem putF_1 (f : Str) (y : V) : putF f y [] = [(f, y)] := (rfl)
theorem putF_2 (x y : V) : putF "_joints" y [(("n" : Str), x)] = [(("n" : Str), x), (("_joints" : Str), y)] := (rfl)
theorem putF_3 (x y z : V) : putF "_partners" z [(("n" : Str), x), (("_joints" : Str), y)] = [(("n" : Str), x), (("_joints" : Str), y), (("_partners" : Str), z)] := (rfl)
theorem Rp.of_isI {c : Conf} : ∀ {ds : List D}, ds.all isI = true → ∀ {N N' : Addr → Prop} {H H' : Hp} {vs : List V}, Rp c N H vs ds → Rp c N' H' vs ds
  | [], _, _, _, _, _, vs, r => by cases r; exact .nil
  | d :: ds, h, N, N', H, H', vs, r => by
    rw [List.all_cons, Bool.and_eq_true] at h
    cases vs with
    | nil => cases r
    | cons v vs =>
      have r1 := r.unc.1
      have r2 := Rp.of_isI h.2 (N' := N') (H' := H') r.unc.2
      cases d with
      | int i =>
        rw [r1.of_int]
        exact .int r2
      | _ => cases h.1
section
variable {P : Program} {w : World} {mg : Str → Option Value} {base : Heap}
theorem fn_init {qual : Str} {st : Stmt} {f : Addr} {fd : FuncData} {N ps : List Str} {k : Nat} {s1 : MS} {m1 m2 m3 : ME} {src : MI} {g : MG} {is : List Nat} {ia ib : Nat} (F : Fun K "__init__" qual st f fd) (S : FnScope ("self" :: N) ("self" :: ps) (defScope st)) (hfx : c.fx = []) (hps : ps.length ≤ N.length)
    (hcl : ∀ C, c.cls "Body" C → Cls K C ∧ NoAttr K C "n" ∧ NoAttr K C "_joints" ∧ NoAttr K C "_partners")
    (hb : ∀ (a : Addr) (cdv : Value) (A : Around) (outer : List Env) (s : Shared) (H : Hp) (E : XK), Room k (A.deeper (PyProof.Rows.envOfC qual (defScope st) s.heap.objs.size f cdv)) →
      ∃ gg, GOk { c with fx := [(0, .ref a)] } is gg g ∧ PSs (cxOf (L2.CX P w) P w K mg base ("self" :: N) qual (defScope st) f cdv A outer s H E) (defBody st) (tInit K { c with fx := [(0, .ref a)] } (fun cls d _ H' => E cls d H') s1 m1 m2 m3 src gg ia ib)) :
    FnOk P w K mg base (L2.CX P w) (k + 1) f fd ("self" :: ps) (SpI c (mInit N.length ps.length s1 m1 m2 m3 src g ia ib)) := by
  refine F.okX S (fun vs H Q E h => ?_) (fun cdv A outer s H vs Q E hr h => ?_)
  · obtain ⟨a, C, dx, ws, U, H0, ds, r, rfl, _, _, _, _, _, _, hr, hm, _⟩ := h
    unfold mInit at hm
    split at hm
    · have := hr.len
      simp only [List.length_cons]
      omega
    · cases hm
  · obtain ⟨a, C, dx, ws, U, H0, ds, r, rfl, rfl, hC, ha0, hd0, hne, hU, rp, hm, post⟩ := h
    obtain ⟨gg, hg, hps'⟩ := hb a cdv A outer s _ E hr
    refine ⟨_, hps', ?_⟩
    have hcb : c.cls "Body" C := (hC _).mpr rfl
    obtain ⟨cl, n1, n2, n3⟩ := hcl C hcb
    unfold mInit at hm
    split at hm
    · rename_i hl
      have lw := rp.len
      have sm : Same H0 (upd (upd H0 dx (.own a)) a (.ins C dx [])) := fun b u h => by
        rw [upd_ne (ne_of_none h ha0), upd_ne (ne_of_none h hd0)]
        exact h
      have rp1 : Rp c (fun b => U b ∨ b = a) (upd (upd H0 dx (.own a)) a (.ins C dx [])) ws ds := rp.step fun b u n h => ⟨sm b u h, fun z => z.elim n fun z => by rw [z, ha0] at h; cases h⟩
      have e0 := start_er (c := c) (N := N) (U := fun b => U b ∨ b = a) (H := upd (upd H0 dx (.own a)) a (.ins C dx [])) hfx hl hps (fun b hb => by
        rcases hb with hb | hb
        · exact (hU b hb).same sm
        · rw [hb]; exact Mt.upd fun _ z => (by cases z)) rp1
      have e1 := e0.cons0 hfx (y := some (V.ref a)) (l := [(0, V.ref a)]) (fun p hp => by
        rw [List.mem_singleton] at hp
        subst hp
        rfl)
      have es : start ("self" :: N) (V.ref a :: ws) = some (V.ref a) :: start N ws := by
        unfold L2.start
        simp only [List.map_cons, List.length_cons, Nat.add_sub_add_right, List.cons_append]
      rw [es]
      cases eb : s1 (none :: (ds.map (fun d => some (d, false)) ++ List.replicate (N.length - ps.length) none)) with
      | none => rw [eb] at hm; cases hm
      | some o =>
        rw [eb] at hm
        refine ⟨_, _, o, e1, eb, ?_⟩
        cases o with
        | rt d => cases hm
        | bk ρ => cases hm
        | ct ρ => cases hm
        | er x ρ =>
          cases hm
          exact fun C' σ1 H1 q1 k => post C' H1 (fun b u h => q1.ext b u (sm b u h)) k
        | nx ρ =>
          intro σ1 H1 q1
          have hm : endI m1 m2 m3 src g ia ib ρ = some r := hm
          unfold endI at hm
          split at hm
          · rename_i d1 d2 kds items h1 h2 h3 h4
            split at hm
            case isFalse => cases hm
            rename_i hint
            obtain ⟨kend, hgo, hm⟩ := Option.map_eq_some_iff.mp hm
            cases hm
            have ea := q1.fx (0, .ref a) (List.mem_singleton.mpr rfl)
            have ha1 := q1.ext a _ upd_same
            -- n
            refine ⟨_, ρ, _, q1, h1, fun y1 H2 t2 r2 => ?_⟩
            refine ⟨.ref a, ea, a, C, dx, [], rfl, t2 _ _ ha1, cl, n1, by decide, ?_⟩
            have x2 := (r2.1.hold (us := [y1]) (ds := [d1]) (ra := []) r2.2 (fun p hp => by cases hp)).updU (a := a) (o := .ins C dx (putF "n" y1 [])) (.inr rfl)
            -- _joints
            refine ⟨_, ρ, _, x2, h2, fun y2 H3 t3 r3 => ?_⟩
            have ha3 := r3.1.ext a _ upd_same
            refine ⟨.ref a, ea, a, C, dx, _, rfl, ha3, cl, n2, by rw [putF_1]; show 1 < 1000; decide, ?_⟩
            have x3 := ((r3.1.hold (us := [y1, y2]) (ds := [d1, d2]) (ra := []) (Rp.cons (r3.1.held ([y1], [d1]) List.mem_cons_self) r3.2) (fun p hp => by cases hp)).hold (us := []) (ds := []) (ra := []) .nil (fun p hp => by cases hp)).updU (a := a) (o := .ins C dx (putF "_joints" y2 (putF "n" y1 []))) (.inr rfl)
            -- _partners
            refine ⟨_, ρ, _, x3, h3, fun y3 H4 t4 r4 => ?_⟩
            obtain ⟨p, rfl, p0, np, r5, ow⟩ := r4
            have ha4 := r5.ext a _ upd_same
            refine ⟨.ref a, ea, a, C, dx, _, rfl, ha4, cl, n3, by rw [putF_1, putF_2]; show 2 < 1000; decide, ?_⟩
            obtain ⟨kvs, hk, kk, rk⟩ := ow
            have eH : upd H4 p (.dK kvs) = H4 := funext fun b => by
              by_cases z : b = p
              · rw [z, upd_same, hk]
              · rw [upd_ne z]
            have x4 := r5.updU (a := p) (o := .dK kvs) (.inr rfl)
            rw [eH] at x4
            have x5 := x4.updU (a := a) (o := .ins C dx (putF "_partners" (.ref p) (putF "_joints" y2 (putF "n" y1 [])))) (.inl (.inr rfl))
            have hap : a ≠ p := fun z => by
              have p0 : (upd (upd (upd (upd H0 dx (.own a)) a (.ins C dx [])) a (.ins C dx (putF "n" y1 []))) a (.ins C dx (putF "_joints" y2 (putF "n" y1 [])))) p = none := p0
              rw [← z, upd_same] at p0
              cases p0
            have hp0 : H0 p = none := by
              have p0 : (upd (upd (upd (upd H0 dx (.own a)) a (.ins C dx [])) a (.ins C dx (putF "n" y1 []))) a (.ins C dx (putF "_joints" y2 (putF "n" y1 [])))) p = none := p0
              rw [upd_ne hap.symm, upd_ne hap.symm, upd_ne hap.symm] at p0
              cases z : H0 p with
              | none => rfl
              | some u =>
                rw [upd_ne (ne_of_none z hd0), z] at p0
                cases p0
            refine loop_I (a := a) (p := p) (He := H0) (U0 := U) (y1 := y1) (y2 := y2) (d1 := d1) (d2 := d2) (dx := dx) rfl cl n3 hg h4 hgo {
              er := x5
              ua := .inl (.inr rfl)
              up := .inr rfl
              ne := hap
              u0 := fun b hb => .inl (.inl hb)
              ext := fun b u hb h => by
                show (upd (upd (upd (upd (upd (upd H0 dx (.own a)) a (.ins C dx [])) a _) a _) p _) a _) b = some u
                rw [upd_ne hb, upd_ne (ne_of_none h hp0), upd_ne hb, upd_ne hb, upd_ne hb, upd_ne (ne_of_none h hd0)]
                exact h
              he := ⟨ha0, hp0⟩
              hold := ⟨List.mem_cons_self, List.mem_cons_of_mem _ List.mem_cons_self⟩
              raw := fun q hq => by cases hq
              ha := by
                show (upd _ a _) a = _
                rw [upd_same]
                rfl
              hp := ⟨kvs, by
                show (upd (upd _ p (.dK kvs)) a _) p = _
                rw [upd_ne hap.symm, upd_same], kk, fun N H => Rp.of_isI hint rk⟩ } ?_
            intro us ds' ra Γ' σ' H' ρ' s
            refine post H' (fun b u h => s.er.ext b u (s.ext b u (ne_of_none h ha0) h)) ?_
            obtain ⟨kvs', hp', kk', rk'⟩ := s.hp
            have rf := s.er.held ([y1, y2], [d1, d2]) s.hold.2
            have rf2 : Rp c U H' [y1, y2] [d1, d2] := by
              have := (rf.less fun b hb => .inl (s.u0 b hb)).fx (l := c.fx)
              exact this
            have rk2 : Rp c U H' (kvs'.map (·.2)) (kend.map (·.2)) := (rk' U H').fx (l := c.fx)
            have r1 := rf2.unc.1
            have r2 := rf2.unc.2
            exact .obj (fs := [("n", y1), ("_joints", y2), ("_partners", .ref p)]) hcb (fun z => (hU a z).ne ha0) (s.er.ext _ _ s.ha) rfl (Rp.cons r1 (Rp.cons r2 (.dK (fun z => (hU p z).ne hp0) (.inl (s.er.ext _ _ hp')) kk' rk2 .nil))) .nil
          · cases hm
    · cases hm
end
end
end DL

set_option Elab.async false
set_option linter.all false
set_option maxRecDepth 100000
set_option maxHeartbeats 2000000
set_option autoImplicit false
/-! DMd: sorted pairs; isinstance of the class; == by its __eq__. -/
namespace DL
open PySem PySem.Spec L2
/-! ### pairs in order -/
def prD (p : Int × Int) : D := .tup [.int p.1, .int p.2]
def prOf : D → Option (Int × Int)
  | .tup [.int i, .int j] => some (i, j)
  | _ => none
def prs? (ds : List D) : Option (List (Int × Int)) := ds.mapM prOf
theorem prs?_map : ∀ ps : List (Int × Int), prs? (ps.map prD) = some ps
  | [] => rfl
  | p :: ps => by
    show (prD p :: ps.map prD).mapM prOf = _
    rw [List.mapM_cons, show (ps.map prD).mapM prOf = some ps from prs?_map ps]
    rfl
def ple (p q : Int × Int) : Prop := p.1 < q.1 ∨ (p.1 = q.1 ∧ p.2 ≤ q.2)
instance (p q : Int × Int) : Decidable (ple p q) := by unfold ple; infer_instance
def pins (x : Int × Int) : List (Int × Int) → List (Int × Int)
  | [] => [x]
  | y :: ys => if ple x y then x :: y :: ys else y :: pins x ys
def psort : List (Int × Int) → List (Int × Int)
  | [] => []
  | x :: xs => pins x (psort xs)
theorem pins_perm (x : Int × Int) : ∀ ys : List (Int × Int), (pins x ys).Perm (x :: ys)
  | [] => .refl _
  | y :: ys => by
    unfold pins
    split
    · exact .refl _
    · exact ((pins_perm x ys).cons y).trans (.swap x y ys)
theorem psort_perm : ∀ xs : List (Int × Int), (psort xs).Perm xs
  | [] => .refl _
  | x :: xs => (pins_perm x (psort xs)).trans ((psort_perm xs).cons x)
theorem pins_sorted (x : Int × Int) : ∀ {ys : List (Int × Int)}, ys.Pairwise ple → (pins x ys).Pairwise ple
  | [], _ => List.pairwise_singleton _ _
  | y :: ys, h => by
    unfold pins
    have h' := List.pairwise_cons.mp h
    split
    · rename_i hx
      refine List.pairwise_cons.mpr ⟨fun z hz => ?_, h⟩
      rcases List.mem_cons.mp hz with e | hz
      · subst e; exact hx
      · have := h'.1 z hz
        unfold ple at *
        omega
    · rename_i hx
      refine List.pairwise_cons.mpr ⟨fun z hz => ?_, pins_sorted x h'.2⟩
      rcases List.mem_cons.mp ((pins_perm x ys).mem_iff.mp hz) with e | hz
      · subst e
        unfold ple at *
        omega
      · exact h'.1 z hz
theorem psort_sorted : ∀ xs : List (Int × Int), (psort xs).Pairwise ple
  | [] => .nil
  | x :: xs => pins_sorted x (psort_sorted xs)
theorem psorted_unique : ∀ {xs ys : List (Int × Int)}, xs.Perm ys → xs.Pairwise ple → ys.Pairwise ple → xs = ys
  | [], ys, p, _, _ => by rw [List.nil_perm.mp p]
  | x :: xs, [], p, _, _ => by have := p.length_eq; simp at this
  | x :: xs, y :: ys, p, h1, h2 => by
    have a := List.pairwise_cons.mp h1
    have b := List.pairwise_cons.mp h2
    have e : x = y := by
      have m1 : x ∈ y :: ys := p.mem_iff.mp List.mem_cons_self
      have m2 : y ∈ x :: xs := p.mem_iff.mpr List.mem_cons_self
      rcases List.mem_cons.mp m1 with e | m1
      · exact e
      · rcases List.mem_cons.mp m2 with e | m2
        · exact e.symm
        · have q1 := b.1 x m1
          have q2 := a.1 y m2
          unfold ple at q1 q2
          exact Prod.ext (by omega) (by omega)
    subst e
    rw [psorted_unique (List.Perm.cons_inv p) a.2 b.2]
def dSortP : List D → R D
  | [.lst ds] => (prs? ds).map fun ps => .ok (.lst ((psort ps).map prD))
  | _ => none
section
variable {X : Cx} {c : Conf} {W : WX}
theorem Rp.pairs {N : Addr → Prop} {H : Hp} {k : V → Int × Int} (hk : ∀ t i j, H t = some (.tup [.int i, .int j]) → k (.ref t) = (i, j)) : ∀ {ds : List D} {ps : List (Int × Int)} {us : List V}, prs? ds = some ps → Rp c N H us ds →
    us.map k = ps ∧ (∀ x ∈ us, ∃ t, x = V.ref t ∧ ¬ N t ∧ H t = some (.tup [.int (k x).1, .int (k x).2]))
  | [], ps, us, h, r => by
    cases r
    cases h
    exact ⟨rfl, fun x hx => by cases hx⟩
  | d :: ds, ps, us, h, r => by
    cases us with
    | nil => cases r
    | cons u us =>
      have h : (d :: ds).mapM prOf = some ps := h
      rw [List.mapM_cons] at h
      cases e : prOf d with
      | none => rw [e] at h; cases h
      | some p =>
        rw [e] at h
        cases e2 : ds.mapM prOf with
        | none => rw [e2] at h; cases h
        | some qs =>
          rw [e2] at h
          cases h
          obtain ⟨i1, i2⟩ := Rp.pairs hk e2 r.unc.2
          have r1 := r.unc.1
          unfold prOf at e
          split at e
          · rename_i i j
            cases e
            cases r1 with
            | @tup a us' _ _ _ n ha rr _ =>
              have e3 : us' = [.int i, .int j] := by
                cases us' with
                | nil => cases rr
                | cons a1 us' =>
                  cases us' with
                  | nil => exact absurd rr.len (by simp)
                  | cons a2 us' =>
                    cases us' with
                    | nil => rw [rr.unc.1.of_int, rr.unc.2.unc.1.of_int]
                    | cons => exact absurd rr.len (by simp)
              subst e3
              have ek := hk _ _ _ ha
              refine ⟨by rw [List.map_cons, i1, ek], fun x hx => ?_⟩
              rcases List.mem_cons.mp hx with z | z
              · subst z
                exact ⟨a, rfl, n, by rw [ek]; exact ha⟩
              · exact i2 x z
          · cases e
theorem Rp.of_pairs {N : Addr → Prop} {H : Hp} {k : V → Int × Int} : ∀ {ys : List V}, (∀ x ∈ ys, ∃ t, x = V.ref t ∧ ¬ N t ∧ H t = some (.tup [.int (k x).1, .int (k x).2])) → Rp c N H ys ((ys.map k).map prD)
  | [], _ => .nil
  | y :: ys, h => by
    obtain ⟨t, e, n, ht⟩ := h y List.mem_cons_self
    have ih := Rp.of_pairs (N := N) (H := H) (k := k) fun x hx => h x (List.mem_cons_of_mem _ hx)
    subst e
    exact .tup n ht (.int (.int .nil)) ih
theorem bi_sortP (hK : c.K = X.K := by rfl) : Bi X c W .own (.builtin "sorted") dSortP := ⟨_, cr_sortedPO, by
  rw [← hK]
  intro Γ σ ρ H xs ds res Q er bx h p
  unfold dSortP at h
  split at h
  · rename_i es
    obtain ⟨ps, hp, h⟩ := Option.map_eq_some_iff.mp h
    cases h
    obtain ⟨x, rfl, a, us, rfl, e, r⟩ := bx.one
    let k : V → Int × Int := fun v => match v with
      | .ref t => (match H t with
        | some (.tup [.int i, .int j]) => (i, j)
        | _ => (0, 0))
      | _ => (0, 0)
    have hk : ∀ t i j, H t = some (.tup [.int i, .int j]) → k (.ref t) = (i, j) := fun t i j ht => by
      show (match H t with | some (.tup [.int i, .int j]) => (i, j) | _ => (0, 0)) = _
      rw [ht]
    obtain ⟨e1, e2⟩ := Rp.pairs hk hp r
    refine ⟨a, us, k, rfl, .of e, fun x hx => let ⟨t, h1, _, h2⟩ := e2 x hx; ⟨t, h1, h2⟩, fun ys q hs hb hq => ?_⟩
    have pm : ys.Perm us := hb.perm
    have ey : ys.map k = psort ps := psorted_unique ((pm.map k).trans (by rw [e1]; exact (psort_perm ps).symm)) (List.pairwise_map.mpr (hs.imp fun {x y} h => by
      have := SrtO.lexB_no.mp h
      unfold ple
      omega)) (psort_sorted ps)
    rw [← ey] at p
    exact fin_lst p er (Rp.of_pairs fun x hx => e2 x (pm.mem_iff.mp hx)) hq
  · cases h⟩
/-! ### isinstance -/
structure IsiX (K : PySem.W.Frag) (C : Addr) : Prop where
  ha : PySem.W.findIn K (.ref C) "__class__" = some (some (.builtin "object.__class__"))
  hn : PySem.W.specialIn K (.builtin "object.__class__") "__get__" = some (some (.builtin "getset_descriptor.__get__"))
  ht : PySem.W.takesIn K (.builtin "object.__class__") = some true
  hm : PySem.W.mroIn K C (.type "object") = some true
  yes : PySem.W.kitOne K (.ref C) (.ref C) = some true
  n_int : PySem.W.kitOne K (.type "int") (.ref C) = some false
  n_tup : PySem.W.kitOne K (.type "tuple") (.ref C) = some false
def dIsiC (x : Str) : D → R D
  | .obj y _ => if y = x then ok (.bl true) else none
  | .int _ => ok (.bl false)
  | .tup _ => ok (.bl false)
  | _ => none
theorem d_isiC {x : Str} {C : Addr} {e : Expr} {m : ME} {p p2 pos : Pos} (he : PE X e (tE c W .bor m)) (hm : X.mg "isinstance" = none) (hmT : X.mg x = some (.ref C)) (kc : ClsX X.K c x C) (ki : IsiX X.K C) (hK : c.K = X.K := by rfl) (hg : Gl X "isinstance" := by rfl) (hgT : Gl X x := by rfl)
    (hdT : (x == ("__debug__" : Str)) = false := by decide) (hb : bootBuiltins "isinstance" = some (.builtin "isinstance") := by decide +kernel)
    (he1 : starEach [e, .Name x p2] X.env = (false, eval e X.env) :: starEach [.Name x p2] X.env := by rfl) (he2 : starEach [.Name x p2] X.env = (false, eval (.Name x p2) X.env) :: starEach [] X.env := by rfl) (hpl : (backTo pos (starEach [.Name x p2] X.env)).any (·.1) = false := by rfl) :
    PE X (.Call (.Name "isinstance" p) [e, .Name x p2] [] pos) (tE c W .dur (mUn (dIsiC x) m)) :=
  (pe_callB call_isi hg hm hb (pa_cons he (pa_cons (pe_glob (v := .ref C) hgT hmT rfl hdT) pa_nil he2) he1) (by decide) (by decide) he1 hpl).via fun σ H Q ⟨Γ, ρ, r, er, em, p⟩ => by
    have em : bnd (m ρ) (dIsiC x) = some r := em
    refine use er em p.err fun d v H1 h1 s1 r1 => ?_
    unfold dIsiC at h1
    split at h1
    · split at h1
      · rename_i y fds hy
        subst hy
        cases h1
        obtain ⟨a, dx, C', fs, rfl, hc, na, ha, kf, rf⟩ := Re.of_obj r1.2
        obtain rfl := kc.un _ hc
        exact ⟨_, .ref C', .ref C', .ref C', true, rfl, .own C', .base (.ins ha kc.cls ki.ha ki.hn ki.ht ki.hm), ki.yes, fin_bl (p.mono s1) r1.1⟩
      · cases h1
    · rename_i i
      cases h1
      rw [Bor.int r1.2]
      exact ⟨_, .ref C, .type "int", .ref C, false, rfl, .own C, .base (.int i), ki.n_int, fin_bl (p.mono s1) r1.1⟩
    · cases h1
      refine ⟨v, .ref C, .type "tuple", .ref C, false, rfl, .own C, ?_, ki.n_tup, fin_bl (p.mono s1) r1.1⟩
      rw [← hK]
      exact bor_ty r1.2 rfl
    · cases h1
/-! ### == -/
structure EqAt (P : Program) (w : World) (K : PySem.W.Frag) (mg : Str → Option Value) (base : Heap) (c : Conf) (x : Str) (k : Nat) (f : List D → R D) : Prop where
  ex : ∃ (C g : Addr) (fd : FuncData) (ps : List Str), ClsX K c x C ∧ PySem.W.findIn K (.ref C) "__eq__" = some (some (.ref g)) ∧ PySem.W.isFn K (.ref g) = true ∧ FnOk P w K mg base (L2.CX P w) k g fd ps (SpD c f) ∧ Binds K fd ps [] ∧ (PySem.W.notFirst K C (.type "int") = true ∧ PySem.W.notFirst K C (.type "tuple") = true)
def rEqO (c : Conf) (C : Addr) (f : List D → R D) : R2 := fun x y H Q => ∃ (U : Addr → Prop) (a dx : Addr) (fs : List (Str × V)) (d e : D) (b : Bool), (∀ a, U a → Mt H a) ∧ x = .ref a ∧ H a = some (.ins C dx fs) ∧ Rp c U H [x, y] [d, e] ∧
  ((∃ i, y = .int i) ∨ (∃ b dy gs, y = .ref b ∧ H b = some (.ins C dy gs)) ∨ ∃ b us, y = .ref b ∧ H b = some (.tup us)) ∧ f [d, e] = some (.ok (.bl b)) ∧ ∀ H', Same H H' → Q (.bl b) H'
theorem op_eqO {n : Nat} {C g : Addr} {fd : FuncData} {ps : List Str} {f : List D → R D} (F : FnOk X.prog X.w X.K X.mg X.base (L2.CX X.prog X.w) n g fd ps (SpD c f)) (hs : PySem.W.findIn X.K (.ref C) "__eq__" = some (some (.ref g))) (hf : PySem.W.isFn X.K (.ref g) = true)
    (hb : Binds X.K fd ps []) (hn : PySem.W.notFirst X.K C (.type "int") = true ∧ PySem.W.notFirst X.K C (.type "tuple") = true) (tk : Takes X W) (hr : Room n X.A) : OpR X (compareOp .Eq) (rEqO c C f) := by
  intro pins s σ H x y u v Q I rx ry hq
  obtain ⟨U, a, dx, fs, d, e, b, hU, rfl, ha, rp, ty, hf', q⟩ := hq
  show wpAny (model X.prog X.w) X.A (richCompare .Eq u v) (EP X pins σ Q) X.xe s
  cases rx
  obtain ⟨mA, J, _⟩ := ins_get I.hok ha
  obtain ⟨od, J, _⟩ := J.look
  obtain ⟨m, hF⟩ := I.fr
  have hsp : SpD c f [.ref a, y] H (fun w H' => w = .bl b ∧ Same H H') (fun _ _ _ => False) := ⟨U, [d, e], _, hU, rp, hf', fun w H' s1 r1 => ⟨by cases r1 with | bl _ => rfl, s1⟩⟩
  have hl := F.len _ _ _ _ hsp
  have main : ∀ {tb : Value}, PySem.W.Looks (model X.prog X.w) s.heap (typeOf v) tb → PySem.W.notFirst X.K C tb = true → wpAny (model X.prog X.w) X.A (richCompare .Eq (.ref a) v) (EP X pins σ Q) X.xe s := fun {tb} lk nf => by
    refine PySem.W.cmp_K (op := .Eq) (tb := tb) hr.units0 hF I.ok.mod.kin J lk nf hs hf ?_
    have r2 : Vals [V.ref a, y] [Value.ref a, v] := .cons rfl (.cons ry .nil)
    refine wpAny_call (codeAny_mono (F.run X.A X.stack s H ⟨[.ref a, v], []⟩ [.ref a, v] [.ref a, y] _ _ hr I.env0 (by
      have := hb s [.ref a, v] I.kIn (by simpa using hl)
      simpa using this) r2 hsp) fun r s' hq => ?_)
    cases r with
    | error e => exact tk e s' (XE.of_call I (fun _ _ _ h => h.elim) hq)
    | ok fl =>
      cases fl with
      | ret w =>
        obtain ⟨z, H', I', rz, ez, ex⟩ := I.after hq
        subst ez
        cases rz
        exact ⟨.bl b, H', I', rfl, q H' ex⟩
      | next => exact False.elim hq
      | brk => exact False.elim hq
      | cont => exact False.elim hq
  rcases ty with ⟨i, rfl⟩ | ⟨b', dy, gs, rfl, hb'⟩ | ⟨b', us, rfl, hb'⟩
  · obtain ⟨t, rfl⟩ := ry
    exact main (fun A Q E s _ q => wpAny_pure q) hn.1
  · cases ry
    obtain ⟨mB, J', _⟩ := ins_get I.hok hb'
    obtain ⟨od', J', _⟩ := J'.look
    exact main J'.type (by simp [PySem.W.notFirst])
  · cases ry
    obtain ⟨_, _, _, o, h1, h2, _⟩ := (show ObjOk X.prog X.w H s.heap b' (.tup us) from I.hok b' _ hb')
    exact main (PySem.W.kitAt_ty _ _ ⟨o, h1, h2⟩) hn.2
def dEqO (x : Str) (f : List D → R D) (d e : D) : R D := match d with
  | .obj y fs => (match e with
    | .int i => if y = x then (match f [.obj y fs, .int i] with
      | some (.ok (.bl b)) => ok (.bl b)
      | _ => none) else none
    | .tup es => if y = x then (match f [.obj y fs, .tup es] with
      | some (.ok (.bl b)) => ok (.bl b)
      | _ => none) else none
    | .obj z gs => if y = x ∧ z = x then (match f [.obj y fs, .obj z gs] with
      | some (.ok (.bl b)) => ok (.bl b)
      | _ => none) else none
    | _ => none)
  | d => dEq d e
theorem q_eqO {x : Str} {n : Nat} {f : List D → R D} (G : EqAt X.prog X.w X.K X.mg X.base c x n f) (hr : Room n X.A) (tk : Takes X W) (hu : X.A.units + 64 < cLine) (hK : c.K = X.K := by rfl) : Cmp X c W .Eq (dEqO x f) := by
  obtain ⟨C, g, fd, ps, kc, hs, hf, F, hb, hn⟩ := G.ex
  refine ⟨_, (op_eqO F hs hf hb hn tk hr).or (op_eqP hu), ?_⟩
  rw [← hK]
  intro Γ σ ρ H x' y' d e res Q er hx hy h p
  unfold dEqO at h
  split at h
  · rename_i y fs
    obtain ⟨a, dx, C', fs', e1, hc, na, ha, kf, rf⟩ := Re.of_obj hx
    split at h
    · rename_i i
      split at h
      · rename_i hyx
        subst hyx
        obtain rfl := kc.un _ hc
        have e2 : y' = .int i := hy.int
        split at h
        · rename_i b hb'
          cases h
          exact .inl ⟨NN Γ σ ρ, a, dx, fs', _, _, b, fun a h => er.mt h, e1, ha, Rp.cons hx (Rp.cons hy .nil), .inl ⟨i, e2⟩, hb', fun H' s1 => fin_bl (p.mono s1) (er.same s1)⟩
        · cases h
      · cases h
    · rename_i es
      split at h
      · rename_i hyx
        subst hyx
        obtain rfl := kc.un _ hc
        split at h
        · rename_i b hb'
          cases h
          have hy' := hy
          cases hy' with
          | @tup b1 us _ _ _ nb hb2 _ _ =>
            exact .inl ⟨NN Γ σ ρ, a, dx, fs', _, _, b, fun a h => er.mt h, e1, ha, Rp.cons hx (Rp.cons hy .nil), .inr (.inr ⟨b1, us, rfl, hb2⟩), hb', fun H' s1 => fin_bl (p.mono s1) (er.same s1)⟩
        · cases h
      · cases h
    · rename_i z gs
      split at h
      · rename_i hyx
        obtain ⟨rfl, rfl⟩ := hyx
        obtain rfl := kc.un _ hc
        obtain ⟨b1, dy, C2, gs', e2, hc2, nb, hb2, _, _⟩ := Re.of_obj hy
        obtain rfl := kc.un _ hc2
        split at h
        · rename_i b hb'
          cases h
          exact .inl ⟨NN Γ σ ρ, a, dx, fs', _, _, b, fun a h => er.mt h, e1, ha, Rp.cons hx (Rp.cons hy .nil), .inr (.inl ⟨b1, dy, gs', e2, hb2⟩), hb', fun H' s1 => fin_bl (p.mono s1) (er.same s1)⟩
        · cases h
      · cases h
    · cases h
  · exact .inr (r2_eq _ _ _ _ _ _ _ _ _ _ er hx hy h p)
end
end DL

set_option Elab.async false
set_option linter.all false
set_option maxRecDepth 100000
set_option maxHeartbeats 2000000
set_option autoImplicit false
/-! DMe: small rules for the printed walk of __init__. -/
namespace DL
open PySem PySem.Spec L2
section
variable {X : Cx} {c : Conf} {W : WX}
theorem pss_pre {st : Stmt} {rest : List Stmt} {s t : MS} {u : TS} (h : PS X st (tS c W s)) (r : PSs X rest (tSeq (tS c W t) u)) : PSs X (st :: rest) (tSeq (tS c W (mSeq s t)) u) :=
  (pss_cons h r).via fun D σ H h => tSeq_ok (D := { D with nx := u D }) h
theorem frzA_ok {i : Nat} {s : MS} {D : Ends} {σ : L2.St} {H : Hp} (q : tS c W (mSeq s (mSeq (mFrz i) mSkip)) D σ H) : tS c W s D σ H := by
  have q2 : tSeq (tS c W s) (tS c W (mSeq (mFrz i) mSkip)) D σ H := tSeq_ok q
  obtain ⟨Γ, ρ, o, er, em, p⟩ := q2
  refine ⟨Γ, ρ, o, er, em, ?_⟩
  cases o with
  | nx ρ1 =>
    intro σ1 H1 e1
    have z := frz_ok (p σ1 H1 e1)
    obtain ⟨Γ2, ρ2, o2, er2, em2, p2⟩ := z
    cases em2
    exact p2 _ _ er2
  | rt d => exact p
  | er x ρ1 => exact p
  | bk ρ1 => exact p
  | ct ρ1 => exact p
theorem ps_frzA (i : Nat) {st : Stmt} {s : MS} (h : PS X st (tS c W s)) : PS X st (tS c W (mSeq s (mSeq (mFrz i) mSkip))) := h.via fun D σ H q => frzA_ok q
theorem _root_.DL.FnAt.fx {P : Program} {w : World} {K : PySem.W.Frag} {mg : Str → Option Value} {base : Heap} {x : Str} {k : Nat} {ps : List Str} {m : List D → R D} {l : List (Nat × V)} (G : FnAt P w K mg base c x k ps m) : FnAt P w K mg base { c with fx := l } x k ps m := by
  obtain ⟨f, fd, F, h1, h2, h3⟩ := G.ex
  refine ⟨f, fd, FnOk.imp F fun vs H Q E ⟨U, ds, r, hU, hr, hm, p⟩ => ⟨U, ds, r, hU, hr.fx (l := c.fx), hm, ?_⟩, h1, h2, h3⟩
  cases r with
  | ok d => exact fun v H' s r => p v H' s r.fx
  | error x => exact p
end
theorem kit_bi {K : PySem.W.Frag} {T : String} {V : Addr} {b : Bool} (hdct : PySem.W.hasDictIn K V = true) (ht : PySem.W.typeIn K (.ref V) = some (.type "type")) (h : PySem.W.subIn K (.type T) (.ref V) = some b) : PySem.W.kitOne K (.type T) (.ref V) = some b := by
  obtain ⟨cd, hc, _⟩ := PySem.W.any_some hdct
  have e2 : ((PySem.W.clsIn K V).isSome && PySem.W.typeIn K (.ref V) == some (.type "type")) = true := by rw [hc, ht] <;> rfl
  have e3 : PySem.W.kitCls K (.type T) (.ref V) = some b := by
    show (if ((PySem.W.clsIn K V).isSome && PySem.W.typeIn K (.ref V) == some (.type "type")) = true then PySem.W.subIn K (.type T) (.ref V) else none) = some b
    rw [if_pos e2]
    exact h
  unfold PySem.W.kitOne
  split
  · rename_i q
    have e := beq_iff_eq.mp q
    cases e
  · exact e3
end DL

set_option Elab.async false
set_option linter.all false
set_option maxRecDepth 100000
set_option maxHeartbeats 2000000
set_option autoImplicit false
/-! DMf: sorted of tuples (int, anything) whose ints differ. -/
namespace DLs
open PySem PySem.Spec PyProof.Rows SrtO Srt
def IsQ (h : Heap) (v : Value) (x : Int) : Prop := ∃ a o t w n, v = .ref a ∧ h.get? a = some o ∧ o.cls = .type "tuple" ∧ o.data = .seq #[.int x t, w] n
theorem IsQ.keeps {h h' : Heap} {v : Value} {x : Int} (p : IsQ h v x) (k : ∀ b o, h.get? b = some o → o.cls = .type "tuple" → h'.get? b = some o) : IsQ h' v x := by
  obtain ⟨a, o, t, w, n, e, ho, hc, hd⟩ := p
  exact ⟨a, o, t, w, n, e, k _ _ ho hc, hc, hd⟩
theorem firstsQ {h : Heap} : ∀ {vs : List Value}, (∀ v ∈ vs, ∃ x, IsQ h v x) → ∃ fs : List Value, PySem.W.KatTups h vs fs ∧ fs.length = vs.length ∧ ∀ f ∈ fs, ∃ x t, f = Value.int x t
  | [], _ => ⟨[], PySem.W.KatTups.nil, rfl, fun _ hm => by simp at hm⟩
  | v :: vs, hp => by
    obtain ⟨fs, h1, h2, h3⟩ := firstsQ (vs := vs) fun v' hm => hp v' (List.mem_cons_of_mem _ hm)
    obtain ⟨x, a, o, t, w, n, e, ho, hc, hd⟩ := hp v (List.mem_cons_self ..)
    subst e
    refine ⟨.int x t :: fs, PySem.W.KatTups.cons ho hc hd rfl h1, by rw [List.length_cons, List.length_cons, h2], fun f hm => ?_⟩
    rcases List.mem_cons.mp hm with rfl | hm
    · exact ⟨x, t, rfl⟩
    · exact h3 f hm
def ltI {α : Type} (k : α → Int) (x y : α) : Bool := decide (k x < k y)
theorem swoI {α : Type} (k : α → Int) : Swo (ltI k) := by
  refine ⟨fun x y h => ?_, fun x y z h1 h2 => ?_⟩
  · have a : k x < k y := of_decide_eq_true h
    exact decide_eq_false (by omega)
  · have a : ¬ k y < k x := of_decide_eq_false h1
    have b : ¬ k z < k y := of_decide_eq_false h2
    exact decide_eq_false (by omega)
section
variable {prog : Program} {w : World} {A : Around} {E : Value → Shared → Prop} {s : Shared}
theorem q_cmp {vs : List Value} {k : Value → Int} (hp : ∀ v ∈ vs, IsQ s.heap v (k v)) (hu : ∀ v ∈ vs, ∀ u ∈ vs, k v = k u → v = u) : Cmp prog w A s (tuples' true) (fun p => p.1 ∈ vs) (lt2 (ltI k)) := by
  intro p q hm hm'
  have h1 := hp _ hm
  have h2 := hp _ hm'
  have h3 := hu _ hm _ hm'
  show wpAny (model prog w) A (keyLt' (tuples' true) p.1 q.1) (fun r s' => s' = s ∧ r = decide (k p.1 < k q.1)) (fun _ _ => False) s
  generalize k p.1 = x at h1 h3 ⊢
  generalize k q.1 = x' at h2 h3 ⊢
  obtain ⟨a, o, t, u, n, e, ho, hc, hd⟩ := h1
  obtain ⟨a', o', t', u', n', e', ho', hc', hd'⟩ := h2
  rw [e, e'] at h3 ⊢
  refine PySem.W.kat_lt ho hd ho' hd' ?_
  show PySem.W.KatLex prog w A true (decide (2 < 2)) _ [(.int x t, .int x' t'), (u, u')] 0 s
  refine PySem.W.kat_cons (SeqAt.EqAt.int_int x t x' t' prog w _ _ ?_)
  refine PySem.W.kat_go (fun e1 => ?_) (fun e1 => ?_)
  · have ex : x = x' := by simpa using e1
    have ea : a = a' := by
      have := h3 ex
      injection this
    subst ea
    have eo : o = o' := by
      rw [ho] at ho'
      exact Option.some.inj ho'
    subst eo
    have eu : u = u' := by
      rw [hd] at hd'
      have := (Data.seq.inj hd').1
      have := congrArg Array.toList this
      simp at this
      exact this.2
    subst eu
    refine PySem.W.kat_yes (PySem.W.kat_cons (SeqAt.EqAt.same u prog w _ _ ?_))
    have e3 : decide (x < x') = false := decide_eq_false (by omega)
    exact PySem.W.kat_go (fun _ => PySem.W.kat_yes (PySem.W.kat_nil ⟨rfl, e3.symm⟩)) (fun z => absurd z (by decide))
  · exact PySem.W.kat_no (oneLt_int ⟨rfl, rfl⟩)
theorem q_sortable {a : Addr} {vs : List Value} {k : Value → Int} (h0 : 0 < vs.length) (hp : ∀ v ∈ vs, IsQ s.heap v (k v)) (hu : ∀ v ∈ vs, ∀ u ∈ vs, k v = k u → v = u) (ha : ∀ o, s.heap.get? a = some o → o.cls ≠ .type "tuple") : SortableO prog w A s a vs (ltI k) := by
  intro h' keep
  have hp' : ∀ v ∈ vs, IsQ h' v (k v) := fun v hm => (hp v hm).keeps fun b o e c => keep b o (fun z => by subst z; exact ha o e c) e
  obtain ⟨fs, h1, h2, h3⟩ := firstsQ fun v hm => ⟨_, hp' v hm⟩
  refine ⟨tuples' true, fun Q E hq => ?_, q_cmp hp' hu⟩
  refine PySem.W.kat_kind (T := .type "int") h1 (by omega) (fun f hm => ?_) (by rfl) ?_
  · obtain ⟨x, t, rfl⟩ := h3 f hm
    exact PySem.W.Looks.now
  · have e : (Value.type "int" != Value.type "tuple") = true := by first | decide +kernel | rfl | decide
    rw [e]
    exact hq
theorem sorted_qO {l : Addr} {vs : List Value} {k : Value → Int} {Q : Value → Shared → Prop} (hl : s.heap.IsList l vs.toArray) (hz : vs.length ≤ sizeLine) (hp : ∀ v ∈ vs, IsQ s.heap v (k v)) (hu : ∀ v ∈ vs, ∀ u ∈ vs, k v = k u → v = u)
    (h : ∀ (h' : Heap) (d : Addr) (out : List Value), Srtd (ltI k) out → Stb (ltI k) out vs → (∀ b o, s.heap.get? b = some o → h'.get? b = some o) → s.heap.objs.size ≤ d → (∃ n, h'.get? d = some (seqObj "list" out.toArray n)) → Q (.ref d) { s with heap := h' }) :
    wpAny (model prog w) A (call (.builtin "sorted") [.ref l]) Q E s := by
  refine sorted_ord (swoI k) hl hz (fun h2 h₁ a ha kk => ?_) fun out hs hb => ?_
  · refine q_sortable (s := { s with heap := h₁ }) (by omega) (fun v hm => (hp v hm).keeps fun b o e _ => (kk b o e).2) hu fun o e => ?_
    have e' : some o = some (seqObj "list" vs.toArray 0) := e.symm.trans ha
    cases e'
    intro c
    exact absurd (Value.type.inj c) (by decide)
  · exact h _ _ out hs hb (fun b o e => sortedAll_old e) (Nat.le_succ _) (sortedAll_at s.heap vs out.toArray)
end
end DLs
namespace L2
open PySem PySem.Spec PyProof.Rows
def rSortedQ (K : PySem.W.Frag) : List V → Hp → VK → Prop := fun vs H Q => ∃ (a : Addr) (xs : List V) (k : V → Int), vs = [V.ref a] ∧ SqL K H a xs ∧ (∀ x ∈ xs, ∃ t y, x = V.ref t ∧ H t = some (.tup [.int (k x), y])) ∧ (∀ x ∈ xs, ∀ y ∈ xs, k x = k y → x = y) ∧
  ∀ ys p, SrtO.Srtd (DLs.ltI k) ys → ys.Perm xs → H p = none → Q (.ref p) (upd H p (.lst ys))
section
variable {X : Cx}
theorem cr_sortedQ : CallR X (.builtin "sorted") (rSortedQ X.K) := by
  intro pins s σ H vs us Q I r h
  obtain ⟨a, xs, k, rfl, hs, hx, hu, q⟩ := h
  obtain ⟨its, rv, hl, hz⟩ := I.list hs
  obtain ⟨u, rfl, ru⟩ := vals1 r
  obtain rfl : u = Value.ref a := ru
  obtain ⟨e1, e2⟩ := refs_back rv fun x m => by
    obtain ⟨t, y, e, _⟩ := hx x m
    exact ⟨t, e⟩
  have mem : ∀ v ∈ its, backV v ∈ xs := fun v hv => by rw [e1]; exact List.mem_map.mpr ⟨_, hv, rfl⟩
  refine DLs.sorted_qO (k := fun u => k (backV u)) hl.isList (by rw [← rv.length]; exact hz) (fun v hv => ?_) (fun v hv u hu' ek => ?_) fun h' d out h1 h2 kp hd hn => ?_
  · obtain ⟨t, rfl⟩ := e2 v hv
    have hm : V.ref t ∈ xs := mem _ hv
    obtain ⟨t', y, e, ht⟩ := hx _ hm
    cases e
    obtain ⟨_, its2, r2, o, ho, hc, n, hd⟩ := I.hok _ _ ht
    obtain ⟨u1, u2, rfl, ri, rj⟩ := vals2 r2
    obtain ⟨t1, rfl⟩ := ri
    exact ⟨t, o, t1, u2, n, rfl, ho, hc, hd⟩
  · obtain ⟨t, rfl⟩ := e2 v hv
    obtain ⟨t', rfl⟩ := e2 u hu'
    have := hu _ (mem _ hv) _ (mem _ hu') ek
    have : V.ref t = V.ref t' := this
    injection this with z
    rw [z]
  · have h3 : ∀ u ∈ out, ∃ a, u = Value.ref a := fun u hu => e2 u (h2.perm.mem_iff.mp hu)
    obtain ⟨n, hn⟩ := hn
    have hb : (out.map backV).Perm xs := by
      rw [e1]
      exact h2.perm.map backV
    refine ⟨.ref d, upd H d (.lst (out.map backV)), I.laid (t' := s.toks) kp hd ⟨?_, out, n, vals_back h3, hn⟩, rfl, q _ d (SrtO.srtd_map (lt := DLs.ltI k) (f := backV) h1) hb (I.hok.fresh hd)⟩
    rw [hb.length_eq]
    exact hz
end
end L2
namespace DL
open PySem PySem.Spec L2
/-! ### on data -/
def qD (p : Int × D) : D := .tup [.int p.1, p.2]
def qOf : D → Option (Int × D)
  | .tup [.int i, d] => some (i, d)
  | _ => none
def qrs? (ds : List D) : Option (List (Int × D)) := ds.mapM qOf
theorem qrs?_map : ∀ ps : List (Int × D), qrs? (ps.map qD) = some ps
  | [] => rfl
  | p :: ps => by
    show (qD p :: ps.map qD).mapM qOf = _
    rw [List.mapM_cons, show (ps.map qD).mapM qOf = some ps from qrs?_map ps]
    rfl
def qins (x : Int × D) : List (Int × D) → List (Int × D)
  | [] => [x]
  | y :: ys => if x.1 ≤ y.1 then x :: y :: ys else y :: qins x ys
def qsort : List (Int × D) → List (Int × D)
  | [] => []
  | x :: xs => qins x (qsort xs)
theorem qins_cons (x y : Int × D) (ys : List (Int × D)) : qins x (y :: ys) = if x.1 ≤ y.1 then x :: y :: ys else y :: qins x ys := (rfl)
theorem qins_perm (x : Int × D) : ∀ ys : List (Int × D), (qins x ys).Perm (x :: ys)
  | [] => .refl _
  | y :: ys => by
    rw [qins_cons]
    split
    · exact .refl _
    · exact ((qins_perm x ys).cons y).trans (.swap x y ys)
theorem qsort_perm : ∀ xs : List (Int × D), (qsort xs).Perm xs
  | [] => .refl _
  | x :: xs => (qins_perm x (qsort xs)).trans ((qsort_perm xs).cons x)
theorem qins_sorted (x : Int × D) : ∀ {ys : List (Int × D)}, ys.Pairwise (fun a b => a.1 ≤ b.1) → (qins x ys).Pairwise (fun a b => a.1 ≤ b.1)
  | [], _ => List.pairwise_singleton _ _
  | y :: ys, h => by
    have h' := List.pairwise_cons.mp h
    rw [qins_cons]
    split
    · rename_i hx
      refine List.pairwise_cons.mpr ⟨fun z hz => ?_, h⟩
      rcases List.mem_cons.mp hz with e | hz
      · subst e; exact hx
      · have := h'.1 z hz
        omega
    · rename_i hx
      refine List.pairwise_cons.mpr ⟨fun z hz => ?_, qins_sorted x h'.2⟩
      rcases List.mem_cons.mp ((qins_perm x ys).mem_iff.mp hz) with e | hz
      · subst e
        omega
      · exact h'.1 z hz
theorem qsort_sorted : ∀ xs : List (Int × D), (qsort xs).Pairwise (fun a b => a.1 ≤ b.1)
  | [] => .nil
  | x :: xs => qins_sorted x (qsort_sorted xs)
theorem q_unique : ∀ {xs ys : List (Int × D)}, xs.Perm ys → (xs.map (·.1)).Nodup → xs.Pairwise (fun a b => a.1 ≤ b.1) → ys.Pairwise (fun a b => a.1 ≤ b.1) → xs = ys
  | [], ys, p, _, _, _ => by rw [List.nil_perm.mp p]
  | x :: xs, [], p, _, _, _ => by have := p.length_eq; simp at this
  | x :: xs, y :: ys, p, nd, h1, h2 => by
    have a := List.pairwise_cons.mp h1
    have b := List.pairwise_cons.mp h2
    have nd' := List.nodup_cons.mp nd
    have e : x = y := by
      have m1 : x ∈ y :: ys := p.mem_iff.mp List.mem_cons_self
      have m2 : y ∈ x :: xs := p.mem_iff.mpr List.mem_cons_self
      rcases List.mem_cons.mp m1 with e | m1
      · exact e
      · rcases List.mem_cons.mp m2 with e | m2
        · exact e.symm
        · have q1 := b.1 x m1
          have q2 := a.1 y m2
          exact absurd (List.mem_map.mpr ⟨y, m2, (show y.1 = x.1 by omega)⟩) nd'.1
    subst e
    rw [q_unique (List.Perm.cons_inv p) nd'.2 a.2 b.2]
def dSortQ : List D → R D
  | [.lst ds] => match qrs? ds with
    | some ps => if (ps.map (·.1)).Nodup then some (.ok (.lst ((qsort ps).map qD))) else none
    | none => none
  | _ => none
theorem dSortQ_ok (ps : List (Int × D)) (nd : (ps.map (·.1)).Nodup) : dSortQ [.lst (ps.map qD)] = some (.ok (.lst ((qsort ps).map qD))) := by
  show (match qrs? (ps.map qD) with
    | some ps => if (ps.map (·.1)).Nodup then some (.ok (.lst ((qsort ps).map qD))) else none
    | none => none : R D) = _
  rw [qrs?_map]
  exact if_pos nd
section
variable {X : Cx} {c : Conf} {W : WX}
theorem Rp.quads {N : Addr → Prop} {H : Hp} {k : V → Int} (hk : ∀ t i y, H t = some (.tup [.int i, y]) → k (.ref t) = i) : ∀ {ds : List D} {ps : List (Int × D)} {us : List V}, qrs? ds = some ps → Rp c N H us ds →
    ∃ zs : List (V × (Int × D)), zs.map (·.1) = us ∧ zs.map (·.2) = ps ∧ ∀ z ∈ zs, k z.1 = z.2.1 ∧ Re c N H z.1 (qD z.2) ∧ ∃ t y, z.1 = V.ref t ∧ H t = some (.tup [.int (k z.1), y])
  | [], ps, us, h, r => by
    cases r
    cases h
    exact ⟨[], rfl, rfl, fun x hx => by cases hx⟩
  | d :: ds, ps, us, h, r => by
    cases us with
    | nil => cases r
    | cons u us =>
      have h : (d :: ds).mapM qOf = some ps := h
      rw [List.mapM_cons] at h
      cases e : qOf d with
      | none => rw [e] at h; cases h
      | some p =>
        rw [e] at h
        cases e2 : ds.mapM qOf with
        | none => rw [e2] at h; cases h
        | some qs =>
          rw [e2] at h
          cases h
          obtain ⟨zs, i1, i2, i3⟩ := Rp.quads hk e2 r.unc.2
          have r1 := r.unc.1
          unfold qOf at e
          split at e
          · rename_i i d'
            cases e
            have r0 := r1
            cases r1 with
            | @tup a us' _ _ _ n ha rr _ =>
              obtain ⟨y, e3⟩ : ∃ y, us' = [.int i, y] := by
                cases us' with
                | nil => cases rr
                | cons a1 us' =>
                  cases us' with
                  | nil => exact absurd rr.len (by simp)
                  | cons a2 us' =>
                    cases us' with
                    | nil => exact ⟨a2, by rw [rr.unc.1.of_int]⟩
                    | cons => exact absurd rr.len (by simp)
              subst e3
              have ek := hk _ _ _ ha
              refine ⟨(V.ref a, (i, d')) :: zs, by rw [List.map_cons, i1], by rw [List.map_cons, i2], fun z hz => ?_⟩
              rcases List.mem_cons.mp hz with z' | z'
              · subst z'
                exact ⟨ek, r0, a, y, rfl, by rw [ek]; exact ha⟩
              · exact i3 z z'
          · cases e
theorem Rp.of_zs {N : Addr → Prop} {H : Hp} : ∀ {zs : List (V × (Int × D))}, (∀ z ∈ zs, Re c N H z.1 (qD z.2)) → Rp c N H (zs.map (·.1)) ((zs.map (·.2)).map qD)
  | [], _ => .nil
  | z :: zs, h => (h z List.mem_cons_self).cons (Rp.of_zs fun x hx => h x (List.mem_cons_of_mem _ hx))
theorem zs_find {α β : Type} : ∀ {ys : List α} {zs : List (α × β)}, ys.Perm (zs.map (·.1)) → ∃ ws : List (α × β), ws.Perm zs ∧ ws.map (·.1) = ys
  | [], zs, p => by
      have : zs = [] := List.map_eq_nil_iff.mp (List.nil_perm.mp p)
      exact ⟨[], by rw [this], rfl⟩
  | y :: ys, zs, p => by
      have hm : y ∈ zs.map (·.1) := p.mem_iff.mp List.mem_cons_self
      obtain ⟨z, hz, e⟩ := List.mem_map.mp hm
      obtain ⟨a, b, rfl⟩ := List.append_of_mem hz
      have q : ys.Perm ((a ++ b).map (·.1)) := by
        rw [List.map_append, List.map_cons, e] at p
        rw [List.map_append]
        exact List.Perm.cons_inv (p.trans List.perm_middle)
      obtain ⟨ws, w1, w2⟩ := zs_find q
      exact ⟨z :: ws, (w1.cons z).trans List.perm_middle.symm, by rw [List.map_cons, w2, e]⟩
theorem bi_sortQ (hK : c.K = X.K := by rfl) : Bi X c W .own (.builtin "sorted") dSortQ := ⟨_, cr_sortedQ, by
  rw [← hK]
  intro Γ σ ρ H xs ds res Q er bx h p
  unfold dSortQ at h
  split at h
  · rename_i es
    split at h
    · rename_i ps hp
      split at h
      · rename_i nd
        cases h
        obtain ⟨x, rfl, a, us, rfl, e, r⟩ := bx.one
        let k : V → Int := fun v => match v with
          | .ref t => (match H t with
            | some (.tup [.int i, y]) => i
            | _ => 0)
          | _ => 0
        have hk : ∀ t i y, H t = some (.tup [.int i, y]) → k (.ref t) = i := fun t i y ht => by
          show (match H t with | some (.tup [.int i, y]) => i | _ => 0) = _
          rw [ht]
        obtain ⟨zs, z1, z2, z3⟩ := Rp.quads hk hp r
        have dist : ∀ x ∈ us, ∀ y ∈ us, k x = k y → x = y := fun x hx y hy ek => by
          rw [← z1] at hx hy
          obtain ⟨zx, hzx, rfl⟩ := List.mem_map.mp hx
          obtain ⟨zy, hzy, rfl⟩ := List.mem_map.mp hy
          obtain ⟨i, hi, ei⟩ := List.mem_iff_getElem.mp hzx
          obtain ⟨j, hj, ej⟩ := List.mem_iff_getElem.mp hzy
          have n2 : (zs.map fun z => z.2.1).Nodup := by
            have : zs.map (fun z => z.2.1) = ps.map (·.1) := by rw [← z2, List.map_map]; rfl
            rw [this]
            exact nd
          have : i = j := (List.getElem_inj (xs := zs.map fun z => z.2.1) (h₀ := by rw [List.length_map]; exact hi) (h₁ := by rw [List.length_map]; exact hj) n2).mp (by
            rw [List.getElem_map, List.getElem_map, ei, ej, ← (z3 _ hzx).1, ← (z3 _ hzy).1]
            exact ek)
          subst this
          rw [← ei, ← ej]
        refine ⟨a, us, k, rfl, .of e, fun x hx => ?_, dist, fun ys q hs hb hq => ?_⟩
        · rw [← z1] at hx
          obtain ⟨z, hz, rfl⟩ := List.mem_map.mp hx
          exact (z3 z hz).2.2
        · obtain ⟨ws, w1, w2⟩ := zs_find (zs := zs) (ys := ys) (by rw [z1]; exact hb)
          have ey : ws.map (·.2) = qsort ps := by
            refine q_unique ((w1.map (·.2)).trans (by rw [z2]; exact (qsort_perm ps).symm)) ?_ ?_ (qsort_sorted ps)
            · exact (((w1.map (·.2)).map (·.1)).nodup_iff).mpr (by rw [z2]; exact nd)
            · rw [← w2] at hs
              refine List.pairwise_map.mpr (((List.pairwise_map.mp hs).imp_of_mem fun {x y} hx hy h => ?_))
              have e1 := (z3 x (w1.mem_iff.mp hx)).1
              have e2 := (z3 y (w1.mem_iff.mp hy)).1
              have : ¬ k y.1 < k x.1 := of_decide_eq_false h
              omega
          have fin := Rp.of_zs (c := c) (zs := ws) fun z hz => (z3 z (w1.mem_iff.mp hz)).2.1
          rw [w2, ey] at fin
          exact fin_lst p er fin hq
      · cases h
    · cases h
  · cases h⟩
end
end DL

set_option Elab.async false
set_option linter.all false
set_option maxRecDepth 100000
set_option maxHeartbeats 2000000
set_option autoImplicit false
/-! DMg: len(set(xs)) of a list of ints. -/
namespace DL
open PySem PySem.Spec L2
def fm (ns : List Int) : List Int := PyProof.Rows.firstMet (fun i => ns.getD i 0) ns.length
def dLenS : D → R D
  | .lst ds => match ints? ds with
    | some ns => if ns.length < 64 then some (.ok (.int ((fm ns).length : Nat))) else none
    | none => none
  | _ => none
theorem dLenS_l (ns : List Int) (h : ns.length < 64) : dLenS (.lst (ns.map D.int)) = some (.ok (.int ((fm ns).length : Nat))) := by
  show (match ints? (ns.map D.int) with
    | some ns => if ns.length < 64 then (some (.ok (.int ((fm ns).length : Nat))) : R D) else none
    | none => none) = _
  rw [ints?_map]
  exact if_pos h
section
variable {X : Cx} {c : Conf} {W : WX}
def tLenS (K : PySem.W.Frag) (ta : TE) : TE := fun σ H Q => ta σ H fun x H1 => ∃ (l : Addr) (ns : List Int), x = V.ref l ∧ SqL K H1 l (ns.map V.int) ∧ ns.length < 64 ∧ Q (.int ((fm ns).length : Nat)) H1
theorem pe_lenS {a : Expr} {ta : TE} {p p2 q pos : Pos} (hc : X.calm = true) (hg : Gl X "len") (hm : X.mg "len" = none) (hg2 : Gl X "set") (hm2 : X.mg "set" = none) (ha : PE X a ta)
    (na : starEach [a] X.env = (false, eval a X.env) :: starEach [] X.env := by rfl) : PE X (.Call (.Name "len" p) [.Call (.Name "set" p2) [a] [] q] [] pos) (tLenS X.K ta) := by
  refine ⟨fun pins s σ H Q I h => ?_⟩
  refine PyProof.Rows.Call_ (ld_blt I hg hm PySem.boot_len ?_)
  refine PyProof.Rows.callWith_builtin1 (PyProof.Rows.args_cons ?_ rfl) rfl rfl
  refine PyProof.Rows.Call_ (ld_blt I hg2 hm2 PyProof.Rows.boot_set ?_)
  refine PyProof.Rows.callWith_type1 (PyProof.Rows.args_cons (thn (ha.run pins s σ H _ I h) fun v s1 ⟨x, H1, I1, r1, q1⟩ => PyProof.Rows.args_nil ?_) na) na rfl
  obtain ⟨l, ns, rfl, hq, h1, q1⟩ := q1
  cases r1
  obtain ⟨its, r, pl, hz⟩ := I1.list hq
  have hl : its.toArray.size = ns.length := by rw [List.size_toArray, ← r.length, List.length_map]
  have fl := PyProof.Rows.firstMet_length_le (fun i => ns.getD i 0) ns.length
  refine PySem.call_set_list (I1.ok.hd hc) pl.isList (ns := ns) (by simpa using r.ints) (by unfold scanBound; omega) fun h' tk hS hk => ?_
  rw [hl] at hS
  refine PyProof.Rows.args_nil ?_
  obtain ⟨o, es, ep, t, ho, hex, hd, _, _, _, hf, hn⟩ := hS
  have I2 : Inv X pins σ H1 { s1 with heap := h', toks := tk } := I1.kept fun b o e => hk b o (Heap.lt_size e) e
  refine PySem.call_len_set ho hex hd hf (by rw [hn] <;> omega) ⟨.int ((fm ns).length : Nat), H1, I2.tok _, ⟨_, by rw [hn] <;> rfl⟩, q1⟩
theorem d_lenS {a : Expr} {m : ME} {p p2 q pos : Pos} (he : PE X a (tE c W .bor m)) (hc : X.calm = true) (hm : X.mg "len" = none) (hm2 : X.mg "set" = none) (hK : c.K = X.K := by rfl) (hg : Gl X "len" := by rfl) (hg2 : Gl X "set" := by rfl)
    (na : starEach [a] X.env = (false, eval a X.env) :: starEach [] X.env := by rfl) : PE X (.Call (.Name "len" p) [.Call (.Name "set" p2) [a] [] q] [] pos) (tE c W .dur (mUn dLenS m)) :=
  (pe_lenS hc hg hm hg2 hm2 he na).via fun σ H Q ⟨Γ, ρ, r, er, em, p⟩ => by
    have em : bnd (m ρ) dLenS = some r := em
    refine use er em p.err fun d v H1 h1 s1 r1 => ?_
    unfold dLenS at h1
    split at h1
    · rename_i ds
      split at h1
      · rename_i ns hns
        split at h1
        · rename_i hl
          cases h1
          obtain ⟨a, us, rfl, e, rr⟩ := r1.2
          have eu := rr.ints? hns
          subst eu
          exact ⟨a, ns, rfl, .of e, hl, fin_int (p.mono s1) r1.1⟩
        · cases h1
      · cases h1
    · cases h1
end
/-! ### what it says -/
open PyProof.Rows in
theorem fm_spec (v : Nat → Int) : ∀ n, ((firstMet v n).length = n ↔ ((List.range n).map v).Nodup) ∧ (∀ x, x ∈ firstMet v n ↔ x ∈ (List.range n).map v)
  | 0 => ⟨⟨fun _ => .nil, fun _ => rfl⟩, fun x => Iff.rfl⟩
  | n + 1 => by
    obtain ⟨i1, i2⟩ := fm_spec v n
    have le := firstMet_length_le v n
    rw [firstMet_succ, List.range_succ, List.map_append, List.map_cons, List.map_nil]
    unfold step_dedup
    by_cases c : v n ∈ firstMet v n
    · have e : ((firstMet v n).any (· == v n)) = true := List.any_eq_true.mpr ⟨_, c, beq_self_eq_true _⟩
      rw [if_pos e]
      refine ⟨⟨fun h => absurd h (by omega), fun h => ?_⟩, fun x => ?_⟩
      · exact absurd rfl ((List.nodup_append.mp h).2.2 _ ((i2 _).mp c) _ (List.mem_singleton.mpr rfl))
      · rw [i2, List.mem_append, List.mem_singleton]
        refine ⟨.inl, fun h => h.elim id fun z => ?_⟩
        rw [z]
        exact (i2 _).mp c
    · have e : ¬ ((firstMet v n).any (· == v n)) = true := fun h => by
        obtain ⟨x, hx, q⟩ := List.any_eq_true.mp h
        rw [← beq_iff_eq.mp q] at c
        exact c hx
      rw [if_neg e, List.length_append, List.length_singleton]
      refine ⟨⟨fun h => ?_, fun h => ?_⟩, fun x => ?_⟩
      · refine List.nodup_append.mpr ⟨i1.mp (by omega), by simp, fun a ha b hb z => ?_⟩
        rw [List.mem_singleton] at hb
        subst z
        subst hb
        exact c ((i2 _).mpr ha)
      · rw [i1.mpr (List.nodup_append.mp h).1]
      · rw [List.mem_append, List.mem_singleton, i2, List.mem_append, List.mem_singleton]
theorem fm_len (ns : List Int) : (fm ns).length ≤ ns.length ∧ ((fm ns).length = ns.length ↔ ns.Nodup) := by
  refine ⟨PyProof.Rows.firstMet_length_le _ _, ?_⟩
  have h := (fm_spec (fun i => ns.getD i 0) ns.length).1
  have e : (List.range ns.length).map (fun i => ns.getD i 0) = ns := by
    refine List.ext_getElem (by simp) fun i h1 h2 => ?_
    rw [List.getElem_map, List.getElem_range, List.getD_eq_getElem?_getD, List.getElem?_eq_getElem h2]
    rfl
  rw [e] at h
  exact h
end DL

set_option Elab.async false
set_option linter.all false
set_option maxRecDepth 100000
set_option maxHeartbeats 2000000
set_option autoImplicit false
/-! DMh: sorted of a list of lists of ints. -/
namespace L2
open PySem PySem.Spec PyProof.Rows PySem.W
def encL (l : List Int) : PyData := .list (l.map .int)
def leL (a b : List Int) : Bool := dataLe false encL a b
theorem alike_ints : ∀ l m : List Int, alikeAll (l.map PyData.int) (m.map PyData.int) = true
  | [], _ => by simp [alikeAll]
  | _ :: _, [] => by simp [alikeAll]
  | a :: l, b :: m => by simp [alikeAll, alike, alike_ints l m]
theorem each_vals {R : Value → V → Prop} : ∀ {xs : List V} {us : List Value}, Vals xs us → (∀ x ∈ xs, ∀ u, RelV x u → R u x) → EachIs R us xs
  | _, _, .nil, _ => .nil
  | x :: xs, u :: us, .cons r t, h => .cons (h x List.mem_cons_self u r) (each_vals t fun y hy => h y (List.mem_cons_of_mem _ hy))
theorem vals_each : ∀ {us : List Value} {xs : List V}, EachIs (fun u x => RelV x u) us xs → Vals xs us
  | _, _, .nil => .nil
  | _, _, .cons r t => .cons r (vals_each t)
def rSortedLL (K : PySem.W.Frag) : List V → Hp → VK → Prop := fun vs H Q => ∃ (a : Addr) (xs : List V) (ls : V → List Int), vs = [V.ref a] ∧ SqL K H a xs ∧ (∀ x ∈ xs, Dp K H x (encL (ls x))) ∧ xs.length ≤ 1000 ∧
  ∀ p, H p = none → Q (.ref p) (upd H p (.lst (xs.mergeSort fun x y => leL (ls x) (ls y))))
theorem depth_ints : ∀ l : List Int, PyData.depthAll (l.map PyData.int) ≤ 1
  | [] => by simp [PyData.depthAll]
  | a :: l => by
    have := depth_ints l
    simp [PyData.depthAll, PyData.depth] at this ⊢
    omega
section
variable {X : Cx}
theorem cr_sortedLL (hu : X.A.units + 64 < cLine) : CallR X (.builtin "sorted") (rSortedLL X.K) := by
  intro pins s σ H vs us Q I r h
  obtain ⟨a, xs, ls, rfl, hs, hx, hl, q⟩ := h
  obtain ⟨its, rv, pl, hz⟩ := I.list hs
  obtain ⟨u, rfl, ru⟩ := vals1 r
  obtain rfl : u = Value.ref a := ru
  have e : EachIs (fun u x => RelV x u) its xs := each_vals rv fun _ _ _ h => h
  have er : EachIs (fun v b => ∃ as, Reads s.heap v (encL (ls b)) as) its xs := each_vals rv fun x hm u ru => Dp.reads I _ x u (hx x hm) ru
  have hal : AllAlike (xs.map fun x => encL (ls x)) := fun d hd d' hd' => by
    obtain ⟨x, _, rfl⟩ := List.mem_map.mp hd
    obtain ⟨y, _, rfl⟩ := List.mem_map.mp hd'
    show alike (.list _) (.list _) = true
    rw [alike]
    exact alike_ints _ _
  have hk : Sortable (xs.map fun x => encL (ls x)) := .inr fun d hd => by
    obtain ⟨x, _, rfl⟩ := List.mem_map.mp hd
    exact ⟨fun z => (by cases z), fun _ z => (by cases z)⟩
  refine sorted_data (enc := fun x => encL (ls x)) (bs := xs) (vs := its) pl.isList e er hal hk (Nat.le_trans hl (by decide)) (fun b _ => ?_) fun out ho eo => ?_
  · have d := depth_ints (ls b)
    have : (encL (ls b)).depth ≤ 2 := by
      unfold encL
      simp [PyData.depth]
      omega
    omega
  · have hv : Vals (xs.mergeSort fun x y => leL (ls x) (ls y)) out := vals_each eo
    have hn : H (s.heap.objs.size + 1) = none := I.hok.fresh (Nat.le_succ _)
    obtain ⟨c, hc⟩ := sortedAll_at s.heap its out.toArray
    refine ⟨.ref (s.heap.objs.size + 1), upd H (s.heap.objs.size + 1) (.lst (xs.mergeSort fun x y => leL (ls x) (ls y))), I.laid (t' := s.toks) (fun b o e => sortedAll_old e) (Nat.le_succ _) ⟨?_, out, c, hv, hc⟩, rfl, q _ hn⟩
    rw [List.length_mergeSort]
    exact Nat.le_trans hl (by decide)
end
end L2
namespace DL
open PySem PySem.Spec L2
def lD (l : List Int) : D := .lst (l.map D.int)
def lOf : D → Option (List Int)
  | .lst es => ints? es
  | _ => none
def lls? (ds : List D) : Option (List (List Int)) := ds.mapM lOf
theorem lls?_map : ∀ Ls : List (List Int), lls? (Ls.map lD) = some Ls
  | [] => rfl
  | l :: Ls => by
    show (lD l :: Ls.map lD).mapM lOf = _
    rw [List.mapM_cons, show (Ls.map lD).mapM lOf = some Ls from lls?_map Ls, show lOf (lD l) = some l from ints?_map l]
    rfl
def dSortL : List D → R D
  | [.lst ds] => match lls? ds with
    | some Ls => if Ls.length ≤ 1000 then some (.ok (.lst ((Ls.mergeSort leL).map lD))) else none
    | none => none
  | _ => none
theorem dSortL_ok (Ls : List (List Int)) (h : Ls.length ≤ 1000) : dSortL [.lst (Ls.map lD)] = some (.ok (.lst ((Ls.mergeSort leL).map lD))) := by
  show (match lls? (Ls.map lD) with
    | some Ls => if Ls.length ≤ 1000 then (some (.ok (.lst ((Ls.mergeSort leL).map lD))) : R D) else none
    | none => none) = _
  rw [lls?_map]
  exact if_pos h
section
variable {X : Cx} {c : Conf} {W : WX}
theorem Rp.lls {N : Addr → Prop} {H : Hp} {ls : V → List Int} (hk : ∀ t (l : List Int), H t = some (.lst (l.map V.int)) → ls (.ref t) = l) : ∀ {ds : List D} {Ls : List (List Int)} {us : List V}, lls? ds = some Ls → Rp c N H us ds →
    us.map ls = Ls ∧ ∀ x ∈ us, Re c N H x (lD (ls x)) ∧ Dp c.K H x (encL (ls x))
  | [], Ls, us, h, r => by
    cases r
    cases h
    exact ⟨rfl, fun x hx => by cases hx⟩
  | d :: ds, Ls, us, h, r => by
    cases us with
    | nil => cases r
    | cons u us =>
      have h : (d :: ds).mapM lOf = some Ls := h
      rw [List.mapM_cons] at h
      cases e : lOf d with
      | none => rw [e] at h; cases h
      | some l =>
        rw [e] at h
        cases e2 : ds.mapM lOf with
        | none => rw [e2] at h; cases h
        | some Ms =>
          rw [e2] at h
          cases h
          obtain ⟨i1, i2⟩ := Rp.lls hk e2 r.unc.2
          have r1 := r.unc.1
          unfold lOf at e
          split at e
          · rename_i es
            have r0 := r1
            cases r1 with
            | @lst a us' _ _ _ n ha rr _ =>
              have eu := rr.ints? e
              subst eu
              have ee := ints?_eq e
              have el := hk _ _ ha
              refine ⟨by rw [List.map_cons, i1, el], fun x hx => ?_⟩
              rcases List.mem_cons.mp hx with z | z
              · subst z
                rw [el]
                have r0' : Re c N H (V.ref a) (lD l) := by
                  unfold lD
                  rw [← ee]
                  exact r0
                exact ⟨r0', toP_dp 2 (lD l) (encL l) _ (toP_l 1 l) r0'⟩
              · exact i2 x z
          · cases e
theorem Rp.of_lls {N : Addr → Prop} {H : Hp} {ls : V → List Int} : ∀ {ys : List V}, (∀ x ∈ ys, Re c N H x (lD (ls x))) → Rp c N H ys ((ys.map ls).map lD)
  | [], _ => .nil
  | y :: ys, h => (h y List.mem_cons_self).cons (Rp.of_lls fun x hx => h x (List.mem_cons_of_mem _ hx))
theorem bi_sortLL (hu : X.A.units + 64 < cLine) (hK : c.K = X.K := by rfl) : Bi X c W .own (.builtin "sorted") dSortL := ⟨_, cr_sortedLL hu, by
  rw [← hK]
  intro Γ σ ρ H xs ds res Q er bx h p
  unfold dSortL at h
  split at h
  · rename_i es
    split at h
    · rename_i Ls hp
      split at h
      · rename_i hl
        cases h
        obtain ⟨x, rfl, a, us, rfl, e, r⟩ := bx.one
        let ls : V → List Int := fun v => match v with
          | .ref t => (match H t with
            | some (.lst ws) => ws.map fun w => (match w with | .int i => i | _ => 0)
            | _ => [])
          | _ => []
        have hk : ∀ t (l : List Int), H t = some (.lst (l.map V.int)) → ls (.ref t) = l := fun t l ht => by
          show (match H t with | some (.lst ws) => ws.map (fun w => (match w with | V.int i => i | _ => 0)) | _ => ([] : List Int)) = _
          rw [ht]
          show (l.map V.int).map _ = _
          rw [List.map_map]
          exact (List.map_congr_left fun x _ => rfl).trans (List.map_id l)
        obtain ⟨e1, e2⟩ := Rp.lls hk hp r
        have ul : us.length = Ls.length := by rw [← e1, List.length_map]
        refine ⟨a, us, ls, rfl, .of e, fun x hx => (e2 x hx).2, by omega, fun q hq => ?_⟩
        have em : (us.mergeSort fun x y => leL (ls x) (ls y)).map ls = Ls.mergeSort leL := by
          rw [← e1]
          exact PySem.W.sort_maps ls fun _ _ _ _ => rfl
        have fin := Rp.of_lls (c := c) (ys := us.mergeSort fun x y => leL (ls x) (ls y)) (ls := ls) fun x hx => (e2 x ((List.mergeSort_perm us _).mem_iff.mp hx)).1
        rw [em] at fin
        exact fin_lst p er fin hq
      · cases h
    · cases h
  · cases h⟩
end
/-! ### two arrangements, sorted, are one -/
theorem keyToks_int : ∀ l : List Int, PySem.W.keyToksAll (l.map PyData.int) = (l.flatMap fun i => [.inl 1, .inl i]) ++ [.inl 0]
  | [] => by simp [PySem.W.keyToksAll]
  | i :: l => by
    simp [PySem.W.keyToksAll, PySem.W.keyToks, keyToks_int l]
theorem keyToks_inj : ∀ {l m : List Int}, (l.flatMap fun i => [(.inl 1 : Int ⊕ List Nat), .inl i]) ++ [.inl 0] = (m.flatMap fun i => [.inl 1, .inl i]) ++ [.inl 0] → l = m
  | [], [], _ => rfl
  | [], b :: m, h => by simp at h
  | a :: l, [], h => by simp at h
  | a :: l, b :: m, h => by
    simp at h
    have h2 := keyToks_inj (l := l) (m := m) (by simpa using h.2)
    rw [h.1, h2]
theorem leL_total : PySem.W.TotalLe leL := PySem.W.sortLe_total (PyProof.Rows.listOrd PyProof.Rows.itemOrd) false fun b => PySem.W.keyToks (encL b)
theorem leL_anti {a b : List Int} (h1 : leL a b = true) (h2 : leL b a = true) : a = b := by
  have h1' : (!(PyProof.Rows.listOrd PyProof.Rows.itemOrd).blt (PySem.W.keyToks (encL b)) (PySem.W.keyToks (encL a))) = true := h1
  have h2' : (!(PyProof.Rows.listOrd PyProof.Rows.itemOrd).blt (PySem.W.keyToks (encL a)) (PySem.W.keyToks (encL b))) = true := h2
  rw [Bool.not_eq_true'] at h1' h2'
  have e := (PyProof.Rows.listOrd PyProof.Rows.itemOrd).total _ _ h2' h1'
  have k : ∀ l : List Int, PySem.W.keyToks (encL l) = (l.flatMap fun i => [.inl 1, .inl i]) ++ [.inl 0] := fun l => by
    unfold encL
    rw [PySem.W.keyToks, keyToks_int]
  rw [k, k] at e
  exact keyToks_inj e
theorem leL_uniq : ∀ {xs ys : List (List Int)}, xs.Perm ys → xs.Pairwise (fun a b => leL a b = true) → ys.Pairwise (fun a b => leL a b = true) → xs = ys
  | [], ys, p, _, _ => by rw [List.nil_perm.mp p]
  | x :: xs, [], p, _, _ => by have := p.length_eq; simp at this
  | x :: xs, y :: ys, p, h1, h2 => by
    have a := List.pairwise_cons.mp h1
    have b := List.pairwise_cons.mp h2
    have e : x = y := by
      have m1 : x ∈ y :: ys := p.mem_iff.mp List.mem_cons_self
      have m2 : y ∈ x :: xs := p.mem_iff.mpr List.mem_cons_self
      rcases List.mem_cons.mp m1 with e | m1
      · exact e
      · rcases List.mem_cons.mp m2 with e | m2
        · exact e.symm
        · exact leL_anti (a.1 y m2) (b.1 x m1)
    subst e
    rw [leL_uniq (List.Perm.cons_inv p) a.2 b.2]
theorem sortL_perm {xs ys : List (List Int)} (p : xs.Perm ys) : xs.mergeSort leL = ys.mergeSort leL :=
  leL_uniq ((List.mergeSort_perm xs leL).trans (p.trans (List.mergeSort_perm ys leL).symm)) (PySem.W.sort_pairwise leL_total xs) (PySem.W.sort_pairwise leL_total ys)
end DL

set_option Elab.async false
set_option linter.all false
set_option maxRecDepth 100000
set_option maxHeartbeats 2000000
set_option autoImplicit false
/-! DMi: a def that changes the dict it is given (its first parameter); ints besides. -/
namespace DL
open PySem L2
def SpM (c : Conf) (f : List D → R D) : Sp := fun vs H Q _ => ∃ (a : Addr) (kvs : List (Key × V)) (kds : List (Key × D)) (ws : List V) (ds : List D) (kds' : List (Key × D)), vs = .ref a :: ws ∧ H a = some (.dK kvs) ∧ kvs.map (·.1) = kds.map (·.1) ∧
  (∀ N H, Rp c N H (kvs.map (·.2)) (kds.map (·.2))) ∧ (∀ N H, Rp c N H ws ds) ∧ f (.dK kds :: ds) = some (.ok (.dK kds')) ∧
  ∀ H' kvs', (∀ b o, b ≠ a → H b = some o → H' b = some o) → H' a = some (.dK kvs') → kvs'.map (·.1) = kds'.map (·.1) → (∀ N H, Rp c N H (kvs'.map (·.2)) (kds'.map (·.2))) → Q .non H'
def intsK (kds : List (Key × D)) : Bool := (kds.map (·.2)).all isI
/-- a body run on an own dict and further arguments -/
def endK (ρ : Ro) : R D := match ρ[0]? with
  | some (some (D.dK kds', true)) => if intsK kds' = true then ok (.dK kds') else none
  | _ => none
def endO : Option Out → R D
  | some (.nx ρ) => endK ρ
  | _ => none
def mDefM (n k : Nat) (body : MS) : List D → R D
  | .dK kds :: es => if es.length + 1 = k then endO (body (some (.dK kds, true) :: (es.map (fun d => some (d, false)) ++ List.replicate (n - k) none))) else none
  | _ => none
section
variable {c : Conf}
theorem startM_own {kds : List (Key × D)} {es : List D} {k i : Nat} {d : D} (h : (some (.dK kds, true) :: (es.map (fun d => some (d, false)) ++ List.replicate k none) : Ro)[i]? = some (some (d, true))) : i = 0 ∧ d = .dK kds := by
  cases i with
  | zero => cases h; exact ⟨rfl, rfl⟩
  | succ i => exact absurd h start_no
def lessH (H : Hp) (a : Addr) : Hp := fun b => if b = a then none else H b
theorem startM_er {N : List Str} {H : Hp} {a : Addr} {kvs : List (Key × V)} {kds : List (Key × D)} {ws : List V} {es : List D} {k : Nat} (hk : es.length = k) (hN : k ≤ N.length) (ha : H a = some (.dK kvs)) (ek : kvs.map (·.1) = kds.map (·.1))
    (rk : ∀ N H, Rp c N H (kvs.map (·.2)) (kds.map (·.2))) (r : ∀ N H, Rp c N H ws es) :
    ER { c with fx := [(0, .ref a)] } ⟨fun _ => False, lessH H a, [], []⟩ (some (V.ref a) :: start N ws) H (some (.dK kds, true) :: (es.map (fun d => some (d, false)) ++ List.replicate (N.length - k) none)) := by
  have lv := (r (fun _ => False) H).len
  refine { len := ?_, ext := ?_, utr := fun b h => h.elim, held := fun p h => (by cases h), raw := fun p h => (by cases h), fx := ?_, own := ?_, dis := ?_, slot := ?_, mine := ?_ }
  · unfold L2.start
    simp only [List.length_cons, List.length_append, List.length_map, List.length_replicate]
    omega
  · intro b u h
    have h : (if b = a then none else H b) = some u := h
    split at h
    · cases h
    · exact h
  · intro p hp
    rw [List.mem_singleton] at hp
    subst hp
    rfl
  · intro i d b h1 h2
    obtain ⟨rfl, rfl⟩ := startM_own h1
    cases h2
    exact ⟨by show (if a = a then none else H a) = none; rw [if_pos rfl], fun z => z⟩
  · intro i j d e b ne h1 h2 _
    obtain ⟨rfl, rfl⟩ := startM_own h1
    obtain ⟨rfl, rfl⟩ := startM_own h2
    exact absurd rfl ne
  · intro i d h
    cases i with
    | zero => cases h
    | succ i =>
      have h : (es.map (fun d => some (d, false)) ++ List.replicate (N.length - k) none : Ro)[i]? = some (some (d, false)) := h
      rw [List.getElem?_append] at h
      split at h
      · rename_i hi
        rw [List.getElem?_map] at h
        obtain ⟨d', h1, h2⟩ := Option.map_eq_some_iff.mp h
        cases h2
        obtain ⟨v, h3, h4⟩ := (r (NN ⟨fun _ => False, lessH H a, [], []⟩ (some (V.ref a) :: start N ws) (some (.dK kds, true) :: (es.map (fun d => some (d, false)) ++ List.replicate (N.length - k) none))) H).get h1
        refine ⟨v, ?_, h4.fx⟩
        show (start N ws)[i]? = some (some v)
        unfold L2.start
        rw [List.getElem?_append]
        rw [List.length_map] at hi ⊢
        rw [if_pos (by omega), List.getElem?_map, h3]
        rfl
      · rw [List.getElem?_replicate] at h
        split at h <;> cases h
  · intro i d h
    obtain ⟨rfl, rfl⟩ := startM_own h
    exact ⟨a, rfl, kvs, ha, ek, (rk _ _).fx⟩
end
theorem intsK_any {c : Conf} {kds : List (Key × D)} (h : intsK kds = true) {N : Addr → Prop} {H : Hp} {vs : List V} (r : Rp c N H vs (kds.map (·.2))) : ∀ N H, Rp c N H vs (kds.map (·.2)) := fun _ _ => Rp.of_isI h r
section
variable {P : Program} {w : World} {K : PySem.W.Frag} {mg : Str → Option Value} {base : Heap} {c : Conf}
theorem fn_mut {x qual p0 : Str} {st : Stmt} {f : Addr} {fd : FuncData} {N ps : List Str} {k : Nat} {body : MS} (F : Fun K x qual st f fd) (S : FnScope (p0 :: N) (p0 :: ps) (defScope st)) (hps : ps.length ≤ N.length)
    (hb : ∀ (a : Addr) (cdv : Value) (A : Around) (outer : List Env) (s : Shared) (H : Hp) (E : XK), Room k (A.deeper (PyProof.Rows.envOfC qual (defScope st) s.heap.objs.size f cdv)) →
      PSs (cxOf (L2.CX P w) P w K mg base (p0 :: N) qual (defScope st) f cdv A outer s H E) (defBody st) (tS { c with fx := [(0, .ref a)] } (fun cls d _ H' => E cls d H') body)) :
    FnOk P w K mg base (L2.CX P w) (k + 1) f fd (p0 :: ps) (SpM c (mDefM (p0 :: N).length (p0 :: ps).length body)) := by
  have lens : ∀ {kds : List (Key × D)} {ds : List D} {d : D}, mDefM (p0 :: N).length (p0 :: ps).length body (.dK kds :: ds) = some (.ok d) → ds.length = ps.length ∧ ∃ ρ kds', body (some (.dK kds, true) :: (ds.map (fun d => some (d, false)) ++ List.replicate (N.length - ps.length) none)) = some (.nx ρ) ∧ ρ[0]? = some (some (.dK kds', true)) ∧ intsK kds' = true ∧ d = .dK kds' := fun {kds ds d} hm => by
    unfold mDefM at hm
    dsimp only at hm
    split at hm
    · rename_i hl
      rw [List.length_cons] at hl
      unfold endO at hm
      split at hm
      · rename_i ρ eb
        unfold endK at hm
        split at hm
        · rename_i kds' er
          split at hm
          · rename_i hi
            cases hm
            rw [List.length_cons, List.length_cons, Nat.add_sub_add_right] at eb
            exact ⟨by omega, ρ, kds', eb, er, hi, rfl⟩
          · cases hm
        · cases hm
      · cases hm
    · cases hm
  refine F.okX S (fun vs H Q E h => ?_) (fun cdv A outer s H vs Q E hr h => ?_)
  · obtain ⟨a, kvs, kds, ws, ds, kds', rfl, _, _, _, rw, hm, _⟩ := h
    have := (rw (fun _ => False) H).len
    have := (lens hm).1
    simp only [List.length_cons]
    omega
  · obtain ⟨a, kvs, kds, ws, ds, kds', rfl, ha, ek, rk, rw', hm, post⟩ := h
    refine ⟨_, hb a cdv A outer s _ E hr, ?_⟩
    obtain ⟨hl, ρ, kds2, eb, e0, hi, ed⟩ := lens hm
    cases ed
    have e1 := startM_er (c := c) (N := N) hl hps ha ek rk rw'
    have es : start (p0 :: N) (V.ref a :: ws) = some (V.ref a) :: start N ws := by
      unfold L2.start
      simp only [List.map_cons, List.length_cons, Nat.add_sub_add_right, List.cons_append]
    rw [es]
    refine ⟨_, _, _, e1, eb, fun σ1 H1 q1 => ?_⟩
    have ea := q1.fx (0, .ref a) (List.mem_singleton.mpr rfl)
    obtain ⟨b, eb', kvs2, hk, ek2, rk2⟩ := q1.mine 0 _ e0
    have ea : σ1[0]? = some (some (V.ref a)) := ea
    rw [ea] at eb'
    cases eb'
    have rk3 := rk2.fx (l := c.fx)
    have rk3 : Rp c (NN ⟨fun _ => False, lessH H a, [], []⟩ σ1 ρ) H1 (kvs2.map (·.2)) (kds'.map (·.2)) := rk3
    refine post H1 kvs2 (fun b o ne h => q1.ext b o ?_) hk ek2 (intsK_any hi rk3)
    show (if b = a then none else H b) = some o
    rw [if_neg ne]
    exact h
/-- a def of the text that changes its first argument, by its name -/
structure MuAt (P : Program) (w : World) (K : PySem.W.Frag) (mg : Str → Option Value) (base : Heap) (c : Conf) (x : Str) (k : Nat) (ps : List Str) (m : List D → R D) : Prop where
  ex : ∃ (f : Addr) (fd : FuncData), FnOk P w K mg base (L2.CX P w) k f fd ps (SpM c m) ∧ mg x = some (.ref f) ∧ PySem.W.keepIn K (.ref f) = true ∧ Binds K fd ps []
end
/-- f(x, ..) alone: f changes the own dict x -/
def mMutC (i : Nat) (f : List D → R D) (l : MA) : MS := fun ρ => match ownD ρ i with
  | some (.dK kds) => (match l ρ with
    | some (.ok ds) => if intsK kds = true ∧ ds.all isI = true then (match f (.dK kds :: ds) with
      | some (.ok (.dK kds')) => some (.nx (ρ.set i (some (.dK kds', true))))
      | _ => none) else none
    | _ => none)
  | _ => none
section
variable {X : Cx} {c : Conf} {W : WX} {x y : Str} {k : Nat} {ps : List Str} {m : List D → R D} {e : Expr} {es : List Expr} {l : MA} {p py pos pos' : Pos}
theorem s_mutC (i : Nat) (G : MuAt X.prog X.w X.K X.mg X.base c x k ps m) (hr : Room k X.A) (tk : Takes X W) (ha : PA X es (tA c W l)) (hN : X.N[i]? = some y := by rfl) (hv : Vis X.env.scope y := by first | exact Or.inl rfl | exact Or.inr (Or.inl rfl) | exact Or.inr (Or.inr rfl)) (hd : (y == ("__debug__" : Str)) = false := by decide)
    (hcd : (y == ("__classdict__" : Str)) = false := by decide) (hs : starEach (.Name y py :: es) X.env = (false, eval (.Name y py) X.env) :: starEach es X.env := by rfl) (hg : Gl X x := by rfl) (hdb : (x == ("__debug__" : Str)) = false := by decide) (hpl : (backTo pos (starEach es X.env)).any (·.1) = false := by rfl)
    (hsw : swapsWith (.Call (.Name x p) (.Name y py :: es) [] pos) none pos'.line X.env = pure false := by rfl) :
    PS X (.Expr (.Call (.Name x p) (.Name y py :: es) [] pos) pos') (tS c W (mMutC i m l)) := by
  obtain ⟨f, fd, F, hm, hk, hb⟩ := G.ex
  refine (ps_expr (pe_callS F hr hg hm hk hb (fun σ => passAt tk σ) (pa_cons (pv i hN hv hd hcd) ha hs) hdb hs hpl) hsw).via fun D σ H ⟨Γ, ρ, o, er, em, q⟩ => ?_
  unfold mMutC at em
  split at em
  · rename_i kds ho
    have ho := ownD_at ho
    split at em
    · rename_i ds hl
      split at em
      · rename_i hi
        split at em
        · rename_i kds' hf
          cases em
          obtain ⟨a, ea, _⟩ := er.mine i _ ho
          refine ⟨.ref a, ea, Γ, ρ, _, er, hl, fun vs H1 s1 e1 r1 => ?_⟩
          obtain ⟨a', ea', kvs, hk, ek, rk⟩ := e1.mine i _ ho
          rw [ea] at ea'
          cases ea'
          refine ⟨a, kvs, kds, vs, ds, kds', rfl, hk, ek, intsK_any hi.1 rk, fun _ _ => Rp.of_isI hi.2 r1, hf, fun H' kvs' hx hy ek' rk' => ?_⟩
          have e2 := e1.mut (d' := .dK kds') (o := .dK kvs') ho ea ⟨kvs', upd_same, ek', rk' _ _⟩
          refine q _ _ (e2.same fun b o h => ?_)
          by_cases z : b = a
          · subst z
            rw [upd_same] at h
            cases h
            exact hy
          · rw [upd_ne z] at h
            exact hx b o z h
        · cases em
      · cases em
    · cases em
  · cases em
end
end DL

set_option Elab.async false
set_option linter.all false
set_option maxRecDepth 100000
set_option maxHeartbeats 2000000
set_option autoImplicit false
/-! DNd: the least of a list of pairs (an int, a tuple of ints); list comprehensions of two fors. -/
namespace L2
open PySem PySem.Spec PyProof.Rows PySem.W
def encQ (p : Int × List Int) : PyData := .tuple [.int p.1, .tuple (p.2.map .int)]
def ltQ (a b : Int × List Int) : Bool := dataLt (encQ a) (encQ b)
def minQ (p : Int × List Int) (ps : List (Int × List Int)) : Int × List Int := ps.foldl (fun a y => if ltQ y a then y else a) p
theorem encQ_inj {a b : Int × List Int} (h : encQ a = encQ b) : a = b := by
  unfold encQ at h
  injection h with h
  injection h with h1 h2
  injection h1 with h1
  injection h2 with h2 _
  injection h2 with h2
  exact Prod.ext h1 ((List.map_inj_right fun _ _ z => PyData.int.inj z).mp h2)
theorem minQ_enc : ∀ (ps : List (Int × List Int)) (p : Int × List Int), minD (encQ p) (ps.map encQ) = encQ (minQ p ps)
  | [], p => rfl
  | q :: ps, p => by
    have e : minD (encQ p) ((q :: ps).map encQ) = minD (if dataLt (encQ q) (encQ p) then encQ q else encQ p) (ps.map encQ) := rfl
    have e2 : minQ p (q :: ps) = minQ (if ltQ q p then q else p) ps := rfl
    rw [e, e2]
    unfold ltQ
    split
    · exact minQ_enc ps q
    · exact minQ_enc ps p
theorem alike_q (a b : Int × List Int) : alike (encQ a) (encQ b) = true := by
  unfold encQ
  simp [alike, alikeAll, L2.alike_ints]
theorem ltQ_lt {a b : Int × List Int} (h : a.1 < b.1) : ltQ a b = true := by
  unfold ltQ encQ
  have e : PyData.eqv (.int a.1) (.int b.1) = false := by
    unfold PyData.eqv
    simp
    omega
  rw [dataLt_pair (by simp [alike]) (by simp [alike, L2.alike_ints]), e, if_neg Bool.false_ne_true, dataLt_int]
  exact decide_eq_true h
theorem ltQ_gt {a b : Int × List Int} (h : b.1 < a.1) : ltQ a b = false := by
  unfold ltQ encQ
  have e : PyData.eqv (.int a.1) (.int b.1) = false := by
    unfold PyData.eqv
    simp
    omega
  rw [dataLt_pair (by simp [alike]) (by simp [alike, L2.alike_ints]), e, if_neg Bool.false_ne_true, dataLt_int]
  exact decide_eq_false (by omega)
/-- the first of the least is among them, and none has a lesser number -/
theorem minQ_is : ∀ (ps : List (Int × List Int)) (p : Int × List Int), (minQ p ps = p ∨ minQ p ps ∈ ps) ∧ (minQ p ps).1 ≤ p.1 ∧ ∀ q ∈ ps, (minQ p ps).1 ≤ q.1
  | [], p => ⟨.inl rfl, Int.le_refl _, fun q hq => by cases hq⟩
  | r :: ps, p => by
    have e2 : minQ p (r :: ps) = minQ (if ltQ r p then r else p) ps := rfl
    rw [e2]
    cases c : ltQ r p with
    | true =>
      rw [if_pos rfl]
      have le : r.1 ≤ p.1 := Int.not_lt.mp fun z => by rw [ltQ_gt z] at c; cases c
      obtain ⟨h1, h2, h3⟩ := minQ_is ps r
      refine ⟨.inr (h1.elim (fun z => by rw [z]; exact List.mem_cons_self) (List.mem_cons_of_mem _)), Int.le_trans h2 le, fun q hq => ?_⟩
      rcases List.mem_cons.mp hq with z | z
      · rw [z]; exact h2
      · exact h3 q z
    | false =>
      rw [if_neg Bool.false_ne_true]
      have le : p.1 ≤ r.1 := Int.not_lt.mp fun z => by rw [ltQ_lt z] at c; cases c
      obtain ⟨h1, h2, h3⟩ := minQ_is ps p
      refine ⟨h1.imp id (List.mem_cons_of_mem _), h2, fun q hq => ?_⟩
      rcases List.mem_cons.mp hq with z | z
      · rw [z]; exact Int.le_trans h2 le
      · exact h3 q z
theorem depth_q (p : Int × List Int) : (encQ p).depth ≤ 3 := by
  have h := depth_ints p.2
  have e : (encQ p).depth = max (PyData.int p.1).depth (max (PyData.depthAll (p.2.map .int) + 1) 0) + 1 := by
    unfold encQ
    rw [PyData.depth, PyData.depthAll, PyData.depthAll, PyData.depth, PyData.depthAll]
  have e2 : (PyData.int p.1).depth ≤ 1 := by simp [PyData.depth]
  rw [e]
  omega
theorem depths_q : ∀ ps : List (Int × List Int), PyData.depthAll (ps.map encQ) ≤ 3
  | [] => by simp [PyData.depthAll]
  | p :: ps => by
    have a := depth_q p
    have b := depths_q ps
    have e : PyData.depthAll ((p :: ps).map encQ) = max (encQ p).depth (PyData.depthAll (ps.map encQ)) := by rw [List.map_cons, PyData.depthAll]
    rw [e]
    omega
def rMinQ (K : PySem.W.Frag) : List V → Hp → VK → Prop := fun vs H Q => ∃ (a : Addr) (x0 : V) (xs : List V) (fs : V → Int × List Int), vs = [V.ref a] ∧ SqL K H a (x0 :: xs) ∧ (∀ x ∈ x0 :: xs, Dp K H x (encQ (fs x))) ∧
  ∀ x ∈ x0 :: xs, fs x = minQ (fs x0) (xs.map fs) → Q x H
section
variable {X : Cx}
theorem cr_minQ (hc : X.calm = true) (hu : X.A.units + 64 < cLine) : CallR X (.builtin "min") (rMinQ X.K) := by
  intro pins s σ H vs us Q I r h
  obtain ⟨a, x0, xs, fs, rfl, hs, hx, q⟩ := h
  obtain ⟨its, rv, pl, hz⟩ := I.list hs
  obtain ⟨u, rfl, ru⟩ := vals1 r
  obtain rfl : u = Value.ref a := ru
  have er : EachIs (fun v b => ∃ as, Reads s.heap v (encQ (fs b)) as) its (x0 :: xs) := each_vals rv fun x hm u ru => Dp.reads I _ x u (hx x hm) ru
  obtain ⟨as, ra⟩ := each_readsAll (fun b => encQ (fs b)) er
  have ra : ReadsAll s.heap its (encQ (fs x0) :: (xs.map fun b => encQ (fs b))) as := ra
  have hal : AlikeAll (encQ (fs x0) :: (xs.map fun b => encQ (fs b))) := by
    have all : ∀ d ∈ encQ (fs x0) :: (xs.map fun b => encQ (fs b)), ∃ p, d = encQ p := fun d hd => by
      rcases List.mem_cons.mp hd with z | z
      · exact ⟨_, z⟩
      · obtain ⟨b, _, rfl⟩ := List.mem_map.mp z
        exact ⟨_, rfl⟩
    refine ⟨fun d hd d' hd' => ?_, fun d hd => ?_⟩
    · obtain ⟨p, rfl⟩ := all d hd
      obtain ⟨p', rfl⟩ := all d' hd'
      exact alike_q p p'
    · obtain ⟨p, rfl⟩ := all d hd
      exact fun z => by cases z
  have dep : PyData.depthAll (encQ (fs x0) :: (xs.map fun b => encQ (fs b))) ≤ 3 := by
    have := depths_q ((x0 :: xs).map fs)
    rw [List.map_map] at this
    exact this
  refine min_list_data (I.ok.hd hc) pl.isList ra hal (by omega) fun i v h' tk bs hi rd keep => ?_
  have hi : its[i]? = some v := by simpa using hi
  obtain ⟨x, hxi, rx⟩ : ∃ x, (x0 :: xs)[i]? = some x ∧ RelV x v := by
    have hl := rv.length
    obtain ⟨hlt, _⟩ := List.getElem?_eq_some_iff.mp hi
    have hlt2 : i < (x0 :: xs).length := by rw [hl]; exact hlt
    obtain ⟨u, e1, e2⟩ := rv.get (List.getElem?_eq_getElem hlt2)
    rw [hi] at e1
    cases e1
    exact ⟨_, List.getElem?_eq_getElem hlt2, e2⟩
  have hm : x ∈ x0 :: xs := List.mem_of_getElem? hxi
  obtain ⟨cs, rd2⟩ := Dp.reads I _ x v (hx x hm) rx
  have em : xs.map (fun b => encQ (fs b)) = (xs.map fs).map encQ := by rw [List.map_map]; rfl
  rw [em, minQ_enc] at rd
  have e := (Reads.unique (reads_keeps keep rd2) _ _ rd).1
  exact ⟨x, H, I.kept keep, rx, q x hm (encQ_inj e)⟩
end
end L2
namespace DL
open PySem PySem.Spec L2
def pqD (p : Int × List Int) : D := .tup [.int p.1, .tup (p.2.map D.int)]
def pqOf : D → Option (Int × List Int)
  | .tup [.int i, .tup es] => (ints? es).map fun l => (i, l)
  | _ => none
def pqs? (ds : List D) : Option (List (Int × List Int)) := ds.mapM pqOf
theorem pqOf_pq (p : Int × List Int) : pqOf (pqD p) = some p := by
  show (ints? (p.2.map D.int)).map _ = _
  rw [ints?_map]
  rfl
theorem pqs?_map : ∀ ps : List (Int × List Int), pqs? (ps.map pqD) = some ps
  | [] => rfl
  | p :: ps => by
    show (pqD p :: ps.map pqD).mapM pqOf = _
    rw [List.mapM_cons, show (ps.map pqD).mapM pqOf = some ps from pqs?_map ps, pqOf_pq]
    rfl
def dMinQ : List D → R D
  | [.lst ds] => match pqs? ds with
    | some (p :: ps) => some (.ok (pqD (minQ p ps)))
    | _ => none
  | _ => none
theorem dMinQ_ok (p : Int × List Int) (ps : List (Int × List Int)) : dMinQ [.lst ((p :: ps).map pqD)] = some (.ok (pqD (minQ p ps))) := by
  show (match pqs? ((p :: ps).map pqD) with
    | some (p :: ps) => (some (.ok (pqD (minQ p ps))) : R D)
    | _ => none) = _
  rw [pqs?_map]
section
variable {X : Cx} {c : Conf} {W : WX}
theorem pqOf_eq {d : D} {p : Int × List Int} (h : pqOf d = some p) : d = pqD p := by
  unfold pqOf at h
  split at h
  · rename_i i es
    obtain ⟨l, hl, rfl⟩ := Option.map_eq_some_iff.mp h
    unfold pqD
    rw [ints?_eq hl]
  · cases h
theorem toP_pq (p : Int × List Int) : toP 3 (pqD p) = some (encQ p) := by
  unfold pqD encQ toP
  rw [List.mapM_cons, List.mapM_cons, List.mapM_nil, show toP 2 (.tup (p.2.map D.int)) = some (.tuple (p.2.map .int)) from toP_t 1 p.2]
  rfl
theorem Rp.pqs {N : Addr → Prop} {H : Hp} : ∀ {ds : List D} {ps : List (Int × List Int)} {us : List V}, pqs? ds = some ps → Rp c N H us ds → us.length = ps.length ∧ ∀ (i : Nat) (x : V) (p : Int × List Int), us[i]? = some x → ps[i]? = some p → Re c N H x (pqD p)
  | [], ps, us, h, r => by
    cases r
    cases h
    exact ⟨rfl, fun i x p hx => by simp at hx⟩
  | d :: ds, ps, us, h, r => by
    cases us with
    | nil => cases r
    | cons u us =>
      have h : (d :: ds).mapM pqOf = some ps := h
      rw [List.mapM_cons] at h
      cases e : pqOf d with
      | none => rw [e] at h; cases h
      | some l =>
        rw [e] at h
        cases e2 : ds.mapM pqOf with
        | none => rw [e2] at h; cases h
        | some Ms =>
          rw [e2] at h
          cases h
          obtain ⟨i1, i2⟩ := Rp.pqs e2 r.unc.2
          refine ⟨by rw [List.length_cons, List.length_cons, i1], fun i x p hx hp => ?_⟩
          cases i with
          | zero =>
            cases hx
            cases hp
            rw [← pqOf_eq e]
            exact r.unc.1
          | succ i => exact i2 i x p hx hp
/-- what a value is, as a pair -/
def fsQ (H : Hp) (v : V) : Int × List Int := match v with
  | .ref t => (match H t with
    | some (.tup [.int i, .ref b]) => (match H b with
      | some (.tup ws) => (i, ws.map fun w => (match w with | .int i => i | _ => 0))
      | _ => (0, []))
    | _ => (0, []))
  | _ => (0, [])
theorem fsQ_re {N : Addr → Prop} {H : Hp} {x : V} {p : Int × List Int} (r : Re c N H x (pqD p)) : fsQ H x = p := by
  obtain ⟨a, us, rfl, _, ha, r1⟩ := Re.of_tup r
  obtain ⟨i, l⟩ := p
  match us, r1 with
  | [u, w], r1 =>
    have e1 : u = .int i := r1.unc.1.of_int
    obtain ⟨b, ws, rfl, _, hb, r2⟩ := Re.of_tup r1.unc.2.unc.1
    have e2 := r2.ints
    subst e1
    subst e2
    show (match H a with
      | some (.tup [.int i, .ref b]) => (match H b with
        | some (.tup ws) => (i, ws.map fun w => (match w with | V.int i => i | _ => 0))
        | _ => ((0 : Int), ([] : List Int)))
      | _ => ((0 : Int), ([] : List Int))) = _
    rw [ha]
    show (match H b with
        | some (.tup ws) => (i, ws.map fun w => (match w with | V.int i => i | _ => 0))
        | _ => ((0 : Int), ([] : List Int))) = _
    rw [hb]
    show (i, (l.map V.int).map _) = _
    rw [List.map_map]
    exact congrArg (fun z => (i, z)) ((List.map_congr_left fun x _ => rfl).trans (List.map_id l))
theorem bi_minQ (hc : X.calm = true) (hu : X.A.units + 64 < cLine) (hK : c.K = X.K := by rfl) : Bi X c W .dur (.builtin "min") dMinQ := ⟨_, cr_minQ hc hu, by
  rw [← hK]
  intro Γ σ ρ H xs ds res Q er bx h p
  unfold dMinQ at h
  split at h
  · rename_i es
    split at h
    · rename_i q ps hp
      cases h
      obtain ⟨x, rfl, a, us, rfl, e, r⟩ := bx.one
      obtain ⟨hl, hr⟩ := Rp.pqs hp r
      cases us with
      | nil => simp at hl
      | cons u us =>
        have all : ∀ x ∈ u :: us, ∃ p, Re c (NN Γ σ ρ) H x (pqD p) := fun x hx => by
          obtain ⟨i, hi, rfl⟩ := List.getElem_of_mem hx
          have hi2 : i < (q :: ps).length := by rw [← hl]; exact hi
          exact ⟨_, hr i _ _ (List.getElem?_eq_getElem hi) (List.getElem?_eq_getElem hi2)⟩
        have em : (u :: us).map (fsQ H) = q :: ps := by
          refine List.ext_getElem (by rw [List.length_map, hl]) fun i h1 h2 => ?_
          rw [List.getElem_map]
          rw [List.length_map] at h1
          exact fsQ_re (hr i _ _ (List.getElem?_eq_getElem h1) (List.getElem?_eq_getElem h2))
        have e1 : fsQ H u = q := (List.cons.inj em).1
        have e2 : us.map (fsQ H) = ps := (List.cons.inj em).2
        refine ⟨a, u, us, fsQ H, rfl, .of e, fun x hx => ?_, fun x hx hf => ?_⟩
        · obtain ⟨p', hp'⟩ := all x hx
          rw [fsQ_re hp']
          exact toP_dp 3 (pqD p') (encQ p') _ (toP_pq p') hp'
        · obtain ⟨p', hp'⟩ := all x hx
          rw [e1, e2, fsQ_re hp'] at hf
          rw [hf] at hp'
          exact fin_re p er hp'
    · cases h
  · cases h⟩
end

/-! ### [e for t in it for t1 in it1] -/
def lc2Go (g : MG) (tt : MT) (src1 : MI) (vs1 : List Nat) (g1 : MG) (tt1 : MT) (me : ME) (ρ : Ro) : List D → Option (List D)
  | [] => some []
  | d :: ds => (g d ρ).bind fun ρ1 => match tt ρ1 with
    | some (.ok true) => (match src1 ρ1 with
      | some (.ok es) => if noOwn ρ1 vs1 = true then (lcGo g1 tt1 me (wipeR ρ1 vs1) es).bind fun ys => (lc2Go g tt src1 vs1 g1 tt1 me ρ ds).map (ys ++ ·) else none
      | _ => none)
    | some (.ok false) => lc2Go g tt src1 vs1 g1 tt1 me ρ ds
    | _ => none
def mLc2 (src : MI) (vs : List Nat) (g : MG) (tt : MT) (src1 : MI) (vs1 : List Nat) (g1 : MG) (tt1 : MT) (me : ME) : ME := fun ρ => bnd (src ρ) fun ds => guard (noOwn ρ vs = true) ((lc2Go g tt src1 vs1 g1 tt1 me (wipeR ρ vs) ds).bind fun ys => if ys.length ≤ lim then some (.ok (.lst ys)) else none)
section
variable {X : Cx} {c : Conf} {W : WX}
theorem ER.grow {Γ : Gam} {σ : L2.St} {H : Hp} {ρ : Ro} {a : Addr} (e : ER c (Γ.add a) σ H ρ) (h0 : Γ.H0 a = none) (o : HO) (ho : ∀ us, o ≠ .tup us := by exact fun _ z => by cases z) : ER c (Γ.add a) σ (upd H a o) ρ := by
  have n2 : NN (Γ.add a) σ ρ a := .inl (.inr rfl)
  have st' := mut_step (H := H) (o := o) n2
  exact {
    len := e.len
    ext := fun b u hb => by
      have ne : b ≠ a := fun z => by subst z; rw [show Γ.H0 b = some u from hb] at h0; cases h0
      rw [upd_ne ne]; exact e.ext b u hb
    utr := fun b hb => by
      by_cases z : b = a
      · subst z; exact Mt.upd ho
      · exact (e.utr b hb).off z
    held := fun p hp => (e.held p hp).step st'
    raw := fun p hp => let z := st' _ _ (e.raw p hp).1 (e.raw p hp).2; ⟨z.2, z.1⟩
    fx := e.fx
    own := e.own
    dis := e.dis
    slot := fun j f hf => let ⟨v, h1, h2⟩ := e.slot j f hf; ⟨v, h1, h2.step st'⟩
    mine := fun j f hf => let ⟨b, h1, h2⟩ := e.mine j f hf; ⟨b, h1, h2.step (fun u hu => by
      have ne : b ≠ a := fun z => by subst z; exact (e.own j f b hf h1).2 (.inr rfl)
      rw [upd_ne ne]; exact hu) st'⟩ }
theorem nn_wipe {Γ : Gam} {σ : L2.St} {ρ : Ro} {vs : List Nat} : ∀ a, NN Γ (wipe σ vs) (wipeR ρ vs) a → NN Γ σ ρ a := fun a h => by
  rcases h with h | ⟨j, f, h1, h2⟩
  · exact .inl h
  · exact .inr ⟨j, f, (wipeR_some h1).1, (wipe_some h2).1⟩
theorem lc2_ok {src src1 : MI} {vs vs1 is is1 : List Nat} {g g1 : MG} {tt tt1 : MT} {me : ME} {gg gg1 : TG} (hsub : ∀ i ∈ is, i ∈ vs) (hsub1 : ∀ i ∈ is1, i ∈ vs1) (kfx : vs.all (fun v => fxOk c.fx v) = true) (kfx1 : vs1.all (fun v => fxOk c.fx v) = true)
    (hg : GOk c is gg g) (hg1 : GOk c is1 gg1 g1) {σ : L2.St} {H : Hp} {Q : VK} (h : tE c W .own (mLc2 src vs g tt src1 vs1 g1 tt1 me) σ H Q) :
    tLc2 (tI c W false src) gg (tT c W0 tt) (tI c W0 true src1) gg1 (tT c W0 tt1) (tE c W0 .dur me) vs vs1 σ H Q := by
  obtain ⟨Γ, ρ, r, er, em, p⟩ := h
  have em : bnd (src ρ) _ = some r := em
  cases q : src ρ with
  | none => rw [q] at em; cases em
  | some w =>
    rw [q] at em
    cases w with
    | error x =>
      cases em
      exact ⟨Γ, ρ, _, er, q, p⟩
    | ok ds =>
      obtain ⟨no, em⟩ := guard_ok em
      obtain ⟨ys, hys, em⟩ := Option.bind_eq_some_iff.mp em
      split at em
      · rename_i hlim
        cases em
        refine ⟨Γ, ρ, _, er, q, fun J P us ra H1 s1 e1 r1 w1 q1 st D hD => ?_⟩
        have lu := r1.len
        have h0 : Γ.H0 D = none := e1.ext.free hD
        have nD : ¬ NN Γ σ ρ D := fun z => e1.tracked z hD
        refine ⟨fun i m H' => m = ds.length - i ∧ i ≤ ds.length ∧ ∃ acc ys1 zs, H' D = some (.lst acc) ∧ Rp c (NN (Γ.add D) σ ρ) H' acc ys1 ∧ Same H1 H' ∧ ER c (Γ.add D) σ H' ρ ∧ lc2Go g tt src1 vs1 g1 tt1 me (wipeR ρ vs) (ds.drop i) = some zs ∧ ys1 ++ zs = ys,
          ⟨_, rfl, Nat.zero_le _, [], [], ys, upd_same, .nil, same_new hD, e1.addU hD, hys, rfl⟩, ?_⟩
        rintro i m H2 ⟨rfl, hil, acc, ys1, zs, hacc, racc, s2, e2, em2, eys⟩
        have hP : P H2 := st H2 fun p hp => s2 _ _ (q1 p hp).2
        by_cases hlt : i < ds.length
        · have hx : us[i]? = some us[i] := List.getElem?_eq_getElem (by rw [lu]; exact hlt)
          obtain ⟨go, yl⟩ := w1.go i H2 _ hP hx
          refine .inr ⟨go, fun H' => ∃ acc ys1 zs, H' D = some (.lst acc) ∧ Rp c (NN (Γ.add D) σ ρ) H' acc ys1 ∧ Same H1 H' ∧ ER c (Γ.add D) σ H' ρ ∧ lc2Go g tt src1 vs1 g1 tt1 me (wipeR ρ vs) (ds.drop (i + 1)) = some zs ∧ ys1 ++ zs = ys,
            fun H' z => ⟨ds.length - (i + 1), by omega, rfl, hlt, z⟩, fun x H3 y3 => ?_⟩
          obtain ⟨eH, ex⟩ := yl x H3 y3
          subst eH ex
          rw [List.drop_eq_getElem_cons hlt] at em2
          unfold lc2Go at em2
          obtain ⟨ρ3, hg3, em3⟩ := Option.bind_eq_some_iff.mp em2
          have ew := e2.wipe kfx
          have ri : Re c (NN (Γ.add D) (wipe σ vs) (wipeR ρ vs)) H3 us[i] ds[i] := by
            refine Rp.step (fun a o n hq => ?_) (r1.at_ hx (List.getElem?_eq_getElem hlt))
            refine ⟨s2 a o hq, fun z => ?_⟩
            rcases nn_wipe a z with (z | z) | z
            · exact n (.inl z)
            · subst z; rw [hD] at hq; cases hq
            · exact n (.inr z)
          refine hg (Γ.add D) (wipe σ vs) H3 (wipeR ρ vs) ρ3 _ _ _ ew ri hg3 fun σ4 e4 l4 o4 => ⟨?_, ?_⟩
          · have : wipe σ4 vs = wipe (wipe σ vs) vs := wipe_set l4 fun j hj => (o4 j fun z => hj (hsub j z)).1
            rw [this]
            exact wipe_set (wipe_length σ vs) fun j hj => wipe_out hj
          have back : ∀ a, NN (Γ.add D) σ ρ a → NN (Γ.add D) σ4 ρ3 a := NN_blk hsub no o4
          cases et : tt ρ3 with
          | none => rw [et] at em3; cases em3
          | some w =>
            rw [et] at em3
            cases w with
            | error x => cases em3
            | ok b =>
              refine ⟨Γ.add D, ρ3, _, e4, et, fun H5 s5 e5 => ?_⟩
              cases b with
              | false =>
                rw [if_neg Bool.false_ne_true]
                exact ⟨acc, ys1, zs, s5 _ _ hacc, racc.same s5, s2.trans s5, e2.same s5, em3, eys⟩
              | true =>
                rw [if_pos rfl]
                dsimp only at em3
                cases ee : src1 ρ3 with
                | none => rw [ee] at em3; cases em3
                | some w =>
                  rw [ee] at em3
                  cases w with
                  | error x => cases em3
                  | ok es =>
                    dsimp only at em3
                    split at em3
                    · rename_i no1
                      obtain ⟨yi, hyi, em4⟩ := Option.bind_eq_some_iff.mp em3
                      obtain ⟨zo, hzo, rfl⟩ := Option.map_eq_some_iff.mp em4
                      refine ⟨Γ.add D, ρ3, _, e5, ee, fun J1 P1 us1 ra1 H6 s6 e6 r6 w6 q6 st6 => ?_⟩
                      have lu1 := r6.len
                      refine ⟨fun j m H' => m = es.length - j ∧ j ≤ es.length ∧ ∃ acc ysa zi, H' D = some (.lst acc) ∧ Rp c (NN (Γ.add D) σ ρ) H' acc ysa ∧ (∀ a o, a ≠ D → H6 a = some o → H' a = some o) ∧ Same H1 H' ∧ ER c (Γ.add D) σ H' ρ ∧ ER c (Γ.add D) σ4 H' ρ3 ∧ lcGo g1 tt1 me (wipeR ρ3 vs1) (es.drop j) = some zi ∧ ysa ++ (zi ++ zo) = ys,
                        ⟨_, rfl, Nat.zero_le _, acc, ys1, yi, s6 _ _ (s5 _ _ hacc), (racc.same s5).same s6, fun _ _ _ z => z, (s2.trans s5).trans s6, (e2.same s5).same s6, e6, hyi, eys⟩, ?_⟩
                      rintro j m H7 ⟨rfl, hjl, acc2, ysa, zi, hacc2, racc2, k7, s7, e7, f7, hzi, eys2⟩
                      have hP1 : P1 H7 := by
                        refine st6 H7 fun p hp => ?_
                        exact k7 _ _ (fun z => (q6 p hp).1 rfl (.inl (.inr z))) (q6 p hp).2
                      by_cases hlt1 : j < es.length
                      · have hx1 : us1[j]? = some us1[j] := List.getElem?_eq_getElem (by rw [lu1]; exact hlt1)
                        obtain ⟨go1, yl1⟩ := w6.go j H7 _ hP1 hx1
                        refine .inr ⟨go1, fun H' => ∃ acc ysa zi, H' D = some (.lst acc) ∧ Rp c (NN (Γ.add D) σ ρ) H' acc ysa ∧ (∀ a o, a ≠ D → H6 a = some o → H' a = some o) ∧ Same H1 H' ∧ ER c (Γ.add D) σ H' ρ ∧ ER c (Γ.add D) σ4 H' ρ3 ∧ lcGo g1 tt1 me (wipeR ρ3 vs1) (es.drop (j + 1)) = some zi ∧ ysa ++ (zi ++ zo) = ys,
                          fun H' z => ⟨es.length - (j + 1), by omega, rfl, hlt1, z⟩, fun x H8 y8 => ?_⟩
                        obtain ⟨eH, ex⟩ := yl1 x H8 y8
                        subst eH ex
                        rw [List.drop_eq_getElem_cons hlt1] at hzi
                        unfold lcGo at hzi
                        obtain ⟨ρ5, hg5, hz5⟩ := Option.bind_eq_some_iff.mp hzi
                        have fw := f7.wipe kfx1
                        have ri1 : Re c (NN (Γ.add D) (wipe σ4 vs1) (wipeR ρ3 vs1)) H8 us1[j] es[j] := by
                          refine Rp.step (fun a o n hq => ?_) (r6.at_ hx1 (List.getElem?_eq_getElem hlt1))
                          exact ⟨k7 a o (fun z => n (.inl (.inr z))) hq, fun z => n (nn_wipe a z)⟩
                        refine hg1 (Γ.add D) (wipe σ4 vs1) H8 (wipeR ρ3 vs1) ρ5 _ _ _ fw ri1 hg5 fun σ6 e9 l6 o6 => ⟨?_, ?_⟩
                        · have : wipe σ6 vs1 = wipe (wipe σ4 vs1) vs1 := wipe_set l6 fun j hj => (o6 j fun z => hj (hsub1 j z)).1
                          rw [this]
                          exact wipe_set (wipe_length σ4 vs1) fun j hj => wipe_out hj
                        have back1 : ∀ a, NN (Γ.add D) σ ρ a → NN (Γ.add D) σ6 ρ5 a := fun a z => by
                          rcases back a z with y | ⟨j, f, h1, h2⟩
                          · exact .inl y
                          · have nj : j ∉ vs1 := fun z => by
                              have := List.all_eq_true.mp no1 j z
                              rw [h1] at this
                              cases this
                            have nj2 : j ∉ is1 := fun z => nj (hsub1 j z)
                            exact .inr ⟨j, f, by rw [(o6 j nj2).2, wipeR_out nj]; exact h1, by rw [(o6 j nj2).1, wipe_out nj]; exact h2⟩
                        cases et1 : tt1 ρ5 with
                        | none => rw [et1] at hz5; cases hz5
                        | some w =>
                          rw [et1] at hz5
                          cases w with
                          | error x => cases hz5
                          | ok b =>
                            refine ⟨Γ.add D, ρ5, _, e9, et1, fun H9 s9 e10 => ?_⟩
                            cases b with
                            | false =>
                              rw [if_neg Bool.false_ne_true]
                              exact ⟨acc2, ysa, zi, s9 _ _ hacc2, racc2.same s9, fun a o ne ha => s9 _ _ (k7 a o ne ha), s7.trans s9, e7.same s9, f7.same s9, hz5, eys2⟩
                            | true =>
                              rw [if_pos rfl]
                              dsimp only at hz5
                              cases em5 : me ρ5 with
                              | none => rw [em5] at hz5; cases hz5
                              | some w =>
                                rw [em5] at hz5
                                cases w with
                                | error x => cases hz5
                                | ok y =>
                                  obtain ⟨zi', hzi', rfl⟩ := Option.map_eq_some_iff.mp hz5
                                  have few : acc2.length < sizeLine := by
                                    have e := congrArg List.length eys2
                                    have e2 := racc2.len
                                    simp only [List.length_append, List.length_cons] at e
                                    exact Nat.lt_of_lt_of_le (show acc2.length < ys.length by omega) (lim_ok hlim)
                                  refine ⟨Γ.add D, ρ5, _, e10, em5, fun v H10 s10 r10 => ⟨acc2, s10 _ _ (s9 _ _ hacc2), few, acc2 ++ [v], ysa ++ [y], zi', upd_same, ?_, ?_, ?_, ((e7.same s9).same s10).grow h0 _, ((f7.same s9).same s10).grow h0 _, hzi', by simpa using eys2⟩⟩
                                  · have n2 : NN (Γ.add D) σ ρ D := .inl (.inr rfl)
                                    exact Rp.step (mut_step n2) (((racc2.same s9).same s10).app (r10.2.less back1))
                                  · intro a o ne ha
                                    rw [upd_ne ne]
                                    exact s10 _ _ (s9 _ _ (k7 a o ne ha))
                                  · intro a o ha
                                    rw [upd_ne (ne_of_none ha hD)]
                                    exact s10 _ _ (s9 _ _ (s7 _ _ ha))
                      · have e : j = es.length := by omega
                        subst e
                        rw [List.drop_length] at hzi
                        cases hzi
                        exact .inl ⟨w6.stop _ _ hP1 (by rw [lu1]; exact Nat.le_refl _), acc2, ysa, zo, hacc2, racc2, s7, e7, hzo, by simpa using eys2⟩
                    · cases em3
        · have e : i = ds.length := by omega
          subst e
          rw [List.drop_length] at em2
          cases em2
          rw [List.append_nil] at eys
          subst eys
          exact .inl ⟨w1.stop _ _ hP (by rw [lu]; exact Nat.le_refl _), p (.ref D) H2 (s1.trans s2) ⟨D, rfl, h0, nD, e2, acc, hacc, racc⟩⟩
      · cases em
variable {elt tg iter tg1 iter1 : Expr} {ifs ifs1 : List Expr} {scope : Scope} {own : List (Str × Nat)} {pos : Pos} {src src1 : MI} {is is1 : List Nat} {g g1 : MG} {tt tt1 : MT} {me : ME}
theorem d_lc2 (own : List (Str × Nat)) (vs1 : List Nat) (hc : X.calm = true) (hN : X.N.Nodup) (hi : PI X tg iter (tI c W false src)) (ok : blkC X.N X.env.scope scope own = true)
    {gg gg1 : TG} (pg : ∀ (s : Shared) (H : Hp) (C : Addr) (cl : List (Str × Addr)) (fp : List Addr), PG (X.blk s H scope (compEnvC scope cl C X.env) fp) tg gg) (hgg : GOk c is gg g)
    (ht : ∀ (s : Shared) (H : Hp) (C : Addr) (cl : List (Str × Addr)) (fp : List Addr), PTs (X.blk s H scope (compEnvC scope cl C X.env) fp) ifs (tT c W0 tt))
    (hi1 : ∀ (s : Shared) (H : Hp) (C : Addr) (cl : List (Str × Addr)) (fp : List Addr), PI (X.blk s H scope (compEnvC scope cl C X.env) fp) tg1 iter1 (tI c W0 true src1))
    (pg1 : ∀ (s : Shared) (H : Hp) (C : Addr) (cl : List (Str × Addr)) (fp : List Addr), PG (X.blk s H scope (compEnvC scope cl C X.env) fp) tg1 gg1) (hgg1 : GOk c is1 gg1 g1)
    (ht1 : ∀ (s : Shared) (H : Hp) (C : Addr) (cl : List (Str × Addr)) (fp : List Addr), PTs (X.blk s H scope (compEnvC scope cl C X.env) fp) ifs1 (tT c W0 tt1))
    (he : ∀ (s : Shared) (H : Hp) (C : Addr) (cl : List (Str × Addr)) (fp : List Addr), PE (X.blk s H scope (compEnvC scope cl C X.env) fp) elt (tE c W0 .dur me)) (hsub : ∀ i ∈ is, i ∈ own.map (·.2) := by decide) (hsub1 : ∀ i ∈ is1, i ∈ vs1 := by decide) (hv : ∀ i ∈ vs1, i ∈ own.map (·.2) := by decide)
    (kfx : (own.map (·.2)).all (fun v => fxOk c.fx v) = true := by rfl) (kfx1 : vs1.all (fun v => fxOk c.fx v) = true := by rfl) (hs : ∀ x, foldedSetIterable iter X.env x = pure x := by intro _; rfl) (hs1 : ∀ env x, foldedSetIterable iter1 env x = pure x := by intro _ _; rfl) :
    PE X (.ListComp elt [⟨tg, iter, ifs, 0⟩, ⟨tg1, iter1, ifs1, 0⟩] scope pos) (tE c W .own (mLc2 src (own.map (·.2)) g tt src1 vs1 g1 tt1 me)) :=
  (pe_lc2 hc hN hi (blkOk_by ok) hv pg ht hi1 pg1 ht1 he hs hs1).via fun σ H Q h => lc2_ok hsub hsub1 kfx kfx1 hgg hgg1 h
theorem s_setLc2 (j : Nat) {y : Str} {py spos : Pos} (own : List (Str × Nat)) (vs1 : List Nat) (hc : X.calm = true) (hN : X.N.Nodup) (hsw : swapsWith (.ListComp elt [⟨tg, iter, ifs, 0⟩, ⟨tg1, iter1, ifs1, 0⟩] scope pos) (some (.Name y py)) spos.line X.env = pure true)
    (hi : PI X tg iter (tI c W false src)) (ok : blkC X.N X.env.scope scope own = true)
    {gg gg1 : TG} (pg : ∀ (s : Shared) (H : Hp) (C : Addr) (cl : List (Str × Addr)) (fp : List Addr), PG (X.blk s H scope (compEnvC scope cl C X.env) fp) tg gg) (hgg : GOk c is gg g)
    (ht : ∀ (s : Shared) (H : Hp) (C : Addr) (cl : List (Str × Addr)) (fp : List Addr), PTs (X.blk s H scope (compEnvC scope cl C X.env) fp) ifs (tT c W0 tt))
    (hi1 : ∀ (s : Shared) (H : Hp) (C : Addr) (cl : List (Str × Addr)) (fp : List Addr), PI (X.blk s H scope (compEnvC scope cl C X.env) fp) tg1 iter1 (tI c W0 true src1))
    (pg1 : ∀ (s : Shared) (H : Hp) (C : Addr) (cl : List (Str × Addr)) (fp : List Addr), PG (X.blk s H scope (compEnvC scope cl C X.env) fp) tg1 gg1) (hgg1 : GOk c is1 gg1 g1)
    (ht1 : ∀ (s : Shared) (H : Hp) (C : Addr) (cl : List (Str × Addr)) (fp : List Addr), PTs (X.blk s H scope (compEnvC scope cl C X.env) fp) ifs1 (tT c W0 tt1))
    (he : ∀ (s : Shared) (H : Hp) (C : Addr) (cl : List (Str × Addr)) (fp : List Addr), PE (X.blk s H scope (compEnvC scope cl C X.env) fp) elt (tE c W0 .dur me)) (hsub : ∀ i ∈ is, i ∈ own.map (·.2) := by decide) (hsub1 : ∀ i ∈ is1, i ∈ vs1 := by decide) (hv : ∀ i ∈ vs1, i ∈ own.map (·.2) := by decide)
    (kfx : (own.map (·.2)).all (fun v => fxOk c.fx v) = true := by rfl) (kfx1 : vs1.all (fun v => fxOk c.fx v) = true := by rfl) (hs : ∀ x, foldedSetIterable iter X.env x = pure x := by intro _; rfl) (hs1 : ∀ env x, foldedSetIterable iter1 env x = pure x := by intro _ _; rfl) (hy : X.N[j]? = some y := by rfl) (hyl : X.env.scope.names.lookup y = some .local := by rfl) (k : fxOk c.fx j = true := by rfl) :
    PS X (.Assign [.Name y py] (.ListComp elt [⟨tg, iter, ifs, 0⟩, ⟨tg1, iter1, ifs1, 0⟩] scope pos) spos) (tS c W (mSet j true (mLc2 src (own.map (·.2)) g tt src1 vs1 g1 tt1 me))) :=
  (ps_setLc2 hc hN hy hyl hsw hi (blkOk_by ok) hv pg ht hi1 pg1 ht1 he hs hs1).via fun D σ H ⟨Γ, ρ, o, er, em, p⟩ => by
    refine lc2_ok hsub hsub1 kfx kfx1 hgg hgg1 (useS er em p fun d v H1 h1 s1 r1 => ?_)
    cases h1
    obtain ⟨a, rfl, h0, na, e1, ow⟩ := r1
    exact p _ _ (ER.setO e1 h0 na ow k)
end
end DL

set_option Elab.async false
set_option linter.all false
set_option maxRecDepth 100000
set_option maxHeartbeats 2000000
set_option autoImplicit false
/-! DNe: dicts with tuple keys: d.get(k, x), sorted(d), for .. in d.items(). -/
namespace DL
open PySem PySem.Spec PyProof.Rows L2
/-! ### d.get(k, x) -/
def dGetD (dd k z : D) : R D := match dd with
  | .dK kds => (keyD k).map fun k => .ok ((lkD kds k).getD z)
  | .dT kds => (tkD k).map fun k => .ok ((lkD kds k).getD z)
  | _ => none
def isDk : D → Bool
  | .dK _ => true
  | .dT _ => true
  | _ => false
def mGetD (md mk mz : ME) : ME := fun ρ => bnd (md ρ) fun dd => guard (isDk dd = true) (bnd (mk ρ) fun k => bnd (mz ρ) fun z => dGetD dd k z)
section
variable {X : Cx} {c : Conf} {W : WX}
theorem Bor.isD {N : Addr → Prop} {H : Hp} {v : V} {d : D} (h : Bor c N H v d) (k : isDk d = true) : ∃ a, v = .ref a ∧ IsD H a := by
  cases d with
  | dK kds =>
    obtain ⟨a, kvs, e, rd, _⟩ := h
    exact ⟨a, e, .inl ⟨kvs, rd⟩⟩
  | dT kds =>
    obtain ⟨a, kvs, e, rd, _⟩ := h
    exact ⟨a, e, .inr ⟨kvs, rd⟩⟩
  | _ => cases k
theorem d_getD (hu : X.A.units + 64 < cLine) {o e f : Expr} {apos cpos : Pos} {md mk mz : ME} (ho : PE X o (tE c W .bor md)) (he : PE X e (tE c W .bor mk)) (hf : PE X f (tE c W .dur mz))
    (m : M2 X o "get" apos e f cpos := by exact ⟨rfl, rfl, rfl, rfl⟩) : PE X (.Call (.Attribute o "get" apos) [e, f] [] cpos) (tE c W .dur (mGetD md mk mz)) :=
  (pe_dget2 (by omega) ho he hf m).via fun σ H Q ⟨Γ, ρ, r, er, em, p⟩ => by
    refine use er em p.err fun dd x H1 h1 s1 r1 => ?_
    obtain ⟨kd, h1⟩ := guard_ok h1
    obtain ⟨a, ex, isd⟩ := Bor.isD r1.2 kd
    refine ⟨a, ex, isd, use r1.1 h1 p.err fun k y H2 h2 s2 r2 => use r2.1 h2 p.err fun z w H3 h3 s3 r3 => ?_⟩
    have bx := (r1.2.same s2).same s3
    have by' := r2.2.same s3
    unfold dGetD at h3
    split at h3
    · rename_i kds
      obtain ⟨k', hk, h3⟩ := Option.map_eq_some_iff.mp h3
      subst h3
      obtain ⟨a', kvs, e', rd, ek, rv⟩ := bx
      rw [ex] at e'
      cases e'
      refine ⟨valV kvs k', .inl ⟨kvs, k', rd, keyD_v hk by', rfl⟩, ?_⟩
      rcases lk_rel ek rv k' with ⟨v, d, h5, h6, h7⟩ | ⟨h5, h6⟩
      · rw [h5]
        rw [h6] at p
        exact fin_re (p.mono ((s1.trans s2).trans s3)) r3.1 h7
      · rw [h5]
        rw [h6] at p
        exact fin_re (p.mono ((s1.trans s2).trans s3)) r3.1 r3.2
    · rename_i kds
      obtain ⟨k', hk, h3⟩ := Option.map_eq_some_iff.mp h3
      subst h3
      obtain ⟨a', kvs, e', rd, ek, rv⟩ := bx
      rw [ex] at e'
      cases e'
      obtain ⟨b, ev, eb⟩ := tkD_v hk by'
      refine ⟨valV kvs k', .inr ⟨kvs, k', b, rd, ev, eb, rfl⟩, ?_⟩
      rcases lk_rel ek rv k' with ⟨v, d, h5, h6, h7⟩ | ⟨h5, h6⟩
      · rw [h5]
        rw [h6] at p
        exact fin_re (p.mono ((s1.trans s2).trans s3)) r3.1 h7
      · rw [h5]
        rw [h6] at p
        exact fin_re (p.mono ((s1.trans s2).trans s3)) r3.1 r3.2
    · cases h3
end
/-! ### what stands at a dict with tuple keys -/
section
variable {X : Cx} {pins : List (Addr × Obj)} {σ : L2.St} {H : Hp} {s : Shared} {d : Addr}
theorem inv_rdT {kvs : List (List Key × V)} (I : L2.Inv X pins σ H s) (h : Rd H d (.dT kvs)) : kvs.length ≤ sizeLine ∧ (d == sysModules) = false ∧
    ∃ (es : Array DictEntry) (ep : Nat) (o : Obj), s.heap.get? d = some o ∧ o.ExactDict ∧ o.data = .dict es ep ∧ es.size = kvs.length ∧
      ∀ (i : Nat) (k : List Key) (v : V), kvs[i]? = some (k, v) → ∃ (en : DictEntry) (q : Addr), es[i]? = some en ∧ en.key = .ref q ∧ H q = some (.tup (k.map kV)) ∧ RelV v en.val := by
  obtain ⟨z, hs, xs, pr, o, es, ep, ho, hx, hdt, he, _⟩ := (show ObjOk X.prog X.w H s.heap d (.dT kvs) from rd_of I.hok h)
  refine ⟨z, hs, es, ep, o, ho, hx, hdt, ?_, fun i k v e => ?_⟩
  · have l1 : es.size = xs.length := size_of_entries he
    have l2 : kvs.length = xs.length := Paired.length pr
    omega
  · obtain ⟨b, hb, e1, e2, e3⟩ := paired_get pr e
    have q := entry_at he i
    rw [hb] at q
    exact ⟨_, b.2.1, q, rfl, e2, e3⟩
end
section
variable {prog : Program} {w : World} {A : Around} {E : Value → Shared → Prop} {s : Shared} {d : Addr} {es : Array DictEntry} {ep : Nat} {Q : Value → Shared → Prop}
theorem raw_lt {h : Heap} (x : h.DictRaw d es ep) : d < h.objs.size := let ⟨_, ho, _⟩ := x; Heap.lt_size ho
theorem kdl_raw (lo : (d == sysModules) = false) : PySem.W.KdlSrc prog w "dict" d d es.size (fun i v => ∃ hi : i < es.size, v = es[i].key) (fun h => h.DictRaw d es ep) where
  type := fun _ hm => hm.typeIs
  there := fun _ hm => ⟨raw_lt hm, raw_lt hm⟩
  keep := fun _ _ hm hk => hm.at fun o e => hk d (.inl rfl) o e
  notList := by decide
  notTuple := by decide
  hint := fun _ _ _ _ hm hq => PySem.W.kdl_hint_dict hm.typeIs hq
  iter := fun _ _ hh hm => ⟨_, _, (fun _ _ hq => wpAny_pyIter_dict_raw lo hm hq), Walks.rawKeys hh _ d (Nat.ne_of_lt (raw_lt hm)) es ep, ⟨⟨_, Heap.get?_push_size _ rfl, rfl, rfl⟩, hm.at fun o e => Heap.get?_push_of_some _ e⟩⟩
theorem keys_of {es : Array DictEntry} {acc : Array Value} (h : ItemsOf (fun i v => ∃ hi : i < es.size, v = es[i].key) acc es.size) : acc.toList = es.toList.map (·.key) := by
  refine List.ext_getElem? fun i => ?_
  rw [List.getElem?_map, Array.getElem?_toList, Array.getElem?_toList]
  by_cases hi : i < es.size
  · have h1 : i < acc.size := by rw [h.1]; exact hi
    rw [Array.getElem?_eq_getElem h1, Array.getElem?_eq_getElem hi]
    obtain ⟨_, e⟩ := h.2 i _ (Array.getElem?_eq_getElem h1)
    rw [e]
    rfl
  · rw [Array.getElem?_eq_none (by rw [h.1]; omega), Array.getElem?_eq_none (by omega)]
    rfl
open Srt SrtO in
theorem sorted_ordD {ltv : Value → Value → Bool} (O : Swo ltv) (lo : (d == sysModules) = false) (hh : A.handled = none) (hm : s.heap.DictRaw d es ep) (hz : es.size ≤ sizeLine)
    (hS : 2 ≤ (es.toList.map (·.key)).length → ∀ (h₁ : Heap) (tk : Nat) (a : Addr), h₁.get? a = some (seqObj "list" (es.toList.map (·.key)).toArray 0) → (∀ b o, s.heap.get? b = some o → b ≠ a ∧ h₁.get? b = some o) → SortableO prog w A.in1.in1 { s with heap := h₁, toks := tk } a (es.toList.map (·.key)) ltv)
    (h : ∀ (h₁ h' : Heap) (tk : Nat) (out : List Value), Srtd ltv out → Stb ltv out (es.toList.map (·.key)) → (∀ b o, s.heap.get? b = some o → h₁.get? b = some o) → (∀ b o, h₁.get? b = some o → h'.get? b = some o) → (∃ n, h'.get? h₁.objs.size = some (seqObj "list" out.toArray n)) → Q (.ref h₁.objs.size) { s with heap := h', toks := tk }) :
    wpAny (model prog w) A (call (.builtin "sorted") [.ref d]) Q E s := by
  refine Calls.call_function_entry kind_sorted plain_sorted entry_sorted (args_sorted1 _) ?_
  unfold Builtin.«sorted»
  refine wpAny_bind (m := checkCount "sorted" 1 1 _) (wpAny_pure ?_)
  refine wpAny_bind (PySem.W.kdu_collect (A := A.in1) (kdl_raw (es := es) (ep := ep) lo) hh hm hz fun h' tk acc hk hacc => ?_)
  rw [keys_of hacc]
  generalize hvs : es.toList.map (·.key) = vs at hS h
  have hzv : vs.length ≤ sizeLine := by rw [← hvs, List.length_map, Array.length_toList]; exact hz
  refine wpAny_bind (wpAny_newList ?_ hzv)
  have hoL : (h'.push (seqObj "list" vs.toArray 0)).get? h'.objs.size = some (seqObj "list" vs.toArray 0) := Heap.get?_push_size _ rfl
  have keep : ∀ b o, s.heap.get? b = some o → b ≠ h'.objs.size ∧ (h'.push (seqObj "list" vs.toArray 0)).get? b = some o := fun b o q =>
    ⟨Nat.ne_of_lt (Heap.lt_size (hk b o q)), Heap.get?_push_of_some _ (hk b o q)⟩
  show wpAny _ _ _ _ _ { s with heap := h'.push (seqObj "list" vs.toArray 0), toks := tk }
  refine wpAny_bind (wpAny_holding (wpAny_call_entry slot_list_sort ⟨_, hoL, rfl⟩ entry_list_sort (list_sort_ord O hoL hzv (fun h2 => hS h2 _ _ _ hoL keep) fun out hs hb => ⟨_, rfl, ?_⟩) (args_list_sort _)))
  refine wpAny_pure ⟨_, rfl, h h' _ _ out hs hb hk (fun b o q => ?_) (sortedHeap_at hoL)⟩
  have hlt : b < h'.objs.size := Heap.lt_size q
  refine (sortedHeap_old (Nat.ne_of_lt hlt) ?_).trans (Heap.get?_push_of_some _ q)
  rw [Heap.size_push]
  exact Nat.lt_succ_of_lt hlt
end
/-! ### sorted(d), the keys pairs of whole numbers -/
def pkey (p : Int × Int) : List Key := [.inl p.1, .inl p.2]
def prK : List Key → Option (Int × Int)
  | [.inl i, .inl j] => some (i, j)
  | _ => none
theorem prK_some {k : List Key} {p : Int × Int} (h : prK k = some p) : k = pkey p := by
  unfold prK at h
  split at h
  · cases h; rfl
  · cases h
theorem prKs_some : ∀ {ks : List (List Key)} {ps : List (Int × Int)}, ks.mapM prK = some ps → ks = ps.map pkey
  | [], ps, h => by cases h; rfl
  | k :: ks, ps, h => by
    rw [List.mapM_cons] at h
    cases e : prK k with
    | none => rw [e] at h; cases h
    | some p =>
      rw [e] at h
      cases e2 : ks.mapM prK with
      | none => rw [e2] at h; cases h
      | some qs =>
        rw [e2] at h
        cases h
        rw [prK_some e, prKs_some e2]
        rfl
def rSortDT : List V → Hp → VK → Prop := fun vs H Q => ∃ (a : Addr) (kvs : List (List Key × V)) (ps : List (Int × Int)), vs = [V.ref a] ∧ Rd H a (.dT kvs) ∧ kvs.map (·.1) = ps.map pkey ∧
  ∀ (ys : List V) (k : V → Int × Int) (p : Addr), (∀ y ∈ ys, ∃ t, y = V.ref t ∧ H t = some (.tup [.int (k y).1, .int (k y).2])) → (ys.map k).Perm ps → SrtO.Srtd (ltP k) ys → H p = none → Q (.ref p) (upd H p (.lst ys))
section
variable {X : Cx}
theorem cr_sortDT (hc : X.calm = true) : CallR X (.builtin "sorted") rSortDT := by
  intro pins s σ H vs us Q I r h
  obtain ⟨a, kvs, ps, rfl, hr, ek, q⟩ := h
  obtain ⟨u, rfl, ru⟩ := vals1 r
  obtain rfl : u = Value.ref a := ru
  obtain ⟨hz, lo, es, ep, o, ho, hx, hd, hsz, ent⟩ := inv_rdT I hr
  have hlp : kvs.length = ps.length := by simpa using congrArg List.length ek
  -- the keys, each a pair
  have key : ∀ (i : Nat) (p : Int × Int), ps[i]? = some p → ∃ (en : DictEntry) (t : Addr), es[i]? = some en ∧ en.key = .ref t ∧ H t = some (.tup [.int p.1, .int p.2]) := fun i p hp => by
    have : (kvs.map (·.1))[i]? = some (pkey p) := by rw [ek, List.getElem?_map, hp]; rfl
    rw [List.getElem?_map] at this
    obtain ⟨kv, h1, h2⟩ := Option.map_eq_some_iff.mp this
    obtain ⟨en, t, h3, h4, h5, _⟩ := ent i kv.1 kv.2 h1
    rw [h2] at h5
    exact ⟨en, t, h3, h4, h5⟩
  let k : V → Int × Int := fun v => match v with
    | .ref t => (match H t with
      | some (.tup [.int i, .int j]) => (i, j)
      | _ => (0, 0))
    | _ => (0, 0)
  have hk : ∀ t i j, H t = some (.tup [.int i, .int j]) → k (.ref t) = (i, j) := fun t i j ht => by
    show (match H t with | some (.tup [.int i, .int j]) => (i, j) | _ => (0, 0)) = _
    rw [ht]
  have el : es.toList.length = ps.length := by rw [Array.length_toList, hsz, hlp]
  have mem : ∀ v ∈ es.toList.map (·.key), ∃ t, v = Value.ref t ∧ H t = some (.tup [.int (k (.ref t)).1, .int (k (.ref t)).2]) := fun v hv => by
    obtain ⟨en, h1, rfl⟩ := List.mem_map.mp hv
    obtain ⟨i, hi⟩ := List.mem_iff_getElem?.mp h1
    obtain ⟨hl, _⟩ := List.getElem?_eq_some_iff.mp hi
    obtain ⟨en', t, h3, h4, h5⟩ := key i ps[i] (List.getElem?_eq_getElem (by omega))
    rw [Array.getElem?_toList] at hi
    rw [hi] at h3
    cases h3
    refine ⟨t, h4, ?_⟩
    rw [hk t _ _ h5]
    exact h5
  have ekeys : (es.toList.map (·.key)).map (fun u => k (backV u)) = ps := by
    refine List.ext_getElem? fun i => ?_
    rw [List.getElem?_map, List.getElem?_map, Array.getElem?_toList]
    by_cases hi : i < ps.length
    · obtain ⟨en, t, h3, h4, h5⟩ := key i ps[i] (List.getElem?_eq_getElem hi)
      rw [h3, List.getElem?_eq_getElem hi]
      show some (k (backV en.key)) = _
      rw [h4]
      show some (k (.ref t)) = _
      rw [hk t _ _ h5]
    · rw [List.getElem?_eq_none (l := ps) (by omega), Array.getElem?_eq_none (by rw [← Array.length_toList]; omega)]
      rfl
  refine sorted_ordD (SrtO.swo_lex fun u => k (backV u)) lo (I.ok.hd hc) ⟨o, ho, hx, hd⟩ (by rw [hsz]; exact hz) (fun h2 h₁ tk a' ha kk => ?_) fun h₁ h' tk out h1 h2 kp1 kp2 hn => ?_
  · refine SrtO.pairs_sortableO (s := { s with heap := h₁, toks := tk }) (by omega) (fun v hm => ?_) fun o e => ?_
    · obtain ⟨t, rfl, ht⟩ := mem v hm
      obtain ⟨_, its2, r2, o2, ho2, hc2, n2, hd2⟩ := I.hok _ _ ht
      obtain ⟨u1, u2, e12, ri, rj⟩ := vals2 r2
      obtain ⟨t1, rfl⟩ := ri
      obtain ⟨t2, rfl⟩ := rj
      subst e12
      exact ⟨t, o2, t1, t2, n2, rfl, (kk _ _ ho2).2, hc2, hd2⟩
    · have e' : some o = some (seqObj "list" (es.toList.map (·.key)).toArray 0) := e.symm.trans ha
      cases e'
      intro c
      exact absurd (Value.type.inj c) (by decide)
  · have mo : ∀ u ∈ out, ∃ t, u = Value.ref t ∧ H t = some (.tup [.int (k (.ref t)).1, .int (k (.ref t)).2]) := fun u hu => mem u (h2.perm.mem_iff.mp hu)
    have h3 : ∀ u ∈ out, ∃ a, u = Value.ref a := fun u hu => let ⟨t, e, _⟩ := mo u hu; ⟨t, e⟩
    obtain ⟨n, hn⟩ := hn
    have I1 : L2.Inv X pins σ H { s with heap := h₁, toks := tk } := I.kept (t' := tk) kp1
    have hlen : (out.map backV).length ≤ sizeLine := by
      rw [List.length_map, h2.perm.length_eq, List.length_map, Array.length_toList, hsz]
      exact hz
    refine ⟨.ref h₁.objs.size, upd H h₁.objs.size (.lst (out.map backV)), I1.laid (t' := tk) (a := h₁.objs.size) (o := .lst (out.map backV)) kp2 (Nat.le_refl _) ⟨hlen, out, n, vals_back h3, hn⟩, rfl, q (out.map backV) k _ (fun y hy => ?_) ?_ (SrtO.srtd_map h1) (I1.hok.fresh (Nat.le_refl _))⟩
    · obtain ⟨u, hu, rfl⟩ := List.mem_map.mp hy
      obtain ⟨t, rfl, ht⟩ := mo u hu
      exact ⟨t, rfl, ht⟩
    · rw [List.map_map]
      have := h2.perm.map (fun u => k (backV u))
      rw [ekeys] at this
      exact this
variable {c : Conf} {W : WX}
def dSortD : List D → R D
  | [.dT kds] => ((kds.map (·.1)).mapM prK).map fun ps => .ok (.lst ((psort ps).map prD))
  | _ => none
theorem bi_sortD (hc : X.calm = true) (hK : c.K = X.K := by rfl) : Bi X c W .own (.builtin "sorted") dSortD := ⟨_, cr_sortDT hc, by
  intro Γ σ ρ H xs ds res Q er bx h p
  unfold dSortD at h
  split at h
  · rename_i kds
    obtain ⟨ps, hp, h⟩ := Option.map_eq_some_iff.mp h
    cases h
    obtain ⟨x, rfl, a, kvs, rfl, rd, ek, r⟩ := bx.one
    refine ⟨a, kvs, ps, rfl, rd, by rw [ek]; exact prKs_some hp, fun ys k q hy pm hs hq => ?_⟩
    have ey : ys.map k = psort ps := psorted_unique (pm.trans (psort_perm ps).symm) (List.pairwise_map.mpr (hs.imp fun {x y} h => by
      have := SrtO.lexB_no.mp h
      unfold ple
      omega)) (psort_sorted ps)
    rw [← ey] at p
    refine fin_lst p er (Rp.of_pairs fun x hx => ?_) hq
    obtain ⟨t, e, ht⟩ := hy x hx
    refine ⟨t, e, fun z => ?_, ht⟩
    obtain ⟨o, ho, no⟩ := er.mt z
    rw [ht] at ho
    cases ho
    exact no _ rfl
  · cases h⟩
end
end DL

set_option Elab.async false
set_option linter.all false
set_option maxRecDepth 100000
set_option maxHeartbeats 2000000
set_option autoImplicit false
/-! DNf: for k, v in d.items(), d a dict with tuple keys; for k in f(..), the call giving a new dict with tuple keys. -/
namespace DL
open PySem PySem.Spec PyProof.Rows L2
/-! ### the pairs -/
def ItiT (d : Addr) (o : Obj) (kvs : List (List Key × V)) : It :=
  ⟨fun i H => H d = some (.frz o (.dT kvs)) ∧ i < kvs.length, fun i H x H' => ∃ (T : Addr) (k : List Key) (v : V) (q : Addr), kvs[i]? = some (k, v) ∧ x = .ref T ∧ H T = none ∧ H q = some (.tup (k.map kV)) ∧ H' = upd H T (.tup [.ref q, v]), fun i H => H d = some (.frz o (.dT kvs)) ∧ kvs.length ≤ i⟩
section
variable {P : Program} {w : World} {K : PySem.W.Frag} {d : Addr} {o : Obj} {es : Array DictEntry} {ep : Nat}
theorem inv_frzT {X : Cx} {pins : List (Addr × Obj)} {σ : L2.St} {H : Hp} {s : Shared} {kvs : List (List Key × V)} (I : L2.Inv X pins σ H s) (h : H d = some (.frz o (.dT kvs))) (hod : o.data = .dict es ep) :
    s.heap.DictRaw d es ep ∧ es.size = kvs.length ∧ ∀ (i : Nat) (hi : i < es.size) (k : List Key) (v : V), kvs[i]? = some (k, v) → ∃ q, es[i].key = .ref q ∧ H q = some (.tup (k.map kV)) ∧ RelV v es[i].val := by
  obtain ⟨hs, hgd, hx, _⟩ := I.frzT h
  obtain ⟨_, _, es', ep', o', ho, _, hdt, hsz, ent⟩ := inv_rdT I (.inr ⟨o, h⟩)
  rw [hgd] at ho
  cases ho
  rw [hod] at hdt
  cases hdt
  refine ⟨⟨o, hgd, hx, hod⟩, hsz, fun i hi k v e => ?_⟩
  obtain ⟨en, q, h1, h2, h3, h4⟩ := ent i k v e
  rw [Array.getElem?_eq_getElem hi] at h1
  cases h1
  exact ⟨q, h2, h3, h4⟩
theorem turn_itemsT {kvs : List (List Key × V)} {elts : List Expr} {kk : Nat} {tpos : Pos} (it : Addr) (hod : o.data = .dict es ep) :
    Turn P w K (.Tuple elts kk tpos) (ItiT d o kvs) [it] it (fun i h => ∃ ok ov, IsItemIter h it d i kvs.length ep ok ov) where
  mem := by simp
  obj := fun i h st b hb => by
    have e : b = it := by simpa using hb
    subst e
    obtain ⟨ok, ov, e⟩ := st
    exact ⟨_, e, fun v z => nomatch z⟩
  keep := fun i h h' st k => let ⟨ok, ov, e⟩ := st; ⟨ok, ov, k it (by simp) _ e⟩
  item := by
    intro X hP hw hK hc i pins s σ H E I hf st hg
    subst hP hw hK
    obtain ⟨hd, hi⟩ := hg
    obtain ⟨hm, hsz, ent⟩ := inv_frzT I hd hod
    have hie : i < es.size := by omega
    obtain ⟨⟨k, v⟩, hkv⟩ : ∃ p, kvs[i]? = some p := ⟨kvs[i], List.getElem?_eq_getElem hi⟩
    obtain ⟨q, hq1, hq2, ru⟩ := ent i hie k v hkv
    obtain ⟨ok, ov, he⟩ := st
    rw [← hsz] at he
    have hlt : it < s.heap.objs.size := Heap.lt_size he
    refine wpAny_pyNext_items_item_raw he hm hie fun h' ho hT hz hk => ?_
    refine ⟨_, rfl, wpAny_letOwnedTupleGo_items (s := { s with heap := h' }) ho fun h'' he' sb => ?_⟩
    have hT2 : h''.get? s.heap.objs.size = some { cls := .type "tuple", data := .seq #[es[i].key, es[i].val] } := (sb.2 _ (Nat.ne_of_gt hlt)).trans hT
    have new : ObjOk X.prog X.w (upd H s.heap.objs.size (.tup [.ref q, v])) h'' s.heap.objs.size (.tup [.ref q, v]) :=
      ⟨by show 2 ≤ sizeLine; decide, [es[i].key, es[i].val], .cons hq1 (.cons ru .nil), ⟨_, hT2, rfl, _, rfl⟩⟩
    have I1 : L2.Inv X pins σ (upd H s.heap.objs.size (.tup [.ref q, v])) { s with heap := h'' } :=
      I.turnedNew (t' := s.toks) (ch := [it]) (fun b ob hb e => (sb.2 b (by simpa using hb)).trans (hk b ob (by simpa using hb) e)) hf (Nat.le_refl _) new
    refine ⟨.ref s.heap.objs.size, _, I1, rfl, ⟨_, k, v, q, hkv, rfl, I.hok.fresh (Nat.le_refl _), hq2, rfl⟩, ⟨es[i].key, es[i].val, ?_⟩, fun b hb => ?_⟩
    · rw [← hsz]; exact he'
    · have e : b = it := by simpa using hb
      rw [e, upd_ne (Nat.ne_of_lt hlt)]
      exact (hf it (by simp)).1
  done := by
    intro X hP hw hK hc i pins s σ H E I hf st hg
    subst hP hw hK
    obtain ⟨hd, hi⟩ := hg
    obtain ⟨f0, f1, f2, f3, f4, f5⟩ := hf it (by simp)
    obtain ⟨hm, hsz, ent⟩ := inv_frzT I hd hod
    obtain ⟨ok, ov, he⟩ := st
    rw [← hsz] at he
    exact wpAny_pyNext_items_end_raw (I.ok.hd hc) he hm (by omega) fun h' eb => ⟨rfl, I.turned (t' := s.toks) (fun b ob hb e => eb b ob hb e) f0 f1 f3 f4 f5⟩
  self := fun A i s Q E st h => let ⟨_, _, e⟩ := st; PySem.W.kcp_self e h
end
def iItemsT (td : TE) : TI := fun σ H R => td σ H fun x H1 => ∃ d o kvs, x = .ref d ∧ H1 d = some (.frz o (.dT kvs)) ∧ R (ItiT d o kvs) H1
section
variable {X : Cx} {e : Expr} {td : TE} {apos cpos : Pos}
theorem pi_itemsT {elts : List Expr} {kk : Nat} {tpos : Pos} (he : PE X e td) (hbase : attributeBase e "items" X.env (eval e X.env) = eval e X.env := by rfl) (hline : (apos.endLine == cpos.line) = true := by rfl) :
    PI X (.Tuple elts kk tpos) (.Call (.Attribute e "items" apos) [] [] cpos) (iItemsT td) := by
  refine ⟨fun pins s σ H R I h => ?_⟩
  refine wpAny_Call_method (T := "dict") (id := "dict.items") hbase rfl hline F.plainAttrs_dict F.slot_dict_items F.type_dict_items (thn (he.run pins s σ H _ I h) fun u s1 ⟨x, H1, I1, rx, d, o, kvs, ex, hd, q⟩ => ?_)
  subst ex
  obtain rfl : u = Value.ref d := rx
  obtain ⟨lo, hgd, hx, es, ep, hdt, hsz, _⟩ := I1.frzT hd
  have hm : s1.heap.DictRaw d es ep := ⟨o, hgd, hx, hdt⟩
  refine ⟨hm.typeIs, fun b q => by cases q; exact ⟨o, hgd, hx.2.1⟩, ?_⟩
  have I2 : L2.Inv X pins σ H1 { s1 with heap := s1.heap.push { cls := .type "dict_items", data := .fields #[.ref d] } } := I1.kept (t' := s1.toks) fun b ob q => Heap.get?_push_of_some _ q
  have fin : wpAny (model X.prog X.w) X.A (pyIter (.ref s1.heap.objs.size)) (PIE X pins σ (.Tuple elts kk tpos) R) X.xe { s1 with heap := s1.heap.push { cls := .type "dict_items", data := .fields #[.ref d] } } := by
    refine wpAny_pyIter_items_raw (d := d) ⟨_, Heap.get?_push_size _ rfl, rfl, rfl⟩ (hm.at fun _ e => Heap.get?_push_of_some _ e) (pi_one (tk := s1.toks) I2 _ (turn_itemsT _ hdt) ⟨.none, .none, ?_⟩ q)
    rw [← hsz]
    exact Heap.get?_push_size _ rfl
  show wpAny _ _ (callWith cpos (.builtin "dict.items") [.ref d] [] []) _ X.xe s1
  exact method_meetsIn F.slot_dict_items F.entry_dict_items rfl (PySem.evalArgs_none ⟨rfl, hm.typeIs, F.args_dict_items_1 _, _, meets_dict_items_raw d lo, ⟨es, ep, hm⟩, fin⟩)
end
/-! ### the lock, for a dict with tuple keys -/
section
variable {c : Conf} {H : Hp} {a : Addr} {od : Obj} {kvs : List (List Key × V)}
theorem Rp.lockT (ha : H a = some (.dT kvs)) {N : Addr → Prop} {vs : List V} {ds : List D} (r : Rp c N H vs ds) : Rp c N (upd H a (.frz od (.dT kvs))) vs ds := by
  have ne : ∀ {b : Addr} {u : HO}, H b = some u → (∀ k, u ≠ .dT k) → b ≠ a := fun {b u} e n z => by
    rw [z, ha] at e
    cases e
    exact n _ rfl
  induction r with
  | nil => exact .nil
  | non _ ih => exact .non ih
  | bl _ ih => exact .bl ih
  | int _ ih => exact .int ih
  | str _ ih => exact .str ih
  | tup n q _ _ i1 i2 => exact .tup n (by rw [upd_ne (ne q fun _ z => nomatch z)]; exact q) i1 i2
  | lst n q _ _ i1 i2 => exact .lst n (by rw [upd_ne (ne q fun _ z => nomatch z)]; exact q) i1 i2
  | fzT q _ _ i1 i2 => exact .fzT (q.imp (fun ⟨n, o, hd, e⟩ => ⟨n, o, hd, by rw [upd_ne (ne e fun _ z => nomatch z)]; exact e⟩) id) i1 i2
  | fzL q _ _ i1 i2 => exact .fzL (q.imp (fun ⟨n, z⟩ => ⟨n, z.imp (fun e => by rw [upd_ne (ne e fun _ z => nomatch z)]; exact e) fun ⟨o, e⟩ => ⟨o, by rw [upd_ne (ne e fun _ z => nomatch z)]; exact e⟩⟩) id) i1 i2
  | @dT b kvs2 _ _ _ n q e _ _ i1 i2 =>
    refine .dT n ?_ e i1 i2
    by_cases z : b = a
    · rcases q with q | ⟨o, q⟩
      · rw [z, ha] at q
        cases q
        exact .inr ⟨od, by rw [z, upd_same]⟩
      · rw [z, ha] at q
        cases q
    · exact q.imp (fun q => by rw [upd_ne z]; exact q) fun ⟨o, q⟩ => ⟨o, by rw [upd_ne z]; exact q⟩
  | dK n q e _ _ i1 i2 => exact .dK n (q.imp (fun q => by rw [upd_ne (ne q fun _ z => nomatch z)]; exact q) fun ⟨o, q⟩ => ⟨o, by rw [upd_ne (ne q fun _ z => nomatch z)]; exact q⟩) e i1 i2
  | obj k n q e _ _ i1 i2 => exact .obj k n (by rw [upd_ne (ne q fun _ z => nomatch z)]; exact q) e i1 i2
  | fn k _ ih => exact .fn k ih
theorem Rp.unlockT (ha : H a = some (.frz od (.dT kvs))) {N : Addr → Prop} {vs : List V} {ds : List D} (r : Rp c N H vs ds) : Rp c N (upd H a (.dT kvs)) vs ds := by
  have ne : ∀ {b : Addr} {u : HO}, H b = some u → (∀ o k, u ≠ .frz o (.dT k)) → b ≠ a := fun {b u} e n z => by
    rw [z, ha] at e
    cases e
    exact n _ _ rfl
  induction r with
  | nil => exact .nil
  | non _ ih => exact .non ih
  | bl _ ih => exact .bl ih
  | int _ ih => exact .int ih
  | str _ ih => exact .str ih
  | tup n q _ _ i1 i2 => exact .tup n (by rw [upd_ne (ne q fun _ _ z => nomatch z)]; exact q) i1 i2
  | lst n q _ _ i1 i2 => exact .lst n (by rw [upd_ne (ne q fun _ _ z => nomatch z)]; exact q) i1 i2
  | fzT q _ _ i1 i2 => exact .fzT (q.imp (fun ⟨n, o, hd, e⟩ => ⟨n, o, hd, by rw [upd_ne (ne e fun _ _ z => nomatch z)]; exact e⟩) id) i1 i2
  | fzL q _ _ i1 i2 => exact .fzL (q.imp (fun ⟨n, z⟩ => ⟨n, z.imp (fun e => by rw [upd_ne (ne e fun _ _ z => nomatch z)]; exact e) fun ⟨o, e⟩ => ⟨o, by rw [upd_ne (ne e fun _ _ z => nomatch z)]; exact e⟩⟩) id) i1 i2
  | @dT b kvs2 _ _ _ n q e _ _ i1 i2 =>
    refine .dT n ?_ e i1 i2
    by_cases z : b = a
    · rcases q with q | ⟨o, q⟩
      · rw [z, ha] at q
        cases q
      · rw [z, ha] at q
        cases q
        exact .inl (by rw [z, upd_same])
    · exact q.imp (fun q => by rw [upd_ne z]; exact q) fun ⟨o, q⟩ => ⟨o, by rw [upd_ne z]; exact q⟩
  | dK n q e _ _ i1 i2 => exact .dK n (q.imp (fun q => by rw [upd_ne (ne q fun _ _ z => nomatch z)]; exact q) fun ⟨o, q⟩ => ⟨o, by rw [upd_ne (ne q fun _ _ z => nomatch z)]; exact q⟩) e i1 i2
  | obj k n q e _ _ i1 i2 => exact .obj k n (by rw [upd_ne (ne q fun _ _ z => nomatch z)]; exact q) e i1 i2
  | fn k _ ih => exact .fn k ih
theorem ER.lockT {Γ : Gam} {σ : L2.St} {ρ : Ro} (e : ER c Γ σ H ρ) (ha : H a = some (.dT kvs)) (na : ¬ NN Γ σ ρ a) : ER c (Γ.lock a (.frz od (.dT kvs))) σ (upd H a (.frz od (.dT kvs))) ρ where
  len := e.len
  ext := fun b u h => by
    have h : (upd Γ.H0 a (.frz od (.dT kvs))) b = some u := h
    by_cases z : b = a
    · subst z
      rw [upd_same] at h ⊢
      exact h
    · rw [upd_ne z] at h ⊢
      exact e.ext b u h
  utr := fun b h => by
    by_cases z : b = a
    · subst z; exact Mt.upd fun _ z => by cases z
    · exact (e.utr b h).off z
  held := fun p h => (e.held p h).lockT ha
  raw := fun p h => by
    rcases List.mem_cons.mp h with h | h
    · subst h
      exact ⟨na, upd_same⟩
    · obtain ⟨h1, h2⟩ := List.mem_filter.mp h
      have := e.raw p h1
      exact ⟨this.1, by rw [upd_ne (of_decide_eq_true h2)]; exact this.2⟩
  fx := e.fx
  own := fun i d b h1 h2 => by
    obtain ⟨q1, q2⟩ := e.own i d b h1 h2
    have ne : b ≠ a := fun z => na (.inr ⟨i, d, h1, by rw [← z]; exact h2⟩)
    exact ⟨by show (upd Γ.H0 a _) b = none; rw [upd_ne ne]; exact q1, q2⟩
  dis := e.dis
  slot := fun i d h => let ⟨v, h1, h2⟩ := e.slot i d h; ⟨v, h1, Rp.lockT ha h2⟩
  mine := fun i d h => by
    obtain ⟨b, h1, h2⟩ := e.mine i d h
    have ne : b ≠ a := fun z => na (.inr ⟨i, d, h, by rw [← z]; exact h1⟩)
    exact ⟨b, h1, h2.other (upd_ne ne) fun _ _ r => r.lockT ha⟩
theorem ER.unlockT {Γ : Gam} {σ : L2.St} {ρ : Ro} (e : ER c (Γ.lock a (.frz od (.dT kvs))) σ H ρ) (h0 : ∀ u, Γ.H0 a = some u → u = .dT kvs) (hr : ∀ p ∈ Γ.raw, p.1 = a → p.2 = .dT kvs) : ER c Γ σ (upd H a (.dT kvs)) ρ := by
  obtain ⟨na, ha⟩ := e.raw (a, .frz od (.dT kvs)) List.mem_cons_self
  exact {
    len := e.len
    ext := fun b u h => by
      by_cases z : b = a
      · subst z
        rw [upd_same, h0 u h]
      · rw [upd_ne z]
        exact e.ext b u (by show (upd Γ.H0 a _) b = some u; rw [upd_ne z]; exact h)
    utr := fun b h => by
      by_cases z : b = a
      · subst z; exact Mt.upd fun _ z => by cases z
      · exact (e.utr b h).off z
    held := fun p h => (e.held p h).unlockT ha
    raw := fun p h => by
      by_cases z : p.1 = a
      · rw [z, upd_same, hr p h z]
        exact ⟨na, rfl⟩
      · have := e.raw p (List.mem_cons_of_mem _ (List.mem_filter.mpr ⟨h, decide_eq_true z⟩))
        exact ⟨this.1, by rw [upd_ne z]; exact this.2⟩
    fx := e.fx
    own := fun i d b h1 h2 => by
      obtain ⟨q1, q2⟩ := e.own i d b h1 h2
      have ne : b ≠ a := fun z => na (.inr ⟨i, d, h1, by rw [← z]; exact h2⟩)
      have q1 : (upd Γ.H0 a (.frz od (.dT kvs))) b = none := q1
      rw [upd_ne ne] at q1
      exact ⟨q1, q2⟩
    dis := e.dis
    slot := fun i d h => let ⟨v, h1, h2⟩ := e.slot i d h; ⟨v, h1, Rp.unlockT ha h2⟩
    mine := fun i d h => by
      obtain ⟨b, h1, h2⟩ := e.mine i d h
      have ne : b ≠ a := fun z => na (.inr ⟨i, d, h, by rw [← z]; exact h1⟩)
      exact ⟨b, h1, h2.other (upd_ne ne) fun _ _ r => r.unlockT ha⟩ }
end
/-! ### the loops -/
def itD (p : List Key × D) : D := .tup [.tup (p.1.map keyDat), p.2]
theorem kv_rp {c : Conf} (N : Addr → Prop) (H : Hp) : ∀ k : List Key, Rp c N H (k.map kV) (k.map keyDat)
  | [] => .nil
  | .inl i :: k => .int (kv_rp N H k)
  | .inr s :: k => .str (kv_rp N H k)
def slotT (ρ : Ro) (i : Nat) : Option (List (List Key × D)) := match ρ[i]? with
  | some (some (.dT kds, false)) => some kds
  | _ => none
theorem slotT_at {ρ : Ro} {i : Nat} {kds : List (List Key × D)} (h : slotT ρ i = some kds) : ρ[i]? = some (some (.dT kds, false)) := by
  unfold slotT at h
  split at h
  · cases h; assumption
  · cases h
/-- for k, v in d.items() -/
def mForIt (i : Nat) (g : MG) (body : MS) : MS := fun ρ => (slotT ρ i).bind fun kds => noEr (forGo g body (kds.map itD) ρ)
/-- [e for k, v in d.items() if ..] -/
def mLcIt (i : Nat) (vs : List Nat) (g : MG) (tt : MT) (me : ME) : ME := fun ρ => (slotT ρ i).bind fun kds => guard (noOwn ρ vs = true ∧ kds.length ≤ lim) ((lcGo g tt me (wipeR ρ vs) (kds.map itD)).map fun ys => .ok (.lst ys))
theorem Same.pairT {Γ : Gam} {c : Conf} {σ : L2.St} {H : Hp} {ρ : Ro} (e : ER c Γ σ H ρ) {T q : Addr} {k : List Key} {v : V} {d : D} (hT : H T = none) (hq : H q = some (.tup (k.map kV))) (r : Re c (NN Γ σ ρ) H v d) :
    Re c (NN Γ σ ρ) (upd H T (.tup [.ref q, v])) (.ref T) (itD (k, d)) := by
  have nq : ¬ NN Γ σ ρ q := fun z => by
    obtain ⟨o, ho, no⟩ := e.mt z
    rw [hq] at ho
    cases ho
    exact no _ rfl
  exact .tup (fun z => e.tracked z hT) upd_same (Rp.cons (.tup nq (same_new hT _ _ hq) (kv_rp _ _ k) .nil) (r.same (same_new hT))) .nil
section
variable {X : Cx} {c : Conf} {W : WX}
theorem forIt_core {gg : TG} {g : MG} {is : List Nat} {s : MS} {i : Nat} {Dd : Ends} (hg : GOk c is gg g) {Γ : Gam} {σ : L2.St} {H : Hp} {ρ : Ro} {o : Out} {a : Addr} {od : Obj} {kvs : List (List Key × V)} {kds : List (List Key × D)} (er : ER c Γ σ H ρ)
    (ha : σ[i]? = some (some (V.ref a))) (hf : H a = some (.frz od (.dT kvs))) (ek : kvs.map (·.1) = kds.map (·.1)) (rv : Rp c (NN Γ σ ρ) H (kvs.map (·.2)) (kds.map (·.2))) (na : ¬ NN Γ σ ρ a) (em : forGo g s (kds.map itD) ρ = some o) (ne : ∀ x ρ', o ≠ .er x ρ') (p : SPost c W Γ Dd o) :
    tFor (iItemsT (tVar i)) gg (tS c W s) Dd σ H := by
  refine ⟨.ref a, ha, a, od, kvs, rfl, hf, ?_⟩
  obtain ⟨ra, hra⟩ : ∃ ra : List (Addr × HO), ra = [(a, .frz od (.dT kvs))] := ⟨_, rfl⟩
  have q1 : ∀ p ∈ ra, ¬ NN Γ σ ρ p.1 ∧ H p.1 = some p.2 := fun p hp => by
    rw [hra, List.mem_singleton] at hp
    subst hp
    exact ⟨na, hf⟩
  have st : ∀ H' : Hp, (∀ p ∈ ra, H' p.1 = some p.2) → H' a = some (.frz od (.dT kvs)) := fun H' h => h (a, _) (by rw [hra]; exact List.mem_singleton.mpr rfl)
  have lu : kvs.length = kds.length := by simpa using congrArg List.length ek
  refine ⟨fun i m σ H => m = kds.length - i ∧ i ≤ kds.length ∧ ∃ ρ', ER c (Γ.hold (kvs.map (·.2)) (kds.map (·.2)) ra) σ H ρ' ∧ forGo g s ((kds.map itD).drop i) ρ' = some o, ⟨_, rfl, Nat.zero_le _, ρ, er.hold rv q1, em⟩, ?_⟩
  rintro i m σ2 H2 ⟨rfl, hil, ρ2, e2, em2⟩
  have hP := st H2 fun p hp => (e2.raw p (List.mem_append_left _ hp)).2
  by_cases hlt : i < kds.length
  · refine .inr ⟨⟨hP, by omega⟩, fun σ' H' => ∃ m', m' < kds.length - i ∧ m' = kds.length - (i + 1) ∧ ∃ ρ', ER c (Γ.hold (kvs.map (·.2)) (kds.map (·.2)) ra) σ' H' ρ' ∧ forGo g s ((kds.map itD).drop (i + 1)) ρ' = some o, fun σ' H' ⟨m', h1, h2, h3⟩ => ⟨m', h1, h2, hlt, h3⟩, fun x H3 y3 => ?_⟩
    obtain ⟨T, k, v, q, hkv, ex, hT, hq, eH⟩ := y3
    subst eH ex
    have hd : (kds.map itD)[i]? = some (itD kds[i]) := by rw [List.getElem?_map, List.getElem?_eq_getElem hlt]; rfl
    have ekk : kds[i].1 = k := by
      have : (kvs.map (·.1))[i]? = (kds.map (·.1))[i]? := by rw [ek]
      rw [List.getElem?_map, List.getElem?_map, hkv, List.getElem?_eq_getElem hlt] at this
      exact (Option.some.inj this).symm
    rw [List.drop_eq_getElem?_toList_append, hd] at em2
    have em2 : forGo g s (itD kds[i] :: (kds.map itD).drop (i + 1)) ρ2 = some o := em2
    unfold forGo at em2
    obtain ⟨ρ3, hg3, em3⟩ := Option.bind_eq_some_iff.mp em2
    have hr := e2.held (kvs.map (·.2), kds.map (·.2)) List.mem_cons_self
    have rvi : Re c (NN (Γ.hold (kvs.map (·.2)) (kds.map (·.2)) ra) σ2 ρ2) H2 v kds[i].2 := hr.at_ (i := i) (by rw [List.getElem?_map, hkv]; rfl) (by rw [List.getElem?_map, List.getElem?_eq_getElem hlt]; rfl)
    have ri := Same.pairT e2 hT hq rvi
    rw [← ekk] at ri
    refine hg (Γ.hold (kvs.map (·.2)) (kds.map (·.2)) ra) σ2 _ ρ2 ρ3 _ _ _ (e2.same (same_new hT)) ri hg3 fun σ4 e4 _ _ => ?_
    cases eb : s ρ3 with
    | none => rw [eb] at em3; cases em3
    | some q =>
      rw [eb] at em3
      refine ⟨Γ.hold (kvs.map (·.2)) (kds.map (·.2)) ra, ρ3, q, e4, eb, ?_⟩
      cases q with
      | nx ρ5 => exact fun σ5 H5 e5 => ⟨_, by omega, rfl, ρ5, e5, em3⟩
      | ct ρ5 => exact fun σ5 H5 e5 => ⟨_, by omega, rfl, ρ5, e5, em3⟩
      | bk ρ5 => cases em3; exact fun σ5 H5 e5 => p _ _ e5.unhold
      | rt d => cases em3; exact p
      | er x ρ5 => cases em3; exact absurd rfl (ne x ρ5)
  · have e : i = kds.length := by omega
    subst e
    rw [List.drop_eq_nil_of_le (by simp)] at em2
    cases em2
    exact .inl ⟨⟨hP, by omega⟩, p _ _ e2.unhold⟩
theorem s_forIt (i : Nat) {x : Str} {body : List Stmt} {is : List Nat} {g : MG} {s : MS} {px apos cpos pos tpos : Pos} {elts : List Expr} {kk : Nat} (hp : PassesOwn (model X.prog X.w) X.A X.env X.xe) (hc : X.calm = true) (hg : DG X c (.Tuple elts kk tpos) is g) (hb : PSs X body (tS c W s))
    (hN : X.N[i]? = some x := by rfl) (hv : Vis X.env.scope x := by first | exact Or.inl rfl | exact Or.inr (Or.inl rfl) | exact Or.inr (Or.inr rfl)) (hd : (x == ("__debug__" : Str)) = false := by decide)
    (hcd : (x == ("__classdict__" : Str)) = false := by decide) (hbase : attributeBase (.Name x px) "items" X.env (eval (.Name x px) X.env) = eval (.Name x px) X.env := by rfl) (hline : (apos.endLine == cpos.line) = true := by rfl)
    (hs : ∀ y, foldedSetIterable (.Call (.Attribute (.Name x px) "items" apos) [] [] cpos) X.env y = pure y := by intro _; rfl) : PS X (.For (.Tuple elts kk tpos) (.Call (.Attribute (.Name x px) "items" apos) [] [] cpos) body [] pos) (tS c W (mForIt i g s)) := by
  obtain ⟨gg, pg, hg⟩ := hg.ex
  have base := ps_for hp hc (pi_itemsT (pv i hN hv hd hcd) hbase hline) pg hb hs (pos := pos)
  refine (base.or (ps_lock base)).via fun Dd σ H ⟨Γ, ρ, o, er, em, p⟩ => ?_
  obtain ⟨kds, hk, em⟩ := Option.bind_eq_some_iff.mp em
  obtain ⟨em, ne⟩ : forGo g s (kds.map itD) ρ = some o ∧ ∀ x ρ', o ≠ .er x ρ' := by
    cases z : forGo g s (kds.map itD) ρ with
    | none => rw [z] at em; cases em
    | some q =>
      rw [z] at em
      cases q with
      | er x ρ5 => cases em
      | nx ρ5 => cases em; exact ⟨rfl, fun _ _ z => nomatch z⟩
      | ct ρ5 => cases em; exact ⟨rfl, fun _ _ z => nomatch z⟩
      | bk ρ5 => cases em; exact ⟨rfl, fun _ _ z => nomatch z⟩
      | rt d => cases em; exact ⟨rfl, fun _ _ z => nomatch z⟩
  obtain ⟨v, hv1, r⟩ := er.slot i _ (slotT_at hk)
  cases r with
  | @dT a kvs _ _ _ na rd ek rv _ =>
    rcases rd with rd | ⟨od, rd⟩
    · right
      refine ⟨a, .dT kvs, rd, trivial, fun od => ?_⟩
      have e2 := er.lockT (od := od) rd na
      have h0 : ∀ u, Γ.H0 a = some u → u = .dT kvs := fun u h => by
        have := er.ext a u h
        rw [rd] at this
        cases this
        rfl
      have hr : ∀ p ∈ Γ.raw, p.1 = a → p.2 = .dT kvs := fun p h z => by
        have := (er.raw p h).2
        rw [z, rd] at this
        exact (Option.some.inj this).symm
      refine forIt_core hg e2 hv1 upd_same ek (rv.lockT rd) na em ne ?_
      have fin : ∀ {σ' : L2.St} {H' : Hp} {ρ' : Ro}, ER c (Γ.lock a (.frz od (.dT kvs))) σ' H' ρ' → H' a = some (.frz od (.dT kvs)) ∧ ER c Γ σ' (upd H' a (.dT kvs)) ρ' := fun e => ⟨(e.raw _ List.mem_cons_self).2, e.unlockT h0 hr⟩
      cases o with
      | nx ρ5 => exact fun σ' H' e => ⟨(fin e).1, p _ _ (fin e).2⟩
      | bk ρ5 => exact fun σ' H' e => ⟨(fin e).1, p _ _ (fin e).2⟩
      | ct ρ5 => exact fun σ' H' e => ⟨(fin e).1, p _ _ (fin e).2⟩
      | er x ρ5 => exact absurd rfl (ne x ρ5)
      | rt d =>
        intro v H' sm rr
        have ha : H' a = some (.frz od (.dT kvs)) := sm a _ upd_same
        refine ⟨ha, p v _ (fun b u h => ?_) (Rp.unlockT ha rr)⟩
        by_cases z : b = a
        · subst z
          rw [upd_same, h0 u h]
        · rw [upd_ne z]
          exact sm b u (by show (upd Γ.H0 a _) b = some u; rw [upd_ne z]; exact h)
    · left
      exact forIt_core hg er hv1 rd ek rv na em ne p
end
end DL

set_option Elab.async false
set_option linter.all false
set_option maxRecDepth 100000
set_option maxHeartbeats 2000000
set_option autoImplicit false
/-! DNg: [e for k, v in d.items() if ..], d a dict with tuple keys. -/
namespace DL
open PySem PySem.Spec PyProof.Rows L2
section
variable {X : Cx} {c : Conf} {W : WX}
theorem lcIt_core {vs is : List Nat} {g : MG} {tt : MT} {me : ME} {gg : TG} (hsub : ∀ i ∈ is, i ∈ vs) (kfx : vs.all (fun v => fxOk c.fx v) = true) (hg : GOk c is gg g)
    {Γ : Gam} {σ : L2.St} {H : Hp} {ρ : Ro} {j : Nat} {a : Addr} {od : Obj} {kvs : List (List Key × V)} {kds : List (List Key × D)} {ys : List DL.D} {Q : VK} (er : ER c Γ σ H ρ)
    (ha : σ[j]? = some (some (V.ref a))) (hf : H a = some (.frz od (.dT kvs))) (ek : kvs.map (·.1) = kds.map (·.1)) (rv : Rp c (NN Γ σ ρ) H (kvs.map (·.2)) (kds.map (·.2)))
    (no : noOwn ρ vs = true) (hlim : kds.length ≤ lim) (hys : lcGo g tt me (wipeR ρ vs) (kds.map itD) = some ys) (p : ∀ v H', Same H H' → VR c .own Γ σ ρ H' v (.lst ys) → Q v H') :
    tLc (iItemsT (tVar j)) gg (tT c W0 tt) (tE c W0 .dur me) vs σ H Q := by
  refine ⟨.ref a, ha, a, od, kvs, rfl, hf, fun D hD => ?_⟩
  have lu : kvs.length = kds.length := by simpa using congrArg List.length ek
  have h0 : Γ.H0 D = none := er.ext.free hD
  have nD : ¬ NN Γ σ ρ D := fun z => er.tracked z hD
  refine ⟨fun i m H' => m = kds.length - i ∧ i ≤ kds.length ∧ ∃ acc ys1 zs, H' D = some (.lst acc) ∧ Rp c (NN (Γ.add D) σ ρ) H' acc ys1 ∧ acc.length ≤ i ∧ Same H H' ∧ ER c (Γ.add D) σ H' ρ ∧ lcGo g tt me (wipeR ρ vs) ((kds.map itD).drop i) = some zs ∧ ys1 ++ zs = ys,
    ⟨_, rfl, Nat.zero_le _, [], [], ys, upd_same, .nil, Nat.le_refl _, same_new hD, er.addU hD, hys, rfl⟩, ?_⟩
  rintro i m H2 ⟨rfl, hil, acc, ys1, zs, hacc, racc, hal, s2, e2, em2, eys⟩
  have hP : H2 a = some (.frz od (.dT kvs)) := s2 _ _ hf
  by_cases hlt : i < kds.length
  · refine .inr ⟨⟨hP, by omega⟩, fun H' => ∃ acc ys1 zs, H' D = some (.lst acc) ∧ Rp c (NN (Γ.add D) σ ρ) H' acc ys1 ∧ acc.length ≤ i + 1 ∧ Same H H' ∧ ER c (Γ.add D) σ H' ρ ∧ lcGo g tt me (wipeR ρ vs) ((kds.map itD).drop (i + 1)) = some zs ∧ ys1 ++ zs = ys,
      fun H' z => ⟨kds.length - (i + 1), by omega, rfl, hlt, z⟩, fun x H3 y3 => ?_⟩
    obtain ⟨T, k, v, q, hkv, ex, hT, hq, eH⟩ := y3
    have hd : (kds.map itD)[i]? = some (itD kds[i]) := by rw [List.getElem?_map, List.getElem?_eq_getElem hlt]; rfl
    have ekk : kds[i].1 = k := by
      have : (kvs.map (·.1))[i]? = (kds.map (·.1))[i]? := by rw [ek]
      rw [List.getElem?_map, List.getElem?_map, hkv, List.getElem?_eq_getElem hlt] at this
      exact (Option.some.inj this).symm
    rw [List.drop_eq_getElem?_toList_append, hd] at em2
    have em2 : lcGo g tt me (wipeR ρ vs) (itD kds[i] :: (kds.map itD).drop (i + 1)) = some zs := em2
    unfold lcGo at em2
    obtain ⟨ρ3, hg3, em3⟩ := Option.bind_eq_some_iff.mp em2
    have ew := e2.wipe kfx
    have nnw : ∀ a, NN (Γ.add D) (wipe σ vs) (wipeR ρ vs) a → NN (Γ.add D) σ ρ a := fun a h => by
      rcases h with h | ⟨j, f, h1, h2⟩
      · exact .inl h
      · exact .inr ⟨j, f, (wipeR_some h1).1, (wipe_some h2).1⟩
    have rvi : Re c (NN (Γ.add D) (wipe σ vs) (wipeR ρ vs)) H2 v kds[i].2 := by
      refine Rp.step (fun a o n hq => ?_) (rv.at_ (i := i) (v := v) (d := kds[i].2) (by rw [List.getElem?_map, hkv]; rfl) (by rw [List.getElem?_map, List.getElem?_eq_getElem hlt]; rfl))
      refine ⟨s2 a o hq, fun z => ?_⟩
      rcases nnw a z with (z | z) | z
      · exact n (.inl z)
      · subst z; rw [hD] at hq; cases hq
      · exact n (.inr z)
    have ri := Same.pairT ew hT hq rvi
    rw [← ekk] at ri
    have sN : Same H2 H3 := by rw [eH]; exact same_new hT
    rw [← eH, ← ex] at ri
    have hacc := sN _ _ hacc
    have racc := racc.same sN
    have s2 := s2.trans sN
    have e2 := e2.same sN
    have ew := ew.same sN
    refine hg (Γ.add D) (wipe σ vs) H3 (wipeR ρ vs) ρ3 _ _ _ ew ri hg3 fun σ4 e4 l4 o4 => ⟨?_, ?_⟩
    · have : wipe σ4 vs = wipe (wipe σ vs) vs := wipe_set l4 fun j hj => (o4 j fun z => hj (hsub j z)).1
      rw [this]
      exact wipe_set (wipe_length σ vs) fun j hj => wipe_out hj
    have back : ∀ a, NN (Γ.add D) σ ρ a → NN (Γ.add D) σ4 ρ3 a := NN_blk hsub no o4
    cases et : tt ρ3 with
    | none => rw [et] at em3; cases em3
    | some w =>
      rw [et] at em3
      cases w with
      | error x => cases em3
      | ok b =>
        refine ⟨Γ.add D, ρ3, _, e4, et, fun H5 s5 e5 => ?_⟩
        cases b with
        | false =>
          rw [if_neg Bool.false_ne_true]
          exact ⟨acc, ys1, zs, s5 _ _ hacc, racc.same s5, by omega, s2.trans s5, e2.same s5, em3, eys⟩
        | true =>
          rw [if_pos rfl]
          dsimp only at em3
          cases ee : me ρ3 with
          | none => rw [ee] at em3; cases em3
          | some w =>
            rw [ee] at em3
            cases w with
            | error x => cases em3
            | ok y =>
              obtain ⟨zs', hz, rfl⟩ := Option.map_eq_some_iff.mp em3
              refine ⟨Γ.add D, ρ3, _, e5, ee, fun v H6 s6 r6 => ⟨acc, s6 _ _ (s5 _ _ hacc), Nat.lt_of_le_of_lt hal (Nat.lt_of_lt_of_le hlt (lim_ok hlim)), acc ++ [v], ys1 ++ [y], zs', upd_same, ?_, by simp; omega, ?_, ?_, hz, by simpa using eys⟩⟩
              · have n2 : NN (Γ.add D) σ ρ D := .inl (.inr rfl)
                exact Rp.step (mut_step n2) (((racc.same s5).same s6).app (r6.2.less back))
              · intro a o ha
                rw [upd_ne (ne_of_none ha hD)]
                exact s6 _ _ (s5 _ _ (s2 _ _ ha))
              · have e6 : ER c (Γ.add D) σ H6 ρ := (e2.same s5).same s6
                have n2 : NN (Γ.add D) σ ρ D := .inl (.inr rfl)
                have st' := mut_step (H := H6) (o := .lst (acc ++ [v])) n2
                exact {
                  len := e6.len
                  ext := fun a o ha => by
                    have ne : a ≠ D := fun z => by subst z; have := h0; rw [show Γ.H0 a = some o from ha] at this; cases this
                    rw [upd_ne ne]; exact e6.ext a o ha
                  utr := fun a ha => by
                    by_cases z : a = D
                    · subst z; exact Mt.upd fun _ z => by cases z
                    · exact (e6.utr a ha).off z
                  held := fun p hp => (e6.held p hp).step st'
                  raw := fun p hp => let z := st' _ _ (e6.raw p hp).1 (e6.raw p hp).2; ⟨z.2, z.1⟩
                  fx := e6.fx
                  own := e6.own
                  dis := e6.dis
                  slot := fun j f hf => let ⟨v, h1, h2⟩ := e6.slot j f hf; ⟨v, h1, h2.step st'⟩
                  mine := fun j f hf => let ⟨b, h1, h2⟩ := e6.mine j f hf; ⟨b, h1, h2.step (fun o ho => by
                    have ne : b ≠ D := fun z => by subst z; exact (e6.own j f b hf h1).2 (.inr rfl)
                    rw [upd_ne ne]; exact ho) st'⟩ }
  · have e : i = kds.length := by omega
    subst e
    rw [List.drop_eq_nil_of_le (by simp)] at em2
    cases em2
    rw [List.append_nil] at eys
    subst eys
    exact .inl ⟨⟨hP, by omega⟩, p (.ref D) H2 s2 ⟨D, rfl, h0, nD, e2, acc, hacc, racc⟩⟩
/-- the list is a value -/
theorem d_lcIt (i : Nat) {x : Str} {px apos cpos pos tpos : Pos} {elts : List Expr} {kk : Nat} {elt : Expr} {ifs : List Expr} {scope : Scope} {is : List Nat} {g : MG} {tt : MT} {me : ME} (own : List (Str × Nat)) (hc : X.calm = true) (hN : X.N.Nodup) (ok : blkC X.N X.env.scope scope own = true)
    {gg : TG} (pg : ∀ (s : Shared) (H : Hp) (C : Addr) (cl : List (Str × Addr)) (fp : List Addr), PG (X.blk s H scope (compEnvC scope cl C X.env) fp) (.Tuple elts kk tpos) gg) (hgg : GOk c is gg g)
    (ht : ∀ (s : Shared) (H : Hp) (C : Addr) (cl : List (Str × Addr)) (fp : List Addr), PTs (X.blk s H scope (compEnvC scope cl C X.env) fp) ifs (tT c W0 tt))
    (he : ∀ (s : Shared) (H : Hp) (C : Addr) (cl : List (Str × Addr)) (fp : List Addr), PE (X.blk s H scope (compEnvC scope cl C X.env) fp) elt (tE c W0 .dur me)) (hsub : ∀ i ∈ is, i ∈ own.map (·.2) := by decide)
    (kfx : (own.map (·.2)).all (fun v => fxOk c.fx v) = true := by rfl) (hNx : X.N[i]? = some x := by rfl) (hv : Vis X.env.scope x := by first | exact Or.inl rfl | exact Or.inr (Or.inl rfl) | exact Or.inr (Or.inr rfl)) (hd : (x == ("__debug__" : Str)) = false := by decide)
    (hcd : (x == ("__classdict__" : Str)) = false := by decide) (hbase : attributeBase (.Name x px) "items" X.env (eval (.Name x px) X.env) = eval (.Name x px) X.env := by rfl) (hline : (apos.endLine == cpos.line) = true := by rfl)
    (hs : ∀ y, foldedSetIterable (.Call (.Attribute (.Name x px) "items" apos) [] [] cpos) X.env y = pure y := by intro _; rfl) :
    PE X (.ListComp elt [⟨.Tuple elts kk tpos, .Call (.Attribute (.Name x px) "items" apos) [] [] cpos, ifs, 0⟩] scope pos) (tE c W .own (mLcIt i (own.map (·.2)) g tt me)) := by
  have base := pe_lc (elt := elt) (pos := pos) hc hN (pi_itemsT (elts := elts) (kk := kk) (tpos := tpos) (pv i hNx hv hd hcd) hbase hline) (blkOk_by ok) pg ht he hs
  refine (base.or (pe_lock base)).via fun σ H Q ⟨Γ, ρ, r, er, em, p⟩ => ?_
  obtain ⟨kds, hk, em⟩ := Option.bind_eq_some_iff.mp em
  obtain ⟨⟨no, hlim⟩, em⟩ := guard_ok em
  obtain ⟨ys, hys, rfl⟩ := Option.map_eq_some_iff.mp em
  obtain ⟨v, hv1, r⟩ := er.slot i _ (slotT_at hk)
  cases r with
  | @dT a kvs _ _ _ na rd ek rv _ =>
    rcases rd with rd | ⟨od, rd⟩
    · right
      refine ⟨a, .dT kvs, rd, trivial, fun od => ?_⟩
      have e2 := er.lockT (od := od) rd na
      have h0 : ∀ u, Γ.H0 a = some u → u = .dT kvs := fun u h => by
        have := er.ext a u h
        rw [rd] at this
        cases this
        rfl
      have hr : ∀ p ∈ Γ.raw, p.1 = a → p.2 = .dT kvs := fun p h z => by
        have := (er.raw p h).2
        rw [z, rd] at this
        exact (Option.some.inj this).symm
      refine lcIt_core hsub kfx hgg e2 hv1 upd_same ek (rv.lockT rd) no hlim hys fun v H' sm vr => ?_
      have hA : H' a = some (.frz od (.dT kvs)) := sm a _ upd_same
      refine ⟨hA, p v _ (fun b u h => ?_) ?_⟩
      · by_cases z : b = a
        · subst z
          rw [upd_same, ← h, rd]
        · rw [upd_ne z]
          exact sm b u (by rw [upd_ne z]; exact h)
      · obtain ⟨D, e1, g0, nD, eD, ow⟩ := vr
        have neD : D ≠ a := fun z => by
          subst z
          have g0 : (upd Γ.H0 D (.frz od (.dT kvs))) D = none := g0
          rw [upd_same] at g0
          cases g0
        have g0 : (upd Γ.H0 a (.frz od (.dT kvs))) D = none := g0
        rw [upd_ne neD] at g0
        refine ⟨D, e1, g0, nD, ER.unlockT (Γ := Γ.add D) eD h0 hr, ow.other (upd_ne neD) fun _ _ r => r.unlockT hA⟩
    · left
      exact lcIt_core hsub kfx hgg er hv1 rd ek rv no hlim hys p
end
end DL

set_option Elab.async false
set_option linter.all false
set_option maxRecDepth 100000
set_option maxHeartbeats 2000000
set_option autoImplicit false
/-! DNh: {k: v} with a tuple key; sum(d.values()), d a dict with tuple keys. -/
namespace DL
open PySem PySem.Spec PyProof.Rows L2
def valsO (p d : Addr) : HO := .ext fun h => h.IsValuesView p d
theorem valsO_ok {P : Program} {w : World} {H : Hp} {h : Heap} {p d : Addr} (e : h.get? p = some { cls := .type "dict_values", data := .fields #[.ref d] }) : ObjOk P w H h p (valsO p d) :=
  ⟨⟨_, e, rfl, rfl⟩, ⟨_, e⟩, fun h1 h2 x k => let ⟨o, ho, r⟩ := x; ⟨o, k o ho, r⟩⟩
def tValsT (td : TE) : TE := fun σ H Q => td σ H fun x H1 => ∃ (d : Addr) (kvs : List (List Key × V)), x = .ref d ∧ Rd H1 d (.dT kvs) ∧ ∀ p, H1 p = none → Q (.ref p) (upd H1 p (valsO p d))
section
variable {X : Cx} {e : Expr} {td : TE} {apos cpos : Pos}
theorem pe_valsT (he : PE X e td) (hbase : attributeBase e "values" X.env (eval e X.env) = eval e X.env := by rfl) (hline : (apos.endLine == cpos.line) = true := by rfl) : PE X (.Call (.Attribute e "values" apos) [] [] cpos) (tValsT td) := by
  refine ⟨fun pins s σ H Q I h => ?_⟩
  refine wpAny_Call_method (T := "dict") (id := "dict.values") hbase rfl hline F.plainAttrs_dict F.slot_dict_values F.type_dict_values (thn (he.run pins s σ H _ I h) fun u s1 ⟨x, H1, I1, rx, d, kvs, ex, hr, q⟩ => ?_)
  subst ex
  obtain rfl : u = Value.ref d := rx
  obtain ⟨hz, lo, es, ep, o, ho, hx, hd, hsz, ent⟩ := inv_rdT I1 hr
  have hm : s1.heap.DictRaw d es ep := ⟨o, ho, hx, hd⟩
  refine ⟨hm.typeIs, fun b q => by cases q; exact ⟨o, ho, hx.2.1⟩, ?_⟩
  have hf : H1 s1.heap.objs.size = none := I1.hok.fresh (Nat.le_refl _)
  have fin : EP X pins σ Q (.ref s1.heap.objs.size) { s1 with heap := s1.heap.push { cls := .type "dict_values", data := .fields #[.ref d] } } :=
    ⟨.ref s1.heap.objs.size, upd H1 s1.heap.objs.size (valsO s1.heap.objs.size d), I1.laid (t' := s1.toks) (fun b u e => Heap.get?_push_of_some _ e) (Nat.le_refl _) (valsO_ok (Heap.get?_push_size _ rfl)), rfl, q _ hf⟩
  show wpAny _ _ (callWith cpos (.builtin "dict.values") [.ref d] [] []) _ X.xe s1
  exact method_meetsIn F.slot_dict_values F.entry_dict_values rfl (PySem.evalArgs_none ⟨rfl, hm.typeIs, F.args_dict_values_1 _, _, meets_dict_values_raw d lo, ⟨es, ep, hm⟩, fin⟩)
end
section
variable {prog : Program} {w : World} {d r : Addr} {es : Array DictEntry} {ep : Nat}
theorem kdl_rawV : PySem.W.KdlSrc prog w "dict_values" r d es.size (fun i v => ∃ hi : i < es.size, v = es[i].val) (fun h => h.IsValuesView r d ∧ h.DictRaw d es ep) where
  type := fun s hm => let ⟨o, ho, hc, _⟩ := hm.1; ⟨o, ho, hc⟩
  there := fun _ hm => ⟨let ⟨_, ho, _⟩ := hm.1; Heap.lt_size ho, raw_lt hm.2⟩
  keep := fun _ _ hm hk => ⟨let ⟨o, ho, x⟩ := hm.1; ⟨o, hk r (.inl rfl) o ho, x⟩, hm.2.at fun o e => hk d (.inr rfl) o e⟩
  notList := by decide
  notTuple := by decide
  hint := fun _ _ s _ hm hq => PySem.W.kdl_hint_values (let ⟨o, ho, hc, _⟩ := hm.1; ⟨o, ho, hc⟩) hq
  iter := fun _ _ hh hm => ⟨_, _, (fun _ _ hq => wpAny_pyIter_values_raw hm.1 hm.2 hq), Walks.rawValues hh _ d (Nat.ne_of_lt (raw_lt hm.2)) es ep, ⟨⟨_, Heap.get?_push_size _ rfl, rfl, rfl⟩, hm.2.at fun o e => Heap.get?_push_of_some _ e⟩⟩
theorem preSum_sum (f : Nat → Int) : ∀ n, preSum f n = ((List.range n).map f).sum
  | 0 => rfl
  | n + 1 => by
    show preSum f n + f n = _
    rw [List.range_succ, List.map_append, List.sum_append, preSum_sum f n]
    simp
end
def rSumV : List V → Hp → VK → Prop := fun vs H Q => ∃ (p a : Addr) (kvs : List (List Key × V)) (ns : List Int), vs = [V.ref p] ∧ H p = some (valsO p a) ∧ Rd H a (.dT kvs) ∧ kvs.map (·.2) = ns.map V.int ∧ Q (.int ns.sum) H
section
variable {X : Cx}
theorem cr_sumV (hc : X.calm = true) : CallR X (.builtin "sum") rSumV := by
  intro pins s σ H vs us Q I r h
  obtain ⟨p, a, kvs, ns, rfl, hp, hr, ev, q⟩ := h
  obtain ⟨u, rfl, ru⟩ := vals1 r
  obtain rfl : u = Value.ref p := ru
  obtain ⟨hz, lo, es, ep, o, ho, hx, hd, hsz, ent⟩ := inv_rdT I hr
  have hm : s.heap.DictRaw a es ep := ⟨o, ho, hx, hd⟩
  have hv : s.heap.IsValuesView p a := (I.hok p _ hp).1
  have ln : kvs.length = ns.length := by simpa using congrArg List.length ev
  have hok := And.intro hv hm
  refine call_sum_walkAnyS ?_
  obtain ⟨oI, St, hit, W, st⟩ := (kdl_rawV (prog := X.prog) (w := X.w) (r := p) (d := a) (es := es) (ep := ep)).iter X.A.in1 s (I.ok.hd hc) hok
  refine hit _ _ ⟨s.heap.objs.size, _, _, _, es.size, _, _, fun i => ns.getD i 0, rfl, W.toS, st, fun b hb => ?_, fun i v hu => ?_, fun s' t' hmv => ?_⟩
  · show b < (s.heap.push oI).objs.size
    rw [size_push']
    rcases List.mem_cons.mp hb with e | hb
    · rw [e]; exact Nat.lt_succ_self _
    · rw [List.mem_singleton.mp hb]; exact Nat.lt_succ_of_lt (raw_lt hm)
  · obtain ⟨hi, rfl⟩ := hu
    obtain ⟨⟨k, y⟩, hkv⟩ : ∃ z, kvs[i]? = some z := ⟨kvs[i], List.getElem?_eq_getElem (by omega)⟩
    obtain ⟨en, q', h1, _, _, rv⟩ := ent i k y hkv
    rw [Array.getElem?_eq_getElem hi] at h1
    cases h1
    have : (kvs.map (·.2))[i]? = some y := by rw [List.getElem?_map, hkv]; rfl
    rw [ev, List.getElem?_map] at this
    obtain ⟨n, hn, rfl⟩ := Option.map_eq_some_iff.mp this
    obtain ⟨t, et⟩ := rv
    refine ⟨t, ?_⟩
    rw [et]
    show Value.int n t = Value.int (ns.getD i 0) t
    rw [List.getD_eq_getElem?_getD, hn]
    rfl
  · have hk : ∀ b o, s.heap.get? b = some o → s'.heap.get? b = some o := fun b o e =>
      hmv.heap b o (fun hI => absurd (Heap.lt_size e) (by rw [List.mem_singleton.mp hI]; exact Nat.lt_irrefl _)) (Heap.get?_push_of_some _ e)
    rw [Moved.eq_with hmv]
    have es' : preSum (fun i => ns.getD i 0) es.size = ns.sum := by
      rw [preSum_sum]
      congr 1
      refine List.ext_getElem? fun i => ?_
      rw [List.getElem?_map]
      by_cases hi : i < ns.length
      · rw [List.getElem?_range (by omega), List.getElem?_eq_getElem hi]
        show some (ns.getD i 0) = _
        rw [List.getD_eq_getElem?_getD, List.getElem?_eq_getElem hi]
        rfl
      · rw [List.getElem?_eq_none (l := ns) (by omega), List.getElem?_eq_none (by rw [List.length_range]; omega)]
        rfl
    rw [es']
    exact ⟨.int ns.sum, H, I.kept (t' := s'.toks) hk, ⟨_, rfl⟩, q⟩
variable {c : Conf} {W : WX}
def dSumV : D → R D
  | .dT kds => (ints? (kds.map (·.2))).map fun ns => .ok (.int ns.sum)
  | _ => none
theorem d_sumV (hc : X.calm = true) {e : Expr} {m : ME} {p apos cpos pos : Pos} (he : PE X e (tE c W .bor m)) (hm : X.mg "sum" = none) (hg : Gl X "sum" := by rfl) (hb : bootBuiltins "sum" = some (.builtin "sum") := by decide +kernel)
    (hbase : attributeBase e "values" X.env (eval e X.env) = eval e X.env := by rfl) (hline : (apos.endLine == cpos.line) = true := by rfl)
    (he1 : starEach [.Call (.Attribute e "values" apos) [] [] cpos] X.env = (false, eval (.Call (.Attribute e "values" apos) [] [] cpos) X.env) :: starEach [] X.env := by rfl) (hpl : (backTo pos (starEach [] X.env)).any (·.1) = false := by rfl) :
    PE X (.Call (.Name "sum" p) [.Call (.Attribute e "values" apos) [] [] cpos] [] pos) (tE c W .dur (mUn dSumV m)) :=
  (pe_callB (cr_sumV hc) hg hm hb (pa_cons (pe_valsT he hbase hline) pa_nil he1) (by decide) (by decide) he1 hpl).via fun σ H Q ⟨Γ, ρ, r, er, em, p⟩ => by
    have em : bnd (m ρ) dSumV = some r := em
    refine use er em p.err fun d v H1 h1 s1 r1 => ?_
    unfold dSumV at h1
    split at h1
    · rename_i kds
      obtain ⟨ns, hn, h1⟩ := Option.map_eq_some_iff.mp h1
      subst h1
      obtain ⟨a, kvs, rfl, rd, ek, rv⟩ := r1.2
      refine ⟨a, kvs, rfl, rd, fun q hq => ?_⟩
      have rd2 : Rd (upd H1 q (valsO q a)) a (.dT kvs) := rd.imp (fun z => same_new hq _ _ z) fun ⟨o, z⟩ => ⟨o, same_new hq _ _ z⟩
      exact ⟨q, a, kvs, ns, rfl, upd_same, rd2, rv.ints? hn, fin_int (p.mono (s1.trans (same_new hq))) (r1.1.same (same_new hq))⟩
    · cases h1
/-! ### {k: v} -/
def tDispT (tk tv : TE) : TE := fun σ H Q => ∀ p, H p = none → tPairs [(tk, tv)] σ (upd H p (.dT [])) fun ps H2 => ∃ (k : List Key) (b : Addr) (y : V), ps = [(.ref b, y)] ∧ H2 p = some (.dT []) ∧ H2 b = some (.tup (k.map kV)) ∧ Q (.ref p) (upd H2 p (.dT [(k, y)]))
theorem pe_dispT (hu : X.A.units + 1 < cLine) {k v : Expr} {tk tv : TE} {pos : Pos} (hk : PE X k tk) (hv : PE X v tv) : PE X (.Dict [some k] [v] pos) (tDispT tk tv) := by
  refine ⟨fun pins s σ H Q I q => ?_⟩
  have hn := I.hok.fresh (Nat.le_refl s.heap.objs.size)
  have I1 := I.laid (a := s.heap.objs.size) (o := .dT []) (h' := s.heap.push { cls := .type "dict", data := .dict #[] }) (t' := s.toks) (fun _ _ q => Heap.get?_push_of_some _ q) (Nat.le_refl _) (dt_empty s.heap I.big)
  have run := (pps_cons (pos := pos) hk hv pps_nil).run pins _ σ _ _ I1 (q _ hn)
  have hln := pairTrees_length [some k] [v] X.env pos rfl rfl
  rw [arm_eval_Dict, zip_pairTrees [some k] [v] X.env pos rfl rfl, dictDisplay_pairs (pairTrees [some k] [v] X.env pos) (fun he => by rw [he] at hln; cases hln) (by rw [hln]; show 1 < 17; decide)]
  refine wpAny_bind (wpAny_standAt (wpAny_bind (wpAny_subDictH (knd := tupleKind (mixKind X.prog X.w)) (Q := fun d s' => wpAny (model X.prog X.w) X.A (pure (Value.ref d)) (EP X pins σ Q) X.xe s') (by show X.A.units < cLine; omega) (by rw [hln]; show 1 ≤ 15; decide) (thn run fun ws s2 ⟨ps, H2, I2, rel, k', b, y, ep, hp, hb, q2⟩ => ?_))))
  subst ep
  cases rel with
  | @cons _ w0 _ _ r rr =>
    cases rr
    obtain ⟨r1, r2⟩ := r
    obtain ⟨w1, w2⟩ := w0
    obtain rfl : w1 = Value.ref b := r1
    obtain ⟨z, hd, vs0, r0, dd⟩ := dt_of I2.hok hp
    cases r0
    refine ⟨[(k', b, w2)], ⟨rfl, rfl, key_of I2.hok hb, True.intro⟩, dd, fun h' tk dk hs => wpAny_pure ⟨.ref s.heap.objs.size, _, ?_, rfl, q2⟩⟩
    obtain ⟨o, es, ep, hq, h2, h3, h4, _, h5⟩ := dk
    refine d_write I2 (by rw [hp]; exact True.intro) hs ⟨o, hq⟩ ⟨by show 1 ≤ sizeLine; rw [sizeLine_eq]; decide, hd, _, Paired.cons (a := (k', y)) (b := (k', b, w2)) ⟨rfl, ?_, r2⟩ .nil, o, es, ep, hq, h2, h3, h4, h5⟩
    show (upd H2 s.heap.objs.size _) b = _
    rw [upd_ne (fun e => by rw [e, hp] at hb; cases hb)]
    exact hb
variable {c : Conf} {W : WX}
def mDispT (mk mv : ME) : ME := fun ρ => bnd (mk ρ) fun kd => bnd (mv ρ) fun d => (tkD kd).map fun k => .ok (.dT [(k, d)])
theorem d_dispT (hu : X.A.units + 64 < cLine) {k v : Expr} {mk mv : ME} {pos : Pos} (hk : PE X k (tE c W .bor mk)) (hv : PE X v (tE c W .dur mv)) : PE X (.Dict [some k] [v] pos) (tE c W .own (mDispT mk mv)) :=
  (pe_dispT (by omega) hk hv).via fun σ H Q ⟨Γ, ρ, r, er, em, p⟩ => by
    intro D hD
    have h0 : Γ.H0 D = none := er.ext.free hD
    have nD : ¬ NN Γ σ ρ D := fun z => er.tracked z hD
    have e1 : ER c (Γ.add D) σ (upd H D (.dT [])) ρ := er.addU hD
    have pe : ∀ x, r = .error x → Er c W (Γ.add D) σ ρ x := fun x e C H' e' hc => p.err x e C H' e'.subU hc
    refine use (r := r) e1 em pe fun kd x H1 h1 s1 r1 => use (r := r) r1.1 h1 pe fun d y H2 h2 s2 r2 => ?_
    obtain ⟨ks, hks, h2⟩ := Option.map_eq_some_iff.mp h2
    subst h2
    obtain ⟨b, ev, eb⟩ := tkD_v hks (r1.2.same s2)
    have hp : H2 D = some (.dT []) := s2 _ _ (s1 _ _ upd_same)
    refine ⟨ks, b, y, by rw [ev], hp, eb, p _ _ (fun a o ha => ?_) ⟨D, rfl, h0, nD, r2.1.grow h0 _, [(ks, y)], upd_same, rfl, ?_⟩⟩
    · rw [upd_ne (ne_of_none ha hD)]
      exact s2 _ _ (s1 _ _ (same_new hD _ _ ha))
    · exact Rp.step (mut_step (show NN (Γ.add D) σ ρ D from .inl (.inr rfl))) r2.2
end
end DL

set_option Elab.async false
set_option linter.all false
set_option maxRecDepth 100000
set_option maxHeartbeats 2000000
set_option autoImplicit false
/-! DNi: list comprehensions whose items may raise. -/
namespace DLS
open PySem PySem.Spec PyProof.Rows L2
theorem noteFrame_eq {e : Value} {env env' : Env} (h : env.frame = env'.frame) : noteFrame e env = noteFrame e env' := by
  unfold PySem.noteFrame PySem.frameOf
  rw [h]
/-- what is wished behind a comprehension's block, an error too -/
def compPostE (M : Model) (A : Around) (E : Value → Shared → Prop) (use : Option (Value → Sem Unit)) (Q : Value → Shared → Prop) (acc : Value) (C : Addr) (fr : Option Addr) (r : Result) (s' : Shared) : Prop :=
  match r with
  | .ok f => compPost M A E use Q acc C (.ok f) s'
  | .error x => ∃ m, s'.heap.Ns C m ∧ ∀ h', Heap.SameBut C s'.heap h' → ∀ cenv : Env, cenv.frame = fr → wpAny M A (passOn "comprehension.variables-let-go" x cenv : Sem Value) (fun _ _ => False) E { s' with heap := h' }
section
variable {M : Model} {A : Around} {E : Value → Shared → Prop} {s : Shared} {env : Env}
theorem comp_freeE {e : Expr} {scope : Scope} {pos : Pos} {newAcc first : Sem Value} {g : Comprehension} {gs : List Comprehension} {cl : List (Str × Addr)} {use : Option (Value → Sem Unit)} {Q : Value → Shared → Prop}
    (hcl : clausesOf e = g :: gs) (hs : ∀ x, foldedSetIterable g.iter env x = pure x) (hclos : closureFor scope env = pure cl) (hkind : scope.kind = .function) (hnames : ∀ x ∈ scope.names, x.2 = .local → scope.names.lookup x.1 = some .local)
    (h : wpAny M A first (fun x s₁ => wpAny M A (pyIter x) (fun it s₂ => wpAny M A newAcc (fun acc s₃ => wpAny M A (newFunctionEnv scope env.globals cl [] env.qual none .none (some env)) (fun cenv s₄ =>
      codeAny M A (.compStart e 0 it acc { cenv with scope := relabel scope env }) (compPostE M A E use Q acc cenv.locals cenv.frame) s₄) E s₃) E s₂) E s₁) E s) : wpAny M A (comprehension e scope env pos newAcc false first use) Q E s := by
  have names : ∀ (cenv : Env) (l : List (Str × NameKind)), (∀ x ∈ l, x ∈ scope.names) → ∀ x ∈ l, x.2 = .local → Env.kindOf { cenv with scope := relabel scope env } x.1 = some .local := fun cenv l hl x hx hk => lookup_relabel_local (hnames x (hl x hx) hk)
  have f1 : ∀ x ∈ (scope.names.filter fun x => (x.2 == .local || x.2 == .cell) && x.1 != (".0" : Str)).reverse, x ∈ scope.names := fun x hx => (List.mem_filter.mp (List.mem_reverse.mp hx)).1
  unfold comprehension
  rw [hclos, hcl]
  refine wpAny_bind (wpAny_mono h (fun x s₁ h₁ => wpAny_bind (wpAny_standAt (wpAny_bind (wpAny_of_eq (hs x) (wpAny_bind (wpAny_holding (wpAny_mono h₁ (fun it s₂ h₂ => wpAny_standIf (wpAny_bind (wpAny_mono h₂ (fun acc s₃ h₃ =>
    wpAny_bind (wpAny_pure (wpAny_bind (wpAny_mono h₃ (fun cenv s₄ h₄ => ?_) fun _ _ z => z)))) fun _ _ z => z))) fun _ _ z => z))))))) fun _ _ z => z)
  dsimp only
  refine wpAny_holding (wpAny_bind (wpAny_attempt (wpAny_holding (wpAny_run (codeAny_mono h₄ fun r s' hr => ?_)))))
  cases r with
  | ok f =>
    have hr : compPost M A E use Q acc cenv.locals (.ok f) s' := hr
    cases use with
    | none =>
      obtain ⟨m, hn, hr⟩ := hr
      exact wpAny_bind (wpAny_holding (wpAny_comp_letGo (cenv := { cenv with scope := relabel scope env }) hkind _ s' m (names cenv _ f1) hn fun h' m' _ hs' => wpAny_pure (hr h' hs')))
    | some u =>
      refine wpAny_bind (wpAny_rule (wpAny_bind (wpAny_holding (wpAny_mono hr (fun _ s'' z => ?_) fun _ _ z => z))))
      obtain ⟨m, hn, z⟩ := z
      refine wpAny_bind (wpAny_comp_letGo (cenv := { cenv with scope := relabel scope env }) hkind _ s'' m (names cenv _ fun x hx => f1 x ?_) hn fun h' m' _ hs' => wpAny_pure (z h' hs'))
      rcases List.mem_append.mp hx with q | q
      · exact List.mem_of_mem_drop q
      · exact List.mem_of_mem_take q
  | error x =>
    obtain ⟨m, hn, hr⟩ := (show ∃ m, s'.heap.Ns cenv.locals m ∧ ∀ h', Heap.SameBut cenv.locals s'.heap h' → ∀ cenv' : Env, cenv'.frame = cenv.frame → wpAny M A (passOn "comprehension.variables-let-go" x cenv' : Sem Value) (fun _ _ => False) E { s' with heap := h' } from hr)
    exact wpAny_bind (wpAny_holding (wpAny_comp_letGo (cenv := { cenv with scope := relabel scope env }) hkind _ s' m (names cenv _ f1) hn fun h' m' _ hs' => wpAny_mono (hr h' hs' _ rfl) (fun _ _ f => f.elim) fun _ _ y => y))
end
open HandSPX in
/-- noted by the frame, whatever flight it bears -/
theorem looks_anyZ {M : Model} {A : Around} {E : Value → Shared → Prop} {s : Shared} {Z : Obj → Prop} {base : Heap} {env : Env} {outer : List Env} {L L' e : Addr} {Q : Unit → Shared → Prop} (hZ : Steady Z) (hfr : A.frames = some (env :: outer)) (hf : env.frame = some L) (hfl : HeldZ base (env :: outer) e Z L' s.heap) (hne : L' ≠ L)
    (hQ : ∀ h', HeldZ base (env :: outer) e Z L h' → s.heap.UpToSlots h' → Q () { s with heap := h' }) : wpAny M A (noteFrame (.ref e) env) Q E s := by
  obtain ⟨hkb, hen, hl, oe, vs, T, oT, ts, he, hz, hd, h1, hnT, hTe, hT, hdT, h3⟩ := hfl
  unfold noteFrame
  simp only [hf]
  refine wpAny_bind (wpAny_field he hd h1 ?_)
  rw [if_pos (show (Value.ref T != Value.none) = true from by simp)]
  refine wpAny_bind (wpAny_field hT hdT h3 ?_)
  rw [if_neg (show ¬ ((rawInt L' == rawInt L) = true) from by simp [rawInt]; exact fun z => hne (Int.ofNat.inj z))]
  refine wpAny_bind (wpAny_setField hT hdT (Array.getElem?_eq_some_iff.mp h3).1 ?_)
  have other : ∀ b, b ≠ T → (s.heap.update T (Obj.mapFields (·.setIfInBounds 3 Value.none))).get? b = s.heap.get? b := fun b hb => Heap.get?_update_other _ _ (Ne.symm hb)
  have noRecord : ∀ b o, s.heap.get? b = some o → (∀ vs, o.data ≠ .fields vs) → b ≠ T := fun b o hb hnf q => by
    rw [q, hT] at hb; injection hb with hb; subst hb; exact hnf ts hdT
  refine wpAny_entryZ hZ hfr (hl.of_keeps fun b o hb hnf => ⟨o, (other b (noRecord b o hb hnf)).trans hb, rfl⟩) hf ((other e (Ne.symm hTe)).trans he)
    (fun b o hbo => (other b fun q => by rw [q, hnT] at hbo; cases hbo).trans (hkb b o hbo)) hen hd (Array.getElem?_eq_some_iff.mp h1).1 hz fun h' hN => ?_
  obtain ⟨x1, x2, x3, x4⟩ := hN
  exact hQ h' ⟨x1, hen, x2, x3⟩ fun b o hb hnf => x4 b o ((other b (noRecord b o hb hnf)).trans hb) hnf
theorem frames_but {B h h' : Heap} {C : Addr} (k : ∀ b, b ≠ C → h'.get? b = h.get? b) : ∀ {l : List Env}, h.FunFrames B l → C ∉ frs l → h'.FunFrames (PySem.W.hideAll B [C]) l
  | [], _, _ => trivial
  | env :: l, x, hC => by
    obtain ⟨hk, ⟨L, o, hf, hb, ho, hd⟩, hr⟩ := x
    have hL : L ≠ C := fun z => hC (List.mem_filterMap.mpr ⟨env, List.mem_cons_self, by rw [hf, z]⟩)
    refine ⟨hk, ⟨L, o, hf, ?_, (k L hL).trans ho, hd⟩, frames_but k hr fun z => hC ?_⟩
    · cases q : (PySem.W.hideAll B [C]).get? L with
      | none => rfl
      | some u =>
        have := PySem.W.of_hideAll _ q
        rw [hb] at this; cases this
    · obtain ⟨e, he, q⟩ := List.mem_filterMap.mp z
      exact List.mem_filterMap.mpr ⟨e, List.mem_cons_of_mem _ he, q⟩
section
variable {X : Cx} {pins : List (Addr × Obj)} {σ : L2.St} {H3 : Hp} {s3 s' : Shared} {W : WX} {scope : Scope} {cl : List (Str × Addr)} {fp : List Addr} {xe : Value → Shared → Prop} {E₁ : Value → Shared → Prop}
/-- an exception of the block goes on in the frame -/
theorem blk_raise (hs : X.stack = X.env :: X.outer) (hf : X.env.frame = some X.env.locals) (tk : Takes X W) (I3 : L2.Inv X pins σ H3 s3) (f3 : ∀ b ∈ fp, FpOk X pins H3 b) {u : Value}
    (x : XE ((X.blk s3 H3 scope (compEnvC scope cl s3.heap.objs.size X.env) fp).wish xe) (fun cls d _ H' => W cls d σ H') u s') :
    wpAny (model X.prog X.w) X.A (noteFrame u (compEnvC scope cl s3.heap.objs.size X.env)) (fun _ s2 => ∃ m, s2.heap.Ns s3.heap.objs.size m ∧ ∀ h', Heap.SameBut s3.heap.objs.size s2.heap h' → ∀ cenv : Env, cenv.frame = X.env.frame →
      wpAny (model X.prog X.w) X.A (passOn "comprehension.variables-let-go" u cenv : Sem Value) (fun _ _ => False) X.xe { s2 with heap := h' }) E₁ s' := by
  obtain ⟨a, B, sI, pins', σ', H', cls, d, rfl, J, nb, up, sky, na, os, ag, w⟩ := x
  rw [noteFrame_eq (env := compEnvC scope cl s3.heap.objs.size X.env) (env' := X.env) rfl]
  have hfr : X.A.frames = some (X.env :: X.outer) := by rw [I3.ok.frames, hs]
  obtain ⟨C, hC⟩ : ∃ C, C = s3.heap.objs.size := ⟨_, rfl⟩
  have cf : C ∉ frs X.stack := fun z => by
    obtain ⟨_, o, ho, _⟩ := I3.stack.mem z
    have := Heap.lt_size ho
    rw [hC] at this
    exact Nat.lt_irrefl _ this
  have cL : C ≠ X.env.locals := fun z => cf (by rw [hs]; exact List.mem_filterMap.mpr ⟨X.env, List.mem_cons_self, by rw [hf, z]⟩)
  have nC : H' C = none := by rw [hC]; exact J.free
  have fin : ∀ h2, HandSPX.HeldZ B (X.env :: X.outer) a (Zc cls d) X.env.locals h2 → s'.heap.UpToSlots h2 → ∃ m, h2.Ns s3.heap.objs.size m ∧ ∀ h', Heap.SameBut s3.heap.objs.size h2 h' → ∀ cenv : Env, cenv.frame = X.env.frame →
      wpAny (model X.prog X.w) X.A (passOn "comprehension.variables-let-go" (.ref a) cenv : Sem Value) (fun _ _ => False) X.xe { s' with heap := h' } := fun h2 hh up2 => by
    have J2 := J.landed (s' := { s' with heap := h2 }) nb hh.1 (up.trans up2) os ag
    obtain ⟨m, hn, _⟩ := J2.loc
    have hn : h2.Ns s3.heap.objs.size m := hn
    refine ⟨m, hn, fun h3 sb cenv hcf => ?_⟩
    rw [← hC] at hn sb
    obtain ⟨oC, esC, epC, hoC, hdC, _⟩ := id hn
    obtain ⟨k1, k2, k3, oe, vs, T, oT, ts, he, hz, hd, h1, hnT, hTe, hT, hdT, h3'⟩ := hh
    have aC : a ≠ C := fun z => by
      rw [z, hoC] at he
      cases he
      rw [hdC] at hd
      cases hd
    have tC : T ≠ C := fun z => by
      rw [z, hoC] at hT
      cases hT
      rw [hdC] at hdT
      cases hdT
    have hB : ∀ b o, (PySem.W.hideAll B [C]).get? b = some o → B.get? b = some o ∧ b ≠ C := fun b o e => ⟨PySem.W.of_hideAll _ e, fun z => by
      rw [PySem.W.hideAll_none _ (List.mem_singleton.mpr z)] at e
      cases e⟩
    have hBn : ∀ b, B.get? b = none → (PySem.W.hideAll B [C]).get? b = none := fun b e => by
      cases q : (PySem.W.hideAll B [C]).get? b with
      | none => rfl
      | some o => rw [(hB b o q).1] at e; cases e
    have hh3 : HandSPX.HeldZ (PySem.W.hideAll B [C]) (X.env :: X.outer) a (Zc cls d) X.env.locals h3 :=
      ⟨fun b o e => (sb.2 b (hB b o e).2).trans (k1 b o (hB b o e).1), hBn a k2, frames_but (fun b hb => sb.2 b hb) k3 (by rw [← hs]; exact cf), oe, vs, T, oT, ts, (sb.2 a aC).trans he, hz, hd, h1, hBn T hnT, hTe, (sb.2 T tC).trans hT, hdT, h3'⟩
    unfold PySem.passOn
    refine wpAny_bind (wpAny_field ((sb.2 a aC).trans he) hd h1 ?_)
    rw [if_neg (show ¬ ((Value.ref T == Value.none) = true) from by simp)]
    have out : wpAny (model X.prog X.w) X.A (setFlight (.ref a) cenv.frame) (fun _ s4 => wpAny (model X.prog X.w) X.A (throw (.ref a) : Sem Value) (fun _ _ => False) X.xe s4) X.xe { s' with heap := h3 } := by
      rw [hcf, hf]
      refine HandSPX.setFlight_onZ hh3 fun h4 hh4 up4 => wpAny_throw (tk _ _ ?_)
      have gI : ∀ b o, (PySem.W.hideAll sI.heap [C]).get? b = some o → sI.heap.get? b = some o ∧ b ≠ C := fun b o e => ⟨PySem.W.of_hideAll _ e, fun z => by
        rw [PySem.W.hideAll_none _ (List.mem_singleton.mpr z)] at e
        cases e⟩
      have gk : ∀ b o, b ≠ C → sI.heap.get? b = some o → (PySem.W.hideAll sI.heap [C]).get? b = some o := fun b o hb e => PySem.W.hideAll_get _ e fun z => hb (List.mem_singleton.mp z)
      have old : ∀ b o, s3.heap.get? b = some o → b ≠ C := fun b o e z => by
        have := Heap.lt_size e
        rw [z, hC] at this
        exact Nat.lt_irrefl _ this
      have U : Un (frs X.stack) fp H3 H' s3.heap sI.heap := J.base
      have I' : L2.Inv X pins σ H' { sI with heap := PySem.W.hideAll sI.heap [C] } := I3.call' (ch := fp) J.os
        ⟨fun b o e n hb hx => gk b o (old b o e) (U.keep b o e n hb hx), fun b o e n hb hx => (U.slot b o e n hb hx).imp fun sl q => gk b _ (old b o e) q, U.free, fun b o e hx => (U.there b o e hx).imp fun o' q => gk b o' (old b o e) q, U.tups, U.frzs, U.tbls⟩
        (fun b o q => (J.hok b o q).stay (fun c v hc r => gk c v (fun z => by
          subst z
          rcases hc with hc | hc
          · rw [← hc, nC] at q; cases q
          · rw [nC] at hc; cases hc) r) (fun _ r => r) fun _ _ r => r) J.bare fun b hb => ⟨(f3 b hb).2.2.2.1, (f3 b hb).2.1, (f3 b hb).2.2.2.2.1, (f3 b hb).2.2.2.2.2⟩
      refine ⟨a, PySem.W.hideAll B [C], { sI with heap := PySem.W.hideAll sI.heap [C] }, pins, σ, H', cls, d, rfl, I', fun b o e hb => ?_, fun b o e hnf => ?_, .inr (.inr (by rw [hs]; exact hh4)), na, os, ag, w⟩
      · obtain ⟨e1, e2⟩ := gI b o e
        exact PySem.W.hideAll_get _ (nb b o e1 hb) fun z => e2 (List.mem_singleton.mp z)
      · obtain ⟨e1, e2⟩ := gI b o e
        obtain ⟨sl1, q1⟩ := (up.trans up2) b o e1 hnf
        exact up4 b { o with slots := sl1 } ((sb.2 b e2).trans q1) hnf
    first
      | exact wpAny_bind (wpAny_pure (wpAny_bind out))
      | exact wpAny_bind out
  have sky : Sky B (X.env :: X.outer) a (Zc cls d) C s'.heap := by rw [← hs, hC]; exact sky
  rcases sky with ⟨hB, hn, hl, oe, vs, he, hz, hd, h1⟩ | fl | hh
  · exact HandSPX.look_newZ Zc.steady hfr hl hf he hB hn hd h1 hz fin
  · exact HandSPX.looks_onZ Zc.steady hfr hf fl fin
  · exact looks_anyZ Zc.steady hfr hf hh cL fin
end

section
variable {X : Cx} {pins : List (Addr × Obj)} {σ : L2.St} {H : Hp} {s : Shared} {W : WX}
theorem lcE_core {Q : VK} {elt tg iter : Expr} {ifs : List Expr} {scope : Scope} {own : List (Str × Nat)} {pos pos' : Pos} {wi : TI} {g : TG} {tt : TT} {te : WX → TE} {use : Option (Value → Sem Unit)} {Qf : Value → Shared → Prop}
    (hst : X.stack = X.env :: X.outer) (hfr : X.env.frame = some X.env.locals) (tk : Takes X W)
    (hc : X.calm = true) (hN : X.N.Nodup) (I : L2.Inv X pins σ H s) (hi : PI X tg iter wi) (ok : BlkOk X.N X.env.scope scope own)
    (hg : ∀ (s : Shared) (H : Hp) (C : Addr) (cl : List (Str × Addr)) (fp : List Addr), PG (X.blk s H scope (compEnvC scope cl C X.env) fp) tg g) (ht : ∀ (s : Shared) (H : Hp) (C : Addr) (cl : List (Str × Addr)) (fp : List Addr), PTs (X.blk s H scope (compEnvC scope cl C X.env) fp) ifs tt)
    (he : ∀ (W' : WX) (s : Shared) (H : Hp) (C : Addr) (cl : List (Str × Addr)) (fp : List Addr) (xe : Value → Shared → Prop), Takes ((X.blk s H scope (compEnvC scope cl C X.env) fp).wish xe) W' → PE ((X.blk s H scope (compEnvC scope cl C X.env) fp).wish xe) elt (te W')) (hs : ∀ x, foldedSetIterable iter X.env x = pure x)
    (h : tLc wi g tt (te fun cls d _ H' => W cls d σ H') (own.map (·.2)) σ H Q)
    (hRR : ∀ D C s' m H', L2.Inv X pins σ H' s' → Q (.ref D) H' → s'.heap.Ns C m → FpOk X pins H' C → compPost (model X.prog X.w) X.A X.xe use Qf (.ref D) C (.ok .next) s') :
    wpAny (model X.prog X.w) X.A (comprehension (.ListComp elt [⟨tg, iter, ifs, 0⟩] scope pos) scope X.env pos' (newList []) false (eval iter X.env) use) Qf X.xe s := by
  have hfree : ∀ y ∈ scope.names, y.2 = .free → ∃ c, X.env.cells.lookup y.1 = some c := fun y hy e => by
    rcases ok.free y hy e with k | k
    · exact I.ok.has _ (.inl k)
    · exact I.ok.has _ (.inr k)
  refine comp_freeE (use := use) rfl hs (closure_ok hfree) ok.kind (fun y hy e => by rw [ok.uniq y hy, e]) (thn (hi.run pins s σ H _ I h) fun xv s1 hx => thn hx fun itv s2 h2 => ?_)
  obtain ⟨it, fp, tn, J, H2, e, I2, T, st2, f2, q⟩ := h2
  subst e
  refine wpAny_newObj_type (newEnv_comp ?_) (by show 0 ≤ sizeLine; decide)
  generalize hD : s2.heap.objs.size = D
  have hDn : H2 D = none := I2.hok.fresh (Nat.le_of_eq hD)
  obtain ⟨W1, ⟨m0, w0⟩, turn⟩ := q D hDn
  generalize hs3 : ({ s2 with heap := s2.heap.push { cls := .type "list", data := .seq ([] : List Value).toArray } } : Shared) = s3
  have I3 : L2.Inv X pins σ (upd H2 D (.lst [])) s3 := by
    rw [← hs3]
    refine I2.laid (t' := s2.toks) (fun b o e => Heap.get?_push_of_some _ e) (Nat.le_of_eq hD) ⟨Nat.zero_le _, [], 0, .nil, ?_⟩
    rw [← hD]
    exact Heap.get?_push_size _ rfl
  have h3 : s3.heap = s2.heap.push { cls := .type "list", data := .seq ([] : List Value).toArray } := by rw [← hs3]
  have sz : ∀ b ∈ fp, b < s2.heap.objs.size := fun b hb => by
    obtain ⟨o, e, _⟩ := T.obj _ _ st2 b hb
    exact Heap.lt_size e
  have f3 : ∀ b ∈ fp, FpOk X pins (upd H2 D (.lst [])) b ∧ b < s3.heap.objs.size := fun b hb => by
    have hlt := sz b hb
    refine ⟨⟨?_, (f2 b hb).2⟩, by rw [h3, Heap.size_push]; exact Nat.lt_succ_of_lt hlt⟩
    rw [upd_ne (by rw [← hD]; exact Nat.ne_of_lt hlt)]
    exact (f2 b hb).1
  have st3 : tn 0 s3.heap := T.keep _ _ _ st2 fun b _ o e => by rw [h3]; exact Heap.get?_push_of_some _ e
  have I4 := block_start I3 ok hN f3
  have pg := hg s3 (upd H2 D (.lst [])) s3.heap.objs.size (cellsFrom (s3.heap.objs.size + 1) scope.names (cloFrom X.env.cells scope.names [])) fp
  have pt := ht s3 (upd H2 D (.lst [])) s3.heap.objs.size (cellsFrom (s3.heap.objs.size + 1) scope.names (cloFrom X.env.cells scope.names [])) fp
  have pe := he (fun cls d _ H' => W cls d σ H') s3 (upd H2 D (.lst [])) s3.heap.objs.size (cellsFrom (s3.heap.objs.size + 1) scope.names (cloFrom X.env.cells scope.names [])) fp
    (notedBy (model X.prog X.w) X.A (compEnvC scope (cellsFrom (s3.heap.objs.size + 1) scope.names (cloFrom X.env.cells scope.names [])) s3.heap.objs.size X.env) fun e s' => compPostE (model X.prog X.w) X.A X.xe use Qf (.ref D) s3.heap.objs.size X.env.frame (.error e) s')
    (fun u s' x => blk_raise hst hfr tk I3 (fun b hb => (f3 b hb).1) x)
  show codeAny _ _ (.compStart (.ListComp elt [⟨tg, iter, ifs, 0⟩] scope pos) 0 (.ref it) (.ref D) (compEnvC scope (cellsFrom (s3.heap.objs.size + 1) scope.names (cloFrom X.env.cells scope.names [])) s3.heap.objs.size X.env)) (compPostE (model X.prog X.w) X.A X.xe use Qf (.ref D) s3.heap.objs.size X.env.frame) { s3 with heap := pushCells (s3.heap.push { cls := .type "dict", data := .dict #[] }) scope.names }
  have nfp : ∀ b ∈ fp, (upd H2 D (.lst [])) b = none := fun b hb => (f3 b hb).1.1
  generalize hce : compEnvC scope (cellsFrom (s3.heap.objs.size + 1) scope.names (cloFrom X.env.cells scope.names [])) s3.heap.objs.size X.env = ce at I4 pg pt pe ⊢
  have cL : ce.locals = s3.heap.objs.size := by subst hce; rfl
  generalize hH3 : upd H2 D (.lst []) = H3 at I3 I4 pg pt pe w0 nfp f3
  generalize hs4 : ({ s3 with heap := pushCells (s3.heap.push { cls := .type "dict", data := .dict #[] }) scope.names } : Shared) = s4 at I4 ⊢
  have st4 : tn 0 s4.heap := T.keep _ _ _ st3 fun b _ o e => by rw [← hs4]; exact pushCells_keeps _ _ _ _ (Heap.get?_push_of_some _ e)
  have stat : ∀ {σ' : L2.St} {H' : Hp} {s' : Shared}, L2.Inv (X.blk s3 H3 scope ce fp) [] σ' H' s' → (∀ b ∈ fp, H' b = none) → ∀ b ∈ fp, FpOk (X.blk s3 H3 scope ce fp) [] H' b := fun {σ' H' s'} I' hn b hb =>
    ⟨hn b hb, (I'.ok.exf b hb).1, I'.ok.exfs b hb, .inl hb, fun x c e => (I'.ok.exf b hb).2 x c e, fun p hp => absurd (show p ∈ ([] : List (Addr × Obj)) ++ [] from hp) (by simp)⟩
  have loop : codeAny (model X.prog X.w) X.A (.compLoop (.ListComp elt [⟨tg, iter, ifs, 0⟩] scope pos) 0 (.ref it) (.ref D) ce) (compPostE (model X.prog X.w) X.A X.xe use Qf (.ref D) s3.heap.objs.size X.env.frame) s4 := by
    refine compLoop_any (fun n s' => ∃ i H', L2.Inv (X.blk s3 H3 scope ce fp) [] (wipe σ (own.map (·.2))) H' s' ∧ tn i s'.heap ∧ (∀ b ∈ fp, H' b = none) ∧ W1 i n H') ?_ m0 ⟨0, H3, I4, st4, nfp, w0⟩
    rintro n s5 ⟨i, H5, I5, st5, n5, w5⟩
    rcases turn i n H5 w5 with ⟨stop, qq⟩ | ⟨go, Nx, hNx, step⟩
    · have td := T.done (X.blk s3 H3 scope ce fp) rfl rfl rfl hc i [] s5 _ H5 (fun _ _ => False) I5 (stat I5 n5) st5 stop
      refine thnF td fun r s6 ⟨hr, I6⟩ => ?_
      subst hr
      have I7 : L2.Inv X pins σ H5 s6 := I3.call' (ch := fp) I6.os I6.base I6.hok I6.bare fun b hb => ⟨(f3 b hb).1.2.2.2.1, (f3 b hb).1.2.1, (f3 b hb).1.2.2.2.2.1, (f3 b hb).1.2.2.2.2.2⟩
      have nC : H5 s3.heap.objs.size = none := by
        have z : H5 ce.locals = none := I6.free
        rw [cL] at z
        exact z
      obtain ⟨m, hn, _⟩ := I6.loc
      have hn : s6.heap.Ns ce.locals m := hn
      rw [cL] at hn
      exact hRR D s3.heap.objs.size s6 m H5 I7 qq hn (I3.fpOk (Nat.le_refl _) nC)
    · have ti := T.item (X.blk s3 H3 scope ce fp) rfl rfl rfl hc i [] s5 _ H5 (fun _ _ => False) I5 (stat I5 n5) st5 go
      refine thnF ti fun r s6 ⟨u, hr, h6⟩ => ?_
      subst hr
      refine thnF h6 fun _ s7 ⟨x, H7, I7, r7, y7, st7, n7⟩ => ?_
      have I7' := I7.pinned (stat I7 n7) (T.obj _ _ st7)
      refine thnF (pg.run _ s7 _ H7 x u _ I7' r7 (step x H7 y7)) fun _ s8 ⟨σ8, H8, I8, hw8, q8⟩ => ?_
      refine thnF (pt.run _ s8 σ8 H8 _ I8 q8) fun b s9 ⟨H9, I9, q9⟩ => ?_
      have fin : ∀ {s' : Shared} {H' : Hp}, L2.Inv (X.blk s3 H3 scope ce fp) ([] ++ pinsAt fp s7.heap) σ8 H' s' → Nx H' → ∃ m, m < n ∧ ∃ i H', L2.Inv (X.blk s3 H3 scope ce fp) [] (wipe σ (own.map (·.2))) H' s' ∧ tn i s'.heap ∧ (∀ b ∈ fp, H' b = none) ∧ W1 i m H' := fun {s' H'} I' nx => by
        obtain ⟨m', hm, w'⟩ := hNx H' nx
        have pin' : ∀ b ∈ fp, ∀ o, s7.heap.get? b = some o → s'.heap.get? b = some o ∧ H' b = none := fun b hb o e =>
          let z := I'.pin (b, o) (List.mem_append_right _ (List.mem_append_right _ (mem_pinsAt hb e)))
          ⟨z.1, z.2.1⟩
        have hl : (wipe σ (own.map (·.2))).length = σ8.length := by rw [← hw8, wipe_length]
        refine ⟨m', hm, i + 1, H', (I'.unpinned (pins := [])).weak hl (fun j v e => ?_), T.keep _ _ _ st7 fun b hb o e => (pin' b hb o e).1, fun b hb => ?_, w'⟩
        · rw [← hw8] at e
          exact (wipe_some e).1
        · obtain ⟨o, e, _⟩ := T.obj _ _ st7 b hb
          exact (pin' b hb o e).2
      cases b with
      | false =>
        simp only [Bool.false_eq_true, if_false] at q9 ⊢
        exact fin I9 q9
      | true =>
        simp only [if_true] at q9 ⊢
        refine wpAny_mono (pe.run _ s9 σ8 H9 _ (I9.wish _) q9) (fun z s10 ⟨yv, H10, I10, r10, acc, hD10, hz10, nx⟩ => ?_) fun _ _ z => z
        exact app_ok (X := X.blk s3 H3 scope ce fp) I10.unwish hD10 hz10 r10 fun s11 I11 => fin I11 nx
  exact codeAny_compStart_list loop (T.self X.A 0 _ _ _ st4 loop)
def tLcE (W : WX) (wi : TI) (g : TG) (tt : TT) (te : WX → TE) (vs : List Nat) : TE := fun σ H Q => tLc wi g tt (te fun cls d _ H' => W cls d σ H') vs σ H Q
/-- as a value -/
theorem pe_lcE {elt tg iter : Expr} {ifs : List Expr} {scope : Scope} {own : List (Str × Nat)} {pos : Pos} {wi : TI} {g : TG} {tt : TT} {te : WX → TE} (hst : X.stack = X.env :: X.outer) (hfr : X.env.frame = some X.env.locals) (tk : Takes X W) (hc : X.calm = true) (hN : X.N.Nodup) (hi : PI X tg iter wi) (ok : BlkOk X.N X.env.scope scope own)
    (hg : ∀ (s : Shared) (H : Hp) (C : Addr) (cl : List (Str × Addr)) (fp : List Addr), PG (X.blk s H scope (compEnvC scope cl C X.env) fp) tg g) (ht : ∀ (s : Shared) (H : Hp) (C : Addr) (cl : List (Str × Addr)) (fp : List Addr), PTs (X.blk s H scope (compEnvC scope cl C X.env) fp) ifs tt)
    (he : ∀ (W' : WX) (s : Shared) (H : Hp) (C : Addr) (cl : List (Str × Addr)) (fp : List Addr) (xe : Value → Shared → Prop), Takes ((X.blk s H scope (compEnvC scope cl C X.env) fp).wish xe) W' → PE ((X.blk s H scope (compEnvC scope cl C X.env) fp).wish xe) elt (te W')) (hs : ∀ x, foldedSetIterable iter X.env x = pure x := by intro _; rfl) :
    PE X (.ListComp elt [⟨tg, iter, ifs, 0⟩] scope pos) (tLcE W wi g tt te (own.map (·.2))) := by
  refine ⟨fun pins s σ H Q I h => ?_⟩
  rw [eval_ListComp]
  refine lcE_core hst hfr tk hc hN I hi ok hg ht he hs h fun D C s' m H' I' q hn f => ⟨m, hn, fun h'' sb => ?_⟩
  obtain ⟨f0, f1, f2, f3, f4, f5⟩ := f
  exact ⟨.ref D, H', I'.turned (t' := s'.toks) (fun b o hb e => (sb.2 b hb).trans e) f0 f1 f3 f4 f5, rfl, q⟩
end
end DLS

set_option Elab.async false
set_option linter.all false
set_option maxRecDepth 100000
set_option maxHeartbeats 2000000
set_option autoImplicit false
/-! DNj: [e for t in it if ..] where e may raise. -/
namespace DL
open PySem PySem.Spec PyProof.Rows L2
open Classical in
/-- the frame told from H on -/
noncomputable def Gam.reb (Γ : Gam) (N : Addr → Prop) (H : Hp) : Gam := ⟨Γ.U, fun b => if N b then none else H b, Γ.held, Γ.raw⟩
/-- the names' own things -/
def NOwn (σ : L2.St) (ρ : Ro) (b : Addr) : Prop := ∃ (i : Nat) (d : D), ρ[i]? = some (some (d, true)) ∧ σ[i]? = some (some (V.ref b))
section
variable {c : Conf} {Γ : Gam} {σ : L2.St} {H : Hp} {ρ : Ro}
theorem reb_yes {N : Addr → Prop} {b : Addr} (h : N b) : (Γ.reb N H).H0 b = none := if_pos h
theorem reb_no {N : Addr → Prop} {b : Addr} (h : ¬ N b) : (Γ.reb N H).H0 b = H b := if_neg h
theorem ER.reb (e : ER c Γ σ H ρ) : ER c (Γ.reb (NOwn σ ρ) H) σ H ρ where
  len := e.len
  ext := fun b u h => by
    by_cases n : NOwn σ ρ b
    · rw [reb_yes n] at h; cases h
    · rw [reb_no n] at h; exact h
  utr := e.utr
  held := e.held
  raw := e.raw
  fx := e.fx
  own := fun i d a h1 h2 => ⟨reb_yes ⟨i, d, h1, h2⟩, (e.own i d a h1 h2).2⟩
  dis := e.dis
  slot := e.slot
  mine := e.mine
theorem ER.unblk {D : Addr} {σ4 : L2.St} {H' : Hp} {ρ3 : Ro} {is vs : List Nat} (e2 : ER c (Γ.add D) σ H ρ) (h0 : Γ.H0 D = none) (inner : ER c ((Γ.add D).reb (NOwn σ ρ) H) σ4 H' ρ3) (no : noOwn ρ vs = true) (hsub : ∀ i ∈ is, i ∈ vs)
    (o4 : ∀ j, j ∉ is → σ4[j]? = (L2.wipe σ vs)[j]? ∧ ρ3[j]? = (wipeR ρ vs)[j]?) : ER c Γ σ H' ρ := by
  have back : ∀ a, NN (Γ.add D) σ ρ a → NN ((Γ.add D).reb (NOwn σ ρ) H) σ4 ρ3 a := fun a h => NN_blk (Γ := Γ) (D := D) hsub no o4 a h
  have sub : ∀ a, NN Γ σ ρ a → NN (Γ.add D) σ ρ a := fun a h => h.imp .inl id
  have keep : ∀ a o, ¬ NN (Γ.add D) σ ρ a → H a = some o → H' a = some o ∧ ¬ NN Γ σ ρ a := fun a o n q => by
    have no : ¬ NOwn σ ρ a := fun z => n (.inr z)
    exact ⟨inner.ext a o ((reb_no no).trans q), fun z => n (sub a z)⟩
  exact {
    len := e2.len
    ext := fun b u h => by
      have n : ¬ NOwn σ ρ b := fun ⟨i, d, h1, h2⟩ => by
        have := (e2.own i d b h1 h2).1
        rw [show (Γ.add D).H0 b = Γ.H0 b from rfl, h] at this
        cases this
      exact inner.ext b u ((reb_no n).trans (e2.ext b u h))
    utr := fun b h => inner.utr b (.inl h)
    held := fun p h => (e2.held p h).step keep
    raw := fun p h => let z := keep _ _ (e2.raw p h).1 (e2.raw p h).2; ⟨z.2, z.1⟩
    fx := e2.fx
    own := fun i d a h1 h2 => ⟨(e2.own i d a h1 h2).1, fun z => (e2.own i d a h1 h2).2 (.inl z)⟩
    dis := e2.dis
    slot := fun i d h => let ⟨v, h1, h2⟩ := e2.slot i d h; ⟨v, h1, h2.step keep⟩
    mine := fun i d h => by
      have nj : i ∉ vs := fun z => by
        have := List.all_eq_true.mp no i z
        rw [h] at this
        cases this
      have nj2 : i ∉ is := fun z => nj (hsub i z)
      obtain ⟨a, h1, h2⟩ := inner.mine i d (by rw [(o4 i nj2).2, wipeR_out nj]; exact h)
      rw [(o4 i nj2).1, wipe_out nj] at h1
      exact ⟨a, h1, h2.step (fun _ q => q) fun b o n q => ⟨q, fun z => n (back b (sub b z))⟩⟩ }
end
def lcGoE (g : MG) (tt : MT) (me : ME) (ρ : Ro) : List D → R (List D)
  | [] => ok []
  | d :: ds => (g d ρ).bind fun ρ1 => match tt ρ1 with
    | some (.ok true) => bnd (me ρ1) fun y => bnd (lcGoE g tt me ρ ds) fun ys => ok (y :: ys)
    | some (.ok false) => lcGoE g tt me ρ ds
    | _ => none
def mLcE (src : MI) (vs : List Nat) (g : MG) (tt : MT) (me : ME) : ME := fun ρ => bnd (src ρ) fun ds => guard (noOwn ρ vs = true ∧ ds.length ≤ lim) (bnd (lcGoE g tt me (wipeR ρ vs) ds) fun ys => ok (.lst ys))
theorem bnd_app {r : R (List D)} {ys1 : List D} {y : D} {q : Except EN D} (h : bnd (bnd r fun ys => ok (y :: ys)) (fun zs => ok (D.lst (ys1 ++ zs))) = some q) : bnd r (fun zs => ok (D.lst ((ys1 ++ [y]) ++ zs))) = some q := by
  cases r with
  | none => cases h
  | some w =>
    cases w with
    | error x => exact h
    | ok ys =>
      show some (Except.ok (D.lst ((ys1 ++ [y]) ++ ys))) = some q
      rw [List.append_assoc]
      exact h
section
variable {X : Cx} {c : Conf} {W : WX}
theorem lcE_ok {src : MI} {vs is : List Nat} {g : MG} {tt : MT} {me : ME} {gg : TG} (hsub : ∀ i ∈ is, i ∈ vs) (kfx : vs.all (fun v => fxOk c.fx v) = true) (hg : GOk c is gg g)
    {σ : L2.St} {H : Hp} {Q : VK} (h : tE c W .own (mLcE src vs g tt me) σ H Q) : DLS.tLcE W (tI c W false src) gg (tT c W0 tt) (fun W' => tE c W' .dur me) vs σ H Q := by
  obtain ⟨Γ, ρ, r, er, em, p⟩ := h
  have em : bnd (src ρ) _ = some r := em
  cases q : src ρ with
  | none => rw [q] at em; cases em
  | some w =>
    rw [q] at em
    cases w with
    | error x =>
      cases em
      exact ⟨Γ, ρ, _, er, q, p⟩
    | ok ds =>
      obtain ⟨⟨no, hlim⟩, em⟩ := guard_ok em
      refine ⟨Γ, ρ, _, er, q, fun J P us ra H1 s1 e1 r1 w1 q1 st D hD => ?_⟩
      have lu := r1.len
      have h0 : Γ.H0 D = none := e1.ext.free hD
      have nD : ¬ NN Γ σ ρ D := fun z => e1.tracked z hD
      refine ⟨fun i m H' => m = ds.length - i ∧ i ≤ ds.length ∧ ∃ acc ys1, H' D = some (.lst acc) ∧ Rp c (NN (Γ.add D) σ ρ) H' acc ys1 ∧ acc.length ≤ i ∧ Same H1 H' ∧ ER c (Γ.add D) σ H' ρ ∧ bnd (lcGoE g tt me (wipeR ρ vs) (ds.drop i)) (fun zs => ok (DL.D.lst (ys1 ++ zs))) = some r,
        ⟨_, rfl, Nat.zero_le _, [], [], upd_same, .nil, Nat.le_refl _, same_new hD, e1.addU hD, em⟩, ?_⟩
      rintro i m H2 ⟨rfl, hil, acc, ys1, hacc, racc, hal, s2, e2, em2⟩
      have hP : P H2 := st H2 fun p hp => s2 _ _ (q1 p hp).2
      by_cases hlt : i < ds.length
      · have hx : us[i]? = some us[i] := List.getElem?_eq_getElem (by rw [lu]; exact hlt)
        obtain ⟨go, yl⟩ := w1.go i H2 _ hP hx
        refine .inr ⟨go, fun H' => ∃ acc ys1, H' D = some (.lst acc) ∧ Rp c (NN (Γ.add D) σ ρ) H' acc ys1 ∧ acc.length ≤ i + 1 ∧ Same H1 H' ∧ ER c (Γ.add D) σ H' ρ ∧ bnd (lcGoE g tt me (wipeR ρ vs) (ds.drop (i + 1))) (fun zs => ok (DL.D.lst (ys1 ++ zs))) = some r,
          fun H' z => ⟨ds.length - (i + 1), by omega, rfl, hlt, z⟩, fun x H3 y3 => ?_⟩
        obtain ⟨eH, ex⟩ := yl x H3 y3
        subst eH ex
        rw [List.drop_eq_getElem_cons hlt] at em2
        unfold lcGoE at em2
        cases hg3 : g ds[i] (wipeR ρ vs) with
        | none => rw [hg3] at em2; cases em2
        | some ρ3 =>
          rw [hg3, Option.bind_some] at em2
          have er2 := e2.reb
          have ew := er2.wipe kfx
          have nnw : ∀ a, NN (Γ.add D) (wipe σ vs) (wipeR ρ vs) a → NN (Γ.add D) σ ρ a := fun a h => by
            rcases h with h | ⟨j, f, h1, h2⟩
            · exact .inl h
            · exact .inr ⟨j, f, (wipeR_some h1).1, (wipe_some h2).1⟩
          have ri : Re c (NN (Γ.add D) (wipe σ vs) (wipeR ρ vs)) H3 us[i] ds[i] := by
            refine Rp.step (fun a o n hq => ?_) (r1.at_ hx (List.getElem?_eq_getElem hlt))
            refine ⟨s2 a o hq, fun z => ?_⟩
            rcases nnw a z with (z | z) | z
            · exact n (.inl z)
            · subst z; rw [hD] at hq; cases hq
            · exact n (.inr z)
          refine hg ((Γ.add D).reb (NOwn σ ρ) H3) (wipe σ vs) H3 (wipeR ρ vs) ρ3 _ _ _ ew ri hg3 fun σ4 e4 l4 o4 => ⟨?_, ?_⟩
          · have : wipe σ4 vs = wipe (wipe σ vs) vs := wipe_set l4 fun j hj => (o4 j fun z => hj (hsub j z)).1
            rw [this]
            exact wipe_set (wipe_length σ vs) fun j hj => wipe_out hj
          have back : ∀ a, NN (Γ.add D) σ ρ a → NN (Γ.add D) σ4 ρ3 a := NN_blk hsub no o4
          cases et : tt ρ3 with
          | none => rw [et] at em2; cases em2
          | some w =>
            rw [et] at em2
            cases w with
            | error x => cases em2
            | ok b =>
              refine ⟨(Γ.add D).reb (NOwn σ ρ) H3, ρ3, _, e4, et, fun H5 s5 e5 => ?_⟩
              cases b with
              | false =>
                rw [if_neg Bool.false_ne_true]
                exact ⟨acc, ys1, s5 _ _ hacc, racc.same s5, by omega, s2.trans s5, e2.same s5, em2⟩
              | true =>
                rw [if_pos rfl]
                dsimp only at em2
                cases ee : me ρ3 with
                | none => rw [ee] at em2; cases em2
                | some w =>
                  rw [ee] at em2
                  cases w with
                  | error x =>
                    cases em2
                    exact ⟨(Γ.add D).reb (NOwn σ ρ) H3, ρ3, _, e5, ee, fun C H' e' hc => p C H' (ER.unblk e2 h0 e' no hsub o4) hc⟩
                  | ok y =>
                    have em3 := bnd_app em2
                    refine ⟨(Γ.add D).reb (NOwn σ ρ) H3, ρ3, _, e5, ee, fun v H6 s6 r6 => ⟨acc, s6 _ _ (s5 _ _ hacc), Nat.lt_of_le_of_lt hal (Nat.lt_of_lt_of_le hlt (lim_ok hlim)), acc ++ [v], ys1 ++ [y], upd_same, ?_, by simp; omega, ?_, ?_, em3⟩⟩
                    · have n2 : NN (Γ.add D) σ ρ D := .inl (.inr rfl)
                      exact Rp.step (mut_step n2) (((racc.same s5).same s6).app (r6.2.less back))
                    · intro a o ha
                      rw [upd_ne (ne_of_none ha hD)]
                      exact s6 _ _ (s5 _ _ (s2 _ _ ha))
                    · exact ((e2.same s5).same s6).grow h0 _
      · have e : i = ds.length := by omega
        subst e
        rw [List.drop_length] at em2
        cases em2
        exact .inl ⟨w1.stop _ _ hP (by rw [lu]; exact Nat.le_refl _), p (.ref D) H2 (s1.trans s2) ⟨D, rfl, h0, nD, e2, acc, hacc, by rw [List.append_nil]; exact racc⟩⟩
variable {elt tg iter : Expr} {ifs : List Expr} {scope : Scope} {own : List (Str × Nat)} {pos : Pos} {src : MI} {is : List Nat} {g : MG} {tt : MT} {me : ME}
/-- [e for t in it if ..] as a value; e may raise -/
theorem d_lcE (own : List (Str × Nat)) (hst : X.stack = X.env :: X.outer) (hfr : X.env.frame = some X.env.locals) (tk : Takes X W) (hc : X.calm = true) (hN : X.N.Nodup) (hi : PI X tg iter (tI c W false src)) (ok : blkC X.N X.env.scope scope own = true)
    {gg : TG} (pg : ∀ (s : Shared) (H : Hp) (C : Addr) (cl : List (Str × Addr)) (fp : List Addr), PG (X.blk s H scope (compEnvC scope cl C X.env) fp) tg gg) (hgg : GOk c is gg g)
    (ht : ∀ (s : Shared) (H : Hp) (C : Addr) (cl : List (Str × Addr)) (fp : List Addr), PTs (X.blk s H scope (compEnvC scope cl C X.env) fp) ifs (tT c W0 tt))
    (he : ∀ (W' : WX) (s : Shared) (H : Hp) (C : Addr) (cl : List (Str × Addr)) (fp : List Addr) (xe : Value → Shared → Prop), Takes ((X.blk s H scope (compEnvC scope cl C X.env) fp).wish xe) W' → PE ((X.blk s H scope (compEnvC scope cl C X.env) fp).wish xe) elt (tE c W' .dur me)) (hsub : ∀ i ∈ is, i ∈ own.map (·.2) := by decide)
    (kfx : (own.map (·.2)).all (fun v => fxOk c.fx v) = true := by rfl) (hs : ∀ x, foldedSetIterable iter X.env x = pure x := by intro _; rfl) :
    PE X (.ListComp elt [⟨tg, iter, ifs, 0⟩] scope pos) (tE c W .own (mLcE src (own.map (·.2)) g tt me)) :=
  (DLS.pe_lcE hst hfr tk hc hN hi (blkOk_by ok) pg ht he hs).via fun σ H Q h => lcE_ok hsub kfx hgg h
end
end DL

set_option Elab.async false
set_option linter.all false
set_option maxRecDepth 100000
set_option maxHeartbeats 2000000
set_option autoImplicit false
/-! DNk: texts: str, int, join, split, lstrip, a text walked; a suite that is never reached. -/
namespace DL
open PySem PySem.Spec PyProof.Rows L2
def strOf : D → Option Str
  | .str s => some s
  | _ => none
def strs? (ds : List D) : Option (List Str) := ds.mapM strOf
theorem strs?_map : ∀ ns : List Str, strs? (ns.map D.str) = some ns
  | [] => rfl
  | n :: ns => by
    show (D.str n :: ns.map D.str).mapM strOf = _
    rw [List.mapM_cons, show (ns.map D.str).mapM strOf = some ns from strs?_map ns]
    rfl
theorem strs?_eq : ∀ {ds : List D} {ns : List Str}, strs? ds = some ns → ds = ns.map D.str
  | [], ns, h => by cases h; rfl
  | d :: ds, ns, h => by
    have h : (d :: ds).mapM strOf = some ns := h
    rw [List.mapM_cons] at h
    cases e : strOf d with
    | none => rw [e] at h; cases h
    | some s =>
      rw [e] at h
      cases e2 : ds.mapM strOf with
      | none => rw [e2] at h; cases h
      | some l =>
        rw [e2] at h
        cases h
        rw [strs?_eq e2]
        cases d <;> first | (cases e; done) | skip
        cases e
        rfl
section
variable {X : Cx} {c : Conf} {W : WX}
theorem Rp.strs {N : Addr → Prop} {H : Hp} : ∀ {vs : List V} {ns : List Str}, Rp c N H vs (ns.map D.str) → vs = ns.map V.str
  | [], [], _ => rfl
  | [], _ :: _, h => by cases h
  | _ :: _, [], h => by cases h
  | v :: vs, n :: ns, h => by
    have h1 : Rp c N H (v :: vs) (D.str n :: ns.map D.str) := h
    rw [h1.unc.1.of_str, Rp.strs h1.unc.2]
    rfl
theorem Rp.of_strs {N : Addr → Prop} {H : Hp} : ∀ {ns : List Str}, Rp c N H (ns.map V.str) (ns.map D.str)
  | [] => .nil
  | n :: ns => .str (Rp.of_strs (ns := ns))
/-! ### str(x), int(x) -/
def dStr : List D → R D
  | [.int i] => guard (i.natAbs < 2 ^ 64) (ok (.str (toString i)))
  | [.str s] => ok (.str s)
  | _ => none
theorem bi_str : Bi X c W .dur (.type "str") dStr := ⟨_, call_str_int.or SkE.call_str_str, by
  intro Γ σ ρ H xs ds res Q er bx h p
  unfold dStr at h
  split at h
  · rename_i i
    obtain ⟨hl, h⟩ := guard_ok h
    cases h
    obtain ⟨x, rfl, b⟩ := bx.one
    rw [Bor.int b]
    refine .inl ⟨i, rfl, ?_, fin_str p er⟩
    rcases Nat.eq_zero_or_pos i.natAbs with z | z
    · rw [z]; decide
    · have := (Nat.log2_lt (by omega)).mpr hl
      omega
  · rename_i s
    cases h
    obtain ⟨x, rfl, b⟩ := bx.one
    rw [Bor.str b]
    exact .inr ⟨s, rfl, fin_str p er⟩
  · cases h⟩
def dIntS : List D → R D
  | [.str s] => (PySem.intText? s).bind fun n => guard (s.length ≤ 640) (ok (.int n))
  | _ => none
theorem bi_intS : Bi X c W .dur (.type "int") dIntS := ⟨_, call_int_str, by
  intro Γ σ ρ H xs ds res Q er bx h p
  unfold dIntS at h
  split at h
  · rename_i s
    obtain ⟨n, hn, h⟩ := Option.bind_eq_some_iff.mp h
    obtain ⟨hl, h⟩ := guard_ok h
    cases h
    obtain ⟨x, rfl, b⟩ := bx.one
    rw [Bor.str b]
    exact ⟨s, n, rfl, hn, hl, fin_int p er⟩
  · cases h⟩
/-! ### methods of a text -/
def dJoin (a b : D) : R D := match a, b with
  | .str s, .lst ds => (strs? ds).bind fun ys => guard ((ys.map (·.length)).sum + ys.length * s.length ≤ lim) (ok (.str (Txt.join s ys)))
  | .str s, .tup ds => (strs? ds).bind fun ys => guard ((ys.map (·.length)).sum + ys.length * s.length ≤ lim) (ok (.str (Txt.join s ys)))
  | _, _ => none
def isStr : D → Bool
  | .str _ => true
  | _ => false
def mStr1 (f : D → D → R D) (ma mb : ME) : ME := fun ρ => bnd (ma ρ) fun a => guard (isStr a = true) (bnd (mb ρ) fun b => f a b)
theorem Bor.isStr {N : Addr → Prop} {H : Hp} {v : V} {d : D} (h : Bor c N H v d) (k : DL.isStr d = true) : ∃ s, d = .str s ∧ v = .str s := by
  cases d with
  | str s => exact ⟨s, rfl, Bor.str h⟩
  | _ => cases k
theorem d_join {o e : Expr} {ma mb : ME} {apos pos : Pos} (ho : PE X o (tE c W .bor ma)) (he : PE X e (tE c W .bor mb)) (hK : c.K = X.K := by rfl) (hs : starEach [e] X.env = [(false, eval e X.env)] := by rfl) (hbase : attributeBase o "join" X.env (eval o X.env) = eval o X.env := by rfl) (hline : (apos.endLine == pos.line) = true := by rfl) :
    PE X (.Call (.Attribute o "join" apos) [e] [] pos) (tE c W .dur (mStr1 dJoin ma mb)) :=
  (pe_join ho he hs hbase hline).via fun σ H Q ⟨Γ, ρ, r, er, em, p⟩ => by
    rw [← hK]
    refine use er em p.err fun a x H1 h1 s1 r1 => ?_
    obtain ⟨ks, h1⟩ := guard_ok h1
    obtain ⟨s, rfl, ex⟩ := Bor.isStr r1.2 ks
    refine ⟨⟨s, ex⟩, use r1.1 h1 p.err fun b y H2 h2 s2 r2 => ?_⟩
    have hl16 : lim ≤ 16777216 := by decide
    unfold dJoin at h2
    split at h2
    · rename_i s' ds hs'
      cases hs'
      obtain ⟨ys, hy, h2⟩ := Option.bind_eq_some_iff.mp h2
      obtain ⟨hl, h2⟩ := guard_ok h2
      cases h2
      obtain ⟨q, us, e, h3, r3⟩ := r2.2
      rw [strs?_eq hy] at r3
      exact ⟨s, q, ys, ex, by rw [e], .inl (by rw [← Rp.strs r3]; exact .of h3), by omega, fin_str (p.mono (s1.trans s2)) r2.1⟩
    · rename_i s' ds hs'
      cases hs'
      obtain ⟨ys, hy, h2⟩ := Option.bind_eq_some_iff.mp h2
      obtain ⟨hl, h2⟩ := guard_ok h2
      cases h2
      obtain ⟨q, us, e, _, h3, r3⟩ := Bor.tup r2.2
      rw [strs?_eq hy] at r3
      exact ⟨s, q, ys, ex, by rw [e], .inr (by rw [← Rp.strs r3]; exact .of h3), by omega, fin_str (p.mono (s1.trans s2)) r2.1⟩
    · cases h2
def dLstrip (a b : D) : R D := match a, b with
  | .str s, .str t => guard (s.length ≤ lim) (ok (.str (Txt.lstripChars s t)))
  | _, _ => none
theorem d_lstrip {o e : Expr} {ma mb : ME} {apos pos : Pos} (ho : PE X o (tE c W .bor ma)) (he : PE X e (tE c W .bor mb)) (hs : starEach [e] X.env = [(false, eval e X.env)] := by rfl) (hbase : attributeBase o "lstrip" X.env (eval o X.env) = eval o X.env := by rfl) (hline : (apos.endLine == pos.line) = true := by rfl) :
    PE X (.Call (.Attribute o "lstrip" apos) [e] [] pos) (tE c W .dur (mStr1 dLstrip ma mb)) :=
  (pe_m1 F.slot_str_lstrip F.type_str_lstrip mt_lstripChars ho he hs hbase hline).via fun σ H Q ⟨Γ, ρ, r, er, em, p⟩ => by
    refine use er em p.err fun a x H1 h1 s1 r1 => ?_
    obtain ⟨ks, h1⟩ := guard_ok h1
    obtain ⟨s, rfl, ex⟩ := Bor.isStr r1.2 ks
    refine ⟨⟨s, ex⟩, use r1.1 h1 p.err fun b y H2 h2 s2 r2 => ?_⟩
    unfold dLstrip at h2
    split at h2
    · rename_i s' t hs'
      cases hs'
      obtain ⟨hl, h2⟩ := guard_ok h2
      cases h2
      exact ⟨s, t, ex, by rw [Bor.str r2.2], lim_ok hl, fin_str (p.mono (s1.trans s2)) r2.1⟩
    · cases h2
def dSplit (a b : D) : R D := match a, b with
  | .str s, .str t => guard ((t.length == 0) = false ∧ s.length < lim) (ok (.lst ((Txt.split s t).map D.str)))
  | _, _ => none
theorem d_split {o e : Expr} {ma mb : ME} {apos pos : Pos} (ho : PE X o (tE c W .bor ma)) (he : PE X e (tE c W .bor mb)) (hs : starEach [e] X.env = [(false, eval e X.env)] := by rfl) (hbase : attributeBase o "split" X.env (eval o X.env) = eval o X.env := by rfl) (hline : (apos.endLine == pos.line) = true := by rfl) :
    PE X (.Call (.Attribute o "split" apos) [e] [] pos) (tE c W .own (mStr1 dSplit ma mb)) :=
  (pe_split ho he hs hbase hline).via fun σ H Q ⟨Γ, ρ, r, er, em, p⟩ => by
    refine use er em p.err fun a x H1 h1 s1 r1 => ?_
    obtain ⟨ks, h1⟩ := guard_ok h1
    obtain ⟨s, rfl, ex⟩ := Bor.isStr r1.2 ks
    refine ⟨⟨s, ex⟩, use r1.1 h1 p.err fun b y H2 h2 s2 r2 => ?_⟩
    unfold dSplit at h2
    split at h2
    · rename_i s' t hs'
      cases hs'
      obtain ⟨⟨ht, hl⟩, h2⟩ := guard_ok h2
      cases h2
      have hz : s.length + 2 ≤ sizeLine := by rw [sizeLine_eq]; have : lim = 1000000 := rfl; omega
      exact ⟨s, t, ex, by rw [Bor.str r2.2], ht, hz, fun q hq => fin_lst (p.mono (s1.trans s2)) r2.1 Rp.of_strs hq⟩
    · cases h2
/-! ### a text walked -/
def mChars (m : ME) : MI := fun ρ => bnd (m ρ) fun d => match d with
  | .str s => ok (s.cps.toList.map fun z => .str ⟨#[z]⟩)
  | _ => none
theorem walks_chars (x : Str) : Walks (Its x) (fun _ => True) (x.cps.toList.map fun z => V.str ⟨#[z]⟩) where
  go := fun i H v _ hx => by
    rw [List.getElem?_map, Array.getElem?_toList] at hx
    obtain ⟨z, hz, rfl⟩ := Option.map_eq_some_iff.mp hx
    obtain ⟨hl, _⟩ := Array.getElem?_eq_some_iff.mp hz
    refine ⟨hl, fun y H2 ⟨e, z', h2, h3⟩ => ⟨e, ?_⟩⟩
    rw [hz] at h2
    cases h2
    exact h3
  stop := fun i H _ hl => by
    rw [List.length_map, Array.length_toList] at hl
    exact hl
theorem chars_rp (N : Addr → Prop) (H : Hp) : ∀ l : List Nat, Rp c N H (l.map fun z => V.str ⟨#[z]⟩) (l.map fun z => D.str ⟨#[z]⟩)
  | [] => .nil
  | z :: l => .str (chars_rp N H l)
theorem i_chars {nd : Bool} {tg e : Expr} {m : ME} (he : PE X e (tE c W .bor m)) : PI X tg e (tI c W nd (mChars m)) := (pi_str he).via fun σ H Q ⟨Γ, ρ, r, er, em, p⟩ => by
  cases q : m ρ with
  | none =>
    have em : bnd (m ρ) _ = some r := em
    rw [q] at em; cases em
  | some w =>
    have em : bnd (m ρ) _ = some r := em
    rw [q] at em
    cases w with
    | error x =>
      cases em
      exact ⟨Γ, ρ, _, er, q, p⟩
    | ok d =>
      cases d <;> first | (cases em; done) | skip
      rename_i s
      cases em
      refine ⟨Γ, ρ, _, er, q, fun v H1 s1 r1 => ?_⟩
      rw [Bor.str r1.2]
      exact ⟨s, rfl, p (Its s) _ _ [] H1 s1 r1.1 (chars_rp _ _ _) (walks_chars s) (fun p hp => by cases hp) fun _ _ => trivial⟩
/-! ### what is not reached -/
def mNo : MS := fun _ => none
theorem s_no {sts : List Stmt} : PSs X sts (tS c W mNo) := ⟨fun pins s σ H Dd I ⟨Γ, ρ, o, er, em, p⟩ => by cases em⟩
end
end DL

set_option Elab.async false
set_option linter.all false
set_option maxRecDepth 100000
set_option maxHeartbeats 2000000
set_option autoImplicit false
/-! DNt: plain laws of the texts, by their code points (SX.S). -/
namespace DL
open PySem L2
open SX (S)
theorem d_len_S (l : List Nat) (hl : l.length ≤ lim) : dLen [.str (S l)] = ok (.int l.length) := by
  show guard ((S l).length ≤ lim) (ok (D.int ((S l).length : Nat))) = (_ : R D)
  rw [SX.S_len]
  unfold guard
  rw [if_pos hl]
theorem d_add_S (a b : List Nat) (h : a.length + b.length ≤ lim) : dAdd (.str (S a)) (.str (S b)) = ok (.str (S (a ++ b))) := by
  show guard ((S a).length + (S b).length ≤ lim) (ok (D.str (S a ++ S b))) = (_ : R D)
  rw [SX.S_len, SX.S_len, SX.S_cat]
  unfold guard
  rw [if_pos h]
theorem d_ix_S {l : List Nat} {k : Nat} {z : Nat} (h : l[k]? = some z) (hl : l.length ≤ lim) : dIx (.str (S l)) (.int k) = ok (.str (S [z])) := by
  show guard ((S l).length ≤ lim) ((L2.atI l (k : Int)).map fun z => .ok (D.str ⟨#[z]⟩)) = (_ : R D)
  rw [SX.S_len]
  unfold guard
  rw [if_pos hl]
  unfold L2.atI L2.ixN
  have hk := (List.getElem?_eq_some_iff.mp h).1
  rw [if_pos (by omega), if_pos (by omega)]
  show Option.map _ (l[((k : Int)).toNat]?) = _
  rw [Int.toNat_natCast, h]
  rfl
theorem d_in_S1 (z : Nat) (b : List Nat) : dIn (.str (S [z])) (.str (S b)) = ok (.bl (decide (z ∈ b))) := rfl
theorem d_in_no {c d : Nat} {w b : List Nat} (h : c ∉ b) : dIn (.str (S (c :: d :: w))) (.str (S b)) = ok (.bl false) := by
  show ok (D.bl (!(Builtin.Str.occurrences (S b) (S (c :: d :: w)) 0 (S b).length 1).isEmpty)) = (_ : R D)
  have e : (!(Builtin.Str.occurrences (S b) (S (c :: d :: w)) 0 (S b).length 1).isEmpty) = false := by
    rw [Bool.eq_false_iff]
    intro t
    obtain ⟨i, h1, h2⟩ := (StrLaws.found_iff (S b) (S (c :: d :: w))).mp t
    rw [StrLaws.subAt_eq, beq_iff_eq] at h2
    have h2 : (b.drop i).take (S (c :: d :: w)).length = c :: d :: w := h2
    apply h
    have m : c ∈ (b.drop i).take (S (c :: d :: w)).length := by rw [h2]; exact List.mem_cons_self
    exact List.mem_of_mem_drop (List.mem_of_mem_take m)
  rw [e]
theorem d_sl_S {l : List Nat} {a b : Nat} (hl : l.length ≤ lim) (ha : a ≤ l.length) (hb : b ≤ l.length) : dSl (some (a : Int)) (some (b : Int)) (.str (S l)) = ok (.str (S ((l.drop a).take (b - a)))) := by
  show guard ((S l).length ≤ lim) (ok (D.str (cutS (S l) (some (a : Int)) (some (b : Int))))) = (_ : R D)
  have e : cutS (S l) (some (a : Int)) (some (b : Int)) = S ((l.drop a).take (b - a)) := by
    unfold cutS
    rw [SX.S_len]
    have e1 : HT.sIx l.length 0 (some (a : Int)) = a := by
      show (if (a : Int) < 0 then ((a : Int) + (l.length : Int)).toNat else min ((a : Int)).toNat l.length) = a
      rw [if_neg (by omega), Int.toNat_natCast, Nat.min_eq_left ha]
    have e2 : HT.sIx l.length l.length (some (b : Int)) = b := by
      show (if (b : Int) < 0 then ((b : Int) + (l.length : Int)).toNat else min ((b : Int)).toNat l.length) = b
      rw [if_neg (by omega), Int.toNat_natCast, Nat.min_eq_left hb]
    rw [e1, e2]
  rw [SX.S_len, e]
  unfold guard
  rw [if_pos hl]
theorem d_slf_S {l : List Nat} {a : Nat} (hl : l.length ≤ lim) (ha : a ≤ l.length) : dSl (some (a : Int)) none (.str (S l)) = ok (.str (S (l.drop a))) := by
  show guard ((S l).length ≤ lim) (ok (D.str (cutS (S l) (some (a : Int)) none))) = (_ : R D)
  have e : cutS (S l) (some (a : Int)) none = S (l.drop a) := by
    unfold cutS
    rw [SX.S_len]
    have e1 : HT.sIx l.length 0 (some (a : Int)) = a := by
      show (if (a : Int) < 0 then ((a : Int) + (l.length : Int)).toNat else min ((a : Int)).toNat l.length) = a
      rw [if_neg (by omega), Int.toNat_natCast, Nat.min_eq_left ha]
    have e2 : HT.sIx l.length l.length none = l.length := rfl
    rw [e1, e2, List.take_of_length_le (by simp)]
  rw [SX.S_len, e]
  unfold guard
  rw [if_pos hl]
theorem drop_len_takeWhile (p : Nat → Bool) : ∀ l : List Nat, l.drop (l.takeWhile p).length = l.dropWhile p
  | [] => rfl
  | c :: l => by
    rw [List.takeWhile_cons, List.dropWhile_cons]
    cases p c
    · rfl
    · simpa using drop_len_takeWhile p l
theorem d_lstrip_S (l b : List Nat) (hl : l.length ≤ lim) : dLstrip (.str (S l)) (.str (S b)) = ok (.str (S (l.dropWhile fun z => decide (z ∈ b)))) := by
  show guard ((S l).length ≤ lim) (ok (D.str (Txt.lstripChars (S l) (S b)))) = (_ : R D)
  have e : Txt.lstripChars (S l) (S b) = S (l.dropWhile fun z => decide (z ∈ b)) := by
    unfold Txt.lstripChars
    rw [PyProof.Rows.stripBy_eq]
    refine TL.ext_tl ?_
    show (Builtin.Str.strSub _ _ _).cps.toList = _
    rw [StrLaws.strSub_toList]
    show (l.drop (l.takeWhile (S b).cps.contains).length).take ((S l).length - (l.takeWhile (S b).cps.contains).length) = _
    rw [drop_len_takeWhile, SX.S_len, List.take_of_length_le (by
      have := congrArg List.length (drop_len_takeWhile (S b).cps.contains l)
      rw [List.length_drop] at this
      omega)]
    refine congrArg (fun q => l.dropWhile q) (funext fun z => ?_)
    rw [Bool.eq_iff_iff, decide_eq_true_eq]
    simp [S]
  rw [SX.S_len, e]
  unfold guard
  rw [if_pos hl]
theorem d_eq_S (a b : List Nat) : dEq (.str (S a)) (.str (S b)) = ok (.bl (decide (a = b))) := by
  show ok (D.bl (decide (S a = S b))) = (_ : R D)
  have : (S a = S b) ↔ a = b := ⟨SX.S_inj, fun h => by rw [h]⟩
  rw [decide_eq_decide.mpr this]
theorem d_ne_S (a b : List Nat) : dNe (.str (S a)) (.str (S b)) = ok (.bl (!decide (a = b))) := by
  show ok (D.bl (!decide (S a = S b))) = (_ : R D)
  have : (S a = S b) ↔ a = b := ⟨SX.S_inj, fun h => by rw [h]⟩
  rw [decide_eq_decide.mpr this]
/-- a whole number's text -/
def numT (i : Int) : List Nat := if i < 0 then 45 :: TL.numL i.natAbs else TL.numL i.natAbs
theorem str_numT (i : Int) : Str.ofString (toString i) = S (numT i) := by
  unfold numT
  by_cases h : i < 0
  · rw [if_pos h, PyProof.Rows.toString_neg h]
    refine TL.ext_tl ?_
    rw [TL.tl_ofString, String.toList_append, List.map_append, ← TL.tl_ofString, show (0 - i) = ((i.natAbs : Nat) : Int) by omega, ← TL.tl_ofString, TL.tl_num]
    rfl
  · rw [if_neg h]
    conv => lhs; rw [show i = ((i.natAbs : Nat) : Int) by omega]
    exact SX.num_S _
theorem d_str_S {i : Int} (h : i.natAbs < 2 ^ 64) : dStr [.int i] = ok (.str (S (numT i))) := by
  show guard (i.natAbs < 2 ^ 64) (ok (D.str (Str.ofString (toString i)))) = (_ : R D)
  rw [str_numT]
  unfold guard
  rw [if_pos h]
theorem d_int_nat {ds : List Nat} (h : NumText.AllDigits ds) (h1 : ds ≠ []) (hl : ds.length ≤ 640) : dIntS [.str (S ds)] = ok (.int (NumText.digitsVal ds : Nat)) := by
  have e := intText_digits (x := S ds) h h1 (by rw [SX.S_len]; omega)
  show (intText? (S ds)).bind _ = _
  rw [e]
  show guard ((S ds).length ≤ 640) _ = (_ : R D)
  rw [SX.S_len]
  unfold guard
  rw [if_pos hl]
theorem d_int_neg {ds : List Nat} (h : NumText.AllDigits ds) (h1 : ds ≠ []) (hl : ds.length < 640) : dIntS [.str (S (45 :: ds))] = ok (.int (-(NumText.digitsVal ds : Nat))) := by
  have e := intText_neg (x := S (45 :: ds)) (cs := ds) rfl h h1 (by rw [SX.S_len, List.length_cons]; omega)
  show (intText? (S (45 :: ds))).bind _ = _
  rw [e]
  show guard ((S (45 :: ds)).length ≤ 640) _ = (_ : R D)
  rw [SX.S_len]
  unfold guard
  rw [if_pos (by rw [List.length_cons]; omega)]
open NumText in
theorem intText_plus {x : Str} {cs : List Nat} (hx : x.cps.toList = 43 :: cs) (h : AllDigits cs) (h1 : cs ≠ []) (h2 : x.length ≤ 4300) : intText? x = some ((digitsVal cs : Nat) : Int) := by
  have hm : ∀ c ∈ x.cps.toList, c < 128 ∧ c ≠ 0 := by
    rw [hx]
    intro c hc
    rcases List.mem_cons.mp hc with e | hc
    · rw [e]; decide
    · have := h c hc; omega
  have e1 : numTextOf x = x.cps.toList := by
    refine if_pos ?_
    rw [← Array.all_toList, List.all_eq_true]
    exact fun c hc => decide_eq_true (hm c hc).1
  have e2 : numSeenOf x = x.cps.toList := by
    show (numTextOf x).takeWhile _ = _
    rw [e1]
    exact NumText.takeWhile_all fun c hc => bne_iff_ne.mpr (hm c hc).2
  have e3 : intText? x = match digits? 10 (core x.cps.toList) with
      | some ds => if ds.size ≤ 4300 then some (worth (sign (x.cps.toList.dropWhile blank)).1 ds) else none
      | none => none := by
    unfold intText?
    rw [e1, e2]
    exact if_pos (beq_self_eq_true _)
  have hl : x.cps.toList.length = x.length := Array.length_toList
  rw [e3, hx]
  rw [hx, List.length_cons] at hl
  have es : sign ((43 :: cs).dropWhile blank) = (false, cs) := by rw [dropWhile_of (by decide)]; rfl
  have ec : core (43 :: cs) = cs := by
    unfold core
    rw [es]
    show (cs.reverse.dropWhile blank).reverse = cs
    rw [dropWhile_digits h.reverse, List.reverse_reverse]
  rw [ec, es, digits_of h h1]
  have hsz := push_size cs #[]
  have hv := push_foldl cs #[]
  show (if _ ≤ 4300 then some (worth false _) else none) = _
  rw [if_pos (by rw [hsz]; simp only [Array.size_empty]; omega)]
  unfold worth digitsVal
  rw [hv]
  rfl
theorem d_int_plus {ds : List Nat} (h : NumText.AllDigits ds) (h1 : ds ≠ []) (hl : ds.length < 640) : dIntS [.str (S (43 :: ds))] = ok (.int (NumText.digitsVal ds : Nat)) := by
  have e := intText_plus (x := S (43 :: ds)) (cs := ds) rfl h h1 (by rw [SX.S_len, List.length_cons]; omega)
  show (intText? (S (43 :: ds))).bind _ = _
  rw [e]
  show guard ((S (43 :: ds)).length ≤ 640) _ = (_ : R D)
  rw [SX.S_len]
  unfold guard
  rw [if_pos (by rw [List.length_cons]; omega)]
theorem d_join_lst (a : List Nat) (ys : List (List Nat)) (h : (ys.map (·.length)).sum + ys.length * a.length ≤ lim) : dJoin (.str (S a)) (.lst (ys.map fun y => .str (S y))) = ok (.str (S (TL.joinL a ys))) := by
  show (strs? (ys.map fun y => .str (S y))).bind _ = _
  rw [show (ys.map fun y => D.str (S y)) = (ys.map S).map D.str by rw [List.map_map]; rfl, strs?_map]
  show guard _ _ = (_ : R D)
  rw [SX.join_S, SX.lens, List.length_map, SX.S_len]
  unfold guard
  rw [if_pos h]
end DL

set_option Elab.async false
set_option linter.all false
set_option maxRecDepth 100000
set_option maxHeartbeats 2000000
set_option autoImplicit false
/-! DNl: a dict that the module's top has written, its keys texts: d[k], k in d. -/
namespace DL
open PySem PySem.Spec PyProof.Rows L2
def vRel : D → Value → Prop
  | .int i, v => ∃ t, v = .int i t
  | .str s, v => ∃ t, v = .str s t
  | _, _ => False
/-- a dict's entries, told by data -/
def KdE : List DictEntry → List (Str × D) → Prop
  | [], [] => True
  | e :: es, (k, d) :: kds => ((∃ t, e.key = .str k t) ∧ vRel d e.val) ∧ KdE es kds
  | _, _ => False
structure KDAt (K : PySem.W.Frag) (w : World) (mg : Str → Option Value) (x : Str) (kds : List (Str × D)) : Prop where
  ex : ∃ p es n, mg x = some (.ref p) ∧ (p == sysModules) = false ∧ K.lookup p = some ⟨.type "dict", none, .dict es n, #[]⟩ ∧ PySem.W.KeysLit w.params es.toList ∧ KdE es.toList kds
def lkS : List (Str × D) → Str → Option D
  | [], _ => none
  | (k, d) :: r, z => if k = z then some d else lkS r z
theorem kdE_find : ∀ {l : List DictEntry} {kds : List (Str × D)} (z : Str), KdE l kds → l.any (·.refKey) = false ∧ ((l.find? (·.key.isStr z) = none ∧ lkS kds z = none) ∨ ∃ e d, l.find? (·.key.isStr z) = some e ∧ lkS kds z = some d ∧ vRel d e.val)
  | [], [], z, _ => ⟨rfl, .inl ⟨rfl, rfl⟩⟩
  | [], _ :: _, _, h => h.elim
  | _ :: _, [], _, h => h.elim
  | e :: es, (k, d) :: kds, z, ⟨⟨⟨t, ek⟩, hv⟩, hr⟩ => by
    obtain ⟨h1, h2⟩ := kdE_find z hr
    have r0 : e.refKey = false := by unfold DictEntry.refKey; rw [ek]
    have r1 : e.key.isStr z = decide (k = z) := by rw [ek]; first | rfl | (rw [PySem.W.isStr_of]; rfl) | (show (k == z) = _; by_cases q : k = z <;> simp [q])
    refine ⟨by rw [List.any_cons, r0, h1]; rfl, ?_⟩
    rw [List.find?_cons, r1]
    unfold lkS
    by_cases q : k = z
    · rw [decide_eq_true q, if_pos q]
      exact .inr ⟨e, d, rfl, rfl, hv⟩
    · rw [decide_eq_false q, if_neg q]
      exact h2
theorem nsIn_of {K : PySem.W.Frag} {p : Addr} {es : Array DictEntry} {n : Nat} {kds : List (Str × D)} (hl : K.lookup p = some ⟨.type "dict", none, .dict es n, #[]⟩) (h : KdE es.toList kds) (z : Str) :
    (PySem.W.nsIn K p z = some none ∧ lkS kds z = none) ∨ ∃ u d, PySem.W.nsIn K p z = some (some u) ∧ lkS kds z = some d ∧ vRel d u := by
  obtain ⟨h1, h2⟩ := kdE_find z h
  unfold PySem.W.nsIn
  rw [hl]
  dsimp only
  rcases h2 with ⟨e, l⟩ | ⟨e, d, e1, l, v⟩
  · rw [e]
    refine .inl ⟨?_, l⟩
    dsimp only
    rw [h1]
    rfl
  · rw [e1]
    exact .inr ⟨_, d, rfl, l, v⟩
def vOf : D → V
  | .int i => .int i
  | .str s => .str s
  | _ => .non
theorem vRel_V {d : D} {u : Value} (h : vRel d u) : RelV (vOf d) u := by
  cases d <;> first | exact h | exact h.elim
section
variable {X : Cx} {c : Conf} {W : WX}
theorem vRel_re {N : Addr → Prop} {H : Hp} {d : D} {u : Value} (h : vRel d u) : Re c N H (vOf d) d := by
  cases d <;> first | exact .int .nil | exact .str .nil | exact h.elim
def mKix (kds : List (Str × D)) (m : ME) : ME := fun ρ => bnd (m ρ) fun d => match d with
  | .str s => (lkS kds s).map .ok
  | _ => none
theorem d_kix {x : Str} {kds : List (Str × D)} {b : Expr} {mb : ME} {p0 pos : Pos} (T : KDAt X.K X.w X.mg x kds) (hb : PE X b (tE c W .bor mb)) (hg : Gl X x := by rfl) (hd : (x == ("__debug__" : Str)) = false := by decide) (hs : PlainIx b := by intro _ _; rfl) :
    PE X (.Subscript (.Name x p0) b pos) (tE c W .dur (mKix kds mb)) := by
  obtain ⟨p, es, n, hm, lo, hl, hk, he⟩ := T.ex
  refine (pe_ix ix_kdict (pe_glob hg hm (show RelV (.ref p) _ from rfl) hd) hb hs).via fun σ H Q ⟨Γ, ρ, r, er, em, q⟩ => ?_
  show tE c W .bor mb σ H _
  refine use er em q.err fun a v H1 h1 s1 r1 => ?_
  cases a <;> first | (cases h1; done) | skip
  rename_i s
  obtain ⟨d, hd, rfl⟩ := Option.map_eq_some_iff.mp h1
  rw [Bor.str r1.2]
  rcases nsIn_of hl he s with ⟨_, l⟩ | ⟨u, d', e1, l, vr⟩
  · rw [l] at hd; cases hd
  · rw [l] at hd
    cases hd
    exact ⟨p, s, vOf d, rfl, rfl, ⟨es, n, u, hl, hk, e1, vRel_V vr⟩, fin_re (q.mono s1) r1.1 (vRel_re vr)⟩
def rInK (K : PySem.W.Frag) (w : World) : R2 := fun x y H Q => ∃ p z es n r, x = .str z ∧ y = .ref p ∧ (p == sysModules) = false ∧ K.lookup p = some ⟨.type "dict", none, .dict es n, #[]⟩ ∧ PySem.W.KeysLit w.params es.toList ∧ PySem.W.nsIn K p z = some r ∧ Q (.bl r.isSome) H
def rNotInK (K : PySem.W.Frag) (w : World) : R2 := fun x y H Q => ∃ p z es n r, x = .str z ∧ y = .ref p ∧ (p == sysModules) = false ∧ K.lookup p = some ⟨.type "dict", none, .dict es n, #[]⟩ ∧ PySem.W.KeysLit w.params es.toList ∧ PySem.W.nsIn K p z = some r ∧ Q (.bl (!r.isSome)) H
theorem op_inK : OpR X (compareOp .In) (rInK X.K X.w) := by
  intro pins s σ H x y v u Q I rx ry h
  obtain ⟨p, z, es, n, r, rfl, rfl, lo, hl, hk, e, q⟩ := h
  obtain ⟨t, rfl⟩ := rx
  obtain rfl : u = Value.ref p := ry
  have hm := PySem.W.mapOf_K (prog := X.prog) (w := X.w) I.kIn hl hk
  exact wpAny_in_of (strKind_is X.prog X.w z t) lo hm (by rw [PySem.W.find_K hl e]; exact ⟨.bl _, H, I.tok _, rfl, q⟩)
theorem op_notInK : OpR X (compareOp .NotIn) (rNotInK X.K X.w) := by
  intro pins s σ H x y v u Q I rx ry h
  obtain ⟨p, z, es, n, r, rfl, rfl, lo, hl, hk, e, q⟩ := h
  obtain ⟨t, rfl⟩ := rx
  obtain rfl : u = Value.ref p := ry
  have hm := PySem.W.mapOf_K (prog := X.prog) (w := X.w) I.kIn hl hk
  exact wpAny_notIn_of (strKind_is X.prog X.w z t) lo hm (by rw [PySem.W.find_K hl e]; exact ⟨.bl _, H, I.tok _, rfl, q⟩)
def mKin (kds : List (Str × D)) (m : ME) : ME := fun ρ => bnd (m ρ) fun d => match d with
  | .str s => ok (.bl (lkS kds s).isSome)
  | _ => none
def mKnotIn (kds : List (Str × D)) (m : ME) : ME := fun ρ => bnd (m ρ) fun d => match d with
  | .str s => ok (.bl (!(lkS kds s).isSome))
  | _ => none
theorem kin_ok {x : Str} {kds : List (Str × D)} {ma : ME} {p : Addr} {es : Array DictEntry} {n : Nat} (lo : (p == sysModules) = false) (hl : X.K.lookup p = some ⟨.type "dict", none, .dict es n, #[]⟩) (hk : PySem.W.KeysLit X.w.params es.toList) (he : KdE es.toList kds) :
    ∀ σ H Q, tE c W .dur (mKin kds ma) σ H Q → tOp (rInK X.K X.w) (tE c W .bor ma) (tC (.ref p)) σ H Q := fun σ H Q ⟨Γ, ρ, r, er, em, q⟩ => by
  refine use er em q.err fun a v H1 h1 s1 r1 => ?_
  cases a <;> first | (cases h1; done) | skip
  rename_i s
  cases h1
  rw [Bor.str r1.2]
  rcases nsIn_of hl he s with ⟨e, l⟩ | ⟨u, d', e, l, vr⟩
  · rw [l] at q
    exact ⟨p, s, es, n, none, rfl, rfl, lo, hl, hk, e, fin_bl (q.mono s1) r1.1⟩
  · rw [l] at q
    exact ⟨p, s, es, n, some u, rfl, rfl, lo, hl, hk, e, fin_bl (q.mono s1) r1.1⟩
theorem knotIn_ok {x : Str} {kds : List (Str × D)} {ma : ME} {p : Addr} {es : Array DictEntry} {n : Nat} (lo : (p == sysModules) = false) (hl : X.K.lookup p = some ⟨.type "dict", none, .dict es n, #[]⟩) (hk : PySem.W.KeysLit X.w.params es.toList) (he : KdE es.toList kds) :
    ∀ σ H Q, tE c W .dur (mKnotIn kds ma) σ H Q → tOp (rNotInK X.K X.w) (tE c W .bor ma) (tC (.ref p)) σ H Q := fun σ H Q ⟨Γ, ρ, r, er, em, q⟩ => by
  refine use er em q.err fun a v H1 h1 s1 r1 => ?_
  cases a <;> first | (cases h1; done) | skip
  rename_i s
  cases h1
  rw [Bor.str r1.2]
  rcases nsIn_of hl he s with ⟨e, l⟩ | ⟨u, d', e, l, vr⟩
  · rw [l] at q
    exact ⟨p, s, es, n, none, rfl, rfl, lo, hl, hk, e, fin_bl (q.mono s1) r1.1⟩
  · rw [l] at q
    exact ⟨p, s, es, n, some u, rfl, rfl, lo, hl, hk, e, fin_bl (q.mono s1) r1.1⟩
theorem d_kin {x : Str} {kds : List (Str × D)} {a : Expr} {ma : ME} {p0 pos : Pos} (T : KDAt X.K X.w X.mg x kds) (ha : PE X a (tE c W .bor ma)) (hg : Gl X x := by rfl) (hd : (x == ("__debug__" : Str)) = false := by decide) (hm : behindInMarks .In (.Name x p0) = false := by first | exact nomark _ | rfl | with_unfolding_all rfl) :
    PE X (.Compare a [.In] [.Name x p0] pos) (tE c W .dur (mKin kds ma)) := by
  obtain ⟨p, es, n, hmg, lo, hl, hk, he⟩ := T.ex
  exact (pe_cmpR op_inK ha (pe_glob hg hmg (show RelV (.ref p) _ from rfl) hd) hm).via (kin_ok (x := x) lo hl hk he)
theorem d_knotIn {x : Str} {kds : List (Str × D)} {a : Expr} {ma : ME} {p0 pos : Pos} (T : KDAt X.K X.w X.mg x kds) (ha : PE X a (tE c W .bor ma)) (hg : Gl X x := by rfl) (hd : (x == ("__debug__" : Str)) = false := by decide) (hm : behindInMarks .NotIn (.Name x p0) = false := by first | exact nomark _ | rfl | with_unfolding_all rfl) :
    PE X (.Compare a [.NotIn] [.Name x p0] pos) (tE c W .dur (mKnotIn kds ma)) := by
  obtain ⟨p, es, n, hmg, lo, hl, hk, he⟩ := T.ex
  exact (pe_cmpR op_notInK ha (pe_glob hg hmg (show RelV (.ref p) _ from rfl) hd) hm).via (knotIn_ok (x := x) lo hl hk he)
theorem t_kin {x : Str} {kds : List (Str × D)} {a : Expr} {ma : ME} {p0 pos : Pos} (T : KDAt X.K X.w X.mg x kds) (ha : PE X a (tE c W .bor ma)) (hg : Gl X x := by rfl) (hd : (x == ("__debug__" : Str)) = false := by decide) (hm : behindInMarks .In (.Name x p0) = false := by first | exact nomark _ | rfl | with_unfolding_all rfl) :
    PT X (.Compare a [.In] [.Name x p0] pos) (tT c W (mTst (mKin kds ma))) := by
  obtain ⟨p, es, n, hmg, lo, hl, hk, he⟩ := T.ex
  exact (pt_cmpR op_inK ha (pe_glob hg hmg (show RelV (.ref p) _ from rfl) hd) hm).via fun _ _ _ h => tst_of (kin_ok (x := x) lo hl hk he) h
theorem t_knotIn {x : Str} {kds : List (Str × D)} {a : Expr} {ma : ME} {p0 pos : Pos} (T : KDAt X.K X.w X.mg x kds) (ha : PE X a (tE c W .bor ma)) (hg : Gl X x := by rfl) (hd : (x == ("__debug__" : Str)) = false := by decide) (hm : behindInMarks .NotIn (.Name x p0) = false := by first | exact nomark _ | rfl | with_unfolding_all rfl) :
    PT X (.Compare a [.NotIn] [.Name x p0] pos) (tT c W (mTst (mKnotIn kds ma))) := by
  obtain ⟨p, es, n, hmg, lo, hl, hk, he⟩ := T.ex
  exact (pt_cmpR op_notInK ha (pe_glob hg hmg (show RelV (.ref p) _ from rfl) hd) hm).via fun _ _ _ h => tst_of (knotIn_ok (x := x) lo hl hk he) h
end
end DL

set_option autoImplicit false
namespace Lw
open PySem L2 DL
def kd_SIZES : List (Str × D) := [("swap", .int 2), ("next", .int 1), ("take", .int 2), ("flip", .int 2), ("blocks", .int 4), ("turn", .int 2), ("recut", .int 4), ("cut", .int 2), ("join", .int 2)]
/-- write_script(moves); slots: 0 moves 1 move 2 item -/
def b_write_script : MS := mRet (mStr1 dJoin (mC (.str "; ")) (mLc (mItems (mVar 0)) [1] (gD 1) (mYes) (mStr1 dJoin (mC (.str " ")) (mLc (mItems (mVar 1)) [2] (gD 2) (mYes) (mCB dStr (mCons (mVar 2) (mNil)))))))
def m_write_script : List D → R D := mDef 3 1 b_write_script
/-- plain_number(word); slots: 0 word 1 character -/
def b_plain_number : MS := mSeq (mIf (mOrT (mTst (mBin dEq (mVar 0) (mC (.str "")))) (mTst (mCB dAny (mCons (mLc (mChars (mVar 0)) [1] (gD 1) (mYes) (mBin dNotIn (mVar 1) (mC (.str "0123456789")))) (mNil))))) (mRaise .text) (mSkip)) (mSeq (mIf (mAndT (mTst (mBin dEq (mBin dIx (mVar 0) (mC (.int 0))) (mC (.str "0")))) (mTst (mBin dGt (mCB dLen (mCons (mVar 0) (mNil))) (mC (.int 1))))) (mRaise .text) (mSkip)) (mRet (mCB dIntS (mCons (mVar 0) (mNil)))))
def m_plain_number : List D → R D := mDef 2 1 b_plain_number
/-- read_move(line); slots: 0 line 1 words 2 word -/
def b_read_move : MS := mSeq (mSet 1 false (mStr1 dSplit (mVar 0) (mC (.str " ")))) (mSeq (mIf (mOrT (mTst (mKnotIn kd_SIZES (mBin dIx (mVar 1) (mC (.int 0))))) (mTst (mBin dNe (mCB dLen (mCons (mVar 1) (mNil))) (mBin dAdd (mC (.int 1)) (mKix kd_SIZES (mBin dIx (mVar 1) (mC (.int 0)))))))) (mRaise .text) (mSkip)) (mRet (mBin dAdd (mTup (mCons (mBin dIx (mVar 1) (mC (.int 0))) (mNil))) (mCB dTuple (mCons (mLcE (mItems (mSl (mVar 1) (mSome (mC (.int 1))) (mNone))) [2] (gD 2) (mYes) (mCB m_plain_number (mCons (mVarD 2) (mNil)))) (mNil))))))
def m_read_move : List D → R D := mDef 3 1 b_read_move
/-- read_script(text); slots: 0 text 1 line -/
def b_read_script : MS := mSeq (mIf (mTst (mBin dEq (mVar 0) (mC (.str "")))) (mRet (mTup (mNil))) (mSkip)) (mRet (mCB dTuple (mCons (mLcE (mItems (mStr1 dSplit (mVar 0) (mC (.str "; ")))) [1] (gD 1) (mYes) (mCB m_read_move (mCons (mVarD 1) (mNil)))) (mNil))))
def m_read_script : List D → R D := mDef 2 1 b_read_script
/-- _law_cell(_law_script, _law_k); slots: 0 _law_script 1 _law_k -/
def b__law_cell : MS := mSeq (mIf (mTst (mBin dLt (mVar 1) (mCB dLen (mCons (mVar 0) (mNil))))) (mRet (mBin dIx (mVar 0) (mVar 1))) (mSkip)) (mRet (mC (.int 0)))
def m__law_cell : List D → R D := mDef 2 2 b__law_cell
/-- _law_digits(_law_cell_here, _law_sizes); slots: 0 _law_cell_here 1 _law_sizes 2 _law_row 3 _law_size -/
def lb__law_digits_1 : MS := mSeq (mMut 2 fApp (mCons (mBin dMod (mCB dInt (mCons (mVar 0) (mNil))) (mVar 3)) mNil)) (mSet 0 false (mBin dDiv (mVar 0) (mVar 3)))
def b__law_digits : MS := mSeq (mSet 2 true (mLst (mNil))) (mSeq (mFor (mItems (mVarD 1)) (gD 3) lb__law_digits_1) (mRet (mVar 2)))
def m__law_digits : List D → R D := mDef 4 2 b__law_digits
/-- _law_rich(_law_cell_here); slots: 0 _law_cell_here 1 _law_low 2 _law_high -/
def b__law_rich : MS := mSeq (mIf (mTst (mBin dGe (mVar 0) (mBin dPow (mC (.int 10)) (mC (.int 18))))) (mRet (mVar 0)) (mSkip)) (mSeq (mSet 1 false (mBin dMod (mCB dInt (mCons (mBin dAdd (mBin dMul (mVar 0) (mC (.int 48271))) (mC (.int 11))) (mNil))) (mC (.int 2147483647)))) (mSeq (mSet 2 false (mBin dMod (mCB dInt (mCons (mBin dAdd (mBin dAdd (mBin dMul (mVar 1) (mC (.int 69621))) (mBin dDiv (mVar 0) (mC (.int 7)))) (mC (.int 5))) (mNil))) (mC (.int 2147483629)))) (mRet (mBin dAdd (mBin dMul (mVar 1) (mC (.int 2147483629))) (mVar 2)))))
def m__law_rich : List D → R D := mDef 3 1 b__law_rich
/-- _law_count(_law_word); slots: 0 _law_word 1 _law_words 2 _law_count_here -/
def lb__law_count_1 : MS := mIf (mTst (mBin dIn (mVar 0) (mVar 1))) (mRet (mVar 2)) (mSkip)
def b__law_count : MS := mSeq (mFor (mItems (mLst (mCons (mTup (mCons (mLst (mCons (mC (.str "swap")) (mCons (mC (.str "take")) (mCons (mC (.str "flip")) (mCons (mC (.str "turn")) (mCons (mC (.str "cut")) (mCons (mC (.str "join")) (mNil)))))))) (mCons (mC (.int 2)) (mNil)))) (mCons (mTup (mCons (mLst (mCons (mC (.str "next")) (mNil))) (mCons (mC (.int 1)) (mNil)))) (mCons (mTup (mCons (mLst (mCons (mC (.str "blocks")) (mCons (mC (.str "recut")) (mNil)))) (mCons (mC (.int 4)) (mNil)))) (mNil)))))) (gT [1, 2]) lb__law_count_1) (mRet (mC (.int 0)))
def m__law_count : List D → R D := mDef 3 1 b__law_count
/-- _law_script_of(_law_text); slots: 0 _law_text 1 _law_moves 2 _law_line 3 _law_words 4 _law_word 5 _law_char -/
def lb__law_script_of_2 : MS := mSeq (mIf (mOrT (mTst (mBin dEq (mVar 4) (mC (.str "")))) (mTst (mBin dNe (mLc (mChars (mVar 4)) [5] (gD 5) (mTst (mBin dNotIn (mVar 5) (mC (.str "0123456789")))) (mVarD 5)) (mLst (mNil))))) (mRet (mC .non)) (mSkip)) (mIf (mAndT (mTst (mBin dEq (mBin dIx (mVar 4) (mC (.int 0))) (mC (.str "0")))) (mTst (mBin dNe (mVar 4) (mC (.str "0"))))) (mRet (mC .non)) (mSkip))
def lb__law_script_of_1 : MS := mSeq (mSet 3 false (mStr1 dSplit (mVar 2) (mC (.str " ")))) (mSeq (mIf (mOrT (mTst (mBin dEq (mCB m__law_count (mCons (mBin dIx (mVar 3) (mC (.int 0))) (mNil))) (mC (.int 0)))) (mTst (mBin dNe (mCB dLen (mCons (mVar 3) (mNil))) (mBin dAdd (mC (.int 1)) (mCB m__law_count (mCons (mBin dIx (mVar 3) (mC (.int 0))) (mNil))))))) (mRet (mC .non)) (mSkip)) (mSeq (mFor (mItems (mSl (mVar 3) (mSome (mC (.int 1))) (mNone))) (gD 4) lb__law_script_of_2) (mMut 1 fApp (mCons (mBin dAdd (mTup (mCons (mBin dIx (mVar 3) (mC (.int 0))) (mNil))) (mCB dTuple (mCons (mLc (mItems (mSl (mVar 3) (mSome (mC (.int 1))) (mNone))) [4] (gD 4) (mYes) (mCB dIntS (mCons (mVar 4) (mNil)))) (mNil)))) mNil))))
def b__law_script_of : MS := mSeq (mIf (mTst (mBin dEq (mVar 0) (mC (.str "")))) (mRet (mTup (mNil))) (mSkip)) (mSeq (mSet 1 true (mLst (mNil))) (mSeq (mFor (mItems (mStr1 dSplit (mVar 0) (mC (.str "; ")))) (gD 2) lb__law_script_of_1) (mRet (mCB dTuple (mCons (mVar 1) (mNil))))))
def m__law_script_of : List D → R D := mDef 6 1 b__law_script_of
/-- _law_read(_law_text); slots: 0 _law_text 1 e -/
def b__law_read : MS := mSeq (mTryAs 1 (mRet (mCB m_read_script (mCons (mVarD 0) (mNil)))) (fun x => isSub x .text) (fun x => mIf (mAndT (mTst (mC (.bl (isSub x .base)))) (mNotT (mTst (mC (.bl (isSub x .move)))))) (mRet (mC .non)) (mSkip))) (mRet (mC (.int 0)))
def m__law_read : List D → R D := mDef 2 1 b__law_read
/-- law(_law_script); slots: 0 _law_script 1 _law_moves 2 _law_k 3 _law_d 4 _law_word 5 _law_text 6 _law_at 7 _law_char 8 _law_bent 9 _law_move 10 _law_item -/
def st_law_1 : MS := mSet 1 true (mLst (mNil))
def lb_law_1_1 : MS := mIf (mTst (mBin dGe (mBin dAdd (mC (.int 2)) (mVar 2)) (mCB dLen (mCons (mVar 0) (mNil))))) (mBrk) (mSkip)
def lb_law_1_2 : MS := mSet 3 false (mCB m__law_digits (mCons (mCB m__law_rich (mCons (mCB m__law_cell (mCons (mVarD 0) (mCons (mBin dAdd (mC (.int 2)) (mVar 2)) (mNil)))) (mNil))) (mCons (mLst (mCons (mC (.int 9)) (mCons (mC (.int 41)) (mCons (mC (.int 41)) (mCons (mC (.int 41)) (mCons (mC (.int 41)) (mNil))))))) (mNil))))
def lb_law_1_3 : MS := mSet 4 false (mBin dIx (mLst (mCons (mC (.str "swap")) (mCons (mC (.str "take")) (mCons (mC (.str "flip")) (mCons (mC (.str "turn")) (mCons (mC (.str "cut")) (mCons (mC (.str "join")) (mCons (mC (.str "next")) (mCons (mC (.str "blocks")) (mCons (mC (.str "recut")) (mNil))))))))))) (mBin dIx (mVar 3) (mC (.int 0))))
def lb_law_1_4 : MS := mMut 1 fApp (mCons (mBin dAdd (mTup (mCons (mVarD 4) (mNil))) (mCB dTuple (mCons (mSl (mVar 3) (mSome (mC (.int 1))) (mSome (mBin dAdd (mC (.int 1)) (mCB m__law_count (mCons (mVarD 4) (mNil)))))) (mNil)))) mNil)
def lb_law_1 : MS := mSeq (lb_law_1_1) (mSeq (lb_law_1_2) (mSeq (lb_law_1_3) (lb_law_1_4)))
def st_law_2 : MS := mFor (mRgI1 (mC (.int 8))) (gD 2) lb_law_1
def st_law_3 : MS := mSet 5 false (mStr1 dJoin (mC (.str "; ")) (mLc (mItems (mVar 1)) [9] (gD 9) (mYes) (mStr1 dJoin (mC (.str " ")) (mLc (mItems (mVar 9)) [10] (gD 10) (mYes) (mCB dStr (mCons (mVar 10) (mNil)))))))
def st_law_4 : MS := mIf (mOrT (mTst (mBin dNe (mCB m_write_script (mCons (mCB dTuple (mCons (mVar 1) (mNil))) (mNil))) (mVar 5))) (mTst (mBin dNe (mCB m__law_read (mCons (mVarD 5) (mNil))) (mCB dTuple (mCons (mVar 1) (mNil)))))) (mRet (mC (.bl false))) (mSkip)
def st_law_5 : MS := mSet 3 false (mCB m__law_digits (mCons (mCB m__law_rich (mCons (mCB m__law_cell (mCons (mVarD 0) (mCons (mC (.int 1)) (mNil)))) (mNil))) (mCons (mLst (mCons (mC (.int 4)) (mCons (mC (.int 400)) (mCons (mC (.int 22)) (mCons (mC (.int 3)) (mNil)))))) (mNil))))
def st_law_6 : MS := mSet 6 false (mBin dMod (mCB dInt (mCons (mBin dIx (mVar 3) (mC (.int 1))) (mNil))) (mBin dAdd (mCB dLen (mCons (mVar 5) (mNil))) (mC (.int 1))))
def st_law_7 : MS := mSet 7 false (mBin dIx (mC (.str "0123456789 ;\nacnosutw-")) (mBin dIx (mVar 3) (mC (.int 2))))
def st_law_8 : MS := mSet 8 false (mBin dAdd (mBin dAdd (mSl (mVar 5) (mNone) (mSome (mVar 6))) (mBin dIx (mLst (mCons (mC (.str "")) (mCons (mVarD 7) (mCons (mVarD 7) (mNil))))) (mBin dIx (mVar 3) (mC (.int 3))))) (mSl (mVar 5) (mSome (mBin dAdd (mVar 6) (mCB dInt (mCons (mBin dLt (mBin dIx (mVar 3) (mC (.int 3))) (mC (.int 2))) (mNil))))) (mNone)))
def st_law_9 : MS := mIf (mTst (mBin dEq (mBin dIx (mVar 3) (mC (.int 0))) (mC (.int 0)))) (mSet 8 false (mSl (mVar 5) (mNone) (mSome (mVar 6)))) (mSkip)
def st_law_10 : MS := mRet (mBin dEq (mCB m__law_read (mCons (mVarD 8) (mNil))) (mCB m__law_script_of (mCons (mVarD 8) (mNil))))
def b_law : MS := mSeq (st_law_1) (mSeq (st_law_2) (mSeq (st_law_3) (mSeq (st_law_4) (mSeq (st_law_5) (mSeq (st_law_6) (mSeq (st_law_7) (mSeq (st_law_8) (mSeq (st_law_9) (st_law_10)))))))))
def m_law : List D → R D := mDef 11 1 b_law
end Lw

set_option Elab.async false
set_option linter.all false
set_option maxRecDepth 100000
set_option maxHeartbeats 4000000
set_option autoImplicit false
namespace Lw
open PySem L2 DL
/-! ### the script's cells, digits, rows -/
def cellP (ns : List Int) (k : Nat) : Int := ns.getD k 0
theorem cell_ok (ns : List Int) (k : Nat) : m__law_cell [.fz false (ns.map D.int), .int k] = some (.ok (.int (cellP ns k))) := by
  unfold m__law_cell b__law_cell
  simp only [bnd_ok, bnd_er, sE_ok, sE_er, mSeq_eq, seqO_nx, seqO_rt, seqO_er, seqO_bk, seqO_ct, mIf_eq, ifO_ok, ifO_er, mVar_z, mVar_s, mVarD_z, mVarD_s, mC_eq, mBin_eq, mUn_eq, mCB_eq, mNil_eq, mCons_eq, mSet_eq, mRet_eq, mSkip_eq, mBrk_eq, mCnt_eq, mRaise_eq, mRetN_eq, mDrop_eq, mTst_eq, tstO_bl, tstO_er, mAndT_eq, andT_ok, andT_f, andT_t, andT_er, mOrT_eq, orT_ok, orT_f, orT_t, orT_er, mNotT_eq, mAnd_eq, andD_ok, andD_f, andD_t, andD_er, mOr_eq, orD_ok, orD_f, orD_t, orD_er, dNot_bl, dAdd_i, dSub_i, dNeg_i, dCmp_i, dInt_i, dInt_b, dAbs_i, dMax_i, dMin_i, dLen_l, dLen_t, dLen_f, dList_l, dList_t, dTuple_l, dTuple_t, dRev_l, dRev_t, dIx_l, dIx_t, dIx_f, dIsN_n, dNotN_n, mTup_eq, mLst_eq, mSl_eq, mNone_eq, mSome_eq, someO_i, dSl_t, dSl_l, mFor_eq, mItems_eq, itemsO_l, itemsO_t, itemsO_f, mRgI1_eq, mRgI2_eq, outR_nx, outR_rt, outR_er, run1, run2, run3, run4, forGo_nil, forGo_cons, forO_nx, forO_ct, forO_bk, forO_rt, forO_er, gD_eq, mMut_eq, mutO_l, subO_eq, ownD_z, ownD_s, dSet_l, List.set_cons_zero, List.set_cons_succ, List.getElem?_cons_zero, List.getElem?_cons_succ, List.replicate_succ, List.replicate_zero, Nat.reduceSub, Nat.reduceAdd, List.length_cons, List.length_nil, Option.bind_some, Option.map_some, Bool.false_eq_true, if_true, if_false, reduceIte, Bool.and_true, Bool.true_and, Bool.and_false, Bool.false_and, Bool.or_true, Bool.true_or, Bool.or_false, Bool.false_or, Bool.not_true, Bool.not_false, DL.isNon, isSub, reduceCtorEq, decide_true, decide_false, clrO, Bool.or_self, Bool.and_self, Nat.reduceLT, Int.reduceLT, Int.reduceLE, Int.reduceAdd, Int.reduceSub, Int.reduceNeg, Int.reduceMul, Int.reduceEq, Int.cast_ofNat_Int, gk0, gk1, gk2, gk3, gk4, gk5, gk6, gk7, gk8, gk9, gk10, gk11, gk12, mMeth_eq, methO_ok, mRgI3_eq, mFrz_eq, frzO_s, mAug_eq, augO_s, dAddA_i, dTupX_l, dTupX_t, rowD_t, rowD_f, dList_f, dTupX_f, dRev_f, List.length_map]
  by_cases h : k < ns.length
  · have h1 : decide ((k : Int) < (ns.length : Int)) = true := decide_eq_true (by omega)
    have h2 := atI_nat (ns.map D.int) k (by simpa using h)
    have h3 : cellP ns k = ns[k] := by unfold cellP; rw [List.getD_eq_getElem?_getD, List.getElem?_eq_getElem h]; rfl
    simp only [bnd_ok, bnd_er, sE_ok, sE_er, mSeq_eq, seqO_nx, seqO_rt, seqO_er, seqO_bk, seqO_ct, mIf_eq, ifO_ok, ifO_er, mVar_z, mVar_s, mVarD_z, mVarD_s, mC_eq, mBin_eq, mUn_eq, mCB_eq, mNil_eq, mCons_eq, mSet_eq, mRet_eq, mSkip_eq, mBrk_eq, mCnt_eq, mRaise_eq, mRetN_eq, mDrop_eq, mTst_eq, tstO_bl, tstO_er, mAndT_eq, andT_ok, andT_f, andT_t, andT_er, mOrT_eq, orT_ok, orT_f, orT_t, orT_er, mNotT_eq, mAnd_eq, andD_ok, andD_f, andD_t, andD_er, mOr_eq, orD_ok, orD_f, orD_t, orD_er, dNot_bl, dAdd_i, dSub_i, dNeg_i, dCmp_i, dInt_i, dInt_b, dAbs_i, dMax_i, dMin_i, dLen_l, dLen_t, dLen_f, dList_l, dList_t, dTuple_l, dTuple_t, dRev_l, dRev_t, dIx_l, dIx_t, dIx_f, dIsN_n, dNotN_n, mTup_eq, mLst_eq, mSl_eq, mNone_eq, mSome_eq, someO_i, dSl_t, dSl_l, mFor_eq, mItems_eq, itemsO_l, itemsO_t, itemsO_f, mRgI1_eq, mRgI2_eq, outR_nx, outR_rt, outR_er, run1, run2, run3, run4, forGo_nil, forGo_cons, forO_nx, forO_ct, forO_bk, forO_rt, forO_er, gD_eq, mMut_eq, mutO_l, subO_eq, ownD_z, ownD_s, dSet_l, List.set_cons_zero, List.set_cons_succ, List.getElem?_cons_zero, List.getElem?_cons_succ, List.replicate_succ, List.replicate_zero, Nat.reduceSub, Nat.reduceAdd, List.length_cons, List.length_nil, Option.bind_some, Option.map_some, Bool.false_eq_true, if_true, if_false, reduceIte, Bool.and_true, Bool.true_and, Bool.and_false, Bool.false_and, Bool.or_true, Bool.true_or, Bool.or_false, Bool.false_or, Bool.not_true, Bool.not_false, DL.isNon, isSub, reduceCtorEq, decide_true, decide_false, clrO, Bool.or_self, Bool.and_self, Nat.reduceLT, Int.reduceLT, Int.reduceLE, Int.reduceAdd, Int.reduceSub, Int.reduceNeg, Int.reduceMul, Int.reduceEq, Int.cast_ofNat_Int, gk0, gk1, gk2, gk3, gk4, gk5, gk6, gk7, gk8, gk9, gk10, gk11, gk12, mMeth_eq, methO_ok, mRgI3_eq, mFrz_eq, frzO_s, mAug_eq, augO_s, dAddA_i, dTupX_l, dTupX_t, rowD_t, rowD_f, dList_f, dTupX_f, dRev_f, h1, h2, List.getElem_map, h3]
  · have h1 : decide ((k : Int) < (ns.length : Int)) = false := decide_eq_false (by omega)
    have h3 : cellP ns k = 0 := by unfold cellP; rw [List.getD_eq_getElem?_getD, List.getElem?_eq_none (by omega)]; rfl
    simp only [bnd_ok, bnd_er, sE_ok, sE_er, mSeq_eq, seqO_nx, seqO_rt, seqO_er, seqO_bk, seqO_ct, mIf_eq, ifO_ok, ifO_er, mVar_z, mVar_s, mVarD_z, mVarD_s, mC_eq, mBin_eq, mUn_eq, mCB_eq, mNil_eq, mCons_eq, mSet_eq, mRet_eq, mSkip_eq, mBrk_eq, mCnt_eq, mRaise_eq, mRetN_eq, mDrop_eq, mTst_eq, tstO_bl, tstO_er, mAndT_eq, andT_ok, andT_f, andT_t, andT_er, mOrT_eq, orT_ok, orT_f, orT_t, orT_er, mNotT_eq, mAnd_eq, andD_ok, andD_f, andD_t, andD_er, mOr_eq, orD_ok, orD_f, orD_t, orD_er, dNot_bl, dAdd_i, dSub_i, dNeg_i, dCmp_i, dInt_i, dInt_b, dAbs_i, dMax_i, dMin_i, dLen_l, dLen_t, dLen_f, dList_l, dList_t, dTuple_l, dTuple_t, dRev_l, dRev_t, dIx_l, dIx_t, dIx_f, dIsN_n, dNotN_n, mTup_eq, mLst_eq, mSl_eq, mNone_eq, mSome_eq, someO_i, dSl_t, dSl_l, mFor_eq, mItems_eq, itemsO_l, itemsO_t, itemsO_f, mRgI1_eq, mRgI2_eq, outR_nx, outR_rt, outR_er, run1, run2, run3, run4, forGo_nil, forGo_cons, forO_nx, forO_ct, forO_bk, forO_rt, forO_er, gD_eq, mMut_eq, mutO_l, subO_eq, ownD_z, ownD_s, dSet_l, List.set_cons_zero, List.set_cons_succ, List.getElem?_cons_zero, List.getElem?_cons_succ, List.replicate_succ, List.replicate_zero, Nat.reduceSub, Nat.reduceAdd, List.length_cons, List.length_nil, Option.bind_some, Option.map_some, Bool.false_eq_true, if_true, if_false, reduceIte, Bool.and_true, Bool.true_and, Bool.and_false, Bool.false_and, Bool.or_true, Bool.true_or, Bool.or_false, Bool.false_or, Bool.not_true, Bool.not_false, DL.isNon, isSub, reduceCtorEq, decide_true, decide_false, clrO, Bool.or_self, Bool.and_self, Nat.reduceLT, Int.reduceLT, Int.reduceLE, Int.reduceAdd, Int.reduceSub, Int.reduceNeg, Int.reduceMul, Int.reduceEq, Int.cast_ofNat_Int, gk0, gk1, gk2, gk3, gk4, gk5, gk6, gk7, gk8, gk9, gk10, gk11, gk12, mMeth_eq, methO_ok, mRgI3_eq, mFrz_eq, frzO_s, mAug_eq, augO_s, dAddA_i, dTupX_l, dTupX_t, rowD_t, rowD_f, dList_f, dTupX_f, dRev_f, h1, h3]
def digs : Int → List Int → List Int
  | _, [] => []
  | c, s :: ss => c % s :: digs (c / s) ss
theorem digs_len : ∀ (c : Int) (ss : List Int), (digs c ss).length = ss.length
  | _, [] => rfl
  | c, s :: ss => by simp [digs, digs_len]
theorem digs_go (s1 : Option (D × Bool)) : ∀ (ss : List Int) (c : Int) (acc : List D) (s3 : Option (D × Bool)), (∀ s ∈ ss, 0 < s ∧ s < 9223372036854775808) → acc.length + ss.length ≤ 1000 →
    ∃ c' s3', forGo (gD 3) lb__law_digits_1 (ss.map D.int) [some (.int c, false), s1, some (.lst acc, true), s3] = some (.nx [some (.int c', false), s1, some (.lst (acc ++ (digs c ss).map D.int), true), s3'])
  | [], c, acc, s3, _, _ => ⟨c, s3, by simp only [bnd_ok, bnd_er, sE_ok, sE_er, mSeq_eq, seqO_nx, seqO_rt, seqO_er, seqO_bk, seqO_ct, mIf_eq, ifO_ok, ifO_er, mVar_z, mVar_s, mVarD_z, mVarD_s, mC_eq, mBin_eq, mUn_eq, mCB_eq, mNil_eq, mCons_eq, mSet_eq, mRet_eq, mSkip_eq, mBrk_eq, mCnt_eq, mRaise_eq, mRetN_eq, mDrop_eq, mTst_eq, tstO_bl, tstO_er, mAndT_eq, andT_ok, andT_f, andT_t, andT_er, mOrT_eq, orT_ok, orT_f, orT_t, orT_er, mNotT_eq, mAnd_eq, andD_ok, andD_f, andD_t, andD_er, mOr_eq, orD_ok, orD_f, orD_t, orD_er, dNot_bl, dAdd_i, dSub_i, dNeg_i, dCmp_i, dInt_i, dInt_b, dAbs_i, dMax_i, dMin_i, dLen_l, dLen_t, dLen_f, dList_l, dList_t, dTuple_l, dTuple_t, dRev_l, dRev_t, dIx_l, dIx_t, dIx_f, dIsN_n, dNotN_n, mTup_eq, mLst_eq, mSl_eq, mNone_eq, mSome_eq, someO_i, dSl_t, dSl_l, mFor_eq, mItems_eq, itemsO_l, itemsO_t, itemsO_f, mRgI1_eq, mRgI2_eq, outR_nx, outR_rt, outR_er, run1, run2, run3, run4, forGo_nil, forGo_cons, forO_nx, forO_ct, forO_bk, forO_rt, forO_er, gD_eq, mMut_eq, mutO_l, subO_eq, ownD_z, ownD_s, dSet_l, List.set_cons_zero, List.set_cons_succ, List.getElem?_cons_zero, List.getElem?_cons_succ, List.replicate_succ, List.replicate_zero, Nat.reduceSub, Nat.reduceAdd, List.length_cons, List.length_nil, Option.bind_some, Option.map_some, Bool.false_eq_true, if_true, if_false, reduceIte, Bool.and_true, Bool.true_and, Bool.and_false, Bool.false_and, Bool.or_true, Bool.true_or, Bool.or_false, Bool.false_or, Bool.not_true, Bool.not_false, DL.isNon, isSub, reduceCtorEq, decide_true, decide_false, clrO, Bool.or_self, Bool.and_self, Nat.reduceLT, Int.reduceLT, Int.reduceLE, Int.reduceAdd, Int.reduceSub, Int.reduceNeg, Int.reduceMul, Int.reduceEq, Int.cast_ofNat_Int, gk0, gk1, gk2, gk3, gk4, gk5, gk6, gk7, gk8, gk9, gk10, gk11, gk12, mMeth_eq, methO_ok, mRgI3_eq, mFrz_eq, frzO_s, mAug_eq, augO_s, dAddA_i, dTupX_l, dTupX_t, rowD_t, rowD_f, dList_f, dTupX_f, dRev_f, List.map_nil, digs, List.append_nil]⟩
  | s :: ss, c, acc, s3, h, hl => by
    obtain ⟨p, q⟩ := h s List.mem_cons_self
    simp only [List.length_cons] at hl
    obtain ⟨c', s3', e⟩ := digs_go s1 ss (c / s) (acc ++ [.int (c % s)]) (some (.int s, false)) (fun z hz => h z (List.mem_cons_of_mem _ hz)) (by simp; omega)
    refine ⟨c', s3', ?_⟩
    have la : acc.length < 1000000 := by omega
    rw [List.map_cons]
    simp only [bnd_ok, bnd_er, sE_ok, sE_er, mSeq_eq, seqO_nx, seqO_rt, seqO_er, seqO_bk, seqO_ct, mIf_eq, ifO_ok, ifO_er, mVar_z, mVar_s, mVarD_z, mVarD_s, mC_eq, mBin_eq, mUn_eq, mCB_eq, mNil_eq, mCons_eq, mSet_eq, mRet_eq, mSkip_eq, mBrk_eq, mCnt_eq, mRaise_eq, mRetN_eq, mDrop_eq, mTst_eq, tstO_bl, tstO_er, mAndT_eq, andT_ok, andT_f, andT_t, andT_er, mOrT_eq, orT_ok, orT_f, orT_t, orT_er, mNotT_eq, mAnd_eq, andD_ok, andD_f, andD_t, andD_er, mOr_eq, orD_ok, orD_f, orD_t, orD_er, dNot_bl, dAdd_i, dSub_i, dNeg_i, dCmp_i, dInt_i, dInt_b, dAbs_i, dMax_i, dMin_i, dLen_l, dLen_t, dLen_f, dList_l, dList_t, dTuple_l, dTuple_t, dRev_l, dRev_t, dIx_l, dIx_t, dIx_f, dIsN_n, dNotN_n, mTup_eq, mLst_eq, mSl_eq, mNone_eq, mSome_eq, someO_i, dSl_t, dSl_l, mFor_eq, mItems_eq, itemsO_l, itemsO_t, itemsO_f, mRgI1_eq, mRgI2_eq, outR_nx, outR_rt, outR_er, run1, run2, run3, run4, forGo_nil, forGo_cons, forO_nx, forO_ct, forO_bk, forO_rt, forO_er, gD_eq, mMut_eq, mutO_l, subO_eq, ownD_z, ownD_s, dSet_l, List.set_cons_zero, List.set_cons_succ, List.getElem?_cons_zero, List.getElem?_cons_succ, List.replicate_succ, List.replicate_zero, Nat.reduceSub, Nat.reduceAdd, List.length_cons, List.length_nil, Option.bind_some, Option.map_some, Bool.false_eq_true, if_true, if_false, reduceIte, Bool.and_true, Bool.true_and, Bool.and_false, Bool.false_and, Bool.or_true, Bool.true_or, Bool.or_false, Bool.false_or, Bool.not_true, Bool.not_false, DL.isNon, isSub, reduceCtorEq, decide_true, decide_false, clrO, Bool.or_self, Bool.and_self, Nat.reduceLT, Int.reduceLT, Int.reduceLE, Int.reduceAdd, Int.reduceSub, Int.reduceNeg, Int.reduceMul, Int.reduceEq, Int.cast_ofNat_Int, gk0, gk1, gk2, gk3, gk4, gk5, gk6, gk7, gk8, gk9, gk10, gk11, gk12, mMeth_eq, methO_ok, mRgI3_eq, mFrz_eq, frzO_s, mAug_eq, augO_s, dAddA_i, dTupX_l, dTupX_t, rowD_t, rowD_f, dList_f, dTupX_f, dRev_f, lb__law_digits_1, dMod_i _ _ p, dDiv_i _ _ p q, fApp_1 _ _ la]
    unfold lb__law_digits_1 at e
    rw [e]
    simp [digs]
theorem digs_ok (c : Int) (ss : List Int) (h : ∀ s ∈ ss, 0 < s ∧ s < 9223372036854775808) (hl : ss.length ≤ 1000) : m__law_digits [.int c, .lst (ss.map D.int)] = some (.ok (.lst ((digs c ss).map D.int))) := by
  obtain ⟨c', s3', e⟩ := digs_go (some (.lst (ss.map D.int), false)) ss c [] none h (by simpa using hl)
  unfold m__law_digits b__law_digits
  simp only [bnd_ok, bnd_er, sE_ok, sE_er, mSeq_eq, seqO_nx, seqO_rt, seqO_er, seqO_bk, seqO_ct, mIf_eq, ifO_ok, ifO_er, mVar_z, mVar_s, mVarD_z, mVarD_s, mC_eq, mBin_eq, mUn_eq, mCB_eq, mNil_eq, mCons_eq, mSet_eq, mRet_eq, mSkip_eq, mBrk_eq, mCnt_eq, mRaise_eq, mRetN_eq, mDrop_eq, mTst_eq, tstO_bl, tstO_er, mAndT_eq, andT_ok, andT_f, andT_t, andT_er, mOrT_eq, orT_ok, orT_f, orT_t, orT_er, mNotT_eq, mAnd_eq, andD_ok, andD_f, andD_t, andD_er, mOr_eq, orD_ok, orD_f, orD_t, orD_er, dNot_bl, dAdd_i, dSub_i, dNeg_i, dCmp_i, dInt_i, dInt_b, dAbs_i, dMax_i, dMin_i, dLen_l, dLen_t, dLen_f, dList_l, dList_t, dTuple_l, dTuple_t, dRev_l, dRev_t, dIx_l, dIx_t, dIx_f, dIsN_n, dNotN_n, mTup_eq, mLst_eq, mSl_eq, mNone_eq, mSome_eq, someO_i, dSl_t, dSl_l, mFor_eq, mItems_eq, itemsO_l, itemsO_t, itemsO_f, mRgI1_eq, mRgI2_eq, outR_nx, outR_rt, outR_er, run1, run2, run3, run4, forGo_nil, forGo_cons, forO_nx, forO_ct, forO_bk, forO_rt, forO_er, gD_eq, mMut_eq, mutO_l, subO_eq, ownD_z, ownD_s, dSet_l, List.set_cons_zero, List.set_cons_succ, List.getElem?_cons_zero, List.getElem?_cons_succ, List.replicate_succ, List.replicate_zero, Nat.reduceSub, Nat.reduceAdd, List.length_cons, List.length_nil, Option.bind_some, Option.map_some, Bool.false_eq_true, if_true, if_false, reduceIte, Bool.and_true, Bool.true_and, Bool.and_false, Bool.false_and, Bool.or_true, Bool.true_or, Bool.or_false, Bool.false_or, Bool.not_true, Bool.not_false, DL.isNon, isSub, reduceCtorEq, decide_true, decide_false, clrO, Bool.or_self, Bool.and_self, Nat.reduceLT, Int.reduceLT, Int.reduceLE, Int.reduceAdd, Int.reduceSub, Int.reduceNeg, Int.reduceMul, Int.reduceEq, Int.cast_ofNat_Int, gk0, gk1, gk2, gk3, gk4, gk5, gk6, gk7, gk8, gk9, gk10, gk11, gk12, mMeth_eq, methO_ok, mRgI3_eq, mFrz_eq, frzO_s, mAug_eq, augO_s, dAddA_i, dTupX_l, dTupX_t, rowD_t, rowD_f, dList_f, dTupX_f, dRev_f, guard_0, e, List.nil_append]
def richP (c : Int) : Int := if 1000000000000000000 ≤ c then c else
  ((c * 48271 + 11) % 2147483647) * 2147483629 + (((c * 48271 + 11) % 2147483647) * 69621 + c / 7 + 5) % 2147483629
theorem pow18 : dPow (.int 10) (.int 18) = some (.ok (.int 1000000000000000000)) := by rfl
theorem rich_ok (c : Int) : m__law_rich [.int c] = some (.ok (.int (richP c))) := by
  unfold m__law_rich b__law_rich
  by_cases h : 1000000000000000000 ≤ c
  · have h1 : decide ((1000000000000000000 : Int) ≤ c) = true := decide_eq_true h
    have h3 : richP c = c := by unfold richP; rw [if_pos h]
    simp only [bnd_ok, bnd_er, sE_ok, sE_er, mSeq_eq, seqO_nx, seqO_rt, seqO_er, seqO_bk, seqO_ct, mIf_eq, ifO_ok, ifO_er, mVar_z, mVar_s, mVarD_z, mVarD_s, mC_eq, mBin_eq, mUn_eq, mCB_eq, mNil_eq, mCons_eq, mSet_eq, mRet_eq, mSkip_eq, mBrk_eq, mCnt_eq, mRaise_eq, mRetN_eq, mDrop_eq, mTst_eq, tstO_bl, tstO_er, mAndT_eq, andT_ok, andT_f, andT_t, andT_er, mOrT_eq, orT_ok, orT_f, orT_t, orT_er, mNotT_eq, mAnd_eq, andD_ok, andD_f, andD_t, andD_er, mOr_eq, orD_ok, orD_f, orD_t, orD_er, dNot_bl, dAdd_i, dSub_i, dNeg_i, dCmp_i, dInt_i, dInt_b, dAbs_i, dMax_i, dMin_i, dLen_l, dLen_t, dLen_f, dList_l, dList_t, dTuple_l, dTuple_t, dRev_l, dRev_t, dIx_l, dIx_t, dIx_f, dIsN_n, dNotN_n, mTup_eq, mLst_eq, mSl_eq, mNone_eq, mSome_eq, someO_i, dSl_t, dSl_l, mFor_eq, mItems_eq, itemsO_l, itemsO_t, itemsO_f, mRgI1_eq, mRgI2_eq, outR_nx, outR_rt, outR_er, run1, run2, run3, run4, forGo_nil, forGo_cons, forO_nx, forO_ct, forO_bk, forO_rt, forO_er, gD_eq, mMut_eq, mutO_l, subO_eq, ownD_z, ownD_s, dSet_l, List.set_cons_zero, List.set_cons_succ, List.getElem?_cons_zero, List.getElem?_cons_succ, List.replicate_succ, List.replicate_zero, Nat.reduceSub, Nat.reduceAdd, List.length_cons, List.length_nil, Option.bind_some, Option.map_some, Bool.false_eq_true, if_true, if_false, reduceIte, Bool.and_true, Bool.true_and, Bool.and_false, Bool.false_and, Bool.or_true, Bool.true_or, Bool.or_false, Bool.false_or, Bool.not_true, Bool.not_false, DL.isNon, isSub, reduceCtorEq, decide_true, decide_false, clrO, Bool.or_self, Bool.and_self, Nat.reduceLT, Int.reduceLT, Int.reduceLE, Int.reduceAdd, Int.reduceSub, Int.reduceNeg, Int.reduceMul, Int.reduceEq, Int.cast_ofNat_Int, gk0, gk1, gk2, gk3, gk4, gk5, gk6, gk7, gk8, gk9, gk10, gk11, gk12, mMeth_eq, methO_ok, mRgI3_eq, mFrz_eq, frzO_s, mAug_eq, augO_s, dAddA_i, dTupX_l, dTupX_t, rowD_t, rowD_f, dList_f, dTupX_f, dRev_f, pow18, h1, h3]
  · have h1 : decide ((1000000000000000000 : Int) ≤ c) = false := decide_eq_false h
    have h3 : richP c = ((c * 48271 + 11) % 2147483647) * 2147483629 + (((c * 48271 + 11) % 2147483647) * 69621 + c / 7 + 5) % 2147483629 := by unfold richP; rw [if_neg h]
    simp only [bnd_ok, bnd_er, sE_ok, sE_er, mSeq_eq, seqO_nx, seqO_rt, seqO_er, seqO_bk, seqO_ct, mIf_eq, ifO_ok, ifO_er, mVar_z, mVar_s, mVarD_z, mVarD_s, mC_eq, mBin_eq, mUn_eq, mCB_eq, mNil_eq, mCons_eq, mSet_eq, mRet_eq, mSkip_eq, mBrk_eq, mCnt_eq, mRaise_eq, mRetN_eq, mDrop_eq, mTst_eq, tstO_bl, tstO_er, mAndT_eq, andT_ok, andT_f, andT_t, andT_er, mOrT_eq, orT_ok, orT_f, orT_t, orT_er, mNotT_eq, mAnd_eq, andD_ok, andD_f, andD_t, andD_er, mOr_eq, orD_ok, orD_f, orD_t, orD_er, dNot_bl, dAdd_i, dSub_i, dNeg_i, dCmp_i, dInt_i, dInt_b, dAbs_i, dMax_i, dMin_i, dLen_l, dLen_t, dLen_f, dList_l, dList_t, dTuple_l, dTuple_t, dRev_l, dRev_t, dIx_l, dIx_t, dIx_f, dIsN_n, dNotN_n, mTup_eq, mLst_eq, mSl_eq, mNone_eq, mSome_eq, someO_i, dSl_t, dSl_l, mFor_eq, mItems_eq, itemsO_l, itemsO_t, itemsO_f, mRgI1_eq, mRgI2_eq, outR_nx, outR_rt, outR_er, run1, run2, run3, run4, forGo_nil, forGo_cons, forO_nx, forO_ct, forO_bk, forO_rt, forO_er, gD_eq, mMut_eq, mutO_l, subO_eq, ownD_z, ownD_s, dSet_l, List.set_cons_zero, List.set_cons_succ, List.getElem?_cons_zero, List.getElem?_cons_succ, List.replicate_succ, List.replicate_zero, Nat.reduceSub, Nat.reduceAdd, List.length_cons, List.length_nil, Option.bind_some, Option.map_some, Bool.false_eq_true, if_true, if_false, reduceIte, Bool.and_true, Bool.true_and, Bool.and_false, Bool.false_and, Bool.or_true, Bool.true_or, Bool.or_false, Bool.false_or, Bool.not_true, Bool.not_false, DL.isNon, isSub, reduceCtorEq, decide_true, decide_false, clrO, Bool.or_self, Bool.and_self, Nat.reduceLT, Int.reduceLT, Int.reduceLE, Int.reduceAdd, Int.reduceSub, Int.reduceNeg, Int.reduceMul, Int.reduceEq, Int.cast_ofNat_Int, gk0, gk1, gk2, gk3, gk4, gk5, gk6, gk7, gk8, gk9, gk10, gk11, gk12, mMeth_eq, methO_ok, mRgI3_eq, mFrz_eq, frzO_s, mAug_eq, augO_s, dAddA_i, dTupX_l, dTupX_t, rowD_t, rowD_f, dList_f, dTupX_f, dRev_f, pow18, h1, h3, dMul_i _ 48271 (mulOk_r _ _ (by decide)), dMul_i _ 69621 (mulOk_r _ _ (by decide)), dMul_i _ 2147483629 (mulOk_r _ _ (by decide)), dMod_i _ 2147483647 (by decide), dMod_i _ 2147483629 (by decide), dDiv_i _ 7 (by decide) (by decide)]
end Lw

set_option Elab.async false
set_option linter.all false
set_option maxRecDepth 100000
set_option maxHeartbeats 4000000
set_option autoImplicit false
namespace Lw
open PySem L2 DL
open SX (S)
/-! ### plain numbers -/
def isDg (z : Nat) : Bool := decide (48 ≤ z ∧ z ≤ 57)
theorem sc_digits : ("0123456789" : Str) = S [48, 49, 50, 51, 52, 53, 54, 55, 56, 57] := by decide +kernel
theorem sc_sp : (" " : Str) = S [32] := by decide +kernel
theorem sc_semi : ("; " : Str) = S [59, 32] := by decide +kernel
theorem sc_e : ("" : Str) = S [] := by decide +kernel
theorem sc_0 : ("0" : Str) = S [48] := by decide +kernel
theorem notIn_digits (z : Nat) : dNotIn (.str (S [z])) (.str "0123456789") = some (.ok (.bl (!isDg z))) := by
  rw [sc_digits]
  show some (Except.ok (D.bl (!decide (z ∈ [48, 49, 50, 51, 52, 53, 54, 55, 56, 57])))) = (_ : R D)
  refine congrArg (fun b => (some (.ok (.bl (!b))) : R D)) ?_
  unfold isDg
  rw [decide_eq_decide]
  simp only [List.mem_cons, List.not_mem_nil, or_false]
  omega
theorem bls?_map : ∀ bs : List Bool, bls? (bs.map D.bl) = some bs
  | [] => rfl
  | b :: bs => by
    have h := bls?_map bs
    unfold bls? at h ⊢
    rw [List.map_cons, List.mapM_cons, h]
    rfl
theorem eq_T (a b : List Nat) : dEq (.str (S a)) (.str (S b)) = some (.ok (.bl (decide (a = b)))) := d_eq_S a b
theorem ne_T (a b : List Nat) : dNe (.str (S a)) (.str (S b)) = some (.ok (.bl (!decide (a = b)))) := d_ne_S a b
theorem len_T (t : List Nat) (h : t.length ≤ lim) : dLen [.str (S t)] = some (.ok (.int (t.length : Nat))) := d_len_S t h
theorem ix_T {t : List Nat} {k c : Nat} (h : t[k]? = some c) (ht : t.length ≤ lim) : dIx (.str (S t)) (.int (k : Int)) = some (.ok (.str (S [c]))) := d_ix_S h ht
def zT (z : Nat) : D := .str (S [z])
theorem chars_T (w : List Nat) (m : ME) (ρ : Ro) (h : m ρ = some (.ok (.str (S w)))) : mChars m ρ = some (.ok (w.map zT)) := by
  unfold mChars
  rw [h]
  rfl
/-- the number that a word says -/
def numW (w : List Nat) : Option Int := if w = [] ∨ w.any (fun z => !isDg z) = true then none else if w.head? = some 48 ∧ 1 < w.length then none else some ((NumText.digitsVal w : Nat) : Int)
theorem allDg {w : List Nat} (h : w.any (fun z => !isDg z) = false) : NumText.AllDigits w := fun c hc => by
  rw [List.any_eq_false] at h
  have := h c hc
  unfold isDg at this
  simpa using this
theorem plain_number_val (w : List Nat) (hl : w.length ≤ 600) : m_plain_number [.str (S w)] = match numW w with | some n => some (.ok (.int n)) | none => some (.error .text) := by
  have hl' : w.length ≤ lim := Nat.le_trans hl (by decide)
  have c1 : mLc (mChars (mVar 0)) [1] (gD 1) mYes (mBin dNotIn (mVar 1) (mC (.str "0123456789"))) [some (.str (S w), false), none] = some (.ok (.lst ((w.map fun z => !isDg z).map D.bl))) := by
    rw [lcx_is w zT (fun _ => true) (fun z => .bl (!isDg z)) (chars_T w _ _ rfl) rfl (by omega)]
    · rw [List.filter_eq_self.mpr (fun _ _ => rfl), List.map_map]
      rfl
    · intro z hz
      refine ⟨rfl, fun _ => ?_⟩
      show mBin dNotIn (mVar 1) (mC (.str "0123456789")) [some (.str (S w), false), some (.str (S [z]), false)] = _
      simp only [bnd_ok, bnd_er, sE_ok, sE_er, mSeq_eq, seqO_nx, seqO_rt, seqO_er, seqO_bk, seqO_ct, mIf_eq, ifO_ok, ifO_er, mVar_z, mVar_s, mVarD_z, mVarD_s, mC_eq, mBin_eq, mUn_eq, mCB_eq, mNil_eq, mCons_eq, mSet_eq, mRet_eq, mSkip_eq, mBrk_eq, mCnt_eq, mRaise_eq, mRetN_eq, mDrop_eq, mTst_eq, tstO_bl, tstO_er, mAndT_eq, andT_ok, andT_f, andT_t, andT_er, mOrT_eq, orT_ok, orT_f, orT_t, orT_er, mNotT_eq, mAnd_eq, andD_ok, andD_f, andD_t, andD_er, mOr_eq, orD_ok, orD_f, orD_t, orD_er, dNot_bl, dAdd_i, dSub_i, dNeg_i, dCmp_i, dInt_i, dInt_b, dAbs_i, dMax_i, dMin_i, dLen_l, dLen_t, dLen_f, dList_l, dList_t, dTuple_l, dTuple_t, dRev_l, dRev_t, dIx_l, dIx_t, dIx_f, dIsN_n, dNotN_n, mTup_eq, mLst_eq, mSl_eq, mNone_eq, mSome_eq, someO_i, dSl_t, dSl_l, mFor_eq, mItems_eq, itemsO_l, itemsO_t, itemsO_f, mRgI1_eq, mRgI2_eq, outR_nx, outR_rt, outR_er, run1, run2, run3, run4, forGo_nil, forGo_cons, forO_nx, forO_ct, forO_bk, forO_rt, forO_er, gD_eq, mMut_eq, mutO_l, subO_eq, ownD_z, ownD_s, dSet_l, List.set_cons_zero, List.set_cons_succ, List.getElem?_cons_zero, List.getElem?_cons_succ, List.replicate_succ, List.replicate_zero, Nat.reduceSub, Nat.reduceAdd, List.length_cons, List.length_nil, Option.bind_some, Option.map_some, Bool.false_eq_true, if_true, if_false, reduceIte, Bool.and_true, Bool.true_and, Bool.and_false, Bool.false_and, Bool.or_true, Bool.true_or, Bool.or_false, Bool.false_or, Bool.not_true, Bool.not_false, DL.isNon, isSub, reduceCtorEq, decide_true, decide_false, clrO, Bool.or_self, Bool.and_self, Nat.reduceLT, Int.reduceLT, Int.reduceLE, Int.reduceAdd, Int.reduceSub, Int.reduceNeg, Int.reduceMul, Int.reduceEq, Int.cast_ofNat_Int, gk0, gk1, gk2, gk3, gk4, gk5, gk6, gk7, gk8, gk9, gk10, gk11, gk12, mMeth_eq, methO_ok, mRgI3_eq, mFrz_eq, frzO_s, mAug_eq, augO_s, dAddA_i, dTupX_l, dTupX_t, rowD_t, rowD_f, dList_f, dTupX_f, dRev_f, notIn_digits]
  have e2 : dAny [.lst ((w.map fun z => !isDg z).map D.bl)] = some (.ok (.bl (w.any fun z => !isDg z))) := by
    show (bls? ((w.map fun z => !isDg z).map D.bl)).map (fun bs => (Except.ok (D.bl (bs.any id)) : Except EN D)) = _
    rw [bls?_map, Option.map_some, List.any_map]
    rfl
  cases w with
  | nil =>
    have hn : numW [] = none := rfl
    rw [hn]
    unfold m_plain_number b_plain_number
    simp only [bnd_ok, bnd_er, sE_ok, sE_er, mSeq_eq, seqO_nx, seqO_rt, seqO_er, seqO_bk, seqO_ct, mIf_eq, ifO_ok, ifO_er, mVar_z, mVar_s, mVarD_z, mVarD_s, mC_eq, mBin_eq, mUn_eq, mCB_eq, mNil_eq, mCons_eq, mSet_eq, mRet_eq, mSkip_eq, mBrk_eq, mCnt_eq, mRaise_eq, mRetN_eq, mDrop_eq, mTst_eq, tstO_bl, tstO_er, mAndT_eq, andT_ok, andT_f, andT_t, andT_er, mOrT_eq, orT_ok, orT_f, orT_t, orT_er, mNotT_eq, mAnd_eq, andD_ok, andD_f, andD_t, andD_er, mOr_eq, orD_ok, orD_f, orD_t, orD_er, dNot_bl, dAdd_i, dSub_i, dNeg_i, dCmp_i, dInt_i, dInt_b, dAbs_i, dMax_i, dMin_i, dLen_l, dLen_t, dLen_f, dList_l, dList_t, dTuple_l, dTuple_t, dRev_l, dRev_t, dIx_l, dIx_t, dIx_f, dIsN_n, dNotN_n, mTup_eq, mLst_eq, mSl_eq, mNone_eq, mSome_eq, someO_i, dSl_t, dSl_l, mFor_eq, mItems_eq, itemsO_l, itemsO_t, itemsO_f, mRgI1_eq, mRgI2_eq, outR_nx, outR_rt, outR_er, run1, run2, run3, run4, forGo_nil, forGo_cons, forO_nx, forO_ct, forO_bk, forO_rt, forO_er, gD_eq, mMut_eq, mutO_l, subO_eq, ownD_z, ownD_s, dSet_l, List.set_cons_zero, List.set_cons_succ, List.getElem?_cons_zero, List.getElem?_cons_succ, List.replicate_succ, List.replicate_zero, Nat.reduceSub, Nat.reduceAdd, List.length_cons, List.length_nil, Option.bind_some, Option.map_some, Bool.false_eq_true, if_true, if_false, reduceIte, Bool.and_true, Bool.true_and, Bool.and_false, Bool.false_and, Bool.or_true, Bool.true_or, Bool.or_false, Bool.false_or, Bool.not_true, Bool.not_false, DL.isNon, isSub, reduceCtorEq, decide_true, decide_false, clrO, Bool.or_self, Bool.and_self, Nat.reduceLT, Int.reduceLT, Int.reduceLE, Int.reduceAdd, Int.reduceSub, Int.reduceNeg, Int.reduceMul, Int.reduceEq, Int.cast_ofNat_Int, gk0, gk1, gk2, gk3, gk4, gk5, gk6, gk7, gk8, gk9, gk10, gk11, gk12, mMeth_eq, methO_ok, mRgI3_eq, mFrz_eq, frzO_s, mAug_eq, augO_s, dAddA_i, dTupX_l, dTupX_t, rowD_t, rowD_f, dList_f, dTupX_f, dRev_f, sc_e, eq_T]
  | cons c ds =>
    have e0 : decide (c :: ds = []) = false := decide_eq_false (by simp)
    cases ha : (c :: ds).any (fun z => !isDg z) with
    | true =>
      have hn : numW (c :: ds) = none := by unfold numW; rw [if_pos (.inr ha)]
      rw [hn]
      rw [ha] at e2
      unfold m_plain_number b_plain_number
      simp only [bnd_ok, bnd_er, sE_ok, sE_er, mSeq_eq, seqO_nx, seqO_rt, seqO_er, seqO_bk, seqO_ct, mIf_eq, ifO_ok, ifO_er, mVar_z, mVar_s, mVarD_z, mVarD_s, mC_eq, mBin_eq, mUn_eq, mCB_eq, mNil_eq, mCons_eq, mSet_eq, mRet_eq, mSkip_eq, mBrk_eq, mCnt_eq, mRaise_eq, mRetN_eq, mDrop_eq, mTst_eq, tstO_bl, tstO_er, mAndT_eq, andT_ok, andT_f, andT_t, andT_er, mOrT_eq, orT_ok, orT_f, orT_t, orT_er, mNotT_eq, mAnd_eq, andD_ok, andD_f, andD_t, andD_er, mOr_eq, orD_ok, orD_f, orD_t, orD_er, dNot_bl, dAdd_i, dSub_i, dNeg_i, dCmp_i, dInt_i, dInt_b, dAbs_i, dMax_i, dMin_i, dLen_l, dLen_t, dLen_f, dList_l, dList_t, dTuple_l, dTuple_t, dRev_l, dRev_t, dIx_l, dIx_t, dIx_f, dIsN_n, dNotN_n, mTup_eq, mLst_eq, mSl_eq, mNone_eq, mSome_eq, someO_i, dSl_t, dSl_l, mFor_eq, mItems_eq, itemsO_l, itemsO_t, itemsO_f, mRgI1_eq, mRgI2_eq, outR_nx, outR_rt, outR_er, run1, run2, run3, run4, forGo_nil, forGo_cons, forO_nx, forO_ct, forO_bk, forO_rt, forO_er, gD_eq, mMut_eq, mutO_l, subO_eq, ownD_z, ownD_s, dSet_l, List.set_cons_zero, List.set_cons_succ, List.getElem?_cons_zero, List.getElem?_cons_succ, List.replicate_succ, List.replicate_zero, Nat.reduceSub, Nat.reduceAdd, List.length_cons, List.length_nil, Option.bind_some, Option.map_some, Bool.false_eq_true, if_true, if_false, reduceIte, Bool.and_true, Bool.true_and, Bool.and_false, Bool.false_and, Bool.or_true, Bool.true_or, Bool.or_false, Bool.false_or, Bool.not_true, Bool.not_false, DL.isNon, isSub, reduceCtorEq, decide_true, decide_false, clrO, Bool.or_self, Bool.and_self, Nat.reduceLT, Int.reduceLT, Int.reduceLE, Int.reduceAdd, Int.reduceSub, Int.reduceNeg, Int.reduceMul, Int.reduceEq, Int.cast_ofNat_Int, gk0, gk1, gk2, gk3, gk4, gk5, gk6, gk7, gk8, gk9, gk10, gk11, gk12, mMeth_eq, methO_ok, mRgI3_eq, mFrz_eq, frzO_s, mAug_eq, augO_s, dAddA_i, dTupX_l, dTupX_t, rowD_t, rowD_f, dList_f, dTupX_f, dRev_f, sc_e, eq_T, e0, c1, e2]
    | false =>
      rw [ha] at e2
      have n1 : ¬ (c :: ds = [] ∨ (c :: ds).any (fun z => !isDg z) = true) := by rw [ha]; simp
      have e1 : dIx (.str (S (c :: ds))) (.int 0) = some (.ok (.str (S [c]))) := ix_T (t := c :: ds) (k := 0) rfl hl'
      have e3 := d_int_nat (allDg ha) (List.cons_ne_nil c ds) (by omega)
      by_cases hb : (c :: ds).head? = some 48 ∧ 1 < (c :: ds).length
      · have hn : numW (c :: ds) = none := by unfold numW; rw [if_neg n1, if_pos hb]
        have d1 : decide ([c] = [48]) = true := decide_eq_true (by rw [Option.some.inj hb.1])
        have d2 : decide ((1 : Int) < (((c :: ds).length : Nat) : Int)) = true := decide_eq_true (by have := hb.2; omega)
        rw [hn]
        have l0 := len_T _ hl'
        generalize (c :: ds).length = m at d2 l0
        unfold m_plain_number b_plain_number
        simp only [bnd_ok, bnd_er, sE_ok, sE_er, mSeq_eq, seqO_nx, seqO_rt, seqO_er, seqO_bk, seqO_ct, mIf_eq, ifO_ok, ifO_er, mVar_z, mVar_s, mVarD_z, mVarD_s, mC_eq, mBin_eq, mUn_eq, mCB_eq, mNil_eq, mCons_eq, mSet_eq, mRet_eq, mSkip_eq, mBrk_eq, mCnt_eq, mRaise_eq, mRetN_eq, mDrop_eq, mTst_eq, tstO_bl, tstO_er, mAndT_eq, andT_ok, andT_f, andT_t, andT_er, mOrT_eq, orT_ok, orT_f, orT_t, orT_er, mNotT_eq, mAnd_eq, andD_ok, andD_f, andD_t, andD_er, mOr_eq, orD_ok, orD_f, orD_t, orD_er, dNot_bl, dAdd_i, dSub_i, dNeg_i, dCmp_i, dInt_i, dInt_b, dAbs_i, dMax_i, dMin_i, dLen_l, dLen_t, dLen_f, dList_l, dList_t, dTuple_l, dTuple_t, dRev_l, dRev_t, dIx_l, dIx_t, dIx_f, dIsN_n, dNotN_n, mTup_eq, mLst_eq, mSl_eq, mNone_eq, mSome_eq, someO_i, dSl_t, dSl_l, mFor_eq, mItems_eq, itemsO_l, itemsO_t, itemsO_f, mRgI1_eq, mRgI2_eq, outR_nx, outR_rt, outR_er, run1, run2, run3, run4, forGo_nil, forGo_cons, forO_nx, forO_ct, forO_bk, forO_rt, forO_er, gD_eq, mMut_eq, mutO_l, subO_eq, ownD_z, ownD_s, dSet_l, List.set_cons_zero, List.set_cons_succ, List.getElem?_cons_zero, List.getElem?_cons_succ, List.replicate_succ, List.replicate_zero, Nat.reduceSub, Nat.reduceAdd, List.length_cons, List.length_nil, Option.bind_some, Option.map_some, Bool.false_eq_true, if_true, if_false, reduceIte, Bool.and_true, Bool.true_and, Bool.and_false, Bool.false_and, Bool.or_true, Bool.true_or, Bool.or_false, Bool.false_or, Bool.not_true, Bool.not_false, DL.isNon, isSub, reduceCtorEq, decide_true, decide_false, clrO, Bool.or_self, Bool.and_self, Nat.reduceLT, Int.reduceLT, Int.reduceLE, Int.reduceAdd, Int.reduceSub, Int.reduceNeg, Int.reduceMul, Int.reduceEq, Int.cast_ofNat_Int, gk0, gk1, gk2, gk3, gk4, gk5, gk6, gk7, gk8, gk9, gk10, gk11, gk12, mMeth_eq, methO_ok, mRgI3_eq, mFrz_eq, frzO_s, mAug_eq, augO_s, dAddA_i, dTupX_l, dTupX_t, rowD_t, rowD_f, dList_f, dTupX_f, dRev_f, sc_e, eq_T, e0, c1, e2, e1, sc_0, d1, l0, dGt, d2]
      · have hn : numW (c :: ds) = some ((NumText.digitsVal (c :: ds) : Nat) : Int) := by unfold numW; rw [if_neg n1, if_neg hb]
        rw [hn]
        have l0 := len_T _ hl'
        unfold m_plain_number b_plain_number
        by_cases h48 : c = 48
        · have d1 : decide ([c] = [48]) = true := decide_eq_true (by rw [h48])
          have d2 : decide ((1 : Int) < (((c :: ds).length : Nat) : Int)) = false := decide_eq_false (fun h => hb ⟨by rw [h48]; rfl, by omega⟩)
          generalize (c :: ds).length = m at d2 l0
          simp only [bnd_ok, bnd_er, sE_ok, sE_er, mSeq_eq, seqO_nx, seqO_rt, seqO_er, seqO_bk, seqO_ct, mIf_eq, ifO_ok, ifO_er, mVar_z, mVar_s, mVarD_z, mVarD_s, mC_eq, mBin_eq, mUn_eq, mCB_eq, mNil_eq, mCons_eq, mSet_eq, mRet_eq, mSkip_eq, mBrk_eq, mCnt_eq, mRaise_eq, mRetN_eq, mDrop_eq, mTst_eq, tstO_bl, tstO_er, mAndT_eq, andT_ok, andT_f, andT_t, andT_er, mOrT_eq, orT_ok, orT_f, orT_t, orT_er, mNotT_eq, mAnd_eq, andD_ok, andD_f, andD_t, andD_er, mOr_eq, orD_ok, orD_f, orD_t, orD_er, dNot_bl, dAdd_i, dSub_i, dNeg_i, dCmp_i, dInt_i, dInt_b, dAbs_i, dMax_i, dMin_i, dLen_l, dLen_t, dLen_f, dList_l, dList_t, dTuple_l, dTuple_t, dRev_l, dRev_t, dIx_l, dIx_t, dIx_f, dIsN_n, dNotN_n, mTup_eq, mLst_eq, mSl_eq, mNone_eq, mSome_eq, someO_i, dSl_t, dSl_l, mFor_eq, mItems_eq, itemsO_l, itemsO_t, itemsO_f, mRgI1_eq, mRgI2_eq, outR_nx, outR_rt, outR_er, run1, run2, run3, run4, forGo_nil, forGo_cons, forO_nx, forO_ct, forO_bk, forO_rt, forO_er, gD_eq, mMut_eq, mutO_l, subO_eq, ownD_z, ownD_s, dSet_l, List.set_cons_zero, List.set_cons_succ, List.getElem?_cons_zero, List.getElem?_cons_succ, List.replicate_succ, List.replicate_zero, Nat.reduceSub, Nat.reduceAdd, List.length_cons, List.length_nil, Option.bind_some, Option.map_some, Bool.false_eq_true, if_true, if_false, reduceIte, Bool.and_true, Bool.true_and, Bool.and_false, Bool.false_and, Bool.or_true, Bool.true_or, Bool.or_false, Bool.false_or, Bool.not_true, Bool.not_false, DL.isNon, isSub, reduceCtorEq, decide_true, decide_false, clrO, Bool.or_self, Bool.and_self, Nat.reduceLT, Int.reduceLT, Int.reduceLE, Int.reduceAdd, Int.reduceSub, Int.reduceNeg, Int.reduceMul, Int.reduceEq, Int.cast_ofNat_Int, gk0, gk1, gk2, gk3, gk4, gk5, gk6, gk7, gk8, gk9, gk10, gk11, gk12, mMeth_eq, methO_ok, mRgI3_eq, mFrz_eq, frzO_s, mAug_eq, augO_s, dAddA_i, dTupX_l, dTupX_t, rowD_t, rowD_f, dList_f, dTupX_f, dRev_f, sc_e, eq_T, e0, c1, e2, e1, sc_0, d1, l0, dGt, d2, e3]
        · have d1 : decide ([c] = [48]) = false := decide_eq_false (by simpa using h48)
          simp only [bnd_ok, bnd_er, sE_ok, sE_er, mSeq_eq, seqO_nx, seqO_rt, seqO_er, seqO_bk, seqO_ct, mIf_eq, ifO_ok, ifO_er, mVar_z, mVar_s, mVarD_z, mVarD_s, mC_eq, mBin_eq, mUn_eq, mCB_eq, mNil_eq, mCons_eq, mSet_eq, mRet_eq, mSkip_eq, mBrk_eq, mCnt_eq, mRaise_eq, mRetN_eq, mDrop_eq, mTst_eq, tstO_bl, tstO_er, mAndT_eq, andT_ok, andT_f, andT_t, andT_er, mOrT_eq, orT_ok, orT_f, orT_t, orT_er, mNotT_eq, mAnd_eq, andD_ok, andD_f, andD_t, andD_er, mOr_eq, orD_ok, orD_f, orD_t, orD_er, dNot_bl, dAdd_i, dSub_i, dNeg_i, dCmp_i, dInt_i, dInt_b, dAbs_i, dMax_i, dMin_i, dLen_l, dLen_t, dLen_f, dList_l, dList_t, dTuple_l, dTuple_t, dRev_l, dRev_t, dIx_l, dIx_t, dIx_f, dIsN_n, dNotN_n, mTup_eq, mLst_eq, mSl_eq, mNone_eq, mSome_eq, someO_i, dSl_t, dSl_l, mFor_eq, mItems_eq, itemsO_l, itemsO_t, itemsO_f, mRgI1_eq, mRgI2_eq, outR_nx, outR_rt, outR_er, run1, run2, run3, run4, forGo_nil, forGo_cons, forO_nx, forO_ct, forO_bk, forO_rt, forO_er, gD_eq, mMut_eq, mutO_l, subO_eq, ownD_z, ownD_s, dSet_l, List.set_cons_zero, List.set_cons_succ, List.getElem?_cons_zero, List.getElem?_cons_succ, List.replicate_succ, List.replicate_zero, Nat.reduceSub, Nat.reduceAdd, List.length_cons, List.length_nil, Option.bind_some, Option.map_some, Bool.false_eq_true, if_true, if_false, reduceIte, Bool.and_true, Bool.true_and, Bool.and_false, Bool.false_and, Bool.or_true, Bool.true_or, Bool.or_false, Bool.false_or, Bool.not_true, Bool.not_false, DL.isNon, isSub, reduceCtorEq, decide_true, decide_false, clrO, Bool.or_self, Bool.and_self, Nat.reduceLT, Int.reduceLT, Int.reduceLE, Int.reduceAdd, Int.reduceSub, Int.reduceNeg, Int.reduceMul, Int.reduceEq, Int.cast_ofNat_Int, gk0, gk1, gk2, gk3, gk4, gk5, gk6, gk7, gk8, gk9, gk10, gk11, gk12, mMeth_eq, methO_ok, mRgI3_eq, mFrz_eq, frzO_s, mAug_eq, augO_s, dAddA_i, dTupX_l, dTupX_t, rowD_t, rowD_f, dList_f, dTupX_f, dRev_f, sc_e, eq_T, e0, c1, e2, e1, sc_0, d1, e3]
end Lw

set_option Elab.async false
set_option linter.all false
set_option maxRecDepth 100000
set_option maxHeartbeats 4000000
set_option autoImplicit false
namespace Lw
open PySem L2 DL
open SX (S)
/-! ### the words of moves -/
def cSwap : List Nat := [115, 119, 97, 112]
def cNext : List Nat := [110, 101, 120, 116]
def cTake : List Nat := [116, 97, 107, 101]
def cFlip : List Nat := [102, 108, 105, 112]
def cBlocks : List Nat := [98, 108, 111, 99, 107, 115]
def cTurn : List Nat := [116, 117, 114, 110]
def cRecut : List Nat := [114, 101, 99, 117, 116]
def cCut : List Nat := [99, 117, 116]
def cJoin : List Nat := [106, 111, 105, 110]
theorem sc_swap : ("swap" : Str) = S cSwap := by decide +kernel
theorem sc_next : ("next" : Str) = S cNext := by decide +kernel
theorem sc_take : ("take" : Str) = S cTake := by decide +kernel
theorem sc_flip : ("flip" : Str) = S cFlip := by decide +kernel
theorem sc_blocks : ("blocks" : Str) = S cBlocks := by decide +kernel
theorem sc_turn : ("turn" : Str) = S cTurn := by decide +kernel
theorem sc_recut : ("recut" : Str) = S cRecut := by decide +kernel
theorem sc_cut : ("cut" : Str) = S cCut := by decide +kernel
theorem sc_join : ("join" : Str) = S cJoin := by decide +kernel
def nm9 : List (List Nat × Nat) := [(cSwap, 2), (cNext, 1), (cTake, 2), (cFlip, 2), (cBlocks, 4), (cTurn, 2), (cRecut, 4), (cCut, 2), (cJoin, 2)]
def lkN : List (List Nat × Nat) → List Nat → Nat
  | [], _ => 0
  | (k, n) :: r, w => if k = w then n else lkN r w
def cnt (w : List Nat) : Nat := lkN nm9 w
theorem kd_eq : kd_SIZES = nm9.map fun p => (S p.1, D.int p.2) := by
  unfold kd_SIZES
  rw [sc_swap, sc_next, sc_take, sc_flip, sc_blocks, sc_turn, sc_recut, sc_cut, sc_join]
  rfl
theorem lk_gen : ∀ (l : List (List Nat × Nat)) (w : List Nat), (∀ p ∈ l, 0 < p.2) → lkS (l.map fun p => (S p.1, D.int p.2)) (S w) = if lkN l w = 0 then none else some (.int (lkN l w : Nat))
  | [], _, _ => rfl
  | (k, n) :: r, w, h => by
    have ih := lk_gen r w fun p hp => h p (List.mem_cons_of_mem _ hp)
    have h0 : 0 < n := h (k, n) List.mem_cons_self
    show (if S k = S w then some (D.int n) else lkS (r.map fun p => (S p.1, D.int p.2)) (S w)) = _
    unfold lkN
    by_cases e : k = w
    · rw [if_pos (by rw [e]), if_pos e, if_neg (by omega)]
    · rw [if_neg (fun z => e (SX.S_inj z)), if_neg e]
      exact ih
theorem lk_cnt (w : List Nat) : lkS kd_SIZES (S w) = if cnt w = 0 then none else some (.int (cnt w : Nat)) := by
  rw [kd_eq]
  exact lk_gen nm9 w (by decide)
theorem toP_S (n : Nat) : ∀ ws : List (List Nat), toPs n (ws.map fun y => D.str (S y)) = some (ws.map fun y => PyData.str (S y))
  | [] => rfl
  | w :: ws => by
    have h := toP_S n ws
    unfold toPs at h ⊢
    rw [List.map_cons, List.mapM_cons, h]
    cases n <;> rfl
theorem any_S (w : List Nat) : ∀ ws : List (List Nat), ((ws.map fun y => PyData.str (S y)).any fun y => PyData.eqv y (.str (S w))) = decide (w ∈ ws)
  | [] => rfl
  | x :: ws => by
    rw [List.map_cons, List.any_cons, any_S w ws, eqv_ss]
    by_cases e : x = w
    · subst e
      simp
    · have : ¬ S x = S w := fun z => e (SX.S_inj z)
      rw [decide_eq_false this, Bool.false_or, decide_eq_decide, List.mem_cons]
      exact ⟨.inr, fun h => h.resolve_left fun z => e z.symm⟩
theorem in_list (w : List Nat) (ws : List (List Nat)) : dIn (.str (S w)) (.lst (ws.map fun y => D.str (S y))) = some (.ok (.bl (decide (w ∈ ws)))) := by
  unfold dIn
  have : dHas (.str (S w)) (.lst (ws.map fun y => D.str (S y))) = some (decide (w ∈ ws)) := by
    show (match toP 32 (.str (S w)), toPs 31 (ws.map fun y => D.str (S y)) with | some p, some q => some (q.any fun y => PyData.eqv y p) | _, _ => none) = _
    rw [toP_S]
    show some ((ws.map fun y => PyData.str (S y)).any fun y => PyData.eqv y (.str (S w))) = _
    rw [any_S]
  rw [this]
theorem cnt_is (w : List Nat) : cnt w = if w ∈ [cSwap, cTake, cFlip, cTurn, cCut, cJoin] then 2 else if w ∈ [cNext] then 1 else if w ∈ [cBlocks, cRecut] then 4 else 0 := by
  unfold cnt nm9
  simp only [lkN, List.mem_cons, List.not_mem_nil, or_false]
  by_cases h1 : w = cSwap
  · subst h1; decide
  by_cases h2 : w = cNext
  · subst h2; decide
  by_cases h3 : w = cTake
  · subst h3; decide
  by_cases h4 : w = cFlip
  · subst h4; decide
  by_cases h5 : w = cBlocks
  · subst h5; decide
  by_cases h6 : w = cTurn
  · subst h6; decide
  by_cases h7 : w = cRecut
  · subst h7; decide
  by_cases h8 : w = cCut
  · subst h8; decide
  by_cases h9 : w = cJoin
  · subst h9; decide
  rw [if_neg (Ne.symm h1), if_neg (Ne.symm h2), if_neg (Ne.symm h3), if_neg (Ne.symm h4), if_neg (Ne.symm h5), if_neg (Ne.symm h6), if_neg (Ne.symm h7), if_neg (Ne.symm h8), if_neg (Ne.symm h9)]
  simp [h1, h2, h3, h4, h5, h6, h7, h8, h9]
theorem law_count_val (w : List Nat) : m__law_count [.str (S w)] = some (.ok (.int (cnt w : Nat))) := by
  have i1 := in_list w [cSwap, cTake, cFlip, cTurn, cCut, cJoin]
  have i2 := in_list w [cNext]
  have i3 := in_list w [cBlocks, cRecut]
  simp only [List.map_cons, List.map_nil] at i1 i2 i3
  rw [cnt_is]
  unfold m__law_count b__law_count
  have g3 : ∀ (a b : D) (x y z : Option (D × Bool)), gSets [1, 2] [a, b] [x, y, z] = some [x, some (a, false), some (b, false)] := fun _ _ _ _ _ => rfl
  by_cases h1 : w ∈ [cSwap, cTake, cFlip, cTurn, cCut, cJoin]
  · rw [decide_eq_true h1] at i1
    simp only [bnd_ok, bnd_er, sE_ok, sE_er, mSeq_eq, seqO_nx, seqO_rt, seqO_er, seqO_bk, seqO_ct, mIf_eq, ifO_ok, ifO_er, mVar_z, mVar_s, mVarD_z, mVarD_s, mC_eq, mBin_eq, mUn_eq, mCB_eq, mNil_eq, mCons_eq, mSet_eq, mRet_eq, mSkip_eq, mBrk_eq, mCnt_eq, mRaise_eq, mRetN_eq, mDrop_eq, mTst_eq, tstO_bl, tstO_er, mAndT_eq, andT_ok, andT_f, andT_t, andT_er, mOrT_eq, orT_ok, orT_f, orT_t, orT_er, mNotT_eq, mAnd_eq, andD_ok, andD_f, andD_t, andD_er, mOr_eq, orD_ok, orD_f, orD_t, orD_er, dNot_bl, dAdd_i, dSub_i, dNeg_i, dCmp_i, dInt_i, dInt_b, dAbs_i, dMax_i, dMin_i, dLen_l, dLen_t, dLen_f, dList_l, dList_t, dTuple_l, dTuple_t, dRev_l, dRev_t, dIx_l, dIx_t, dIx_f, dIsN_n, dNotN_n, mTup_eq, mLst_eq, mSl_eq, mNone_eq, mSome_eq, someO_i, dSl_t, dSl_l, mFor_eq, mItems_eq, itemsO_l, itemsO_t, itemsO_f, mRgI1_eq, mRgI2_eq, outR_nx, outR_rt, outR_er, run1, run2, run3, run4, forGo_nil, forGo_cons, forO_nx, forO_ct, forO_bk, forO_rt, forO_er, gD_eq, mMut_eq, mutO_l, subO_eq, ownD_z, ownD_s, dSet_l, List.set_cons_zero, List.set_cons_succ, List.getElem?_cons_zero, List.getElem?_cons_succ, List.replicate_succ, List.replicate_zero, Nat.reduceSub, Nat.reduceAdd, List.length_cons, List.length_nil, Option.bind_some, Option.map_some, Bool.false_eq_true, if_true, if_false, reduceIte, Bool.and_true, Bool.true_and, Bool.and_false, Bool.false_and, Bool.or_true, Bool.true_or, Bool.or_false, Bool.false_or, Bool.not_true, Bool.not_false, DL.isNon, isSub, reduceCtorEq, decide_true, decide_false, clrO, Bool.or_self, Bool.and_self, Nat.reduceLT, Int.reduceLT, Int.reduceLE, Int.reduceAdd, Int.reduceSub, Int.reduceNeg, Int.reduceMul, Int.reduceEq, Int.cast_ofNat_Int, gk0, gk1, gk2, gk3, gk4, gk5, gk6, gk7, gk8, gk9, gk10, gk11, gk12, mMeth_eq, methO_ok, mRgI3_eq, mFrz_eq, frzO_s, mAug_eq, augO_s, dAddA_i, dTupX_l, dTupX_t, rowD_t, rowD_f, dList_f, dTupX_f, dRev_f, sc_swap, sc_next, sc_take, sc_flip, sc_blocks, sc_turn, sc_recut, sc_cut, sc_join, guard_0, lb__law_count_1, gT, i1, g3, if_pos h1]
  · rw [decide_eq_false h1] at i1
    by_cases h2 : w ∈ [cNext]
    · rw [decide_eq_true h2] at i2
      simp only [bnd_ok, bnd_er, sE_ok, sE_er, mSeq_eq, seqO_nx, seqO_rt, seqO_er, seqO_bk, seqO_ct, mIf_eq, ifO_ok, ifO_er, mVar_z, mVar_s, mVarD_z, mVarD_s, mC_eq, mBin_eq, mUn_eq, mCB_eq, mNil_eq, mCons_eq, mSet_eq, mRet_eq, mSkip_eq, mBrk_eq, mCnt_eq, mRaise_eq, mRetN_eq, mDrop_eq, mTst_eq, tstO_bl, tstO_er, mAndT_eq, andT_ok, andT_f, andT_t, andT_er, mOrT_eq, orT_ok, orT_f, orT_t, orT_er, mNotT_eq, mAnd_eq, andD_ok, andD_f, andD_t, andD_er, mOr_eq, orD_ok, orD_f, orD_t, orD_er, dNot_bl, dAdd_i, dSub_i, dNeg_i, dCmp_i, dInt_i, dInt_b, dAbs_i, dMax_i, dMin_i, dLen_l, dLen_t, dLen_f, dList_l, dList_t, dTuple_l, dTuple_t, dRev_l, dRev_t, dIx_l, dIx_t, dIx_f, dIsN_n, dNotN_n, mTup_eq, mLst_eq, mSl_eq, mNone_eq, mSome_eq, someO_i, dSl_t, dSl_l, mFor_eq, mItems_eq, itemsO_l, itemsO_t, itemsO_f, mRgI1_eq, mRgI2_eq, outR_nx, outR_rt, outR_er, run1, run2, run3, run4, forGo_nil, forGo_cons, forO_nx, forO_ct, forO_bk, forO_rt, forO_er, gD_eq, mMut_eq, mutO_l, subO_eq, ownD_z, ownD_s, dSet_l, List.set_cons_zero, List.set_cons_succ, List.getElem?_cons_zero, List.getElem?_cons_succ, List.replicate_succ, List.replicate_zero, Nat.reduceSub, Nat.reduceAdd, List.length_cons, List.length_nil, Option.bind_some, Option.map_some, Bool.false_eq_true, if_true, if_false, reduceIte, Bool.and_true, Bool.true_and, Bool.and_false, Bool.false_and, Bool.or_true, Bool.true_or, Bool.or_false, Bool.false_or, Bool.not_true, Bool.not_false, DL.isNon, isSub, reduceCtorEq, decide_true, decide_false, clrO, Bool.or_self, Bool.and_self, Nat.reduceLT, Int.reduceLT, Int.reduceLE, Int.reduceAdd, Int.reduceSub, Int.reduceNeg, Int.reduceMul, Int.reduceEq, Int.cast_ofNat_Int, gk0, gk1, gk2, gk3, gk4, gk5, gk6, gk7, gk8, gk9, gk10, gk11, gk12, mMeth_eq, methO_ok, mRgI3_eq, mFrz_eq, frzO_s, mAug_eq, augO_s, dAddA_i, dTupX_l, dTupX_t, rowD_t, rowD_f, dList_f, dTupX_f, dRev_f, sc_swap, sc_next, sc_take, sc_flip, sc_blocks, sc_turn, sc_recut, sc_cut, sc_join, guard_0, lb__law_count_1, gT, i1, i2, g3, if_neg h1, if_pos h2]
    · rw [decide_eq_false h2] at i2
      by_cases h3 : w ∈ [cBlocks, cRecut]
      · rw [decide_eq_true h3] at i3
        simp only [bnd_ok, bnd_er, sE_ok, sE_er, mSeq_eq, seqO_nx, seqO_rt, seqO_er, seqO_bk, seqO_ct, mIf_eq, ifO_ok, ifO_er, mVar_z, mVar_s, mVarD_z, mVarD_s, mC_eq, mBin_eq, mUn_eq, mCB_eq, mNil_eq, mCons_eq, mSet_eq, mRet_eq, mSkip_eq, mBrk_eq, mCnt_eq, mRaise_eq, mRetN_eq, mDrop_eq, mTst_eq, tstO_bl, tstO_er, mAndT_eq, andT_ok, andT_f, andT_t, andT_er, mOrT_eq, orT_ok, orT_f, orT_t, orT_er, mNotT_eq, mAnd_eq, andD_ok, andD_f, andD_t, andD_er, mOr_eq, orD_ok, orD_f, orD_t, orD_er, dNot_bl, dAdd_i, dSub_i, dNeg_i, dCmp_i, dInt_i, dInt_b, dAbs_i, dMax_i, dMin_i, dLen_l, dLen_t, dLen_f, dList_l, dList_t, dTuple_l, dTuple_t, dRev_l, dRev_t, dIx_l, dIx_t, dIx_f, dIsN_n, dNotN_n, mTup_eq, mLst_eq, mSl_eq, mNone_eq, mSome_eq, someO_i, dSl_t, dSl_l, mFor_eq, mItems_eq, itemsO_l, itemsO_t, itemsO_f, mRgI1_eq, mRgI2_eq, outR_nx, outR_rt, outR_er, run1, run2, run3, run4, forGo_nil, forGo_cons, forO_nx, forO_ct, forO_bk, forO_rt, forO_er, gD_eq, mMut_eq, mutO_l, subO_eq, ownD_z, ownD_s, dSet_l, List.set_cons_zero, List.set_cons_succ, List.getElem?_cons_zero, List.getElem?_cons_succ, List.replicate_succ, List.replicate_zero, Nat.reduceSub, Nat.reduceAdd, List.length_cons, List.length_nil, Option.bind_some, Option.map_some, Bool.false_eq_true, if_true, if_false, reduceIte, Bool.and_true, Bool.true_and, Bool.and_false, Bool.false_and, Bool.or_true, Bool.true_or, Bool.or_false, Bool.false_or, Bool.not_true, Bool.not_false, DL.isNon, isSub, reduceCtorEq, decide_true, decide_false, clrO, Bool.or_self, Bool.and_self, Nat.reduceLT, Int.reduceLT, Int.reduceLE, Int.reduceAdd, Int.reduceSub, Int.reduceNeg, Int.reduceMul, Int.reduceEq, Int.cast_ofNat_Int, gk0, gk1, gk2, gk3, gk4, gk5, gk6, gk7, gk8, gk9, gk10, gk11, gk12, mMeth_eq, methO_ok, mRgI3_eq, mFrz_eq, frzO_s, mAug_eq, augO_s, dAddA_i, dTupX_l, dTupX_t, rowD_t, rowD_f, dList_f, dTupX_f, dRev_f, sc_swap, sc_next, sc_take, sc_flip, sc_blocks, sc_turn, sc_recut, sc_cut, sc_join, guard_0, lb__law_count_1, gT, i1, i2, i3, g3, if_neg h1, if_neg h2, if_pos h3]
      · rw [decide_eq_false h3] at i3
        simp only [bnd_ok, bnd_er, sE_ok, sE_er, mSeq_eq, seqO_nx, seqO_rt, seqO_er, seqO_bk, seqO_ct, mIf_eq, ifO_ok, ifO_er, mVar_z, mVar_s, mVarD_z, mVarD_s, mC_eq, mBin_eq, mUn_eq, mCB_eq, mNil_eq, mCons_eq, mSet_eq, mRet_eq, mSkip_eq, mBrk_eq, mCnt_eq, mRaise_eq, mRetN_eq, mDrop_eq, mTst_eq, tstO_bl, tstO_er, mAndT_eq, andT_ok, andT_f, andT_t, andT_er, mOrT_eq, orT_ok, orT_f, orT_t, orT_er, mNotT_eq, mAnd_eq, andD_ok, andD_f, andD_t, andD_er, mOr_eq, orD_ok, orD_f, orD_t, orD_er, dNot_bl, dAdd_i, dSub_i, dNeg_i, dCmp_i, dInt_i, dInt_b, dAbs_i, dMax_i, dMin_i, dLen_l, dLen_t, dLen_f, dList_l, dList_t, dTuple_l, dTuple_t, dRev_l, dRev_t, dIx_l, dIx_t, dIx_f, dIsN_n, dNotN_n, mTup_eq, mLst_eq, mSl_eq, mNone_eq, mSome_eq, someO_i, dSl_t, dSl_l, mFor_eq, mItems_eq, itemsO_l, itemsO_t, itemsO_f, mRgI1_eq, mRgI2_eq, outR_nx, outR_rt, outR_er, run1, run2, run3, run4, forGo_nil, forGo_cons, forO_nx, forO_ct, forO_bk, forO_rt, forO_er, gD_eq, mMut_eq, mutO_l, subO_eq, ownD_z, ownD_s, dSet_l, List.set_cons_zero, List.set_cons_succ, List.getElem?_cons_zero, List.getElem?_cons_succ, List.replicate_succ, List.replicate_zero, Nat.reduceSub, Nat.reduceAdd, List.length_cons, List.length_nil, Option.bind_some, Option.map_some, Bool.false_eq_true, if_true, if_false, reduceIte, Bool.and_true, Bool.true_and, Bool.and_false, Bool.false_and, Bool.or_true, Bool.true_or, Bool.or_false, Bool.false_or, Bool.not_true, Bool.not_false, DL.isNon, isSub, reduceCtorEq, decide_true, decide_false, clrO, Bool.or_self, Bool.and_self, Nat.reduceLT, Int.reduceLT, Int.reduceLE, Int.reduceAdd, Int.reduceSub, Int.reduceNeg, Int.reduceMul, Int.reduceEq, Int.cast_ofNat_Int, gk0, gk1, gk2, gk3, gk4, gk5, gk6, gk7, gk8, gk9, gk10, gk11, gk12, mMeth_eq, methO_ok, mRgI3_eq, mFrz_eq, frzO_s, mAug_eq, augO_s, dAddA_i, dTupX_l, dTupX_t, rowD_t, rowD_f, dList_f, dTupX_f, dRev_f, sc_swap, sc_next, sc_take, sc_flip, sc_blocks, sc_turn, sc_recut, sc_cut, sc_join, guard_0, lb__law_count_1, gT, i1, i2, i3, g3, if_neg h1, if_neg h2, if_neg h3]
/-! ### a move, a script -/
abbrev Mv := List Nat × List Int
def mvD (m : Mv) : D := .tup (.str (S m.1) :: m.2.map D.int)
def mvW (ws : List (List Nat)) : Option Mv := match ws with
  | [] => none
  | w :: r => if cnt w = 0 ∨ r.length ≠ cnt w then none else (r.mapM numW).map fun l => (w, l)
def mvL (line : List Nat) : Option Mv := mvW (TL.spl [32] 0 [] line)
def scrW (t : List Nat) : Option (List Mv) := if t = [] then some [] else (TL.spl [59, 32] 0 [] t).mapM mvL
theorem mLcE_eq (src : MI) (vs : List Nat) (g : MG) (tt : MT) (me : ME) (ρ : Ro) : mLcE src vs g tt me ρ = bnd (src ρ) fun ds => DL.guard (noOwn ρ vs = true ∧ ds.length ≤ lim) (bnd (lcGoE g tt me (wipeR ρ vs) ds) fun ys => ok (.lst ys)) := (rfl)
def elim {β γ : Type} (o : Option β) (f : β → γ) (e : EN) : R γ := match o with
  | some y => some (.ok (f y))
  | none => some (.error e)
theorem elim_some {β γ : Type} (y : β) (f : β → γ) (e : EN) : elim (some y) f e = some (.ok (f y)) := rfl
theorem elim_none {β γ : Type} (f : β → γ) (e : EN) : elim none f e = some (.error e) := rfl
theorem at_hd {α : Type} (x : α) (xs : List α) : L2.atI (x :: xs) 0 = some x := atI_nat (x :: xs) 0 (by simp)
theorem lcE_gen {α β : Type} {v : Nat} {me : ME} {ρ : Ro} (j : α → D) (q : α → Option β) (f : β → D) (e : EN) : ∀ (xs : List α), (∀ x ∈ xs, me (ρ.set v (some (j x, false))) = elim (q x) f e) →
    lcGoE (gD v) mYes me ρ (xs.map j) = elim (xs.mapM q) (fun ys => ys.map f) e
  | [], _ => rfl
  | x :: xs, h => by
    have ih := lcE_gen j q f e xs (fun y hy => h y (List.mem_cons_of_mem _ hy))
    have h0 := h x List.mem_cons_self
    rw [List.map_cons, List.mapM_cons]
    unfold lcGoE
    rw [show gD v (j x) ρ = some (ρ.set v (some (j x, false))) from rfl, Option.bind_some]
    show bnd (me (ρ.set v (some (j x, false)))) (fun y => bnd (lcGoE (gD v) mYes me ρ (xs.map j)) fun ys => ok (y :: ys)) = _
    rw [h0, ih]
    cases q x with
    | none => rfl
    | some y =>
      cases xs.mapM q with
      | none => rfl
      | some ys => rfl
/-! ### read_move -/
theorem spl_ne (Sp : List Nat) : ∀ (k : Nat) (acc l : List Nat), TL.spl Sp k acc l ≠ [] := by
  intro k acc l
  induction l generalizing k acc with
  | nil => cases k <;> (unfold TL.spl; simp)
  | cons c r ih =>
    cases k with
    | zero =>
      unfold TL.spl
      split
      · simp
      · exact ih 0 _
    | succ k =>
      unfold TL.spl
      exact ih k acc
theorem spl_len (Sp : List Nat) : ∀ (k : Nat) (acc l : List Nat), (TL.spl Sp k acc l).length ≤ l.length + 1 ∧ ∀ p ∈ TL.spl Sp k acc l, p.length ≤ acc.length + l.length := by
  intro k acc l
  induction l generalizing k acc with
  | nil =>
    have : TL.spl Sp k acc [] = [acc] := TL.spl_nil Sp k acc
    rw [this]
    exact ⟨by simp, fun p hp => by rw [List.mem_singleton.mp hp]; simp⟩
  | cons c r ih =>
    cases k with
    | zero =>
      unfold TL.spl
      split
      · obtain ⟨h1, h2⟩ := ih (Sp.length - 1) []
        refine ⟨by simp only [List.length_cons]; omega, fun p hp => ?_⟩
        rcases List.mem_cons.mp hp with e | hp
        · rw [e]; simp
        · have := h2 p hp
          simp only [List.length_nil, List.length_cons] at this ⊢
          omega
      · obtain ⟨h1, h2⟩ := ih 0 (acc ++ [c])
        refine ⟨by simp only [List.length_cons]; omega, fun p hp => ?_⟩
        have := h2 p hp
        simp only [List.length_append, List.length_cons, List.length_nil] at this ⊢
        omega
    | succ k =>
      unfold TL.spl
      obtain ⟨h1, h2⟩ := ih k acc
      refine ⟨by simp only [List.length_cons]; omega, fun p hp => ?_⟩
      have := h2 p hp
      simp only [List.length_cons]
      omega
theorem split_sp (l : List Nat) (h : l.length < lim) : dSplit (.str (S l)) (.str " ") = some (.ok (.lst ((TL.spl [32] 0 [] l).map fun y => D.str (S y)))) := by
  rw [sc_sp]
  show guard (((S [32]).length == 0) = false ∧ (S l).length < lim) (ok (D.lst ((Txt.split (S l) (S [32])).map D.str))) = (_ : R D)
  rw [SX.split_S (by simp) (by decide), List.map_map, SX.S_len]
  exact guard_t ⟨rfl, h⟩ _
theorem split_semi (l : List Nat) (h : l.length < lim) : dSplit (.str (S l)) (.str "; ") = some (.ok (.lst ((TL.spl [59, 32] 0 [] l).map fun y => D.str (S y)))) := by
  rw [sc_semi]
  show guard (((S [59, 32]).length == 0) = false ∧ (S l).length < lim) (ok (D.lst ((Txt.split (S l) (S [59, 32])).map D.str))) = (_ : R D)
  rw [SX.split_S (by simp) (by decide), List.map_map, SX.S_len]
  exact guard_t ⟨rfl, h⟩ _
theorem mStr1_eq (f : D → D → R D) (ma mb : ME) (ρ : Ro) : mStr1 f ma mb ρ = bnd (ma ρ) fun a => guard (isStr a = true) (bnd (mb ρ) fun b => f a b) := (rfl)
theorem guard_str (s : Str) {α : Type} (x : R α) : guard (isStr (.str s) = true) x = x := (rfl)
theorem mKix_S (kds : List (Str × D)) (m : ME) (ρ : Ro) (w : List Nat) (h : m ρ = some (.ok (.str (S w)))) : mKix kds m ρ = (lkS kds (S w)).map .ok := by
  unfold mKix
  rw [h]
  rfl
theorem mKnotIn_S (kds : List (Str × D)) (m : ME) (ρ : Ro) (w : List Nat) (h : m ρ = some (.ok (.str (S w)))) : mKnotIn kds m ρ = some (.ok (.bl (!(lkS kds (S w)).isSome))) := by
  unfold mKnotIn
  rw [h]
  rfl
def wT (ws : List (List Nat)) : List D := ws.map fun y => D.str (S y)
def yT (y : List Nat) : D := .str (S y)
theorem cut_tl (x : D) (xs : List D) : cut (x :: xs) (some 1) none = xs := cut_n0 (x :: xs) 1 (by simp)
theorem add_mv (w : List Nat) (l : List Int) (h : l.length < lim) : dAdd (.tup [.str (S w)]) (.tup (l.map D.int)) = some (.ok (mvD (w, l))) := by
  show guard ([D.str (S w)].length + (l.map D.int).length ≤ lim) (ok (D.tup ([D.str (S w)] ++ l.map D.int))) = (_ : R D)
  rw [List.length_map]
  exact guard_t (by rw [List.length_singleton]; omega) _
theorem mapM_len {α β : Type} (q : α → Option β) : ∀ (xs : List α) (ys : List β), xs.mapM q = some ys → ys.length = xs.length
  | [], ys, h => by cases h; rfl
  | x :: xs, ys, h => by
    rw [List.mapM_cons] at h
    cases e : q x with
    | none => rw [e] at h; cases h
    | some y =>
      rw [e] at h
      cases e2 : xs.mapM q with
      | none => rw [e2] at h; cases h
      | some zs =>
        rw [e2] at h
        cases h
        rw [List.length_cons, List.length_cons, mapM_len q xs zs e2]
theorem read_move_val (line : List Nat) (hl : line.length ≤ 600) : m_read_move [.str (S line)] = elim (mvL line) mvD .text := by
  have e1 := split_sp line (Nat.lt_of_le_of_lt hl (by decide))
  obtain ⟨s1, s2⟩ := spl_len [32] 0 [] line
  have s3 := spl_ne [32] 0 [] line
  unfold mvL
  generalize TL.spl [32] 0 [] line = ws at *
  cases ws with
  | nil => exact absurd rfl s3
  | cons w r =>
    have hr : r.length ≤ 600 := by rw [List.length_cons] at s1; omega
    obtain ⟨L, hL, hL0, hL1, hL2⟩ : ∃ L : List D, (w :: r).map (fun y => D.str (S y)) = L ∧ L.length = r.length + 1 ∧ L2.atI L 0 = some (.str (S w)) ∧ cut L (some 1) none = r.map yT := ⟨_, rfl, by simp, at_hd _ _, cut_tl _ _⟩
    rw [hL] at e1
    have e2 : mBin dIx (mVar 1) (mC (.int 0)) [some (.str (S line), false), some (.lst L, false), none] = some (.ok (.str (S w))) := by
      simp only [bnd_ok, bnd_er, sE_ok, sE_er, mSeq_eq, seqO_nx, seqO_rt, seqO_er, seqO_bk, seqO_ct, mIf_eq, ifO_ok, ifO_er, mVar_z, mVar_s, mVarD_z, mVarD_s, mC_eq, mBin_eq, mUn_eq, mCB_eq, mNil_eq, mCons_eq, mSet_eq, mRet_eq, mSkip_eq, mBrk_eq, mCnt_eq, mRaise_eq, mRetN_eq, mDrop_eq, mTst_eq, tstO_bl, tstO_er, mAndT_eq, andT_ok, andT_f, andT_t, andT_er, mOrT_eq, orT_ok, orT_f, orT_t, orT_er, mNotT_eq, mAnd_eq, andD_ok, andD_f, andD_t, andD_er, mOr_eq, orD_ok, orD_f, orD_t, orD_er, dNot_bl, dAdd_i, dSub_i, dNeg_i, dCmp_i, dInt_i, dInt_b, dAbs_i, dMax_i, dMin_i, dLen_l, dLen_t, dLen_f, dList_l, dList_t, dTuple_l, dTuple_t, dRev_l, dRev_t, dIx_l, dIx_t, dIx_f, dIsN_n, dNotN_n, mTup_eq, mLst_eq, mSl_eq, mNone_eq, mSome_eq, someO_i, dSl_t, dSl_l, mFor_eq, mItems_eq, itemsO_l, itemsO_t, itemsO_f, mRgI1_eq, mRgI2_eq, outR_nx, outR_rt, outR_er, run1, run2, run3, run4, forGo_nil, forGo_cons, forO_nx, forO_ct, forO_bk, forO_rt, forO_er, gD_eq, mMut_eq, mutO_l, subO_eq, ownD_z, ownD_s, dSet_l, List.set_cons_zero, List.set_cons_succ, List.getElem?_cons_zero, List.getElem?_cons_succ, List.replicate_succ, List.replicate_zero, Nat.reduceSub, Nat.reduceAdd, List.length_cons, List.length_nil, Option.bind_some, Option.map_some, Bool.false_eq_true, if_true, if_false, reduceIte, Bool.and_true, Bool.true_and, Bool.and_false, Bool.false_and, Bool.or_true, Bool.true_or, Bool.or_false, Bool.false_or, Bool.not_true, Bool.not_false, DL.isNon, isSub, reduceCtorEq, decide_true, decide_false, clrO, Bool.or_self, Bool.and_self, Nat.reduceLT, Int.reduceLT, Int.reduceLE, Int.reduceAdd, Int.reduceSub, Int.reduceNeg, Int.reduceMul, Int.reduceEq, Int.cast_ofNat_Int, gk0, gk1, gk2, gk3, gk4, gk5, gk6, gk7, gk8, gk9, gk10, gk11, gk12, mMeth_eq, methO_ok, mRgI3_eq, mFrz_eq, frzO_s, mAug_eq, augO_s, dAddA_i, dTupX_l, dTupX_t, rowD_t, rowD_f, dList_f, dTupX_f, dRev_f, hL1]
    have e3 := mKnotIn_S kd_SIZES _ _ w e2
    have e4 := mKix_S kd_SIZES _ _ w e2
    rw [lk_cnt] at e3 e4
    by_cases h0 : cnt w = 0
    · have hn : mvW (w :: r) = none := by unfold mvW; exact if_pos (.inl h0)
      rw [if_pos h0] at e3
      rw [hn, elim_none]
      unfold m_read_move b_read_move
      simp only [bnd_ok, bnd_er, sE_ok, sE_er, mSeq_eq, seqO_nx, seqO_rt, seqO_er, seqO_bk, seqO_ct, mIf_eq, ifO_ok, ifO_er, mVar_z, mVar_s, mVarD_z, mVarD_s, mC_eq, mBin_eq, mUn_eq, mCB_eq, mNil_eq, mCons_eq, mSet_eq, mRet_eq, mSkip_eq, mBrk_eq, mCnt_eq, mRaise_eq, mRetN_eq, mDrop_eq, mTst_eq, tstO_bl, tstO_er, mAndT_eq, andT_ok, andT_f, andT_t, andT_er, mOrT_eq, orT_ok, orT_f, orT_t, orT_er, mNotT_eq, mAnd_eq, andD_ok, andD_f, andD_t, andD_er, mOr_eq, orD_ok, orD_f, orD_t, orD_er, dNot_bl, dAdd_i, dSub_i, dNeg_i, dCmp_i, dInt_i, dInt_b, dAbs_i, dMax_i, dMin_i, dLen_l, dLen_t, dLen_f, dList_l, dList_t, dTuple_l, dTuple_t, dRev_l, dRev_t, dIx_l, dIx_t, dIx_f, dIsN_n, dNotN_n, mTup_eq, mLst_eq, mSl_eq, mNone_eq, mSome_eq, someO_i, dSl_t, dSl_l, mFor_eq, mItems_eq, itemsO_l, itemsO_t, itemsO_f, mRgI1_eq, mRgI2_eq, outR_nx, outR_rt, outR_er, run1, run2, run3, run4, forGo_nil, forGo_cons, forO_nx, forO_ct, forO_bk, forO_rt, forO_er, gD_eq, mMut_eq, mutO_l, subO_eq, ownD_z, ownD_s, dSet_l, List.set_cons_zero, List.set_cons_succ, List.getElem?_cons_zero, List.getElem?_cons_succ, List.replicate_succ, List.replicate_zero, Nat.reduceSub, Nat.reduceAdd, List.length_cons, List.length_nil, Option.bind_some, Option.map_some, Bool.false_eq_true, if_true, if_false, reduceIte, Bool.and_true, Bool.true_and, Bool.and_false, Bool.false_and, Bool.or_true, Bool.true_or, Bool.or_false, Bool.false_or, Bool.not_true, Bool.not_false, DL.isNon, isSub, reduceCtorEq, decide_true, decide_false, clrO, Bool.or_self, Bool.and_self, Nat.reduceLT, Int.reduceLT, Int.reduceLE, Int.reduceAdd, Int.reduceSub, Int.reduceNeg, Int.reduceMul, Int.reduceEq, Int.cast_ofNat_Int, gk0, gk1, gk2, gk3, gk4, gk5, gk6, gk7, gk8, gk9, gk10, gk11, gk12, mMeth_eq, methO_ok, mRgI3_eq, mFrz_eq, frzO_s, mAug_eq, augO_s, dAddA_i, dTupX_l, dTupX_t, rowD_t, rowD_f, dList_f, dTupX_f, dRev_f, mStr1_eq, guard_str, e1]
      rw [e3]
      simp only [bnd_ok, bnd_er, sE_ok, sE_er, mSeq_eq, seqO_nx, seqO_rt, seqO_er, seqO_bk, seqO_ct, mIf_eq, ifO_ok, ifO_er, mVar_z, mVar_s, mVarD_z, mVarD_s, mC_eq, mBin_eq, mUn_eq, mCB_eq, mNil_eq, mCons_eq, mSet_eq, mRet_eq, mSkip_eq, mBrk_eq, mCnt_eq, mRaise_eq, mRetN_eq, mDrop_eq, mTst_eq, tstO_bl, tstO_er, mAndT_eq, andT_ok, andT_f, andT_t, andT_er, mOrT_eq, orT_ok, orT_f, orT_t, orT_er, mNotT_eq, mAnd_eq, andD_ok, andD_f, andD_t, andD_er, mOr_eq, orD_ok, orD_f, orD_t, orD_er, dNot_bl, dAdd_i, dSub_i, dNeg_i, dCmp_i, dInt_i, dInt_b, dAbs_i, dMax_i, dMin_i, dLen_l, dLen_t, dLen_f, dList_l, dList_t, dTuple_l, dTuple_t, dRev_l, dRev_t, dIx_l, dIx_t, dIx_f, dIsN_n, dNotN_n, mTup_eq, mLst_eq, mSl_eq, mNone_eq, mSome_eq, someO_i, dSl_t, dSl_l, mFor_eq, mItems_eq, itemsO_l, itemsO_t, itemsO_f, mRgI1_eq, mRgI2_eq, outR_nx, outR_rt, outR_er, run1, run2, run3, run4, forGo_nil, forGo_cons, forO_nx, forO_ct, forO_bk, forO_rt, forO_er, gD_eq, mMut_eq, mutO_l, subO_eq, ownD_z, ownD_s, dSet_l, List.set_cons_zero, List.set_cons_succ, List.getElem?_cons_zero, List.getElem?_cons_succ, List.replicate_succ, List.replicate_zero, Nat.reduceSub, Nat.reduceAdd, List.length_cons, List.length_nil, Option.bind_some, Option.map_some, Bool.false_eq_true, if_true, if_false, reduceIte, Bool.and_true, Bool.true_and, Bool.and_false, Bool.false_and, Bool.or_true, Bool.true_or, Bool.or_false, Bool.false_or, Bool.not_true, Bool.not_false, DL.isNon, isSub, reduceCtorEq, decide_true, decide_false, clrO, Bool.or_self, Bool.and_self, Nat.reduceLT, Int.reduceLT, Int.reduceLE, Int.reduceAdd, Int.reduceSub, Int.reduceNeg, Int.reduceMul, Int.reduceEq, Int.cast_ofNat_Int, gk0, gk1, gk2, gk3, gk4, gk5, gk6, gk7, gk8, gk9, gk10, gk11, gk12, mMeth_eq, methO_ok, mRgI3_eq, mFrz_eq, frzO_s, mAug_eq, augO_s, dAddA_i, dTupX_l, dTupX_t, rowD_t, rowD_f, dList_f, dTupX_f, dRev_f, Option.isSome_none]
    · rw [if_neg h0] at e3 e4
      have e5 : ((L.length : Nat) : Int) = ((r.length + 1 : Nat) : Int) := by rw [hL0]
      by_cases h1 : r.length = cnt w
      · have hn : mvW (w :: r) = (r.mapM numW).map fun l => (w, l) := by unfold mvW; exact if_neg (by omega)
        have d1 : (!decide (((L.length : Nat) : Int) = 1 + ((cnt w : Nat) : Int))) = false := by rw [decide_eq_true (by omega)]; rfl
        have lc : lcGoE (gD 2) mYes (mCB m_plain_number (mCons (mVarD 2) mNil)) [some (.str (S line), false), some (.lst L, false), none] (r.map yT) = elim (r.mapM numW) (fun ys => ys.map D.int) .text := by
          refine lcE_gen yT numW D.int .text r fun x hx => ?_
          have hx2 := s2 x (List.mem_cons_of_mem _ hx)
          rw [List.length_nil, Nat.zero_add] at hx2
          have pv := plain_number_val x (by omega)
          show mCB m_plain_number (mCons (mVarD 2) mNil) [some (.str (S line), false), some (.lst L, false), some (.str (S x), false)] = _
          simp only [bnd_ok, bnd_er, sE_ok, sE_er, mSeq_eq, seqO_nx, seqO_rt, seqO_er, seqO_bk, seqO_ct, mIf_eq, ifO_ok, ifO_er, mVar_z, mVar_s, mVarD_z, mVarD_s, mC_eq, mBin_eq, mUn_eq, mCB_eq, mNil_eq, mCons_eq, mSet_eq, mRet_eq, mSkip_eq, mBrk_eq, mCnt_eq, mRaise_eq, mRetN_eq, mDrop_eq, mTst_eq, tstO_bl, tstO_er, mAndT_eq, andT_ok, andT_f, andT_t, andT_er, mOrT_eq, orT_ok, orT_f, orT_t, orT_er, mNotT_eq, mAnd_eq, andD_ok, andD_f, andD_t, andD_er, mOr_eq, orD_ok, orD_f, orD_t, orD_er, dNot_bl, dAdd_i, dSub_i, dNeg_i, dCmp_i, dInt_i, dInt_b, dAbs_i, dMax_i, dMin_i, dLen_l, dLen_t, dLen_f, dList_l, dList_t, dTuple_l, dTuple_t, dRev_l, dRev_t, dIx_l, dIx_t, dIx_f, dIsN_n, dNotN_n, mTup_eq, mLst_eq, mSl_eq, mNone_eq, mSome_eq, someO_i, dSl_t, dSl_l, mFor_eq, mItems_eq, itemsO_l, itemsO_t, itemsO_f, mRgI1_eq, mRgI2_eq, outR_nx, outR_rt, outR_er, run1, run2, run3, run4, forGo_nil, forGo_cons, forO_nx, forO_ct, forO_bk, forO_rt, forO_er, gD_eq, mMut_eq, mutO_l, subO_eq, ownD_z, ownD_s, dSet_l, List.set_cons_zero, List.set_cons_succ, List.getElem?_cons_zero, List.getElem?_cons_succ, List.replicate_succ, List.replicate_zero, Nat.reduceSub, Nat.reduceAdd, List.length_cons, List.length_nil, Option.bind_some, Option.map_some, Bool.false_eq_true, if_true, if_false, reduceIte, Bool.and_true, Bool.true_and, Bool.and_false, Bool.false_and, Bool.or_true, Bool.true_or, Bool.or_false, Bool.false_or, Bool.not_true, Bool.not_false, DL.isNon, isSub, reduceCtorEq, decide_true, decide_false, clrO, Bool.or_self, Bool.and_self, Nat.reduceLT, Int.reduceLT, Int.reduceLE, Int.reduceAdd, Int.reduceSub, Int.reduceNeg, Int.reduceMul, Int.reduceEq, Int.cast_ofNat_Int, gk0, gk1, gk2, gk3, gk4, gk5, gk6, gk7, gk8, gk9, gk10, gk11, gk12, mMeth_eq, methO_ok, mRgI3_eq, mFrz_eq, frzO_s, mAug_eq, augO_s, dAddA_i, dTupX_l, dTupX_t, rowD_t, rowD_f, dList_f, dTupX_f, dRev_f]
          rw [pv]
          cases numW x <;> rfl
        have lc2 : mLcE (mItems (mSl (mVar 1) (mSome (mC (.int 1))) mNone)) [2] (gD 2) mYes (mCB m_plain_number (mCons (mVarD 2) mNil)) [some (.str (S line), false), some (.lst L, false), none] = elim (r.mapM numW) (fun ys => D.lst (ys.map D.int)) .text := by
          have src : mItems (mSl (mVar 1) (mSome (mC (.int 1))) mNone) [some (.str (S line), false), some (.lst L, false), none] = some (.ok (r.map yT)) := by
            simp only [bnd_ok, bnd_er, sE_ok, sE_er, mSeq_eq, seqO_nx, seqO_rt, seqO_er, seqO_bk, seqO_ct, mIf_eq, ifO_ok, ifO_er, mVar_z, mVar_s, mVarD_z, mVarD_s, mC_eq, mBin_eq, mUn_eq, mCB_eq, mNil_eq, mCons_eq, mSet_eq, mRet_eq, mSkip_eq, mBrk_eq, mCnt_eq, mRaise_eq, mRetN_eq, mDrop_eq, mTst_eq, tstO_bl, tstO_er, mAndT_eq, andT_ok, andT_f, andT_t, andT_er, mOrT_eq, orT_ok, orT_f, orT_t, orT_er, mNotT_eq, mAnd_eq, andD_ok, andD_f, andD_t, andD_er, mOr_eq, orD_ok, orD_f, orD_t, orD_er, dNot_bl, dAdd_i, dSub_i, dNeg_i, dCmp_i, dInt_i, dInt_b, dAbs_i, dMax_i, dMin_i, dLen_l, dLen_t, dLen_f, dList_l, dList_t, dTuple_l, dTuple_t, dRev_l, dRev_t, dIx_l, dIx_t, dIx_f, dIsN_n, dNotN_n, mTup_eq, mLst_eq, mSl_eq, mNone_eq, mSome_eq, someO_i, dSl_t, dSl_l, mFor_eq, mItems_eq, itemsO_l, itemsO_t, itemsO_f, mRgI1_eq, mRgI2_eq, outR_nx, outR_rt, outR_er, run1, run2, run3, run4, forGo_nil, forGo_cons, forO_nx, forO_ct, forO_bk, forO_rt, forO_er, gD_eq, mMut_eq, mutO_l, subO_eq, ownD_z, ownD_s, dSet_l, List.set_cons_zero, List.set_cons_succ, List.getElem?_cons_zero, List.getElem?_cons_succ, List.replicate_succ, List.replicate_zero, Nat.reduceSub, Nat.reduceAdd, List.length_cons, List.length_nil, Option.bind_some, Option.map_some, Bool.false_eq_true, if_true, if_false, reduceIte, Bool.and_true, Bool.true_and, Bool.and_false, Bool.false_and, Bool.or_true, Bool.true_or, Bool.or_false, Bool.false_or, Bool.not_true, Bool.not_false, DL.isNon, isSub, reduceCtorEq, decide_true, decide_false, clrO, Bool.or_self, Bool.and_self, Nat.reduceLT, Int.reduceLT, Int.reduceLE, Int.reduceAdd, Int.reduceSub, Int.reduceNeg, Int.reduceMul, Int.reduceEq, Int.cast_ofNat_Int, gk0, gk1, gk2, gk3, gk4, gk5, gk6, gk7, gk8, gk9, gk10, gk11, gk12, mMeth_eq, methO_ok, mRgI3_eq, mFrz_eq, frzO_s, mAug_eq, augO_s, dAddA_i, dTupX_l, dTupX_t, rowD_t, rowD_f, dList_f, dTupX_f, dRev_f, hL2]
          rw [mLcE_eq, src, bnd_ok, guard_t ⟨rfl, by rw [List.length_map]; exact Nat.le_trans hr (by decide)⟩]
          show bnd (lcGoE (gD 2) mYes (mCB m_plain_number (mCons (mVarD 2) mNil)) [some (.str (S line), false), some (.lst L, false), none] (r.map yT)) _ = _
          rw [lc]
          cases r.mapM numW <;> rfl
        rw [hn]
        unfold m_read_move b_read_move
        simp only [bnd_ok, bnd_er, sE_ok, sE_er, mSeq_eq, seqO_nx, seqO_rt, seqO_er, seqO_bk, seqO_ct, mIf_eq, ifO_ok, ifO_er, mVar_z, mVar_s, mVarD_z, mVarD_s, mC_eq, mBin_eq, mUn_eq, mCB_eq, mNil_eq, mCons_eq, mSet_eq, mRet_eq, mSkip_eq, mBrk_eq, mCnt_eq, mRaise_eq, mRetN_eq, mDrop_eq, mTst_eq, tstO_bl, tstO_er, mAndT_eq, andT_ok, andT_f, andT_t, andT_er, mOrT_eq, orT_ok, orT_f, orT_t, orT_er, mNotT_eq, mAnd_eq, andD_ok, andD_f, andD_t, andD_er, mOr_eq, orD_ok, orD_f, orD_t, orD_er, dNot_bl, dAdd_i, dSub_i, dNeg_i, dCmp_i, dInt_i, dInt_b, dAbs_i, dMax_i, dMin_i, dLen_l, dLen_t, dLen_f, dList_l, dList_t, dTuple_l, dTuple_t, dRev_l, dRev_t, dIx_l, dIx_t, dIx_f, dIsN_n, dNotN_n, mTup_eq, mLst_eq, mSl_eq, mNone_eq, mSome_eq, someO_i, dSl_t, dSl_l, mFor_eq, mItems_eq, itemsO_l, itemsO_t, itemsO_f, mRgI1_eq, mRgI2_eq, outR_nx, outR_rt, outR_er, run1, run2, run3, run4, forGo_nil, forGo_cons, forO_nx, forO_ct, forO_bk, forO_rt, forO_er, gD_eq, mMut_eq, mutO_l, subO_eq, ownD_z, ownD_s, dSet_l, List.set_cons_zero, List.set_cons_succ, List.getElem?_cons_zero, List.getElem?_cons_succ, List.replicate_succ, List.replicate_zero, Nat.reduceSub, Nat.reduceAdd, List.length_cons, List.length_nil, Option.bind_some, Option.map_some, Bool.false_eq_true, if_true, if_false, reduceIte, Bool.and_true, Bool.true_and, Bool.and_false, Bool.false_and, Bool.or_true, Bool.true_or, Bool.or_false, Bool.false_or, Bool.not_true, Bool.not_false, DL.isNon, isSub, reduceCtorEq, decide_true, decide_false, clrO, Bool.or_self, Bool.and_self, Nat.reduceLT, Int.reduceLT, Int.reduceLE, Int.reduceAdd, Int.reduceSub, Int.reduceNeg, Int.reduceMul, Int.reduceEq, Int.cast_ofNat_Int, gk0, gk1, gk2, gk3, gk4, gk5, gk6, gk7, gk8, gk9, gk10, gk11, gk12, mMeth_eq, methO_ok, mRgI3_eq, mFrz_eq, frzO_s, mAug_eq, augO_s, dAddA_i, dTupX_l, dTupX_t, rowD_t, rowD_f, dList_f, dTupX_f, dRev_f, mStr1_eq, guard_str, e1]
        rw [e3]
        simp only [bnd_ok, bnd_er, sE_ok, sE_er, mSeq_eq, seqO_nx, seqO_rt, seqO_er, seqO_bk, seqO_ct, mIf_eq, ifO_ok, ifO_er, mVar_z, mVar_s, mVarD_z, mVarD_s, mC_eq, mBin_eq, mUn_eq, mCB_eq, mNil_eq, mCons_eq, mSet_eq, mRet_eq, mSkip_eq, mBrk_eq, mCnt_eq, mRaise_eq, mRetN_eq, mDrop_eq, mTst_eq, tstO_bl, tstO_er, mAndT_eq, andT_ok, andT_f, andT_t, andT_er, mOrT_eq, orT_ok, orT_f, orT_t, orT_er, mNotT_eq, mAnd_eq, andD_ok, andD_f, andD_t, andD_er, mOr_eq, orD_ok, orD_f, orD_t, orD_er, dNot_bl, dAdd_i, dSub_i, dNeg_i, dCmp_i, dInt_i, dInt_b, dAbs_i, dMax_i, dMin_i, dLen_l, dLen_t, dLen_f, dList_l, dList_t, dTuple_l, dTuple_t, dRev_l, dRev_t, dIx_l, dIx_t, dIx_f, dIsN_n, dNotN_n, mTup_eq, mLst_eq, mSl_eq, mNone_eq, mSome_eq, someO_i, dSl_t, dSl_l, mFor_eq, mItems_eq, itemsO_l, itemsO_t, itemsO_f, mRgI1_eq, mRgI2_eq, outR_nx, outR_rt, outR_er, run1, run2, run3, run4, forGo_nil, forGo_cons, forO_nx, forO_ct, forO_bk, forO_rt, forO_er, gD_eq, mMut_eq, mutO_l, subO_eq, ownD_z, ownD_s, dSet_l, List.set_cons_zero, List.set_cons_succ, List.getElem?_cons_zero, List.getElem?_cons_succ, List.replicate_succ, List.replicate_zero, Nat.reduceSub, Nat.reduceAdd, List.length_cons, List.length_nil, Option.bind_some, Option.map_some, Bool.false_eq_true, if_true, if_false, reduceIte, Bool.and_true, Bool.true_and, Bool.and_false, Bool.false_and, Bool.or_true, Bool.true_or, Bool.or_false, Bool.false_or, Bool.not_true, Bool.not_false, DL.isNon, isSub, reduceCtorEq, decide_true, decide_false, clrO, Bool.or_self, Bool.and_self, Nat.reduceLT, Int.reduceLT, Int.reduceLE, Int.reduceAdd, Int.reduceSub, Int.reduceNeg, Int.reduceMul, Int.reduceEq, Int.cast_ofNat_Int, gk0, gk1, gk2, gk3, gk4, gk5, gk6, gk7, gk8, gk9, gk10, gk11, gk12, mMeth_eq, methO_ok, mRgI3_eq, mFrz_eq, frzO_s, mAug_eq, augO_s, dAddA_i, dTupX_l, dTupX_t, rowD_t, rowD_f, dList_f, dTupX_f, dRev_f, Option.isSome_some, e4, hL1, dNe_i, d1, lc2]
        cases hm : r.mapM numW with
        | none => rfl
        | some ys =>
          have ly := mapM_len numW r ys hm
          simp only [bnd_ok, bnd_er, sE_ok, sE_er, mSeq_eq, seqO_nx, seqO_rt, seqO_er, seqO_bk, seqO_ct, mIf_eq, ifO_ok, ifO_er, mVar_z, mVar_s, mVarD_z, mVarD_s, mC_eq, mBin_eq, mUn_eq, mCB_eq, mNil_eq, mCons_eq, mSet_eq, mRet_eq, mSkip_eq, mBrk_eq, mCnt_eq, mRaise_eq, mRetN_eq, mDrop_eq, mTst_eq, tstO_bl, tstO_er, mAndT_eq, andT_ok, andT_f, andT_t, andT_er, mOrT_eq, orT_ok, orT_f, orT_t, orT_er, mNotT_eq, mAnd_eq, andD_ok, andD_f, andD_t, andD_er, mOr_eq, orD_ok, orD_f, orD_t, orD_er, dNot_bl, dAdd_i, dSub_i, dNeg_i, dCmp_i, dInt_i, dInt_b, dAbs_i, dMax_i, dMin_i, dLen_l, dLen_t, dLen_f, dList_l, dList_t, dTuple_l, dTuple_t, dRev_l, dRev_t, dIx_l, dIx_t, dIx_f, dIsN_n, dNotN_n, mTup_eq, mLst_eq, mSl_eq, mNone_eq, mSome_eq, someO_i, dSl_t, dSl_l, mFor_eq, mItems_eq, itemsO_l, itemsO_t, itemsO_f, mRgI1_eq, mRgI2_eq, outR_nx, outR_rt, outR_er, run1, run2, run3, run4, forGo_nil, forGo_cons, forO_nx, forO_ct, forO_bk, forO_rt, forO_er, gD_eq, mMut_eq, mutO_l, subO_eq, ownD_z, ownD_s, dSet_l, List.set_cons_zero, List.set_cons_succ, List.getElem?_cons_zero, List.getElem?_cons_succ, List.replicate_succ, List.replicate_zero, Nat.reduceSub, Nat.reduceAdd, List.length_cons, List.length_nil, Option.bind_some, Option.map_some, Bool.false_eq_true, if_true, if_false, reduceIte, Bool.and_true, Bool.true_and, Bool.and_false, Bool.false_and, Bool.or_true, Bool.true_or, Bool.or_false, Bool.false_or, Bool.not_true, Bool.not_false, DL.isNon, isSub, reduceCtorEq, decide_true, decide_false, clrO, Bool.or_self, Bool.and_self, Nat.reduceLT, Int.reduceLT, Int.reduceLE, Int.reduceAdd, Int.reduceSub, Int.reduceNeg, Int.reduceMul, Int.reduceEq, Int.cast_ofNat_Int, gk0, gk1, gk2, gk3, gk4, gk5, gk6, gk7, gk8, gk9, gk10, gk11, gk12, mMeth_eq, methO_ok, mRgI3_eq, mFrz_eq, frzO_s, mAug_eq, augO_s, dAddA_i, dTupX_l, dTupX_t, rowD_t, rowD_f, dList_f, dTupX_f, dRev_f, elim_some, add_mv w ys (Nat.lt_of_le_of_lt (m := 600) (by omega) (by decide))]
      · have hn : mvW (w :: r) = none := by unfold mvW; exact if_pos (.inr h1)
        have d1 : (!decide (((L.length : Nat) : Int) = 1 + ((cnt w : Nat) : Int))) = true := by rw [decide_eq_false (by omega)]; rfl
        rw [hn, elim_none]
        unfold m_read_move b_read_move
        simp only [bnd_ok, bnd_er, sE_ok, sE_er, mSeq_eq, seqO_nx, seqO_rt, seqO_er, seqO_bk, seqO_ct, mIf_eq, ifO_ok, ifO_er, mVar_z, mVar_s, mVarD_z, mVarD_s, mC_eq, mBin_eq, mUn_eq, mCB_eq, mNil_eq, mCons_eq, mSet_eq, mRet_eq, mSkip_eq, mBrk_eq, mCnt_eq, mRaise_eq, mRetN_eq, mDrop_eq, mTst_eq, tstO_bl, tstO_er, mAndT_eq, andT_ok, andT_f, andT_t, andT_er, mOrT_eq, orT_ok, orT_f, orT_t, orT_er, mNotT_eq, mAnd_eq, andD_ok, andD_f, andD_t, andD_er, mOr_eq, orD_ok, orD_f, orD_t, orD_er, dNot_bl, dAdd_i, dSub_i, dNeg_i, dCmp_i, dInt_i, dInt_b, dAbs_i, dMax_i, dMin_i, dLen_l, dLen_t, dLen_f, dList_l, dList_t, dTuple_l, dTuple_t, dRev_l, dRev_t, dIx_l, dIx_t, dIx_f, dIsN_n, dNotN_n, mTup_eq, mLst_eq, mSl_eq, mNone_eq, mSome_eq, someO_i, dSl_t, dSl_l, mFor_eq, mItems_eq, itemsO_l, itemsO_t, itemsO_f, mRgI1_eq, mRgI2_eq, outR_nx, outR_rt, outR_er, run1, run2, run3, run4, forGo_nil, forGo_cons, forO_nx, forO_ct, forO_bk, forO_rt, forO_er, gD_eq, mMut_eq, mutO_l, subO_eq, ownD_z, ownD_s, dSet_l, List.set_cons_zero, List.set_cons_succ, List.getElem?_cons_zero, List.getElem?_cons_succ, List.replicate_succ, List.replicate_zero, Nat.reduceSub, Nat.reduceAdd, List.length_cons, List.length_nil, Option.bind_some, Option.map_some, Bool.false_eq_true, if_true, if_false, reduceIte, Bool.and_true, Bool.true_and, Bool.and_false, Bool.false_and, Bool.or_true, Bool.true_or, Bool.or_false, Bool.false_or, Bool.not_true, Bool.not_false, DL.isNon, isSub, reduceCtorEq, decide_true, decide_false, clrO, Bool.or_self, Bool.and_self, Nat.reduceLT, Int.reduceLT, Int.reduceLE, Int.reduceAdd, Int.reduceSub, Int.reduceNeg, Int.reduceMul, Int.reduceEq, Int.cast_ofNat_Int, gk0, gk1, gk2, gk3, gk4, gk5, gk6, gk7, gk8, gk9, gk10, gk11, gk12, mMeth_eq, methO_ok, mRgI3_eq, mFrz_eq, frzO_s, mAug_eq, augO_s, dAddA_i, dTupX_l, dTupX_t, rowD_t, rowD_f, dList_f, dTupX_f, dRev_f, mStr1_eq, guard_str, e1]
        rw [e3]
        simp only [bnd_ok, bnd_er, sE_ok, sE_er, mSeq_eq, seqO_nx, seqO_rt, seqO_er, seqO_bk, seqO_ct, mIf_eq, ifO_ok, ifO_er, mVar_z, mVar_s, mVarD_z, mVarD_s, mC_eq, mBin_eq, mUn_eq, mCB_eq, mNil_eq, mCons_eq, mSet_eq, mRet_eq, mSkip_eq, mBrk_eq, mCnt_eq, mRaise_eq, mRetN_eq, mDrop_eq, mTst_eq, tstO_bl, tstO_er, mAndT_eq, andT_ok, andT_f, andT_t, andT_er, mOrT_eq, orT_ok, orT_f, orT_t, orT_er, mNotT_eq, mAnd_eq, andD_ok, andD_f, andD_t, andD_er, mOr_eq, orD_ok, orD_f, orD_t, orD_er, dNot_bl, dAdd_i, dSub_i, dNeg_i, dCmp_i, dInt_i, dInt_b, dAbs_i, dMax_i, dMin_i, dLen_l, dLen_t, dLen_f, dList_l, dList_t, dTuple_l, dTuple_t, dRev_l, dRev_t, dIx_l, dIx_t, dIx_f, dIsN_n, dNotN_n, mTup_eq, mLst_eq, mSl_eq, mNone_eq, mSome_eq, someO_i, dSl_t, dSl_l, mFor_eq, mItems_eq, itemsO_l, itemsO_t, itemsO_f, mRgI1_eq, mRgI2_eq, outR_nx, outR_rt, outR_er, run1, run2, run3, run4, forGo_nil, forGo_cons, forO_nx, forO_ct, forO_bk, forO_rt, forO_er, gD_eq, mMut_eq, mutO_l, subO_eq, ownD_z, ownD_s, dSet_l, List.set_cons_zero, List.set_cons_succ, List.getElem?_cons_zero, List.getElem?_cons_succ, List.replicate_succ, List.replicate_zero, Nat.reduceSub, Nat.reduceAdd, List.length_cons, List.length_nil, Option.bind_some, Option.map_some, Bool.false_eq_true, if_true, if_false, reduceIte, Bool.and_true, Bool.true_and, Bool.and_false, Bool.false_and, Bool.or_true, Bool.true_or, Bool.or_false, Bool.false_or, Bool.not_true, Bool.not_false, DL.isNon, isSub, reduceCtorEq, decide_true, decide_false, clrO, Bool.or_self, Bool.and_self, Nat.reduceLT, Int.reduceLT, Int.reduceLE, Int.reduceAdd, Int.reduceSub, Int.reduceNeg, Int.reduceMul, Int.reduceEq, Int.cast_ofNat_Int, gk0, gk1, gk2, gk3, gk4, gk5, gk6, gk7, gk8, gk9, gk10, gk11, gk12, mMeth_eq, methO_ok, mRgI3_eq, mFrz_eq, frzO_s, mAug_eq, augO_s, dAddA_i, dTupX_l, dTupX_t, rowD_t, rowD_f, dList_f, dTupX_f, dRev_f, Option.isSome_some, e4, hL1, dNe_i, d1]
/-! ### read_script -/
theorem ne_nil_e {t : List Nat} (h : t ≠ []) : decide (t = []) = false := decide_eq_false h
theorem read_script_val (t : List Nat) (hl : t.length ≤ 600) : m_read_script [.str (S t)] = elim (scrW t) (fun ms => D.tup (ms.map mvD)) .text := by
  unfold scrW
  by_cases h0 : t = []
  · subst h0
    unfold m_read_script b_read_script
    simp only [bnd_ok, bnd_er, sE_ok, sE_er, mSeq_eq, seqO_nx, seqO_rt, seqO_er, seqO_bk, seqO_ct, mIf_eq, ifO_ok, ifO_er, mVar_z, mVar_s, mVarD_z, mVarD_s, mC_eq, mBin_eq, mUn_eq, mCB_eq, mNil_eq, mCons_eq, mSet_eq, mRet_eq, mSkip_eq, mBrk_eq, mCnt_eq, mRaise_eq, mRetN_eq, mDrop_eq, mTst_eq, tstO_bl, tstO_er, mAndT_eq, andT_ok, andT_f, andT_t, andT_er, mOrT_eq, orT_ok, orT_f, orT_t, orT_er, mNotT_eq, mAnd_eq, andD_ok, andD_f, andD_t, andD_er, mOr_eq, orD_ok, orD_f, orD_t, orD_er, dNot_bl, dAdd_i, dSub_i, dNeg_i, dCmp_i, dInt_i, dInt_b, dAbs_i, dMax_i, dMin_i, dLen_l, dLen_t, dLen_f, dList_l, dList_t, dTuple_l, dTuple_t, dRev_l, dRev_t, dIx_l, dIx_t, dIx_f, dIsN_n, dNotN_n, mTup_eq, mLst_eq, mSl_eq, mNone_eq, mSome_eq, someO_i, dSl_t, dSl_l, mFor_eq, mItems_eq, itemsO_l, itemsO_t, itemsO_f, mRgI1_eq, mRgI2_eq, outR_nx, outR_rt, outR_er, run1, run2, run3, run4, forGo_nil, forGo_cons, forO_nx, forO_ct, forO_bk, forO_rt, forO_er, gD_eq, mMut_eq, mutO_l, subO_eq, ownD_z, ownD_s, dSet_l, List.set_cons_zero, List.set_cons_succ, List.getElem?_cons_zero, List.getElem?_cons_succ, List.replicate_succ, List.replicate_zero, Nat.reduceSub, Nat.reduceAdd, List.length_cons, List.length_nil, Option.bind_some, Option.map_some, Bool.false_eq_true, if_true, if_false, reduceIte, Bool.and_true, Bool.true_and, Bool.and_false, Bool.false_and, Bool.or_true, Bool.true_or, Bool.or_false, Bool.false_or, Bool.not_true, Bool.not_false, DL.isNon, isSub, reduceCtorEq, decide_true, decide_false, clrO, Bool.or_self, Bool.and_self, Nat.reduceLT, Int.reduceLT, Int.reduceLE, Int.reduceAdd, Int.reduceSub, Int.reduceNeg, Int.reduceMul, Int.reduceEq, Int.cast_ofNat_Int, gk0, gk1, gk2, gk3, gk4, gk5, gk6, gk7, gk8, gk9, gk10, gk11, gk12, mMeth_eq, methO_ok, mRgI3_eq, mFrz_eq, frzO_s, mAug_eq, augO_s, dAddA_i, dTupX_l, dTupX_t, rowD_t, rowD_f, dList_f, dTupX_f, dRev_f, sc_e, eq_T]
    rfl
  · rw [if_neg h0]
    have e1 := split_semi t (Nat.lt_of_le_of_lt hl (by decide))
    obtain ⟨s1, s2⟩ := spl_len [59, 32] 0 [] t
    generalize TL.spl [59, 32] 0 [] t = ls at *
    have lc : lcGoE (gD 1) mYes (mCB m_read_move (mCons (mVarD 1) mNil)) [some (.str (S t), false), none] (ls.map yT) = elim (ls.mapM mvL) (fun ys => ys.map mvD) .text := by
      refine lcE_gen yT mvL mvD .text ls fun x hx => ?_
      have hx2 := s2 x hx
      rw [List.length_nil, Nat.zero_add] at hx2
      show mCB m_read_move (mCons (mVarD 1) mNil) [some (.str (S t), false), some (.str (S x), false)] = _
      simp only [bnd_ok, bnd_er, sE_ok, sE_er, mSeq_eq, seqO_nx, seqO_rt, seqO_er, seqO_bk, seqO_ct, mIf_eq, ifO_ok, ifO_er, mVar_z, mVar_s, mVarD_z, mVarD_s, mC_eq, mBin_eq, mUn_eq, mCB_eq, mNil_eq, mCons_eq, mSet_eq, mRet_eq, mSkip_eq, mBrk_eq, mCnt_eq, mRaise_eq, mRetN_eq, mDrop_eq, mTst_eq, tstO_bl, tstO_er, mAndT_eq, andT_ok, andT_f, andT_t, andT_er, mOrT_eq, orT_ok, orT_f, orT_t, orT_er, mNotT_eq, mAnd_eq, andD_ok, andD_f, andD_t, andD_er, mOr_eq, orD_ok, orD_f, orD_t, orD_er, dNot_bl, dAdd_i, dSub_i, dNeg_i, dCmp_i, dInt_i, dInt_b, dAbs_i, dMax_i, dMin_i, dLen_l, dLen_t, dLen_f, dList_l, dList_t, dTuple_l, dTuple_t, dRev_l, dRev_t, dIx_l, dIx_t, dIx_f, dIsN_n, dNotN_n, mTup_eq, mLst_eq, mSl_eq, mNone_eq, mSome_eq, someO_i, dSl_t, dSl_l, mFor_eq, mItems_eq, itemsO_l, itemsO_t, itemsO_f, mRgI1_eq, mRgI2_eq, outR_nx, outR_rt, outR_er, run1, run2, run3, run4, forGo_nil, forGo_cons, forO_nx, forO_ct, forO_bk, forO_rt, forO_er, gD_eq, mMut_eq, mutO_l, subO_eq, ownD_z, ownD_s, dSet_l, List.set_cons_zero, List.set_cons_succ, List.getElem?_cons_zero, List.getElem?_cons_succ, List.replicate_succ, List.replicate_zero, Nat.reduceSub, Nat.reduceAdd, List.length_cons, List.length_nil, Option.bind_some, Option.map_some, Bool.false_eq_true, if_true, if_false, reduceIte, Bool.and_true, Bool.true_and, Bool.and_false, Bool.false_and, Bool.or_true, Bool.true_or, Bool.or_false, Bool.false_or, Bool.not_true, Bool.not_false, DL.isNon, isSub, reduceCtorEq, decide_true, decide_false, clrO, Bool.or_self, Bool.and_self, Nat.reduceLT, Int.reduceLT, Int.reduceLE, Int.reduceAdd, Int.reduceSub, Int.reduceNeg, Int.reduceMul, Int.reduceEq, Int.cast_ofNat_Int, gk0, gk1, gk2, gk3, gk4, gk5, gk6, gk7, gk8, gk9, gk10, gk11, gk12, mMeth_eq, methO_ok, mRgI3_eq, mFrz_eq, frzO_s, mAug_eq, augO_s, dAddA_i, dTupX_l, dTupX_t, rowD_t, rowD_f, dList_f, dTupX_f, dRev_f]
      exact read_move_val x (by omega)
    have lc2 : mLcE (mItems (mStr1 dSplit (mVar 0) (mC (.str "; ")))) [1] (gD 1) mYes (mCB m_read_move (mCons (mVarD 1) mNil)) [some (.str (S t), false), none] = elim (ls.mapM mvL) (fun ys => D.lst (ys.map mvD)) .text := by
      have src : mItems (mStr1 dSplit (mVar 0) (mC (.str "; "))) [some (.str (S t), false), none] = some (.ok (ls.map yT)) := by
        simp only [bnd_ok, bnd_er, sE_ok, sE_er, mSeq_eq, seqO_nx, seqO_rt, seqO_er, seqO_bk, seqO_ct, mIf_eq, ifO_ok, ifO_er, mVar_z, mVar_s, mVarD_z, mVarD_s, mC_eq, mBin_eq, mUn_eq, mCB_eq, mNil_eq, mCons_eq, mSet_eq, mRet_eq, mSkip_eq, mBrk_eq, mCnt_eq, mRaise_eq, mRetN_eq, mDrop_eq, mTst_eq, tstO_bl, tstO_er, mAndT_eq, andT_ok, andT_f, andT_t, andT_er, mOrT_eq, orT_ok, orT_f, orT_t, orT_er, mNotT_eq, mAnd_eq, andD_ok, andD_f, andD_t, andD_er, mOr_eq, orD_ok, orD_f, orD_t, orD_er, dNot_bl, dAdd_i, dSub_i, dNeg_i, dCmp_i, dInt_i, dInt_b, dAbs_i, dMax_i, dMin_i, dLen_l, dLen_t, dLen_f, dList_l, dList_t, dTuple_l, dTuple_t, dRev_l, dRev_t, dIx_l, dIx_t, dIx_f, dIsN_n, dNotN_n, mTup_eq, mLst_eq, mSl_eq, mNone_eq, mSome_eq, someO_i, dSl_t, dSl_l, mFor_eq, mItems_eq, itemsO_l, itemsO_t, itemsO_f, mRgI1_eq, mRgI2_eq, outR_nx, outR_rt, outR_er, run1, run2, run3, run4, forGo_nil, forGo_cons, forO_nx, forO_ct, forO_bk, forO_rt, forO_er, gD_eq, mMut_eq, mutO_l, subO_eq, ownD_z, ownD_s, dSet_l, List.set_cons_zero, List.set_cons_succ, List.getElem?_cons_zero, List.getElem?_cons_succ, List.replicate_succ, List.replicate_zero, Nat.reduceSub, Nat.reduceAdd, List.length_cons, List.length_nil, Option.bind_some, Option.map_some, Bool.false_eq_true, if_true, if_false, reduceIte, Bool.and_true, Bool.true_and, Bool.and_false, Bool.false_and, Bool.or_true, Bool.true_or, Bool.or_false, Bool.false_or, Bool.not_true, Bool.not_false, DL.isNon, isSub, reduceCtorEq, decide_true, decide_false, clrO, Bool.or_self, Bool.and_self, Nat.reduceLT, Int.reduceLT, Int.reduceLE, Int.reduceAdd, Int.reduceSub, Int.reduceNeg, Int.reduceMul, Int.reduceEq, Int.cast_ofNat_Int, gk0, gk1, gk2, gk3, gk4, gk5, gk6, gk7, gk8, gk9, gk10, gk11, gk12, mMeth_eq, methO_ok, mRgI3_eq, mFrz_eq, frzO_s, mAug_eq, augO_s, dAddA_i, dTupX_l, dTupX_t, rowD_t, rowD_f, dList_f, dTupX_f, dRev_f, mStr1_eq, guard_str, e1]
        rfl
      rw [mLcE_eq, src, bnd_ok, guard_t ⟨rfl, by rw [List.length_map]; exact Nat.le_trans (m := 900) (by omega) (by decide)⟩]
      show bnd (lcGoE (gD 1) mYes (mCB m_read_move (mCons (mVarD 1) mNil)) [some (.str (S t), false), none] (ls.map yT)) _ = _
      rw [lc]
      cases ls.mapM mvL <;> rfl
    unfold m_read_script b_read_script
    simp only [bnd_ok, bnd_er, sE_ok, sE_er, mSeq_eq, seqO_nx, seqO_rt, seqO_er, seqO_bk, seqO_ct, mIf_eq, ifO_ok, ifO_er, mVar_z, mVar_s, mVarD_z, mVarD_s, mC_eq, mBin_eq, mUn_eq, mCB_eq, mNil_eq, mCons_eq, mSet_eq, mRet_eq, mSkip_eq, mBrk_eq, mCnt_eq, mRaise_eq, mRetN_eq, mDrop_eq, mTst_eq, tstO_bl, tstO_er, mAndT_eq, andT_ok, andT_f, andT_t, andT_er, mOrT_eq, orT_ok, orT_f, orT_t, orT_er, mNotT_eq, mAnd_eq, andD_ok, andD_f, andD_t, andD_er, mOr_eq, orD_ok, orD_f, orD_t, orD_er, dNot_bl, dAdd_i, dSub_i, dNeg_i, dCmp_i, dInt_i, dInt_b, dAbs_i, dMax_i, dMin_i, dLen_l, dLen_t, dLen_f, dList_l, dList_t, dTuple_l, dTuple_t, dRev_l, dRev_t, dIx_l, dIx_t, dIx_f, dIsN_n, dNotN_n, mTup_eq, mLst_eq, mSl_eq, mNone_eq, mSome_eq, someO_i, dSl_t, dSl_l, mFor_eq, mItems_eq, itemsO_l, itemsO_t, itemsO_f, mRgI1_eq, mRgI2_eq, outR_nx, outR_rt, outR_er, run1, run2, run3, run4, forGo_nil, forGo_cons, forO_nx, forO_ct, forO_bk, forO_rt, forO_er, gD_eq, mMut_eq, mutO_l, subO_eq, ownD_z, ownD_s, dSet_l, List.set_cons_zero, List.set_cons_succ, List.getElem?_cons_zero, List.getElem?_cons_succ, List.replicate_succ, List.replicate_zero, Nat.reduceSub, Nat.reduceAdd, List.length_cons, List.length_nil, Option.bind_some, Option.map_some, Bool.false_eq_true, if_true, if_false, reduceIte, Bool.and_true, Bool.true_and, Bool.and_false, Bool.false_and, Bool.or_true, Bool.true_or, Bool.or_false, Bool.false_or, Bool.not_true, Bool.not_false, DL.isNon, isSub, reduceCtorEq, decide_true, decide_false, clrO, Bool.or_self, Bool.and_self, Nat.reduceLT, Int.reduceLT, Int.reduceLE, Int.reduceAdd, Int.reduceSub, Int.reduceNeg, Int.reduceMul, Int.reduceEq, Int.cast_ofNat_Int, gk0, gk1, gk2, gk3, gk4, gk5, gk6, gk7, gk8, gk9, gk10, gk11, gk12, mMeth_eq, methO_ok, mRgI3_eq, mFrz_eq, frzO_s, mAug_eq, augO_s, dAddA_i, dTupX_l, dTupX_t, rowD_t, rowD_f, dList_f, dTupX_f, dRev_f, sc_e, eq_T, ne_nil_e h0, lc2]
    cases ls.mapM mvL <;> rfl
end Lw

set_option Elab.async false
set_option linter.all false
set_option maxRecDepth 100000
set_option maxHeartbeats 4000000
set_option autoImplicit false
namespace Lw
open PySem L2 DL
open SX (S)
/-! ### the law's own reading -/
theorem noOwn_one {ρ : Ro} {v : Nat} (h : ∀ d, ρ[v]? ≠ some (some (d, true))) : noOwn ρ [v] = true := by
  unfold noOwn
  rw [List.all_eq_true]
  intro i hi
  rw [List.mem_singleton] at hi
  subst hi
  cases e : ρ[i]? with
  | none => simp [e]
  | some o =>
    cases o with
    | none => simp [e]
    | some p =>
      obtain ⟨d, b⟩ := p
      cases b with
      | false => simp [e]
      | true => exact absurd e (h d)
theorem numW_no1 {w : List Nat} (h : w = [] ∨ w.any (fun z => !isDg z) = true) : numW w = none := by unfold numW; exact if_pos h
theorem ne_zT (l : List Nat) : dNe (.lst (l.map zT)) (.lst []) = some (.ok (.bl (!decide (l = [])))) := by
  cases l with
  | nil => rfl
  | cons z l =>
    have h := toP_S 31 ((z :: l).map fun z => [z])
    rw [List.map_map, List.map_map] at h
    have h2 : toP 32 (.lst ((z :: l).map zT)) = some (PyData.list ((z :: l).map fun z => PyData.str (S [z]))) := by
      show (((z :: l).map zT).mapM (toP 31)).map PyData.list = _
      have h3 : ((z :: l).map zT).mapM (toP 31) = some ((z :: l).map fun z => PyData.str (S [z])) := h
      rw [h3]
      rfl
    have h4 : dEqv (.lst ((z :: l).map zT)) (.lst []) = some false := by
      unfold dEqv
      rw [h2]
      rfl
    have h5 : decide (z :: l = []) = false := decide_eq_false (by simp)
    unfold dNe
    rw [h4, h5]
theorem filter_any (w : List Nat) : (decide (w.filter (fun z => !isDg z) = [])) = !(w.any fun z => !isDg z) := by
  induction w with
  | nil => rfl
  | cons c w ih =>
    rw [List.filter_cons, List.any_cons]
    cases e : (!isDg c) with
    | true => simp
    | false => simpa using ih
theorem sTst (b : Bool) (ρ : Ro) (k : Bool → Option Out) : sE (some (.ok b)) ρ k = k b := rfl
theorem lb2_val (w : List Nat) (hl : w.length ≤ 600) (s0 s1 s2 s3 s5 : Option (D × Bool)) (h5 : ∀ d, s5 ≠ some (d, true)) : lb__law_script_of_2 [s0, s1, s2, s3, some (.str (S w), false), s5] = if (numW w).isSome = true then some (.nx [s0, s1, s2, s3, some (.str (S w), false), s5]) else some (.rt .non) := by
  have hl' : w.length ≤ lim := Nat.le_trans hl (by decide)
  have c1 : mLc (mChars (mVar 4)) [5] (gD 5) (mTst (mBin dNotIn (mVar 5) (mC (.str "0123456789")))) (mVarD 5) [s0, s1, s2, s3, some (.str (S w), false), s5] = some (.ok (.lst ((w.filter fun z => !isDg z).map zT))) := by
    rw [lcx_is w zT (fun z => !isDg z) zT (chars_T w _ _ rfl) (noOwn_one (fun d hd => h5 d (Option.some.inj hd))) (by omega)]
    intro z hz
    refine ⟨?_, fun _ => rfl⟩
    show mTst (mBin dNotIn (mVar 5) (mC (.str "0123456789"))) [s0, s1, s2, s3, some (.str (S w), false), some (.str (S [z]), false)] = _
    simp only [bnd_ok, bnd_er, sE_ok, sE_er, mSeq_eq, seqO_nx, seqO_rt, seqO_er, seqO_bk, seqO_ct, mIf_eq, ifO_ok, ifO_er, mVar_z, mVar_s, mVarD_z, mVarD_s, mC_eq, mBin_eq, mUn_eq, mCB_eq, mNil_eq, mCons_eq, mSet_eq, mRet_eq, mSkip_eq, mBrk_eq, mCnt_eq, mRaise_eq, mRetN_eq, mDrop_eq, mTst_eq, tstO_bl, tstO_er, mAndT_eq, andT_ok, andT_f, andT_t, andT_er, mOrT_eq, orT_ok, orT_f, orT_t, orT_er, mNotT_eq, mAnd_eq, andD_ok, andD_f, andD_t, andD_er, mOr_eq, orD_ok, orD_f, orD_t, orD_er, dNot_bl, dAdd_i, dSub_i, dNeg_i, dCmp_i, dInt_i, dInt_b, dAbs_i, dMax_i, dMin_i, dLen_l, dLen_t, dLen_f, dList_l, dList_t, dTuple_l, dTuple_t, dRev_l, dRev_t, dIx_l, dIx_t, dIx_f, dIsN_n, dNotN_n, mTup_eq, mLst_eq, mSl_eq, mNone_eq, mSome_eq, someO_i, dSl_t, dSl_l, mFor_eq, mItems_eq, itemsO_l, itemsO_t, itemsO_f, mRgI1_eq, mRgI2_eq, outR_nx, outR_rt, outR_er, run1, run2, run3, run4, forGo_nil, forGo_cons, forO_nx, forO_ct, forO_bk, forO_rt, forO_er, gD_eq, mMut_eq, mutO_l, subO_eq, ownD_z, ownD_s, dSet_l, List.set_cons_zero, List.set_cons_succ, List.getElem?_cons_zero, List.getElem?_cons_succ, List.replicate_succ, List.replicate_zero, Nat.reduceSub, Nat.reduceAdd, List.length_cons, List.length_nil, Option.bind_some, Option.map_some, Bool.false_eq_true, if_true, if_false, reduceIte, Bool.and_true, Bool.true_and, Bool.and_false, Bool.false_and, Bool.or_true, Bool.true_or, Bool.or_false, Bool.false_or, Bool.not_true, Bool.not_false, DL.isNon, isSub, reduceCtorEq, decide_true, decide_false, clrO, Bool.or_self, Bool.and_self, Nat.reduceLT, Int.reduceLT, Int.reduceLE, Int.reduceAdd, Int.reduceSub, Int.reduceNeg, Int.reduceMul, Int.reduceEq, Int.cast_ofNat_Int, gk0, gk1, gk2, gk3, gk4, gk5, gk6, gk7, gk8, gk9, gk10, gk11, gk12, mMeth_eq, methO_ok, mRgI3_eq, mFrz_eq, frzO_s, mAug_eq, augO_s, dAddA_i, dTupX_l, dTupX_t, rowD_t, rowD_f, dList_f, dTupX_f, dRev_f, notIn_digits]
  have e2 := ne_zT (w.filter fun z => !isDg z)
  rw [filter_any, Bool.not_not] at e2
  cases w with
  | nil =>
    rw [numW_no1 (.inl rfl)]
    simp only [bnd_ok, bnd_er, sE_ok, sE_er, mSeq_eq, seqO_nx, seqO_rt, seqO_er, seqO_bk, seqO_ct, mIf_eq, ifO_ok, ifO_er, mVar_z, mVar_s, mVarD_z, mVarD_s, mC_eq, mBin_eq, mUn_eq, mCB_eq, mNil_eq, mCons_eq, mSet_eq, mRet_eq, mSkip_eq, mBrk_eq, mCnt_eq, mRaise_eq, mRetN_eq, mDrop_eq, mTst_eq, tstO_bl, tstO_er, mAndT_eq, andT_ok, andT_f, andT_t, andT_er, mOrT_eq, orT_ok, orT_f, orT_t, orT_er, mNotT_eq, mAnd_eq, andD_ok, andD_f, andD_t, andD_er, mOr_eq, orD_ok, orD_f, orD_t, orD_er, dNot_bl, dAdd_i, dSub_i, dNeg_i, dCmp_i, dInt_i, dInt_b, dAbs_i, dMax_i, dMin_i, dLen_l, dLen_t, dLen_f, dList_l, dList_t, dTuple_l, dTuple_t, dRev_l, dRev_t, dIx_l, dIx_t, dIx_f, dIsN_n, dNotN_n, mTup_eq, mLst_eq, mSl_eq, mNone_eq, mSome_eq, someO_i, dSl_t, dSl_l, mFor_eq, mItems_eq, itemsO_l, itemsO_t, itemsO_f, mRgI1_eq, mRgI2_eq, outR_nx, outR_rt, outR_er, run1, run2, run3, run4, forGo_nil, forGo_cons, forO_nx, forO_ct, forO_bk, forO_rt, forO_er, gD_eq, mMut_eq, mutO_l, subO_eq, ownD_z, ownD_s, dSet_l, List.set_cons_zero, List.set_cons_succ, List.getElem?_cons_zero, List.getElem?_cons_succ, List.replicate_succ, List.replicate_zero, Nat.reduceSub, Nat.reduceAdd, List.length_cons, List.length_nil, Option.bind_some, Option.map_some, Bool.false_eq_true, if_true, if_false, reduceIte, Bool.and_true, Bool.true_and, Bool.and_false, Bool.false_and, Bool.or_true, Bool.true_or, Bool.or_false, Bool.false_or, Bool.not_true, Bool.not_false, DL.isNon, isSub, reduceCtorEq, decide_true, decide_false, clrO, Bool.or_self, Bool.and_self, Nat.reduceLT, Int.reduceLT, Int.reduceLE, Int.reduceAdd, Int.reduceSub, Int.reduceNeg, Int.reduceMul, Int.reduceEq, Int.cast_ofNat_Int, gk0, gk1, gk2, gk3, gk4, gk5, gk6, gk7, gk8, gk9, gk10, gk11, gk12, mMeth_eq, methO_ok, mRgI3_eq, mFrz_eq, frzO_s, mAug_eq, augO_s, dAddA_i, dTupX_l, dTupX_t, rowD_t, rowD_f, dList_f, dTupX_f, dRev_f, lb__law_script_of_2, sc_e, eq_T, Option.isSome_none]
  | cons c ds =>
    have e0 : decide (c :: ds = []) = false := decide_eq_false (by simp)
    cases ha : (c :: ds).any (fun z => !isDg z) with
    | true =>
      rw [ha] at e2
      rw [numW_no1 (.inr ha)]
      simp only [bnd_ok, bnd_er, sE_ok, sE_er, mSeq_eq, seqO_nx, seqO_rt, seqO_er, seqO_bk, seqO_ct, mIf_eq, ifO_ok, ifO_er, mVar_z, mVar_s, mVarD_z, mVarD_s, mC_eq, mBin_eq, mUn_eq, mCB_eq, mNil_eq, mCons_eq, mSet_eq, mRet_eq, mSkip_eq, mBrk_eq, mCnt_eq, mRaise_eq, mRetN_eq, mDrop_eq, mTst_eq, tstO_bl, tstO_er, mAndT_eq, andT_ok, andT_f, andT_t, andT_er, mOrT_eq, orT_ok, orT_f, orT_t, orT_er, mNotT_eq, mAnd_eq, andD_ok, andD_f, andD_t, andD_er, mOr_eq, orD_ok, orD_f, orD_t, orD_er, dNot_bl, dAdd_i, dSub_i, dNeg_i, dCmp_i, dInt_i, dInt_b, dAbs_i, dMax_i, dMin_i, dLen_l, dLen_t, dLen_f, dList_l, dList_t, dTuple_l, dTuple_t, dRev_l, dRev_t, dIx_l, dIx_t, dIx_f, dIsN_n, dNotN_n, mTup_eq, mLst_eq, mSl_eq, mNone_eq, mSome_eq, someO_i, dSl_t, dSl_l, mFor_eq, mItems_eq, itemsO_l, itemsO_t, itemsO_f, mRgI1_eq, mRgI2_eq, outR_nx, outR_rt, outR_er, run1, run2, run3, run4, forGo_nil, forGo_cons, forO_nx, forO_ct, forO_bk, forO_rt, forO_er, gD_eq, mMut_eq, mutO_l, subO_eq, ownD_z, ownD_s, dSet_l, List.set_cons_zero, List.set_cons_succ, List.getElem?_cons_zero, List.getElem?_cons_succ, List.replicate_succ, List.replicate_zero, Nat.reduceSub, Nat.reduceAdd, List.length_cons, List.length_nil, Option.bind_some, Option.map_some, Bool.false_eq_true, if_true, if_false, reduceIte, Bool.and_true, Bool.true_and, Bool.and_false, Bool.false_and, Bool.or_true, Bool.true_or, Bool.or_false, Bool.false_or, Bool.not_true, Bool.not_false, DL.isNon, isSub, reduceCtorEq, decide_true, decide_false, clrO, Bool.or_self, Bool.and_self, Nat.reduceLT, Int.reduceLT, Int.reduceLE, Int.reduceAdd, Int.reduceSub, Int.reduceNeg, Int.reduceMul, Int.reduceEq, Int.cast_ofNat_Int, gk0, gk1, gk2, gk3, gk4, gk5, gk6, gk7, gk8, gk9, gk10, gk11, gk12, mMeth_eq, methO_ok, mRgI3_eq, mFrz_eq, frzO_s, mAug_eq, augO_s, dAddA_i, dTupX_l, dTupX_t, rowD_t, rowD_f, dList_f, dTupX_f, dRev_f, lb__law_script_of_2, sc_e, eq_T, e0, c1, guard_0, e2, Option.isSome_none]
    | false =>
      rw [ha] at e2
      have n1 : ¬ (c :: ds = [] ∨ (c :: ds).any (fun z => !isDg z) = true) := by rw [ha]; simp
      have e1 : dIx (.str (S (c :: ds))) (.int 0) = some (.ok (.str (S [c]))) := ix_T (t := c :: ds) (k := 0) rfl hl'
      have e4 := ne_T (c :: ds) [48]
      by_cases hb : (c :: ds).head? = some 48 ∧ 1 < (c :: ds).length
      · have hn : numW (c :: ds) = none := by unfold numW; rw [if_neg n1, if_pos hb]
        have d1 : decide ([c] = [48]) = true := decide_eq_true (by rw [Option.some.inj hb.1])
        have d2 : decide (c :: ds = [48]) = false := decide_eq_false (fun h => by have := hb.2; rw [h] at this; simp at this)
        rw [hn]
        simp only [bnd_ok, bnd_er, sE_ok, sE_er, mSeq_eq, seqO_nx, seqO_rt, seqO_er, seqO_bk, seqO_ct, mIf_eq, ifO_ok, ifO_er, mVar_z, mVar_s, mVarD_z, mVarD_s, mC_eq, mBin_eq, mUn_eq, mCB_eq, mNil_eq, mCons_eq, mSet_eq, mRet_eq, mSkip_eq, mBrk_eq, mCnt_eq, mRaise_eq, mRetN_eq, mDrop_eq, mTst_eq, tstO_bl, tstO_er, mAndT_eq, andT_ok, andT_f, andT_t, andT_er, mOrT_eq, orT_ok, orT_f, orT_t, orT_er, mNotT_eq, mAnd_eq, andD_ok, andD_f, andD_t, andD_er, mOr_eq, orD_ok, orD_f, orD_t, orD_er, dNot_bl, dAdd_i, dSub_i, dNeg_i, dCmp_i, dInt_i, dInt_b, dAbs_i, dMax_i, dMin_i, dLen_l, dLen_t, dLen_f, dList_l, dList_t, dTuple_l, dTuple_t, dRev_l, dRev_t, dIx_l, dIx_t, dIx_f, dIsN_n, dNotN_n, mTup_eq, mLst_eq, mSl_eq, mNone_eq, mSome_eq, someO_i, dSl_t, dSl_l, mFor_eq, mItems_eq, itemsO_l, itemsO_t, itemsO_f, mRgI1_eq, mRgI2_eq, outR_nx, outR_rt, outR_er, run1, run2, run3, run4, forGo_nil, forGo_cons, forO_nx, forO_ct, forO_bk, forO_rt, forO_er, gD_eq, mMut_eq, mutO_l, subO_eq, ownD_z, ownD_s, dSet_l, List.set_cons_zero, List.set_cons_succ, List.getElem?_cons_zero, List.getElem?_cons_succ, List.replicate_succ, List.replicate_zero, Nat.reduceSub, Nat.reduceAdd, List.length_cons, List.length_nil, Option.bind_some, Option.map_some, Bool.false_eq_true, if_true, if_false, reduceIte, Bool.and_true, Bool.true_and, Bool.and_false, Bool.false_and, Bool.or_true, Bool.true_or, Bool.or_false, Bool.false_or, Bool.not_true, Bool.not_false, DL.isNon, isSub, reduceCtorEq, decide_true, decide_false, clrO, Bool.or_self, Bool.and_self, Nat.reduceLT, Int.reduceLT, Int.reduceLE, Int.reduceAdd, Int.reduceSub, Int.reduceNeg, Int.reduceMul, Int.reduceEq, Int.cast_ofNat_Int, gk0, gk1, gk2, gk3, gk4, gk5, gk6, gk7, gk8, gk9, gk10, gk11, gk12, mMeth_eq, methO_ok, mRgI3_eq, mFrz_eq, frzO_s, mAug_eq, augO_s, dAddA_i, dTupX_l, dTupX_t, rowD_t, rowD_f, dList_f, dTupX_f, dRev_f, lb__law_script_of_2, sc_e, eq_T, e0, c1, guard_0, e2, e1, sc_0, d1, e4, d2, Option.isSome_none]
      · have hn : numW (c :: ds) = some ((NumText.digitsVal (c :: ds) : Nat) : Int) := by unfold numW; rw [if_neg n1, if_neg hb]
        rw [hn]
        by_cases h48 : c = 48
        · have d1 : decide ([c] = [48]) = true := decide_eq_true (by rw [h48])
          have d2 : decide (c :: ds = [48]) = true := decide_eq_true (by
            cases ds with
            | nil => rw [h48]
            | cons d ds => exact absurd ⟨by rw [h48]; rfl, by simp⟩ hb)
          simp only [bnd_ok, bnd_er, sE_ok, sE_er, mSeq_eq, seqO_nx, seqO_rt, seqO_er, seqO_bk, seqO_ct, mIf_eq, ifO_ok, ifO_er, mVar_z, mVar_s, mVarD_z, mVarD_s, mC_eq, mBin_eq, mUn_eq, mCB_eq, mNil_eq, mCons_eq, mSet_eq, mRet_eq, mSkip_eq, mBrk_eq, mCnt_eq, mRaise_eq, mRetN_eq, mDrop_eq, mTst_eq, tstO_bl, tstO_er, mAndT_eq, andT_ok, andT_f, andT_t, andT_er, mOrT_eq, orT_ok, orT_f, orT_t, orT_er, mNotT_eq, mAnd_eq, andD_ok, andD_f, andD_t, andD_er, mOr_eq, orD_ok, orD_f, orD_t, orD_er, dNot_bl, dAdd_i, dSub_i, dNeg_i, dCmp_i, dInt_i, dInt_b, dAbs_i, dMax_i, dMin_i, dLen_l, dLen_t, dLen_f, dList_l, dList_t, dTuple_l, dTuple_t, dRev_l, dRev_t, dIx_l, dIx_t, dIx_f, dIsN_n, dNotN_n, mTup_eq, mLst_eq, mSl_eq, mNone_eq, mSome_eq, someO_i, dSl_t, dSl_l, mFor_eq, mItems_eq, itemsO_l, itemsO_t, itemsO_f, mRgI1_eq, mRgI2_eq, outR_nx, outR_rt, outR_er, run1, run2, run3, run4, forGo_nil, forGo_cons, forO_nx, forO_ct, forO_bk, forO_rt, forO_er, gD_eq, mMut_eq, mutO_l, subO_eq, ownD_z, ownD_s, dSet_l, List.set_cons_zero, List.set_cons_succ, List.getElem?_cons_zero, List.getElem?_cons_succ, List.replicate_succ, List.replicate_zero, Nat.reduceSub, Nat.reduceAdd, List.length_cons, List.length_nil, Option.bind_some, Option.map_some, Bool.false_eq_true, if_true, if_false, reduceIte, Bool.and_true, Bool.true_and, Bool.and_false, Bool.false_and, Bool.or_true, Bool.true_or, Bool.or_false, Bool.false_or, Bool.not_true, Bool.not_false, DL.isNon, isSub, reduceCtorEq, decide_true, decide_false, clrO, Bool.or_self, Bool.and_self, Nat.reduceLT, Int.reduceLT, Int.reduceLE, Int.reduceAdd, Int.reduceSub, Int.reduceNeg, Int.reduceMul, Int.reduceEq, Int.cast_ofNat_Int, gk0, gk1, gk2, gk3, gk4, gk5, gk6, gk7, gk8, gk9, gk10, gk11, gk12, mMeth_eq, methO_ok, mRgI3_eq, mFrz_eq, frzO_s, mAug_eq, augO_s, dAddA_i, dTupX_l, dTupX_t, rowD_t, rowD_f, dList_f, dTupX_f, dRev_f, lb__law_script_of_2, sc_e, eq_T, e0, c1, guard_0, e2, e1, sc_0, d1, e4, d2, Option.isSome_some]
        · have d1 : decide ([c] = [48]) = false := decide_eq_false (by simpa using h48)
          simp only [bnd_ok, bnd_er, sE_ok, sE_er, mSeq_eq, seqO_nx, seqO_rt, seqO_er, seqO_bk, seqO_ct, mIf_eq, ifO_ok, ifO_er, mVar_z, mVar_s, mVarD_z, mVarD_s, mC_eq, mBin_eq, mUn_eq, mCB_eq, mNil_eq, mCons_eq, mSet_eq, mRet_eq, mSkip_eq, mBrk_eq, mCnt_eq, mRaise_eq, mRetN_eq, mDrop_eq, mTst_eq, tstO_bl, tstO_er, mAndT_eq, andT_ok, andT_f, andT_t, andT_er, mOrT_eq, orT_ok, orT_f, orT_t, orT_er, mNotT_eq, mAnd_eq, andD_ok, andD_f, andD_t, andD_er, mOr_eq, orD_ok, orD_f, orD_t, orD_er, dNot_bl, dAdd_i, dSub_i, dNeg_i, dCmp_i, dInt_i, dInt_b, dAbs_i, dMax_i, dMin_i, dLen_l, dLen_t, dLen_f, dList_l, dList_t, dTuple_l, dTuple_t, dRev_l, dRev_t, dIx_l, dIx_t, dIx_f, dIsN_n, dNotN_n, mTup_eq, mLst_eq, mSl_eq, mNone_eq, mSome_eq, someO_i, dSl_t, dSl_l, mFor_eq, mItems_eq, itemsO_l, itemsO_t, itemsO_f, mRgI1_eq, mRgI2_eq, outR_nx, outR_rt, outR_er, run1, run2, run3, run4, forGo_nil, forGo_cons, forO_nx, forO_ct, forO_bk, forO_rt, forO_er, gD_eq, mMut_eq, mutO_l, subO_eq, ownD_z, ownD_s, dSet_l, List.set_cons_zero, List.set_cons_succ, List.getElem?_cons_zero, List.getElem?_cons_succ, List.replicate_succ, List.replicate_zero, Nat.reduceSub, Nat.reduceAdd, List.length_cons, List.length_nil, Option.bind_some, Option.map_some, Bool.false_eq_true, if_true, if_false, reduceIte, Bool.and_true, Bool.true_and, Bool.and_false, Bool.false_and, Bool.or_true, Bool.true_or, Bool.or_false, Bool.false_or, Bool.not_true, Bool.not_false, DL.isNon, isSub, reduceCtorEq, decide_true, decide_false, clrO, Bool.or_self, Bool.and_self, Nat.reduceLT, Int.reduceLT, Int.reduceLE, Int.reduceAdd, Int.reduceSub, Int.reduceNeg, Int.reduceMul, Int.reduceEq, Int.cast_ofNat_Int, gk0, gk1, gk2, gk3, gk4, gk5, gk6, gk7, gk8, gk9, gk10, gk11, gk12, mMeth_eq, methO_ok, mRgI3_eq, mFrz_eq, frzO_s, mAug_eq, augO_s, dAddA_i, dTupX_l, dTupX_t, rowD_t, rowD_f, dList_f, dTupX_f, dRev_f, lb__law_script_of_2, sc_e, eq_T, e0, c1, guard_0, e2, e1, sc_0, d1, Option.isSome_some]
theorem lb2_go (s0 s1 s2 s3 s5 : Option (D × Bool)) (h5 : ∀ d, s5 ≠ some (d, true)) : ∀ (r : List (List Nat)) (s4 : Option (D × Bool)), (∀ w ∈ r, w.length ≤ 600) →
    (r.mapM numW = none → forGo (gD 4) lb__law_script_of_2 (r.map yT) [s0, s1, s2, s3, s4, s5] = some (.rt .non)) ∧
    (∀ ys, r.mapM numW = some ys → ∃ s4', (∀ d, s4 ≠ some (d, true) → s4' ≠ some (d, true)) ∧ forGo (gD 4) lb__law_script_of_2 (r.map yT) [s0, s1, s2, s3, s4, s5] = some (.nx [s0, s1, s2, s3, s4', s5]))
  | [], s4, _ => ⟨fun h => (by cases h), fun ys _ => ⟨s4, fun _ h => h, rfl⟩⟩
  | w :: r, s4, h => by
    have v := lb2_val w (h w List.mem_cons_self) s0 s1 s2 s3 s5 h5
    obtain ⟨i1, i2⟩ := lb2_go s0 s1 s2 s3 s5 h5 r (some (.str (S w), false)) fun x hx => h x (List.mem_cons_of_mem _ hx)
    have e : forGo (gD 4) lb__law_script_of_2 ((w :: r).map yT) [s0, s1, s2, s3, s4, s5] = forO (lb__law_script_of_2 [s0, s1, s2, s3, some (.str (S w), false), s5]) (forGo (gD 4) lb__law_script_of_2 (r.map yT)) := by
      rw [List.map_cons, forGo_cons]
      rfl
    rw [e, v, List.mapM_cons]
    cases hn : numW w with
    | none =>
      rw [Option.isSome_none, if_neg Bool.false_ne_true]
      exact ⟨fun _ => rfl, fun ys hy => (by cases hy)⟩
    | some n =>
      rw [Option.isSome_some, if_pos rfl, forO_nx]
      cases hm : r.mapM numW with
      | none => exact ⟨fun _ => i1 hm, fun ys hy => (by cases hy)⟩
      | some ys =>
        refine ⟨fun hy => (by cases hy), fun _ _ => ?_⟩
        obtain ⟨s4', q, e4⟩ := i2 ys hm
        exact ⟨s4', fun d _ => q d (by intro z; cases z), e4⟩
theorem numW_int {w : List Nat} {n : Int} (h : numW w = some n) (hl : w.length ≤ 600) : dIntS [.str (S w)] = some (.ok (.int n)) := by
  unfold numW at h
  split at h
  · cases h
  · rename_i h1
    split at h
    · cases h
    · cases h
      refine d_int_nat (allDg ?_) (fun e => h1 (.inl e)) (by omega)
      cases q : w.any (fun z => !isDg z) with
      | false => rfl
      | true => exact absurd (.inr q) h1
theorem mapM_mem {α β : Type} {q : α → Option β} : ∀ {xs : List α} {ys : List β}, xs.mapM q = some ys → ∀ x ∈ xs, ∃ y, q x = some y
  | [], _, _, x, hx => by cases hx
  | a :: xs, ys, h, x, hx => by
    rw [List.mapM_cons] at h
    cases e : q a with
    | none => rw [e] at h; cases h
    | some y =>
      rw [e] at h
      cases e2 : xs.mapM q with
      | none => rw [e2] at h; cases h
      | some zs =>
        rcases List.mem_cons.mp hx with rfl | hx
        · exact ⟨y, e⟩
        · exact mapM_mem e2 x hx
theorem mapM_map {α β : Type} {q : α → Option β} (g : α → β) : ∀ {xs : List α} {ys : List β}, xs.mapM q = some ys → (∀ x ∈ xs, ∀ y, q x = some y → g x = y) → xs.map g = ys
  | [], _, h, _ => by cases h; rfl
  | a :: xs, ys, h, hg => by
    rw [List.mapM_cons] at h
    cases e : q a with
    | none => rw [e] at h; cases h
    | some y =>
      rw [e] at h
      cases e2 : xs.mapM q with
      | none => rw [e2] at h; cases h
      | some zs =>
        rw [e2] at h
        cases h
        rw [List.map_cons, hg a List.mem_cons_self y e, mapM_map g e2 fun x hx => hg x (List.mem_cons_of_mem _ hx)]
theorem lb1_val (line : List Nat) (hl : line.length ≤ 600) (s0 s3 s4 s5 : Option (D × Bool)) (acc : List D) (ha : acc.length < 1000) (h4 : ∀ d, s4 ≠ some (d, true)) (h5 : ∀ d, s5 ≠ some (d, true)) :
    (mvL line = none → lb__law_script_of_1 [s0, some (.lst acc, true), some (.str (S line), false), s3, s4, s5] = some (.rt .non)) ∧
    (∀ m, mvL line = some m → ∃ s3' s4', (∀ d, s4' ≠ some (d, true)) ∧ lb__law_script_of_1 [s0, some (.lst acc, true), some (.str (S line), false), s3, s4, s5] = some (.nx [s0, some (.lst (acc ++ [mvD m]), true), some (.str (S line), false), s3', s4', s5])) := by
  have e1 := split_sp line (Nat.lt_of_le_of_lt hl (by decide))
  obtain ⟨s1, s2⟩ := spl_len [32] 0 [] line
  have s3' := spl_ne [32] 0 [] line
  unfold mvL
  generalize TL.spl [32] 0 [] line = ws at *
  cases ws with
  | nil => exact absurd rfl s3'
  | cons w r =>
    have hr : r.length ≤ 600 := by rw [List.length_cons] at s1; omega
    obtain ⟨L, hL, hL0, hL1, hL2⟩ : ∃ L : List D, (w :: r).map (fun y => D.str (S y)) = L ∧ L.length = r.length + 1 ∧ L2.atI L 0 = some (.str (S w)) ∧ cut L (some 1) none = r.map yT := ⟨_, rfl, by simp, at_hd _ _, cut_tl _ _⟩
    rw [hL] at e1
    have hx2 : ∀ x ∈ r, x.length ≤ 600 := fun x hx => by
      have := s2 x (List.mem_cons_of_mem _ hx)
      rw [List.length_nil, Nat.zero_add] at this
      omega
    have cv := law_count_val w
    by_cases h0 : cnt w = 0 ∨ r.length ≠ cnt w
    · have hn : mvW (w :: r) = none := by unfold mvW; exact if_pos h0
      rw [hn]
      refine ⟨fun _ => ?_, fun m hm => (by cases hm)⟩
      by_cases h00 : cnt w = 0
      · have d0 : decide (((cnt w : Nat) : Int) = 0) = true := decide_eq_true (by omega)
        simp only [bnd_ok, bnd_er, sE_ok, sE_er, mSeq_eq, seqO_nx, seqO_rt, seqO_er, seqO_bk, seqO_ct, mIf_eq, ifO_ok, ifO_er, mVar_z, mVar_s, mVarD_z, mVarD_s, mC_eq, mBin_eq, mUn_eq, mCB_eq, mNil_eq, mCons_eq, mSet_eq, mRet_eq, mSkip_eq, mBrk_eq, mCnt_eq, mRaise_eq, mRetN_eq, mDrop_eq, mTst_eq, tstO_bl, tstO_er, mAndT_eq, andT_ok, andT_f, andT_t, andT_er, mOrT_eq, orT_ok, orT_f, orT_t, orT_er, mNotT_eq, mAnd_eq, andD_ok, andD_f, andD_t, andD_er, mOr_eq, orD_ok, orD_f, orD_t, orD_er, dNot_bl, dAdd_i, dSub_i, dNeg_i, dCmp_i, dInt_i, dInt_b, dAbs_i, dMax_i, dMin_i, dLen_l, dLen_t, dLen_f, dList_l, dList_t, dTuple_l, dTuple_t, dRev_l, dRev_t, dIx_l, dIx_t, dIx_f, dIsN_n, dNotN_n, mTup_eq, mLst_eq, mSl_eq, mNone_eq, mSome_eq, someO_i, dSl_t, dSl_l, mFor_eq, mItems_eq, itemsO_l, itemsO_t, itemsO_f, mRgI1_eq, mRgI2_eq, outR_nx, outR_rt, outR_er, run1, run2, run3, run4, forGo_nil, forGo_cons, forO_nx, forO_ct, forO_bk, forO_rt, forO_er, gD_eq, mMut_eq, mutO_l, subO_eq, ownD_z, ownD_s, dSet_l, List.set_cons_zero, List.set_cons_succ, List.getElem?_cons_zero, List.getElem?_cons_succ, List.replicate_succ, List.replicate_zero, Nat.reduceSub, Nat.reduceAdd, List.length_cons, List.length_nil, Option.bind_some, Option.map_some, Bool.false_eq_true, if_true, if_false, reduceIte, Bool.and_true, Bool.true_and, Bool.and_false, Bool.false_and, Bool.or_true, Bool.true_or, Bool.or_false, Bool.false_or, Bool.not_true, Bool.not_false, DL.isNon, isSub, reduceCtorEq, decide_true, decide_false, clrO, Bool.or_self, Bool.and_self, Nat.reduceLT, Int.reduceLT, Int.reduceLE, Int.reduceAdd, Int.reduceSub, Int.reduceNeg, Int.reduceMul, Int.reduceEq, Int.cast_ofNat_Int, gk0, gk1, gk2, gk3, gk4, gk5, gk6, gk7, gk8, gk9, gk10, gk11, gk12, mMeth_eq, methO_ok, mRgI3_eq, mFrz_eq, frzO_s, mAug_eq, augO_s, dAddA_i, dTupX_l, dTupX_t, rowD_t, rowD_f, dList_f, dTupX_f, dRev_f, lb__law_script_of_1, mStr1_eq, guard_str, e1, hL1, cv, dEq_i, d0]
      · have d0 : decide (((cnt w : Nat) : Int) = 0) = false := decide_eq_false (by omega)
        have d1 : (!decide (((L.length : Nat) : Int) = 1 + ((cnt w : Nat) : Int))) = true := by rw [decide_eq_false (by omega)]; rfl
        simp only [bnd_ok, bnd_er, sE_ok, sE_er, mSeq_eq, seqO_nx, seqO_rt, seqO_er, seqO_bk, seqO_ct, mIf_eq, ifO_ok, ifO_er, mVar_z, mVar_s, mVarD_z, mVarD_s, mC_eq, mBin_eq, mUn_eq, mCB_eq, mNil_eq, mCons_eq, mSet_eq, mRet_eq, mSkip_eq, mBrk_eq, mCnt_eq, mRaise_eq, mRetN_eq, mDrop_eq, mTst_eq, tstO_bl, tstO_er, mAndT_eq, andT_ok, andT_f, andT_t, andT_er, mOrT_eq, orT_ok, orT_f, orT_t, orT_er, mNotT_eq, mAnd_eq, andD_ok, andD_f, andD_t, andD_er, mOr_eq, orD_ok, orD_f, orD_t, orD_er, dNot_bl, dAdd_i, dSub_i, dNeg_i, dCmp_i, dInt_i, dInt_b, dAbs_i, dMax_i, dMin_i, dLen_l, dLen_t, dLen_f, dList_l, dList_t, dTuple_l, dTuple_t, dRev_l, dRev_t, dIx_l, dIx_t, dIx_f, dIsN_n, dNotN_n, mTup_eq, mLst_eq, mSl_eq, mNone_eq, mSome_eq, someO_i, dSl_t, dSl_l, mFor_eq, mItems_eq, itemsO_l, itemsO_t, itemsO_f, mRgI1_eq, mRgI2_eq, outR_nx, outR_rt, outR_er, run1, run2, run3, run4, forGo_nil, forGo_cons, forO_nx, forO_ct, forO_bk, forO_rt, forO_er, gD_eq, mMut_eq, mutO_l, subO_eq, ownD_z, ownD_s, dSet_l, List.set_cons_zero, List.set_cons_succ, List.getElem?_cons_zero, List.getElem?_cons_succ, List.replicate_succ, List.replicate_zero, Nat.reduceSub, Nat.reduceAdd, List.length_cons, List.length_nil, Option.bind_some, Option.map_some, Bool.false_eq_true, if_true, if_false, reduceIte, Bool.and_true, Bool.true_and, Bool.and_false, Bool.false_and, Bool.or_true, Bool.true_or, Bool.or_false, Bool.false_or, Bool.not_true, Bool.not_false, DL.isNon, isSub, reduceCtorEq, decide_true, decide_false, clrO, Bool.or_self, Bool.and_self, Nat.reduceLT, Int.reduceLT, Int.reduceLE, Int.reduceAdd, Int.reduceSub, Int.reduceNeg, Int.reduceMul, Int.reduceEq, Int.cast_ofNat_Int, gk0, gk1, gk2, gk3, gk4, gk5, gk6, gk7, gk8, gk9, gk10, gk11, gk12, mMeth_eq, methO_ok, mRgI3_eq, mFrz_eq, frzO_s, mAug_eq, augO_s, dAddA_i, dTupX_l, dTupX_t, rowD_t, rowD_f, dList_f, dTupX_f, dRev_f, lb__law_script_of_1, mStr1_eq, guard_str, e1, hL1, cv, dEq_i, dNe_i, d0, d1]
    · have hn : mvW (w :: r) = (r.mapM numW).map fun l => (w, l) := by unfold mvW; exact if_neg h0
      have d0 : decide (((cnt w : Nat) : Int) = 0) = false := decide_eq_false (by omega)
      have d1 : (!decide (((L.length : Nat) : Int) = 1 + ((cnt w : Nat) : Int))) = false := by rw [decide_eq_true (by omega)]; rfl
      obtain ⟨g1, g2⟩ := lb2_go s0 (some (.lst acc, true)) (some (.str (S line), false)) (some (.lst L, false)) s5 h5 r s4 hx2
      rw [hn]
      refine ⟨fun hm => ?_, fun m hm => ?_⟩
      · have g := g1 (Option.map_eq_none_iff.mp hm)
        simp only [bnd_ok, bnd_er, sE_ok, sE_er, mSeq_eq, seqO_nx, seqO_rt, seqO_er, seqO_bk, seqO_ct, mIf_eq, ifO_ok, ifO_er, mVar_z, mVar_s, mVarD_z, mVarD_s, mC_eq, mBin_eq, mUn_eq, mCB_eq, mNil_eq, mCons_eq, mSet_eq, mRet_eq, mSkip_eq, mBrk_eq, mCnt_eq, mRaise_eq, mRetN_eq, mDrop_eq, mTst_eq, tstO_bl, tstO_er, mAndT_eq, andT_ok, andT_f, andT_t, andT_er, mOrT_eq, orT_ok, orT_f, orT_t, orT_er, mNotT_eq, mAnd_eq, andD_ok, andD_f, andD_t, andD_er, mOr_eq, orD_ok, orD_f, orD_t, orD_er, dNot_bl, dAdd_i, dSub_i, dNeg_i, dCmp_i, dInt_i, dInt_b, dAbs_i, dMax_i, dMin_i, dLen_l, dLen_t, dLen_f, dList_l, dList_t, dTuple_l, dTuple_t, dRev_l, dRev_t, dIx_l, dIx_t, dIx_f, dIsN_n, dNotN_n, mTup_eq, mLst_eq, mSl_eq, mNone_eq, mSome_eq, someO_i, dSl_t, dSl_l, mFor_eq, mItems_eq, itemsO_l, itemsO_t, itemsO_f, mRgI1_eq, mRgI2_eq, outR_nx, outR_rt, outR_er, run1, run2, run3, run4, forGo_nil, forGo_cons, forO_nx, forO_ct, forO_bk, forO_rt, forO_er, gD_eq, mMut_eq, mutO_l, subO_eq, ownD_z, ownD_s, dSet_l, List.set_cons_zero, List.set_cons_succ, List.getElem?_cons_zero, List.getElem?_cons_succ, List.replicate_succ, List.replicate_zero, Nat.reduceSub, Nat.reduceAdd, List.length_cons, List.length_nil, Option.bind_some, Option.map_some, Bool.false_eq_true, if_true, if_false, reduceIte, Bool.and_true, Bool.true_and, Bool.and_false, Bool.false_and, Bool.or_true, Bool.true_or, Bool.or_false, Bool.false_or, Bool.not_true, Bool.not_false, DL.isNon, isSub, reduceCtorEq, decide_true, decide_false, clrO, Bool.or_self, Bool.and_self, Nat.reduceLT, Int.reduceLT, Int.reduceLE, Int.reduceAdd, Int.reduceSub, Int.reduceNeg, Int.reduceMul, Int.reduceEq, Int.cast_ofNat_Int, gk0, gk1, gk2, gk3, gk4, gk5, gk6, gk7, gk8, gk9, gk10, gk11, gk12, mMeth_eq, methO_ok, mRgI3_eq, mFrz_eq, frzO_s, mAug_eq, augO_s, dAddA_i, dTupX_l, dTupX_t, rowD_t, rowD_f, dList_f, dTupX_f, dRev_f, lb__law_script_of_1, mStr1_eq, guard_str, e1, hL1, hL2, cv, dEq_i, dNe_i, d0, d1, g]
      · obtain ⟨ys, hy, rfl⟩ := Option.map_eq_some_iff.mp hm
        obtain ⟨s4', q4, g⟩ := g2 ys hy
        have q4' : ∀ d, s4' ≠ some (d, true) := fun d => q4 d (h4 d)
        have ly := mapM_len numW r ys hy
        have lc : mLc (mItems (mSl (mVar 3) (mSome (mC (.int 1))) mNone)) [4] (gD 4) mYes (mCB dIntS (mCons (mVar 4) mNil)) [s0, some (.lst acc, true), some (.str (S line), false), some (.lst L, false), s4', s5] = some (.ok (.lst (ys.map D.int))) := by
          rw [lcx_is r yT (fun _ => true) (fun x => .int ((numW x).getD 0)) (by simp only [bnd_ok, bnd_er, sE_ok, sE_er, mSeq_eq, seqO_nx, seqO_rt, seqO_er, seqO_bk, seqO_ct, mIf_eq, ifO_ok, ifO_er, mVar_z, mVar_s, mVarD_z, mVarD_s, mC_eq, mBin_eq, mUn_eq, mCB_eq, mNil_eq, mCons_eq, mSet_eq, mRet_eq, mSkip_eq, mBrk_eq, mCnt_eq, mRaise_eq, mRetN_eq, mDrop_eq, mTst_eq, tstO_bl, tstO_er, mAndT_eq, andT_ok, andT_f, andT_t, andT_er, mOrT_eq, orT_ok, orT_f, orT_t, orT_er, mNotT_eq, mAnd_eq, andD_ok, andD_f, andD_t, andD_er, mOr_eq, orD_ok, orD_f, orD_t, orD_er, dNot_bl, dAdd_i, dSub_i, dNeg_i, dCmp_i, dInt_i, dInt_b, dAbs_i, dMax_i, dMin_i, dLen_l, dLen_t, dLen_f, dList_l, dList_t, dTuple_l, dTuple_t, dRev_l, dRev_t, dIx_l, dIx_t, dIx_f, dIsN_n, dNotN_n, mTup_eq, mLst_eq, mSl_eq, mNone_eq, mSome_eq, someO_i, dSl_t, dSl_l, mFor_eq, mItems_eq, itemsO_l, itemsO_t, itemsO_f, mRgI1_eq, mRgI2_eq, outR_nx, outR_rt, outR_er, run1, run2, run3, run4, forGo_nil, forGo_cons, forO_nx, forO_ct, forO_bk, forO_rt, forO_er, gD_eq, mMut_eq, mutO_l, subO_eq, ownD_z, ownD_s, dSet_l, List.set_cons_zero, List.set_cons_succ, List.getElem?_cons_zero, List.getElem?_cons_succ, List.replicate_succ, List.replicate_zero, Nat.reduceSub, Nat.reduceAdd, List.length_cons, List.length_nil, Option.bind_some, Option.map_some, Bool.false_eq_true, if_true, if_false, reduceIte, Bool.and_true, Bool.true_and, Bool.and_false, Bool.false_and, Bool.or_true, Bool.true_or, Bool.or_false, Bool.false_or, Bool.not_true, Bool.not_false, DL.isNon, isSub, reduceCtorEq, decide_true, decide_false, clrO, Bool.or_self, Bool.and_self, Nat.reduceLT, Int.reduceLT, Int.reduceLE, Int.reduceAdd, Int.reduceSub, Int.reduceNeg, Int.reduceMul, Int.reduceEq, Int.cast_ofNat_Int, gk0, gk1, gk2, gk3, gk4, gk5, gk6, gk7, gk8, gk9, gk10, gk11, gk12, mMeth_eq, methO_ok, mRgI3_eq, mFrz_eq, frzO_s, mAug_eq, augO_s, dAddA_i, dTupX_l, dTupX_t, rowD_t, rowD_f, dList_f, dTupX_f, dRev_f, hL2]) (noOwn_one (fun d hd => q4' d (Option.some.inj hd))) (by omega)]
          · rw [List.filter_eq_self.mpr (fun _ _ => rfl)]
            rw [show (r.map fun x => D.int ((numW x).getD 0)) = (r.map fun x => (numW x).getD 0).map D.int by rw [List.map_map]; rfl, mapM_map (fun x => (numW x).getD 0) hy fun x _ y e => by rw [e]; rfl]
          · intro x hx
            refine ⟨rfl, fun _ => ?_⟩
            obtain ⟨n, en⟩ := mapM_mem hy x hx
            show mCB dIntS (mCons (mVar 4) mNil) [s0, some (.lst acc, true), some (.str (S line), false), some (.lst L, false), some (.str (S x), false), s5] = _
            simp only [bnd_ok, bnd_er, sE_ok, sE_er, mSeq_eq, seqO_nx, seqO_rt, seqO_er, seqO_bk, seqO_ct, mIf_eq, ifO_ok, ifO_er, mVar_z, mVar_s, mVarD_z, mVarD_s, mC_eq, mBin_eq, mUn_eq, mCB_eq, mNil_eq, mCons_eq, mSet_eq, mRet_eq, mSkip_eq, mBrk_eq, mCnt_eq, mRaise_eq, mRetN_eq, mDrop_eq, mTst_eq, tstO_bl, tstO_er, mAndT_eq, andT_ok, andT_f, andT_t, andT_er, mOrT_eq, orT_ok, orT_f, orT_t, orT_er, mNotT_eq, mAnd_eq, andD_ok, andD_f, andD_t, andD_er, mOr_eq, orD_ok, orD_f, orD_t, orD_er, dNot_bl, dAdd_i, dSub_i, dNeg_i, dCmp_i, dInt_i, dInt_b, dAbs_i, dMax_i, dMin_i, dLen_l, dLen_t, dLen_f, dList_l, dList_t, dTuple_l, dTuple_t, dRev_l, dRev_t, dIx_l, dIx_t, dIx_f, dIsN_n, dNotN_n, mTup_eq, mLst_eq, mSl_eq, mNone_eq, mSome_eq, someO_i, dSl_t, dSl_l, mFor_eq, mItems_eq, itemsO_l, itemsO_t, itemsO_f, mRgI1_eq, mRgI2_eq, outR_nx, outR_rt, outR_er, run1, run2, run3, run4, forGo_nil, forGo_cons, forO_nx, forO_ct, forO_bk, forO_rt, forO_er, gD_eq, mMut_eq, mutO_l, subO_eq, ownD_z, ownD_s, dSet_l, List.set_cons_zero, List.set_cons_succ, List.getElem?_cons_zero, List.getElem?_cons_succ, List.replicate_succ, List.replicate_zero, Nat.reduceSub, Nat.reduceAdd, List.length_cons, List.length_nil, Option.bind_some, Option.map_some, Bool.false_eq_true, if_true, if_false, reduceIte, Bool.and_true, Bool.true_and, Bool.and_false, Bool.false_and, Bool.or_true, Bool.true_or, Bool.or_false, Bool.false_or, Bool.not_true, Bool.not_false, DL.isNon, isSub, reduceCtorEq, decide_true, decide_false, clrO, Bool.or_self, Bool.and_self, Nat.reduceLT, Int.reduceLT, Int.reduceLE, Int.reduceAdd, Int.reduceSub, Int.reduceNeg, Int.reduceMul, Int.reduceEq, Int.cast_ofNat_Int, gk0, gk1, gk2, gk3, gk4, gk5, gk6, gk7, gk8, gk9, gk10, gk11, gk12, mMeth_eq, methO_ok, mRgI3_eq, mFrz_eq, frzO_s, mAug_eq, augO_s, dAddA_i, dTupX_l, dTupX_t, rowD_t, rowD_f, dList_f, dTupX_f, dRev_f, numW_int en (hx2 x hx), en, Option.getD_some]
        refine ⟨some (.lst L, false), s4', q4', ?_⟩
        simp only [bnd_ok, bnd_er, sE_ok, sE_er, mSeq_eq, seqO_nx, seqO_rt, seqO_er, seqO_bk, seqO_ct, mIf_eq, ifO_ok, ifO_er, mVar_z, mVar_s, mVarD_z, mVarD_s, mC_eq, mBin_eq, mUn_eq, mCB_eq, mNil_eq, mCons_eq, mSet_eq, mRet_eq, mSkip_eq, mBrk_eq, mCnt_eq, mRaise_eq, mRetN_eq, mDrop_eq, mTst_eq, tstO_bl, tstO_er, mAndT_eq, andT_ok, andT_f, andT_t, andT_er, mOrT_eq, orT_ok, orT_f, orT_t, orT_er, mNotT_eq, mAnd_eq, andD_ok, andD_f, andD_t, andD_er, mOr_eq, orD_ok, orD_f, orD_t, orD_er, dNot_bl, dAdd_i, dSub_i, dNeg_i, dCmp_i, dInt_i, dInt_b, dAbs_i, dMax_i, dMin_i, dLen_l, dLen_t, dLen_f, dList_l, dList_t, dTuple_l, dTuple_t, dRev_l, dRev_t, dIx_l, dIx_t, dIx_f, dIsN_n, dNotN_n, mTup_eq, mLst_eq, mSl_eq, mNone_eq, mSome_eq, someO_i, dSl_t, dSl_l, mFor_eq, mItems_eq, itemsO_l, itemsO_t, itemsO_f, mRgI1_eq, mRgI2_eq, outR_nx, outR_rt, outR_er, run1, run2, run3, run4, forGo_nil, forGo_cons, forO_nx, forO_ct, forO_bk, forO_rt, forO_er, gD_eq, mMut_eq, mutO_l, subO_eq, ownD_z, ownD_s, dSet_l, List.set_cons_zero, List.set_cons_succ, List.getElem?_cons_zero, List.getElem?_cons_succ, List.replicate_succ, List.replicate_zero, Nat.reduceSub, Nat.reduceAdd, List.length_cons, List.length_nil, Option.bind_some, Option.map_some, Bool.false_eq_true, if_true, if_false, reduceIte, Bool.and_true, Bool.true_and, Bool.and_false, Bool.false_and, Bool.or_true, Bool.true_or, Bool.or_false, Bool.false_or, Bool.not_true, Bool.not_false, DL.isNon, isSub, reduceCtorEq, decide_true, decide_false, clrO, Bool.or_self, Bool.and_self, Nat.reduceLT, Int.reduceLT, Int.reduceLE, Int.reduceAdd, Int.reduceSub, Int.reduceNeg, Int.reduceMul, Int.reduceEq, Int.cast_ofNat_Int, gk0, gk1, gk2, gk3, gk4, gk5, gk6, gk7, gk8, gk9, gk10, gk11, gk12, mMeth_eq, methO_ok, mRgI3_eq, mFrz_eq, frzO_s, mAug_eq, augO_s, dAddA_i, dTupX_l, dTupX_t, rowD_t, rowD_f, dList_f, dTupX_f, dRev_f, lb__law_script_of_1, mStr1_eq, guard_str, e1, hL1, hL2, cv, dEq_i, dNe_i, d0, d1, g, lc, guard_0, add_mv w ys (Nat.lt_of_le_of_lt (m := 600) (by omega) (by decide)), fApp_1 acc (mvD (w, ys)) (by omega)]
theorem lb1_go (s0 s5 : Option (D × Bool)) (h5 : ∀ d, s5 ≠ some (d, true)) : ∀ (ls : List (List Nat)) (acc : List D) (s2 s3 s4 : Option (D × Bool)), (∀ l ∈ ls, l.length ≤ 600) → acc.length + ls.length ≤ 900 → (∀ d, s4 ≠ some (d, true)) →
    (ls.mapM mvL = none → forGo (gD 2) lb__law_script_of_1 (ls.map yT) [s0, some (.lst acc, true), s2, s3, s4, s5] = some (.rt .non)) ∧
    (∀ ms, ls.mapM mvL = some ms → ∃ s2' s3' s4', forGo (gD 2) lb__law_script_of_1 (ls.map yT) [s0, some (.lst acc, true), s2, s3, s4, s5] = some (.nx [s0, some (.lst (acc ++ ms.map mvD), true), s2', s3', s4', s5]))
  | [], acc, s2, s3, s4, _, _, _ => ⟨fun h => (by cases h), fun ms h => (by
      have e : ms = [] := (Option.some.inj h).symm
      subst e
      exact ⟨s2, s3, s4, by rw [List.map_nil, List.map_nil, List.append_nil]; rfl⟩)⟩
  | l :: ls, acc, s2, s3, s4, hl, ha, h4 => by
    rw [List.length_cons] at ha
    obtain ⟨v1, v2⟩ := lb1_val l (hl l List.mem_cons_self) s0 s3 s4 s5 acc (by omega) h4 h5
    have e : forGo (gD 2) lb__law_script_of_1 ((l :: ls).map yT) [s0, some (.lst acc, true), s2, s3, s4, s5] = forO (lb__law_script_of_1 [s0, some (.lst acc, true), some (.str (S l), false), s3, s4, s5]) (forGo (gD 2) lb__law_script_of_1 (ls.map yT)) := by
      rw [List.map_cons, forGo_cons]
      rfl
    rw [e, List.mapM_cons]
    cases hm : mvL l with
    | none =>
      rw [v1 hm]
      exact ⟨fun _ => rfl, fun ms h => (by cases h)⟩
    | some m =>
      obtain ⟨s3', s4', q4, e4⟩ := v2 m hm
      rw [e4, forO_nx]
      obtain ⟨i1, i2⟩ := lb1_go s0 s5 h5 ls (acc ++ [mvD m]) (some (.str (S l), false)) s3' s4' (fun x hx => hl x (List.mem_cons_of_mem _ hx)) (by rw [List.length_append, List.length_singleton]; omega) q4
      cases hr : ls.mapM mvL with
      | none => exact ⟨fun _ => i1 hr, fun ms h => (by cases h)⟩
      | some ms =>
        refine ⟨fun h => (by cases h), fun ms' h => ?_⟩
        cases h
        obtain ⟨a, b, d, e5⟩ := i2 ms hr
        refine ⟨a, b, d, ?_⟩
        rw [e5, List.append_assoc]
        rfl
theorem law_script_of_val (t : List Nat) (hl : t.length ≤ 600) : m__law_script_of [.str (S t)] = some (.ok (match scrW t with | some ms => .tup (ms.map mvD) | none => .non)) := by
  unfold scrW
  by_cases h0 : t = []
  · subst h0
    unfold m__law_script_of b__law_script_of
    simp only [bnd_ok, bnd_er, sE_ok, sE_er, mSeq_eq, seqO_nx, seqO_rt, seqO_er, seqO_bk, seqO_ct, mIf_eq, ifO_ok, ifO_er, mVar_z, mVar_s, mVarD_z, mVarD_s, mC_eq, mBin_eq, mUn_eq, mCB_eq, mNil_eq, mCons_eq, mSet_eq, mRet_eq, mSkip_eq, mBrk_eq, mCnt_eq, mRaise_eq, mRetN_eq, mDrop_eq, mTst_eq, tstO_bl, tstO_er, mAndT_eq, andT_ok, andT_f, andT_t, andT_er, mOrT_eq, orT_ok, orT_f, orT_t, orT_er, mNotT_eq, mAnd_eq, andD_ok, andD_f, andD_t, andD_er, mOr_eq, orD_ok, orD_f, orD_t, orD_er, dNot_bl, dAdd_i, dSub_i, dNeg_i, dCmp_i, dInt_i, dInt_b, dAbs_i, dMax_i, dMin_i, dLen_l, dLen_t, dLen_f, dList_l, dList_t, dTuple_l, dTuple_t, dRev_l, dRev_t, dIx_l, dIx_t, dIx_f, dIsN_n, dNotN_n, mTup_eq, mLst_eq, mSl_eq, mNone_eq, mSome_eq, someO_i, dSl_t, dSl_l, mFor_eq, mItems_eq, itemsO_l, itemsO_t, itemsO_f, mRgI1_eq, mRgI2_eq, outR_nx, outR_rt, outR_er, run1, run2, run3, run4, forGo_nil, forGo_cons, forO_nx, forO_ct, forO_bk, forO_rt, forO_er, gD_eq, mMut_eq, mutO_l, subO_eq, ownD_z, ownD_s, dSet_l, List.set_cons_zero, List.set_cons_succ, List.getElem?_cons_zero, List.getElem?_cons_succ, List.replicate_succ, List.replicate_zero, Nat.reduceSub, Nat.reduceAdd, List.length_cons, List.length_nil, Option.bind_some, Option.map_some, Bool.false_eq_true, if_true, if_false, reduceIte, Bool.and_true, Bool.true_and, Bool.and_false, Bool.false_and, Bool.or_true, Bool.true_or, Bool.or_false, Bool.false_or, Bool.not_true, Bool.not_false, DL.isNon, isSub, reduceCtorEq, decide_true, decide_false, clrO, Bool.or_self, Bool.and_self, Nat.reduceLT, Int.reduceLT, Int.reduceLE, Int.reduceAdd, Int.reduceSub, Int.reduceNeg, Int.reduceMul, Int.reduceEq, Int.cast_ofNat_Int, gk0, gk1, gk2, gk3, gk4, gk5, gk6, gk7, gk8, gk9, gk10, gk11, gk12, mMeth_eq, methO_ok, mRgI3_eq, mFrz_eq, frzO_s, mAug_eq, augO_s, dAddA_i, dTupX_l, dTupX_t, rowD_t, rowD_f, dList_f, dTupX_f, dRev_f, sc_e, eq_T]
    rfl
  · rw [if_neg h0]
    have e1 := split_semi t (Nat.lt_of_le_of_lt hl (by decide))
    obtain ⟨s1, s2⟩ := spl_len [59, 32] 0 [] t
    generalize TL.spl [59, 32] 0 [] t = ls at *
    obtain ⟨g1, g2⟩ := lb1_go (some (.str (S t), false)) none (fun d => (by intro z; cases z)) ls [] none none none (fun l hl' => by have := s2 l hl'; rw [List.length_nil, Nat.zero_add] at this; omega) (by rw [List.length_nil]; omega) (fun d => (by intro z; cases z))
    have e2 : mItems (mStr1 dSplit (mVar 0) (mC (.str "; "))) [some (.str (S t), false), some (.lst [], true), none, none, none, none] = some (.ok (ls.map yT)) := by
      simp only [bnd_ok, bnd_er, sE_ok, sE_er, mSeq_eq, seqO_nx, seqO_rt, seqO_er, seqO_bk, seqO_ct, mIf_eq, ifO_ok, ifO_er, mVar_z, mVar_s, mVarD_z, mVarD_s, mC_eq, mBin_eq, mUn_eq, mCB_eq, mNil_eq, mCons_eq, mSet_eq, mRet_eq, mSkip_eq, mBrk_eq, mCnt_eq, mRaise_eq, mRetN_eq, mDrop_eq, mTst_eq, tstO_bl, tstO_er, mAndT_eq, andT_ok, andT_f, andT_t, andT_er, mOrT_eq, orT_ok, orT_f, orT_t, orT_er, mNotT_eq, mAnd_eq, andD_ok, andD_f, andD_t, andD_er, mOr_eq, orD_ok, orD_f, orD_t, orD_er, dNot_bl, dAdd_i, dSub_i, dNeg_i, dCmp_i, dInt_i, dInt_b, dAbs_i, dMax_i, dMin_i, dLen_l, dLen_t, dLen_f, dList_l, dList_t, dTuple_l, dTuple_t, dRev_l, dRev_t, dIx_l, dIx_t, dIx_f, dIsN_n, dNotN_n, mTup_eq, mLst_eq, mSl_eq, mNone_eq, mSome_eq, someO_i, dSl_t, dSl_l, mFor_eq, mItems_eq, itemsO_l, itemsO_t, itemsO_f, mRgI1_eq, mRgI2_eq, outR_nx, outR_rt, outR_er, run1, run2, run3, run4, forGo_nil, forGo_cons, forO_nx, forO_ct, forO_bk, forO_rt, forO_er, gD_eq, mMut_eq, mutO_l, subO_eq, ownD_z, ownD_s, dSet_l, List.set_cons_zero, List.set_cons_succ, List.getElem?_cons_zero, List.getElem?_cons_succ, List.replicate_succ, List.replicate_zero, Nat.reduceSub, Nat.reduceAdd, List.length_cons, List.length_nil, Option.bind_some, Option.map_some, Bool.false_eq_true, if_true, if_false, reduceIte, Bool.and_true, Bool.true_and, Bool.and_false, Bool.false_and, Bool.or_true, Bool.true_or, Bool.or_false, Bool.false_or, Bool.not_true, Bool.not_false, DL.isNon, isSub, reduceCtorEq, decide_true, decide_false, clrO, Bool.or_self, Bool.and_self, Nat.reduceLT, Int.reduceLT, Int.reduceLE, Int.reduceAdd, Int.reduceSub, Int.reduceNeg, Int.reduceMul, Int.reduceEq, Int.cast_ofNat_Int, gk0, gk1, gk2, gk3, gk4, gk5, gk6, gk7, gk8, gk9, gk10, gk11, gk12, mMeth_eq, methO_ok, mRgI3_eq, mFrz_eq, frzO_s, mAug_eq, augO_s, dAddA_i, dTupX_l, dTupX_t, rowD_t, rowD_f, dList_f, dTupX_f, dRev_f, mStr1_eq, guard_str, e1]
      rfl
    unfold m__law_script_of b__law_script_of
    cases hm : ls.mapM mvL with
    | none =>
      have g := g1 hm
      simp only [bnd_ok, bnd_er, sE_ok, sE_er, mSeq_eq, seqO_nx, seqO_rt, seqO_er, seqO_bk, seqO_ct, mIf_eq, ifO_ok, ifO_er, mVar_z, mVar_s, mVarD_z, mVarD_s, mC_eq, mBin_eq, mUn_eq, mCB_eq, mNil_eq, mCons_eq, mSet_eq, mRet_eq, mSkip_eq, mBrk_eq, mCnt_eq, mRaise_eq, mRetN_eq, mDrop_eq, mTst_eq, tstO_bl, tstO_er, mAndT_eq, andT_ok, andT_f, andT_t, andT_er, mOrT_eq, orT_ok, orT_f, orT_t, orT_er, mNotT_eq, mAnd_eq, andD_ok, andD_f, andD_t, andD_er, mOr_eq, orD_ok, orD_f, orD_t, orD_er, dNot_bl, dAdd_i, dSub_i, dNeg_i, dCmp_i, dInt_i, dInt_b, dAbs_i, dMax_i, dMin_i, dLen_l, dLen_t, dLen_f, dList_l, dList_t, dTuple_l, dTuple_t, dRev_l, dRev_t, dIx_l, dIx_t, dIx_f, dIsN_n, dNotN_n, mTup_eq, mLst_eq, mSl_eq, mNone_eq, mSome_eq, someO_i, dSl_t, dSl_l, mFor_eq, mItems_eq, itemsO_l, itemsO_t, itemsO_f, mRgI1_eq, mRgI2_eq, outR_nx, outR_rt, outR_er, run1, run2, run3, run4, forGo_nil, forGo_cons, forO_nx, forO_ct, forO_bk, forO_rt, forO_er, gD_eq, mMut_eq, mutO_l, subO_eq, ownD_z, ownD_s, dSet_l, List.set_cons_zero, List.set_cons_succ, List.getElem?_cons_zero, List.getElem?_cons_succ, List.replicate_succ, List.replicate_zero, Nat.reduceSub, Nat.reduceAdd, List.length_cons, List.length_nil, Option.bind_some, Option.map_some, Bool.false_eq_true, if_true, if_false, reduceIte, Bool.and_true, Bool.true_and, Bool.and_false, Bool.false_and, Bool.or_true, Bool.true_or, Bool.or_false, Bool.false_or, Bool.not_true, Bool.not_false, DL.isNon, isSub, reduceCtorEq, decide_true, decide_false, clrO, Bool.or_self, Bool.and_self, Nat.reduceLT, Int.reduceLT, Int.reduceLE, Int.reduceAdd, Int.reduceSub, Int.reduceNeg, Int.reduceMul, Int.reduceEq, Int.cast_ofNat_Int, gk0, gk1, gk2, gk3, gk4, gk5, gk6, gk7, gk8, gk9, gk10, gk11, gk12, mMeth_eq, methO_ok, mRgI3_eq, mFrz_eq, frzO_s, mAug_eq, augO_s, dAddA_i, dTupX_l, dTupX_t, rowD_t, rowD_f, dList_f, dTupX_f, dRev_f, sc_e, eq_T, ne_nil_e h0, guard_0]
      rw [show itemsO (mStr1 dSplit (mVar 0) (mC (.str "; ")) [some (.str (S t), false), some (.lst [], true), none, none, none, none]) = some (.ok (ls.map yT)) from e2]
      simp only [bnd_ok, bnd_er, sE_ok, sE_er, mSeq_eq, seqO_nx, seqO_rt, seqO_er, seqO_bk, seqO_ct, mIf_eq, ifO_ok, ifO_er, mVar_z, mVar_s, mVarD_z, mVarD_s, mC_eq, mBin_eq, mUn_eq, mCB_eq, mNil_eq, mCons_eq, mSet_eq, mRet_eq, mSkip_eq, mBrk_eq, mCnt_eq, mRaise_eq, mRetN_eq, mDrop_eq, mTst_eq, tstO_bl, tstO_er, mAndT_eq, andT_ok, andT_f, andT_t, andT_er, mOrT_eq, orT_ok, orT_f, orT_t, orT_er, mNotT_eq, mAnd_eq, andD_ok, andD_f, andD_t, andD_er, mOr_eq, orD_ok, orD_f, orD_t, orD_er, dNot_bl, dAdd_i, dSub_i, dNeg_i, dCmp_i, dInt_i, dInt_b, dAbs_i, dMax_i, dMin_i, dLen_l, dLen_t, dLen_f, dList_l, dList_t, dTuple_l, dTuple_t, dRev_l, dRev_t, dIx_l, dIx_t, dIx_f, dIsN_n, dNotN_n, mTup_eq, mLst_eq, mSl_eq, mNone_eq, mSome_eq, someO_i, dSl_t, dSl_l, mFor_eq, mItems_eq, itemsO_l, itemsO_t, itemsO_f, mRgI1_eq, mRgI2_eq, outR_nx, outR_rt, outR_er, run1, run2, run3, run4, forGo_nil, forGo_cons, forO_nx, forO_ct, forO_bk, forO_rt, forO_er, gD_eq, mMut_eq, mutO_l, subO_eq, ownD_z, ownD_s, dSet_l, List.set_cons_zero, List.set_cons_succ, List.getElem?_cons_zero, List.getElem?_cons_succ, List.replicate_succ, List.replicate_zero, Nat.reduceSub, Nat.reduceAdd, List.length_cons, List.length_nil, Option.bind_some, Option.map_some, Bool.false_eq_true, if_true, if_false, reduceIte, Bool.and_true, Bool.true_and, Bool.and_false, Bool.false_and, Bool.or_true, Bool.true_or, Bool.or_false, Bool.false_or, Bool.not_true, Bool.not_false, DL.isNon, isSub, reduceCtorEq, decide_true, decide_false, clrO, Bool.or_self, Bool.and_self, Nat.reduceLT, Int.reduceLT, Int.reduceLE, Int.reduceAdd, Int.reduceSub, Int.reduceNeg, Int.reduceMul, Int.reduceEq, Int.cast_ofNat_Int, gk0, gk1, gk2, gk3, gk4, gk5, gk6, gk7, gk8, gk9, gk10, gk11, gk12, mMeth_eq, methO_ok, mRgI3_eq, mFrz_eq, frzO_s, mAug_eq, augO_s, dAddA_i, dTupX_l, dTupX_t, rowD_t, rowD_f, dList_f, dTupX_f, dRev_f, g]
    | some ms =>
      obtain ⟨a, b, d, g⟩ := g2 ms hm
      simp only [bnd_ok, bnd_er, sE_ok, sE_er, mSeq_eq, seqO_nx, seqO_rt, seqO_er, seqO_bk, seqO_ct, mIf_eq, ifO_ok, ifO_er, mVar_z, mVar_s, mVarD_z, mVarD_s, mC_eq, mBin_eq, mUn_eq, mCB_eq, mNil_eq, mCons_eq, mSet_eq, mRet_eq, mSkip_eq, mBrk_eq, mCnt_eq, mRaise_eq, mRetN_eq, mDrop_eq, mTst_eq, tstO_bl, tstO_er, mAndT_eq, andT_ok, andT_f, andT_t, andT_er, mOrT_eq, orT_ok, orT_f, orT_t, orT_er, mNotT_eq, mAnd_eq, andD_ok, andD_f, andD_t, andD_er, mOr_eq, orD_ok, orD_f, orD_t, orD_er, dNot_bl, dAdd_i, dSub_i, dNeg_i, dCmp_i, dInt_i, dInt_b, dAbs_i, dMax_i, dMin_i, dLen_l, dLen_t, dLen_f, dList_l, dList_t, dTuple_l, dTuple_t, dRev_l, dRev_t, dIx_l, dIx_t, dIx_f, dIsN_n, dNotN_n, mTup_eq, mLst_eq, mSl_eq, mNone_eq, mSome_eq, someO_i, dSl_t, dSl_l, mFor_eq, mItems_eq, itemsO_l, itemsO_t, itemsO_f, mRgI1_eq, mRgI2_eq, outR_nx, outR_rt, outR_er, run1, run2, run3, run4, forGo_nil, forGo_cons, forO_nx, forO_ct, forO_bk, forO_rt, forO_er, gD_eq, mMut_eq, mutO_l, subO_eq, ownD_z, ownD_s, dSet_l, List.set_cons_zero, List.set_cons_succ, List.getElem?_cons_zero, List.getElem?_cons_succ, List.replicate_succ, List.replicate_zero, Nat.reduceSub, Nat.reduceAdd, List.length_cons, List.length_nil, Option.bind_some, Option.map_some, Bool.false_eq_true, if_true, if_false, reduceIte, Bool.and_true, Bool.true_and, Bool.and_false, Bool.false_and, Bool.or_true, Bool.true_or, Bool.or_false, Bool.false_or, Bool.not_true, Bool.not_false, DL.isNon, isSub, reduceCtorEq, decide_true, decide_false, clrO, Bool.or_self, Bool.and_self, Nat.reduceLT, Int.reduceLT, Int.reduceLE, Int.reduceAdd, Int.reduceSub, Int.reduceNeg, Int.reduceMul, Int.reduceEq, Int.cast_ofNat_Int, gk0, gk1, gk2, gk3, gk4, gk5, gk6, gk7, gk8, gk9, gk10, gk11, gk12, mMeth_eq, methO_ok, mRgI3_eq, mFrz_eq, frzO_s, mAug_eq, augO_s, dAddA_i, dTupX_l, dTupX_t, rowD_t, rowD_f, dList_f, dTupX_f, dRev_f, sc_e, eq_T, ne_nil_e h0, guard_0]
      rw [show itemsO (mStr1 dSplit (mVar 0) (mC (.str "; ")) [some (.str (S t), false), some (.lst [], true), none, none, none, none]) = some (.ok (ls.map yT)) from e2]
      simp only [bnd_ok, bnd_er, sE_ok, sE_er, mSeq_eq, seqO_nx, seqO_rt, seqO_er, seqO_bk, seqO_ct, mIf_eq, ifO_ok, ifO_er, mVar_z, mVar_s, mVarD_z, mVarD_s, mC_eq, mBin_eq, mUn_eq, mCB_eq, mNil_eq, mCons_eq, mSet_eq, mRet_eq, mSkip_eq, mBrk_eq, mCnt_eq, mRaise_eq, mRetN_eq, mDrop_eq, mTst_eq, tstO_bl, tstO_er, mAndT_eq, andT_ok, andT_f, andT_t, andT_er, mOrT_eq, orT_ok, orT_f, orT_t, orT_er, mNotT_eq, mAnd_eq, andD_ok, andD_f, andD_t, andD_er, mOr_eq, orD_ok, orD_f, orD_t, orD_er, dNot_bl, dAdd_i, dSub_i, dNeg_i, dCmp_i, dInt_i, dInt_b, dAbs_i, dMax_i, dMin_i, dLen_l, dLen_t, dLen_f, dList_l, dList_t, dTuple_l, dTuple_t, dRev_l, dRev_t, dIx_l, dIx_t, dIx_f, dIsN_n, dNotN_n, mTup_eq, mLst_eq, mSl_eq, mNone_eq, mSome_eq, someO_i, dSl_t, dSl_l, mFor_eq, mItems_eq, itemsO_l, itemsO_t, itemsO_f, mRgI1_eq, mRgI2_eq, outR_nx, outR_rt, outR_er, run1, run2, run3, run4, forGo_nil, forGo_cons, forO_nx, forO_ct, forO_bk, forO_rt, forO_er, gD_eq, mMut_eq, mutO_l, subO_eq, ownD_z, ownD_s, dSet_l, List.set_cons_zero, List.set_cons_succ, List.getElem?_cons_zero, List.getElem?_cons_succ, List.replicate_succ, List.replicate_zero, Nat.reduceSub, Nat.reduceAdd, List.length_cons, List.length_nil, Option.bind_some, Option.map_some, Bool.false_eq_true, if_true, if_false, reduceIte, Bool.and_true, Bool.true_and, Bool.and_false, Bool.false_and, Bool.or_true, Bool.true_or, Bool.or_false, Bool.false_or, Bool.not_true, Bool.not_false, DL.isNon, isSub, reduceCtorEq, decide_true, decide_false, clrO, Bool.or_self, Bool.and_self, Nat.reduceLT, Int.reduceLT, Int.reduceLE, Int.reduceAdd, Int.reduceSub, Int.reduceNeg, Int.reduceMul, Int.reduceEq, Int.cast_ofNat_Int, gk0, gk1, gk2, gk3, gk4, gk5, gk6, gk7, gk8, gk9, gk10, gk11, gk12, mMeth_eq, methO_ok, mRgI3_eq, mFrz_eq, frzO_s, mAug_eq, augO_s, dAddA_i, dTupX_l, dTupX_t, rowD_t, rowD_f, dList_f, dTupX_f, dRev_f, g, List.nil_append]
end Lw

set_option Elab.async false
set_option linter.all false
set_option maxRecDepth 100000
set_option maxHeartbeats 4000000
set_option autoImplicit false
namespace Lw
open PySem L2 DL
open SX (S)
/-! ### the written form -/
def GW (w : List Nat) : Prop := 0 < cnt w ∧ cnt w ≤ 4 ∧ w.length ≤ 6 ∧ 32 ∉ w ∧ 59 ∉ w ∧ w ≠ []
def GM (m : Mv) : Prop := GW m.1 ∧ m.2.length = cnt m.1 ∧ ∀ i ∈ m.2, 0 ≤ i ∧ i ≤ 40
def wordsM (m : Mv) : List (List Nat) := m.1 :: m.2.map numT
def textM (m : Mv) : List Nat := TL.joinL [32] (wordsM m)
def textS (ms : List Mv) : List Nat := TL.joinL [59, 32] (ms.map textM)
theorem numT_nn {i : Int} (h : 0 ≤ i) : numT i = TL.numL i.natAbs := by
  unfold numT
  rw [if_neg (by omega)]
theorem numL_head (n : Nat) (h : 0 < n) : ∃ c ds, TL.numL n = c :: ds ∧ c ≠ 48 := by
  induction n using Nat.strongRecOn with
  | _ n ih =>
    by_cases hn : n < 10
    · rw [TL.numL_lt hn]
      exact ⟨_, _, rfl, by omega⟩
    · obtain ⟨c, ds, e, hc⟩ := ih (n / 10) (by omega) (by omega)
      rw [TL.numL_step (by omega), e]
      exact ⟨_, _, rfl, hc⟩
theorem numW_num {i : Int} (h : 0 ≤ i) : numW (numT i) = some i := by
  rw [numT_nn h]
  have hv : ((NumText.digitsVal (TL.numL i.natAbs) : Nat) : Int) = i := by rw [TL.numL_val]; omega
  have n1 : ¬ (TL.numL i.natAbs = [] ∨ (TL.numL i.natAbs).any (fun z => !isDg z) = true) := by
    intro q
    rcases q with q | q
    · exact TL.numL_ne _ q
    · obtain ⟨z, hz, e⟩ := List.any_eq_true.mp q
      have := TL.numL_digits i.natAbs z hz
      have hd : isDg z = true := decide_eq_true this
      rw [hd] at e
      cases e
  have n2 : ¬ ((TL.numL i.natAbs).head? = some 48 ∧ 1 < (TL.numL i.natAbs).length) := by
    intro ⟨q1, q2⟩
    by_cases h0 : i.natAbs = 0
    · rw [h0] at q2
      exact absurd q2 (by decide)
    · obtain ⟨c, ds, e, hc⟩ := numL_head i.natAbs (by omega)
      rw [e] at q1
      exact hc (Option.some.inj q1)
  unfold numW
  rw [if_neg n1, if_neg n2, hv]
theorem mapM_num : ∀ {l : List Int}, (∀ i ∈ l, 0 ≤ i ∧ i ≤ 40) → (l.map numT).mapM numW = some l
  | [], _ => rfl
  | i :: l, h => by
    rw [List.map_cons, List.mapM_cons, numW_num (h i List.mem_cons_self).1, mapM_num fun x hx => h x (List.mem_cons_of_mem _ hx)]
    rfl
theorem numT_free {i : Int} (h : 0 ≤ i) {s : Nat} (hs : s < 48 ∨ 57 < s) : s ∉ numT i := by
  rw [numT_nn h]
  exact TL.numL_free hs
theorem numT_len {i : Int} (h : 0 ≤ i ∧ i ≤ 40) : (numT i).length ≤ 2 := by
  rw [numT_nn h.1]
  exact TL.numL_len (by decide) (by omega)
theorem mvL_text {m : Mv} (h : GM m) : mvL (textM m) = some m := by
  obtain ⟨⟨g1, g2, g3, g4, g5, g6⟩, g7, g8⟩ := h
  unfold mvL textM
  rw [TL.spl_join (s := 32) (S := []) (by unfold wordsM; simp) (fun p hp => by
    rcases List.mem_cons.mp hp with e | hp
    · rw [e]; exact g4
    · obtain ⟨i, hi, rfl⟩ := List.mem_map.mp hp
      exact numT_free (g8 i hi).1 (.inl (by decide)))]
  have e : mvW (wordsM m) = ((m.2.map numT).mapM numW).map fun l => (m.1, l) := if_neg (by rw [List.length_map]; omega)
  rw [e, mapM_num g8]
  rfl
theorem joinL_mem {c : Nat} {Sp : List Nat} (hc : c ∉ Sp) : ∀ {ps : List (List Nat)}, (∀ p ∈ ps, c ∉ p) → c ∉ TL.joinL Sp ps
  | [], _ => fun h => by cases h
  | [p], h => h p List.mem_cons_self
  | p :: q :: r, h => fun hm => by
    have e : TL.joinL Sp (p :: q :: r) = p ++ (Sp ++ TL.joinL Sp (q :: r)) := rfl
    rw [e] at hm
    rcases List.mem_append.mp hm with hm | hm
    · exact h p List.mem_cons_self hm
    · rcases List.mem_append.mp hm with hm | hm
      · exact hc hm
      · exact joinL_mem hc (fun x hx => h x (List.mem_cons_of_mem _ hx)) hm
theorem joinL_len (Sp : List Nat) (k : Nat) : ∀ {ps : List (List Nat)}, (∀ p ∈ ps, p.length ≤ k) → (TL.joinL Sp ps).length ≤ (k + Sp.length) * ps.length
  | [], _ => Nat.zero_le _
  | [p], h => by
    have := h p List.mem_cons_self
    show p.length ≤ (k + Sp.length) * 1
    omega
  | p :: q :: r, h => by
    have h1 := h p List.mem_cons_self
    have h2 := joinL_len Sp k (ps := q :: r) fun x hx => h x (List.mem_cons_of_mem _ hx)
    have e : TL.joinL Sp (p :: q :: r) = p ++ (Sp ++ TL.joinL Sp (q :: r)) := rfl
    rw [e, List.length_append, List.length_append]
    have e2 : (k + Sp.length) * (p :: q :: r).length = (k + Sp.length) * (q :: r).length + (k + Sp.length) := by rw [List.length_cons]; exact Nat.mul_succ _ _
    omega
theorem textM_len {m : Mv} (h : GM m) : (textM m).length ≤ 35 := by
  obtain ⟨⟨g1, g2, g3, g4, g5, g6⟩, g7, g8⟩ := h
  have := joinL_len [32] 6 (ps := wordsM m) (fun p hp => by
    rcases List.mem_cons.mp hp with e | hp
    · rw [e]; exact g3
    · obtain ⟨i, hi, rfl⟩ := List.mem_map.mp hp
      have := numT_len (g8 i hi)
      omega)
  have lw : (wordsM m).length = m.2.length + 1 := by unfold wordsM; rw [List.length_cons, List.length_map]
  rw [lw] at this
  have h2 : (6 + [32].length) * (m.2.length + 1) ≤ 7 * 5 := Nat.mul_le_mul_left 7 (by omega)
  unfold textM
  omega
theorem textM_free {m : Mv} (h : GM m) : 59 ∉ textM m := by
  obtain ⟨⟨g1, g2, g3, g4, g5, g6⟩, g7, g8⟩ := h
  refine joinL_mem (by decide) fun p hp => ?_
  rcases List.mem_cons.mp hp with e | hp
  · rw [e]; exact g5
  · obtain ⟨i, hi, rfl⟩ := List.mem_map.mp hp
    exact numT_free (g8 i hi).1 (.inr (by decide))
theorem textM_ne {m : Mv} (h : GM m) : textM m ≠ [] := by
  obtain ⟨⟨g1, g2, g3, g4, g5, g6⟩, g7, g8⟩ := h
  unfold textM wordsM
  cases hl : m.2.map numT with
  | nil => exact g6
  | cons x r =>
    intro z
    have e : TL.joinL [32] (m.1 :: x :: r) = m.1 ++ ([32] ++ TL.joinL [32] (x :: r)) := rfl
    rw [e] at z
    exact g6 (List.append_eq_nil_iff.mp z).1
theorem textS_len {ms : List Mv} (h : ∀ m ∈ ms, GM m) (hn : ms.length ≤ 8) : (textS ms).length ≤ 296 := by
  have := joinL_len [59, 32] 35 (ps := ms.map textM) (fun p hp => by
    obtain ⟨m, hm, rfl⟩ := List.mem_map.mp hp
    exact textM_len (h m hm))
  rw [List.length_map] at this
  have h2 : (35 + [59, 32].length) * ms.length ≤ 37 * 8 := Nat.mul_le_mul_left _ hn
  unfold textS
  omega
theorem mapM_text : ∀ {ms : List Mv}, (∀ m ∈ ms, GM m) → (ms.map textM).mapM mvL = some ms
  | [], _ => rfl
  | m :: ms, h => by
    rw [List.map_cons, List.mapM_cons, mvL_text (h m List.mem_cons_self), mapM_text fun x hx => h x (List.mem_cons_of_mem _ hx)]
    rfl
theorem scrW_text {ms : List Mv} (h : ∀ m ∈ ms, GM m) : scrW (textS ms) = some ms := by
  unfold scrW
  cases ms with
  | nil => rfl
  | cons m r =>
    have hne : textS (m :: r) ≠ [] := by
      unfold textS
      rw [List.map_cons]
      have g := textM_ne (h m List.mem_cons_self)
      cases hl : r.map textM with
      | nil => exact g
      | cons x q =>
        intro z
        have e : TL.joinL [59, 32] (textM m :: x :: q) = textM m ++ ([59, 32] ++ TL.joinL [59, 32] (x :: q)) := rfl
        rw [e] at z
        exact g (List.append_eq_nil_iff.mp z).1
    rw [if_neg hne]
    unfold textS
    rw [TL.spl_join (s := 59) (S := [32]) (by simp) (fun p hp => by
      obtain ⟨x, hx, rfl⟩ := List.mem_map.mp hp
      exact textM_free (h x hx))]
    exact mapM_text h
/-! ### write_script -/
def itM (m : Mv) : List (List Nat × D) := (m.1, D.str (S m.1)) :: m.2.map fun i => (numT i, D.int i)
theorem itM_snd (m : Mv) : (itM m).map (·.2) = D.str (S m.1) :: m.2.map D.int := by
  unfold itM
  rw [List.map_cons, List.map_map]
  rfl
theorem itM_fst (m : Mv) : ((itM m).map fun p => D.str (S p.1)) = (wordsM m).map fun y => D.str (S y) := by
  unfold itM wordsM
  rw [List.map_cons, List.map_cons, List.map_map, List.map_map]
  rfl
theorem itM_str {m : Mv} (h : GM m) : ∀ p ∈ itM m, dStr [p.2] = some (.ok (.str (S p.1))) := fun p hp => by
  rcases List.mem_cons.mp hp with e | hp
  · rw [e]; rfl
  · obtain ⟨i, hi, rfl⟩ := List.mem_map.mp hp
    have := h.2.2 i hi
    exact d_str_S (Nat.lt_of_lt_of_le (m := 100) (by omega) (by decide))
theorem sum_le (k : Nat) : ∀ {ws : List (List Nat)}, (∀ w ∈ ws, w.length ≤ k) → (ws.map (·.length)).sum ≤ k * ws.length
  | [], _ => Nat.le_refl _
  | x :: r, h => by
    have h1 := h x List.mem_cons_self
    have h2 := sum_le k (ws := r) fun w hw => h w (List.mem_cons_of_mem _ hw)
    rw [List.map_cons, List.sum_cons, List.length_cons, Nat.mul_succ]
    omega
theorem join_m {m : Mv} (h : GM m) : dJoin (.str " ") (.lst ((wordsM m).map fun y => D.str (S y))) = some (.ok (.str (S (textM m)))) := by
  rw [sc_sp]
  refine d_join_lst [32] (wordsM m) ?_
  have hk := sum_le 6 (ws := wordsM m) (fun p hp => by
    rcases List.mem_cons.mp hp with e | hp
    · rw [e]; exact h.1.2.2.1
    · obtain ⟨i, hi, rfl⟩ := List.mem_map.mp hp
      have := numT_len (h.2.2 i hi)
      omega)
  have hl : (wordsM m).length ≤ 5 := by
    unfold wordsM
    rw [List.length_cons, List.length_map, h.2.1]
    have := h.1.2.1
    omega
  exact Nat.le_trans (m := 900) (by rw [List.length_singleton]; omega) (by decide)
theorem join_s {ms : List Mv} (h : ∀ m ∈ ms, GM m) (hn : ms.length ≤ 8) : dJoin (.str "; ") (.lst ((ms.map textM).map fun y => D.str (S y))) = some (.ok (.str (S (textS ms)))) := by
  rw [sc_semi]
  refine d_join_lst [59, 32] (ms.map textM) ?_
  have hk := sum_le 35 (ws := ms.map textM) (fun p hp => by
    obtain ⟨m, hm, rfl⟩ := List.mem_map.mp hp
    exact textM_len (h m hm))
  rw [List.length_map] at hk ⊢
  exact Nat.le_trans (m := 900) (by rw [List.length_cons, List.length_singleton]; omega) (by decide)
theorem write_script_val {ms : List Mv} (h : ∀ m ∈ ms, GM m) (hn : ms.length ≤ 8) : m_write_script [.tup (ms.map mvD)] = some (.ok (.str (S (textS ms)))) := by
  have lc : mLc (mItems (mVar 0)) [1] (gD 1) mYes (mStr1 dJoin (mC (.str " ")) (mLc (mItems (mVar 1)) [2] (gD 2) mYes (mCB dStr (mCons (mVar 2) mNil)))) [some (.tup (ms.map mvD), false), none, none] = some (.ok (.lst ((ms.map textM).map fun y => D.str (S y)))) := by
    rw [lcx_is ms mvD (fun _ => true) (fun m => .str (S (textM m))) (by simp only [bnd_ok, bnd_er, sE_ok, sE_er, mSeq_eq, seqO_nx, seqO_rt, seqO_er, seqO_bk, seqO_ct, mIf_eq, ifO_ok, ifO_er, mVar_z, mVar_s, mVarD_z, mVarD_s, mC_eq, mBin_eq, mUn_eq, mCB_eq, mNil_eq, mCons_eq, mSet_eq, mRet_eq, mSkip_eq, mBrk_eq, mCnt_eq, mRaise_eq, mRetN_eq, mDrop_eq, mTst_eq, tstO_bl, tstO_er, mAndT_eq, andT_ok, andT_f, andT_t, andT_er, mOrT_eq, orT_ok, orT_f, orT_t, orT_er, mNotT_eq, mAnd_eq, andD_ok, andD_f, andD_t, andD_er, mOr_eq, orD_ok, orD_f, orD_t, orD_er, dNot_bl, dAdd_i, dSub_i, dNeg_i, dCmp_i, dInt_i, dInt_b, dAbs_i, dMax_i, dMin_i, dLen_l, dLen_t, dLen_f, dList_l, dList_t, dTuple_l, dTuple_t, dRev_l, dRev_t, dIx_l, dIx_t, dIx_f, dIsN_n, dNotN_n, mTup_eq, mLst_eq, mSl_eq, mNone_eq, mSome_eq, someO_i, dSl_t, dSl_l, mFor_eq, mItems_eq, itemsO_l, itemsO_t, itemsO_f, mRgI1_eq, mRgI2_eq, outR_nx, outR_rt, outR_er, run1, run2, run3, run4, forGo_nil, forGo_cons, forO_nx, forO_ct, forO_bk, forO_rt, forO_er, gD_eq, mMut_eq, mutO_l, subO_eq, ownD_z, ownD_s, dSet_l, List.set_cons_zero, List.set_cons_succ, List.getElem?_cons_zero, List.getElem?_cons_succ, List.replicate_succ, List.replicate_zero, Nat.reduceSub, Nat.reduceAdd, List.length_cons, List.length_nil, Option.bind_some, Option.map_some, Bool.false_eq_true, if_true, if_false, reduceIte, Bool.and_true, Bool.true_and, Bool.and_false, Bool.false_and, Bool.or_true, Bool.true_or, Bool.or_false, Bool.false_or, Bool.not_true, Bool.not_false, DL.isNon, isSub, reduceCtorEq, decide_true, decide_false, clrO, Bool.or_self, Bool.and_self, Nat.reduceLT, Int.reduceLT, Int.reduceLE, Int.reduceAdd, Int.reduceSub, Int.reduceNeg, Int.reduceMul, Int.reduceEq, Int.cast_ofNat_Int, gk0, gk1, gk2, gk3, gk4, gk5, gk6, gk7, gk8, gk9, gk10, gk11, gk12, mMeth_eq, methO_ok, mRgI3_eq, mFrz_eq, frzO_s, mAug_eq, augO_s, dAddA_i, dTupX_l, dTupX_t, rowD_t, rowD_f, dList_f, dTupX_f, dRev_f]) rfl (by omega)]
    · rw [List.filter_eq_self.mpr (fun _ _ => rfl), List.map_map]
      rfl
    · intro m hm
      refine ⟨rfl, fun _ => ?_⟩
      have inner : mLc (mItems (mVar 1)) [2] (gD 2) mYes (mCB dStr (mCons (mVar 2) mNil)) [some (.tup (ms.map mvD), false), some (mvD m, false), none] = some (.ok (.lst ((wordsM m).map fun y => D.str (S y)))) := by
        have g := h m hm
        have hl : (itM m).length ≤ 5 := by
          unfold itM
          rw [List.length_cons, List.length_map, g.2.1]
          have := g.1.2.1
          omega
        rw [lcx_is (itM m) (·.2) (fun _ => true) (fun p => .str (S p.1)) (by unfold mvD; simp only [bnd_ok, bnd_er, sE_ok, sE_er, mSeq_eq, seqO_nx, seqO_rt, seqO_er, seqO_bk, seqO_ct, mIf_eq, ifO_ok, ifO_er, mVar_z, mVar_s, mVarD_z, mVarD_s, mC_eq, mBin_eq, mUn_eq, mCB_eq, mNil_eq, mCons_eq, mSet_eq, mRet_eq, mSkip_eq, mBrk_eq, mCnt_eq, mRaise_eq, mRetN_eq, mDrop_eq, mTst_eq, tstO_bl, tstO_er, mAndT_eq, andT_ok, andT_f, andT_t, andT_er, mOrT_eq, orT_ok, orT_f, orT_t, orT_er, mNotT_eq, mAnd_eq, andD_ok, andD_f, andD_t, andD_er, mOr_eq, orD_ok, orD_f, orD_t, orD_er, dNot_bl, dAdd_i, dSub_i, dNeg_i, dCmp_i, dInt_i, dInt_b, dAbs_i, dMax_i, dMin_i, dLen_l, dLen_t, dLen_f, dList_l, dList_t, dTuple_l, dTuple_t, dRev_l, dRev_t, dIx_l, dIx_t, dIx_f, dIsN_n, dNotN_n, mTup_eq, mLst_eq, mSl_eq, mNone_eq, mSome_eq, someO_i, dSl_t, dSl_l, mFor_eq, mItems_eq, itemsO_l, itemsO_t, itemsO_f, mRgI1_eq, mRgI2_eq, outR_nx, outR_rt, outR_er, run1, run2, run3, run4, forGo_nil, forGo_cons, forO_nx, forO_ct, forO_bk, forO_rt, forO_er, gD_eq, mMut_eq, mutO_l, subO_eq, ownD_z, ownD_s, dSet_l, List.set_cons_zero, List.set_cons_succ, List.getElem?_cons_zero, List.getElem?_cons_succ, List.replicate_succ, List.replicate_zero, Nat.reduceSub, Nat.reduceAdd, List.length_cons, List.length_nil, Option.bind_some, Option.map_some, Bool.false_eq_true, if_true, if_false, reduceIte, Bool.and_true, Bool.true_and, Bool.and_false, Bool.false_and, Bool.or_true, Bool.true_or, Bool.or_false, Bool.false_or, Bool.not_true, Bool.not_false, DL.isNon, isSub, reduceCtorEq, decide_true, decide_false, clrO, Bool.or_self, Bool.and_self, Nat.reduceLT, Int.reduceLT, Int.reduceLE, Int.reduceAdd, Int.reduceSub, Int.reduceNeg, Int.reduceMul, Int.reduceEq, Int.cast_ofNat_Int, gk0, gk1, gk2, gk3, gk4, gk5, gk6, gk7, gk8, gk9, gk10, gk11, gk12, mMeth_eq, methO_ok, mRgI3_eq, mFrz_eq, frzO_s, mAug_eq, augO_s, dAddA_i, dTupX_l, dTupX_t, rowD_t, rowD_f, dList_f, dTupX_f, dRev_f]; rw [itM_snd]) rfl (by omega)]
        · rw [List.filter_eq_self.mpr (fun _ _ => rfl), itM_fst]
        · intro p hp
          refine ⟨rfl, fun _ => ?_⟩
          show mCB dStr (mCons (mVar 2) mNil) [some (.tup (ms.map mvD), false), some (mvD m, false), some (p.2, false)] = _
          simp only [bnd_ok, bnd_er, sE_ok, sE_er, mSeq_eq, seqO_nx, seqO_rt, seqO_er, seqO_bk, seqO_ct, mIf_eq, ifO_ok, ifO_er, mVar_z, mVar_s, mVarD_z, mVarD_s, mC_eq, mBin_eq, mUn_eq, mCB_eq, mNil_eq, mCons_eq, mSet_eq, mRet_eq, mSkip_eq, mBrk_eq, mCnt_eq, mRaise_eq, mRetN_eq, mDrop_eq, mTst_eq, tstO_bl, tstO_er, mAndT_eq, andT_ok, andT_f, andT_t, andT_er, mOrT_eq, orT_ok, orT_f, orT_t, orT_er, mNotT_eq, mAnd_eq, andD_ok, andD_f, andD_t, andD_er, mOr_eq, orD_ok, orD_f, orD_t, orD_er, dNot_bl, dAdd_i, dSub_i, dNeg_i, dCmp_i, dInt_i, dInt_b, dAbs_i, dMax_i, dMin_i, dLen_l, dLen_t, dLen_f, dList_l, dList_t, dTuple_l, dTuple_t, dRev_l, dRev_t, dIx_l, dIx_t, dIx_f, dIsN_n, dNotN_n, mTup_eq, mLst_eq, mSl_eq, mNone_eq, mSome_eq, someO_i, dSl_t, dSl_l, mFor_eq, mItems_eq, itemsO_l, itemsO_t, itemsO_f, mRgI1_eq, mRgI2_eq, outR_nx, outR_rt, outR_er, run1, run2, run3, run4, forGo_nil, forGo_cons, forO_nx, forO_ct, forO_bk, forO_rt, forO_er, gD_eq, mMut_eq, mutO_l, subO_eq, ownD_z, ownD_s, dSet_l, List.set_cons_zero, List.set_cons_succ, List.getElem?_cons_zero, List.getElem?_cons_succ, List.replicate_succ, List.replicate_zero, Nat.reduceSub, Nat.reduceAdd, List.length_cons, List.length_nil, Option.bind_some, Option.map_some, Bool.false_eq_true, if_true, if_false, reduceIte, Bool.and_true, Bool.true_and, Bool.and_false, Bool.false_and, Bool.or_true, Bool.true_or, Bool.or_false, Bool.false_or, Bool.not_true, Bool.not_false, DL.isNon, isSub, reduceCtorEq, decide_true, decide_false, clrO, Bool.or_self, Bool.and_self, Nat.reduceLT, Int.reduceLT, Int.reduceLE, Int.reduceAdd, Int.reduceSub, Int.reduceNeg, Int.reduceMul, Int.reduceEq, Int.cast_ofNat_Int, gk0, gk1, gk2, gk3, gk4, gk5, gk6, gk7, gk8, gk9, gk10, gk11, gk12, mMeth_eq, methO_ok, mRgI3_eq, mFrz_eq, frzO_s, mAug_eq, augO_s, dAddA_i, dTupX_l, dTupX_t, rowD_t, rowD_f, dList_f, dTupX_f, dRev_f, itM_str g p hp]
      show mStr1 dJoin (mC (.str " ")) (mLc (mItems (mVar 1)) [2] (gD 2) mYes (mCB dStr (mCons (mVar 2) mNil))) [some (.tup (ms.map mvD), false), some (mvD m, false), none] = _
      simp only [bnd_ok, bnd_er, sE_ok, sE_er, mSeq_eq, seqO_nx, seqO_rt, seqO_er, seqO_bk, seqO_ct, mIf_eq, ifO_ok, ifO_er, mVar_z, mVar_s, mVarD_z, mVarD_s, mC_eq, mBin_eq, mUn_eq, mCB_eq, mNil_eq, mCons_eq, mSet_eq, mRet_eq, mSkip_eq, mBrk_eq, mCnt_eq, mRaise_eq, mRetN_eq, mDrop_eq, mTst_eq, tstO_bl, tstO_er, mAndT_eq, andT_ok, andT_f, andT_t, andT_er, mOrT_eq, orT_ok, orT_f, orT_t, orT_er, mNotT_eq, mAnd_eq, andD_ok, andD_f, andD_t, andD_er, mOr_eq, orD_ok, orD_f, orD_t, orD_er, dNot_bl, dAdd_i, dSub_i, dNeg_i, dCmp_i, dInt_i, dInt_b, dAbs_i, dMax_i, dMin_i, dLen_l, dLen_t, dLen_f, dList_l, dList_t, dTuple_l, dTuple_t, dRev_l, dRev_t, dIx_l, dIx_t, dIx_f, dIsN_n, dNotN_n, mTup_eq, mLst_eq, mSl_eq, mNone_eq, mSome_eq, someO_i, dSl_t, dSl_l, mFor_eq, mItems_eq, itemsO_l, itemsO_t, itemsO_f, mRgI1_eq, mRgI2_eq, outR_nx, outR_rt, outR_er, run1, run2, run3, run4, forGo_nil, forGo_cons, forO_nx, forO_ct, forO_bk, forO_rt, forO_er, gD_eq, mMut_eq, mutO_l, subO_eq, ownD_z, ownD_s, dSet_l, List.set_cons_zero, List.set_cons_succ, List.getElem?_cons_zero, List.getElem?_cons_succ, List.replicate_succ, List.replicate_zero, Nat.reduceSub, Nat.reduceAdd, List.length_cons, List.length_nil, Option.bind_some, Option.map_some, Bool.false_eq_true, if_true, if_false, reduceIte, Bool.and_true, Bool.true_and, Bool.and_false, Bool.false_and, Bool.or_true, Bool.true_or, Bool.or_false, Bool.false_or, Bool.not_true, Bool.not_false, DL.isNon, isSub, reduceCtorEq, decide_true, decide_false, clrO, Bool.or_self, Bool.and_self, Nat.reduceLT, Int.reduceLT, Int.reduceLE, Int.reduceAdd, Int.reduceSub, Int.reduceNeg, Int.reduceMul, Int.reduceEq, Int.cast_ofNat_Int, gk0, gk1, gk2, gk3, gk4, gk5, gk6, gk7, gk8, gk9, gk10, gk11, gk12, mMeth_eq, methO_ok, mRgI3_eq, mFrz_eq, frzO_s, mAug_eq, augO_s, dAddA_i, dTupX_l, dTupX_t, rowD_t, rowD_f, dList_f, dTupX_f, dRev_f, mStr1_eq, guard_str, inner, join_m (h m hm)]
  unfold m_write_script b_write_script
  simp only [bnd_ok, bnd_er, sE_ok, sE_er, mSeq_eq, seqO_nx, seqO_rt, seqO_er, seqO_bk, seqO_ct, mIf_eq, ifO_ok, ifO_er, mVar_z, mVar_s, mVarD_z, mVarD_s, mC_eq, mBin_eq, mUn_eq, mCB_eq, mNil_eq, mCons_eq, mSet_eq, mRet_eq, mSkip_eq, mBrk_eq, mCnt_eq, mRaise_eq, mRetN_eq, mDrop_eq, mTst_eq, tstO_bl, tstO_er, mAndT_eq, andT_ok, andT_f, andT_t, andT_er, mOrT_eq, orT_ok, orT_f, orT_t, orT_er, mNotT_eq, mAnd_eq, andD_ok, andD_f, andD_t, andD_er, mOr_eq, orD_ok, orD_f, orD_t, orD_er, dNot_bl, dAdd_i, dSub_i, dNeg_i, dCmp_i, dInt_i, dInt_b, dAbs_i, dMax_i, dMin_i, dLen_l, dLen_t, dLen_f, dList_l, dList_t, dTuple_l, dTuple_t, dRev_l, dRev_t, dIx_l, dIx_t, dIx_f, dIsN_n, dNotN_n, mTup_eq, mLst_eq, mSl_eq, mNone_eq, mSome_eq, someO_i, dSl_t, dSl_l, mFor_eq, mItems_eq, itemsO_l, itemsO_t, itemsO_f, mRgI1_eq, mRgI2_eq, outR_nx, outR_rt, outR_er, run1, run2, run3, run4, forGo_nil, forGo_cons, forO_nx, forO_ct, forO_bk, forO_rt, forO_er, gD_eq, mMut_eq, mutO_l, subO_eq, ownD_z, ownD_s, dSet_l, List.set_cons_zero, List.set_cons_succ, List.getElem?_cons_zero, List.getElem?_cons_succ, List.replicate_succ, List.replicate_zero, Nat.reduceSub, Nat.reduceAdd, List.length_cons, List.length_nil, Option.bind_some, Option.map_some, Bool.false_eq_true, if_true, if_false, reduceIte, Bool.and_true, Bool.true_and, Bool.and_false, Bool.false_and, Bool.or_true, Bool.true_or, Bool.or_false, Bool.false_or, Bool.not_true, Bool.not_false, DL.isNon, isSub, reduceCtorEq, decide_true, decide_false, clrO, Bool.or_self, Bool.and_self, Nat.reduceLT, Int.reduceLT, Int.reduceLE, Int.reduceAdd, Int.reduceSub, Int.reduceNeg, Int.reduceMul, Int.reduceEq, Int.cast_ofNat_Int, gk0, gk1, gk2, gk3, gk4, gk5, gk6, gk7, gk8, gk9, gk10, gk11, gk12, mMeth_eq, methO_ok, mRgI3_eq, mFrz_eq, frzO_s, mAug_eq, augO_s, dAddA_i, dTupX_l, dTupX_t, rowD_t, rowD_f, dList_f, dTupX_f, dRev_f, mStr1_eq, guard_str, lc, join_s h hn]
end Lw

set_option Elab.async false
set_option linter.all false
set_option maxRecDepth 100000
set_option maxHeartbeats 4000000
set_option autoImplicit false
namespace Lw
open PySem L2 DL
open SX (S)
theorem law_read_val (t : List Nat) (hl : t.length ≤ 600) : m__law_read [.str (S t)] = some (.ok (match scrW t with | some ms => .tup (ms.map mvD) | none => .non)) := by
  have e := read_script_val t hl
  unfold m__law_read b__law_read
  cases h : scrW t with
  | some ms =>
    rw [h, elim_some] at e
    simp only [bnd_ok, bnd_er, sE_ok, sE_er, mSeq_eq, seqO_nx, seqO_rt, seqO_er, seqO_bk, seqO_ct, mIf_eq, ifO_ok, ifO_er, mVar_z, mVar_s, mVarD_z, mVarD_s, mC_eq, mBin_eq, mUn_eq, mCB_eq, mNil_eq, mCons_eq, mSet_eq, mRet_eq, mSkip_eq, mBrk_eq, mCnt_eq, mRaise_eq, mRetN_eq, mDrop_eq, mTst_eq, tstO_bl, tstO_er, mAndT_eq, andT_ok, andT_f, andT_t, andT_er, mOrT_eq, orT_ok, orT_f, orT_t, orT_er, mNotT_eq, mAnd_eq, andD_ok, andD_f, andD_t, andD_er, mOr_eq, orD_ok, orD_f, orD_t, orD_er, dNot_bl, dAdd_i, dSub_i, dNeg_i, dCmp_i, dInt_i, dInt_b, dAbs_i, dMax_i, dMin_i, dLen_l, dLen_t, dLen_f, dList_l, dList_t, dTuple_l, dTuple_t, dRev_l, dRev_t, dIx_l, dIx_t, dIx_f, dIsN_n, dNotN_n, mTup_eq, mLst_eq, mSl_eq, mNone_eq, mSome_eq, someO_i, dSl_t, dSl_l, mFor_eq, mItems_eq, itemsO_l, itemsO_t, itemsO_f, mRgI1_eq, mRgI2_eq, outR_nx, outR_rt, outR_er, run1, run2, run3, run4, forGo_nil, forGo_cons, forO_nx, forO_ct, forO_bk, forO_rt, forO_er, gD_eq, mMut_eq, mutO_l, subO_eq, ownD_z, ownD_s, dSet_l, List.set_cons_zero, List.set_cons_succ, List.getElem?_cons_zero, List.getElem?_cons_succ, List.replicate_succ, List.replicate_zero, Nat.reduceSub, Nat.reduceAdd, List.length_cons, List.length_nil, Option.bind_some, Option.map_some, Bool.false_eq_true, if_true, if_false, reduceIte, Bool.and_true, Bool.true_and, Bool.and_false, Bool.false_and, Bool.or_true, Bool.true_or, Bool.or_false, Bool.false_or, Bool.not_true, Bool.not_false, DL.isNon, isSub, reduceCtorEq, decide_true, decide_false, clrO, Bool.or_self, Bool.and_self, Nat.reduceLT, Int.reduceLT, Int.reduceLE, Int.reduceAdd, Int.reduceSub, Int.reduceNeg, Int.reduceMul, Int.reduceEq, Int.cast_ofNat_Int, gk0, gk1, gk2, gk3, gk4, gk5, gk6, gk7, gk8, gk9, gk10, gk11, gk12, mMeth_eq, methO_ok, mRgI3_eq, mFrz_eq, frzO_s, mAug_eq, augO_s, dAddA_i, dTupX_l, dTupX_t, rowD_t, rowD_f, dList_f, dTupX_f, dRev_f, mTryAs, e]
  | none =>
    rw [h, elim_none] at e
    simp only [bnd_ok, bnd_er, sE_ok, sE_er, mSeq_eq, seqO_nx, seqO_rt, seqO_er, seqO_bk, seqO_ct, mIf_eq, ifO_ok, ifO_er, mVar_z, mVar_s, mVarD_z, mVarD_s, mC_eq, mBin_eq, mUn_eq, mCB_eq, mNil_eq, mCons_eq, mSet_eq, mRet_eq, mSkip_eq, mBrk_eq, mCnt_eq, mRaise_eq, mRetN_eq, mDrop_eq, mTst_eq, tstO_bl, tstO_er, mAndT_eq, andT_ok, andT_f, andT_t, andT_er, mOrT_eq, orT_ok, orT_f, orT_t, orT_er, mNotT_eq, mAnd_eq, andD_ok, andD_f, andD_t, andD_er, mOr_eq, orD_ok, orD_f, orD_t, orD_er, dNot_bl, dAdd_i, dSub_i, dNeg_i, dCmp_i, dInt_i, dInt_b, dAbs_i, dMax_i, dMin_i, dLen_l, dLen_t, dLen_f, dList_l, dList_t, dTuple_l, dTuple_t, dRev_l, dRev_t, dIx_l, dIx_t, dIx_f, dIsN_n, dNotN_n, mTup_eq, mLst_eq, mSl_eq, mNone_eq, mSome_eq, someO_i, dSl_t, dSl_l, mFor_eq, mItems_eq, itemsO_l, itemsO_t, itemsO_f, mRgI1_eq, mRgI2_eq, outR_nx, outR_rt, outR_er, run1, run2, run3, run4, forGo_nil, forGo_cons, forO_nx, forO_ct, forO_bk, forO_rt, forO_er, gD_eq, mMut_eq, mutO_l, subO_eq, ownD_z, ownD_s, dSet_l, List.set_cons_zero, List.set_cons_succ, List.getElem?_cons_zero, List.getElem?_cons_succ, List.replicate_succ, List.replicate_zero, Nat.reduceSub, Nat.reduceAdd, List.length_cons, List.length_nil, Option.bind_some, Option.map_some, Bool.false_eq_true, if_true, if_false, reduceIte, Bool.and_true, Bool.true_and, Bool.and_false, Bool.false_and, Bool.or_true, Bool.true_or, Bool.or_false, Bool.false_or, Bool.not_true, Bool.not_false, DL.isNon, isSub, reduceCtorEq, decide_true, decide_false, clrO, Bool.or_self, Bool.and_self, Nat.reduceLT, Int.reduceLT, Int.reduceLE, Int.reduceAdd, Int.reduceSub, Int.reduceNeg, Int.reduceMul, Int.reduceEq, Int.cast_ofNat_Int, gk0, gk1, gk2, gk3, gk4, gk5, gk6, gk7, gk8, gk9, gk10, gk11, gk12, mMeth_eq, methO_ok, mRgI3_eq, mFrz_eq, frzO_s, mAug_eq, augO_s, dAddA_i, dTupX_l, dTupX_t, rowD_t, rowD_f, dList_f, dTupX_f, dRev_f, mTryAs, e]
theorem toPs_mv : ∀ ms : List Mv, (ms.map mvD).mapM (toP 31) = some (ms.map fun m => PyData.tuple (PyData.str (S m.1) :: m.2.map PyData.int))
  | [] => rfl
  | m :: ms => by
    have h := toPs_mv ms
    have hi : ∀ l : List Int, (l.map D.int).mapM (toP 30) = some (l.map PyData.int) := by
      intro l
      induction l with
      | nil => rfl
      | cons i l ih =>
        rw [List.map_cons, List.mapM_cons, ih]
        rfl
    have h0 : toP 31 (mvD m) = some (PyData.tuple (PyData.str (S m.1) :: m.2.map PyData.int)) := by
      show ((D.str (S m.1) :: m.2.map D.int).mapM (toP 30)).map PyData.tuple = _
      rw [List.mapM_cons, hi]
      rfl
    rw [List.map_cons, List.mapM_cons, h0, h]
    rfl
theorem eqv_mv : ∀ ms : List Mv, PyData.eqvAll (ms.map fun m => PyData.tuple (PyData.str (S m.1) :: m.2.map PyData.int)) (ms.map fun m => PyData.tuple (PyData.str (S m.1) :: m.2.map PyData.int)) = true
  | [] => rfl
  | m :: ms => by
    rw [List.map_cons, PyData.eqvAll, eqv_mv ms, PyData.eqv, PyData.eqvAll, eqv_ss, eqvAll_ii, decide_eq_true rfl, decide_eq_true rfl]
    rfl
theorem eq_self (ms : List Mv) : dEqv (.tup (ms.map mvD)) (.tup (ms.map mvD)) = some true := by
  have h : toP 32 (.tup (ms.map mvD)) = some (PyData.tuple (ms.map fun m => PyData.tuple (PyData.str (S m.1) :: m.2.map PyData.int))) := by
    show ((ms.map mvD).mapM (toP 31)).map PyData.tuple = _
    rw [toPs_mv]
    rfl
  unfold dEqv
  rw [h]
  show some (PyData.eqv _ _) = _
  rw [PyData.eqv, eqv_mv]
theorem eq_mv (ms : List Mv) : dEq (.tup (ms.map mvD)) (.tup (ms.map mvD)) = some (.ok (.bl true)) := by
  unfold dEq
  rw [eq_self]
theorem ne_mv (ms : List Mv) : dNe (.tup (ms.map mvD)) (.tup (ms.map mvD)) = some (.ok (.bl false)) := by
  unfold dNe
  rw [eq_self]
  rfl
theorem sl_any (lo hi : Option Int) (l : List Nat) (h : l.length ≤ lim) : ∃ x : List Nat, dSl lo hi (.str (S l)) = some (.ok (.str (S x))) ∧ x.length ≤ l.length := by
  refine ⟨(cutS (S l) lo hi).cps.toList, ?_, ?_⟩
  · show guard ((S l).length ≤ lim) (ok (D.str (cutS (S l) lo hi))) = (_ : R D)
    rw [SX.S_len, SX.S_tl]
    exact guard_t h _
  · have := cutS_length (S l) lo hi
    rw [SX.S_len] at this
    rw [show (cutS (S l) lo hi).cps.toList.length = (cutS (S l) lo hi).length from (TL.len_tl _).symm]
    exact this
def nmD : List D := [.str (S cSwap), .str (S cTake), .str (S cFlip), .str (S cTurn), .str (S cCut), .str (S cJoin), .str (S cNext), .str (S cBlocks), .str (S cRecut)]
theorem gw_all : ∀ w ∈ [cSwap, cTake, cFlip, cTurn, cCut, cJoin, cNext, cBlocks, cRecut], GW w := by
  unfold GW
  decide
theorem name_at (k : Int) (h0 : 0 ≤ k) (h9 : k < 9) : ∃ w, L2.atI nmD k = some (.str (S w)) ∧ GW w := by
  have hc : k = 0 ∨ k = 1 ∨ k = 2 ∨ k = 3 ∨ k = 4 ∨ k = 5 ∨ k = 6 ∨ k = 7 ∨ k = 8 := by omega
  rcases hc with h | h | h | h | h | h | h | h | h <;> subst h
  · exact ⟨cSwap, rfl, gw_all _ (by simp)⟩
  · exact ⟨cTake, rfl, gw_all _ (by simp)⟩
  · exact ⟨cFlip, rfl, gw_all _ (by simp)⟩
  · exact ⟨cTurn, rfl, gw_all _ (by simp)⟩
  · exact ⟨cCut, rfl, gw_all _ (by simp)⟩
  · exact ⟨cJoin, rfl, gw_all _ (by simp)⟩
  · exact ⟨cNext, rfl, gw_all _ (by simp)⟩
  · exact ⟨cBlocks, rfl, gw_all _ (by simp)⟩
  · exact ⟨cRecut, rfl, gw_all _ (by simp)⟩
theorem moves_go (ns : List Int) (s5 s6 s7 s8 s9 s10 : Option (D × Bool)) : ∀ (m k : Nat) (ms : List Mv) (s2 s3 s4 : Option (D × Bool)), k + m = 8 → ms.length ≤ k → (∀ x ∈ ms, GM x) →
    ∃ (ms' : List Mv) (s2' s3' s4' : Option (D × Bool)), forGo (gD 2) lb_law_1 ((List.range' k m).map fun i : Nat => D.int (i : Int)) [some (.fz false (ns.map D.int), false), some (.lst (ms.map mvD), true), s2, s3, s4, s5, s6, s7, s8, s9, s10] = some (.nx [some (.fz false (ns.map D.int), false), some (.lst (ms'.map mvD), true), s2', s3', s4', s5, s6, s7, s8, s9, s10]) ∧ ms'.length ≤ 8 ∧ ∀ x ∈ ms', GM x := by
  intro m
  induction m with
  | zero =>
    intro k ms s2 s3 s4 hk hl hg
    exact ⟨ms, s2, s3, s4, by rw [List.range'_zero]; simp only [bnd_ok, bnd_er, sE_ok, sE_er, mSeq_eq, seqO_nx, seqO_rt, seqO_er, seqO_bk, seqO_ct, mIf_eq, ifO_ok, ifO_er, mVar_z, mVar_s, mVarD_z, mVarD_s, mC_eq, mBin_eq, mUn_eq, mCB_eq, mNil_eq, mCons_eq, mSet_eq, mRet_eq, mSkip_eq, mBrk_eq, mCnt_eq, mRaise_eq, mRetN_eq, mDrop_eq, mTst_eq, tstO_bl, tstO_er, mAndT_eq, andT_ok, andT_f, andT_t, andT_er, mOrT_eq, orT_ok, orT_f, orT_t, orT_er, mNotT_eq, mAnd_eq, andD_ok, andD_f, andD_t, andD_er, mOr_eq, orD_ok, orD_f, orD_t, orD_er, dNot_bl, dAdd_i, dSub_i, dNeg_i, dCmp_i, dInt_i, dInt_b, dAbs_i, dMax_i, dMin_i, dLen_l, dLen_t, dLen_f, dList_l, dList_t, dTuple_l, dTuple_t, dRev_l, dRev_t, dIx_l, dIx_t, dIx_f, dIsN_n, dNotN_n, mTup_eq, mLst_eq, mSl_eq, mNone_eq, mSome_eq, someO_i, dSl_t, dSl_l, mFor_eq, mItems_eq, itemsO_l, itemsO_t, itemsO_f, mRgI1_eq, mRgI2_eq, outR_nx, outR_rt, outR_er, run1, run2, run3, run4, forGo_nil, forGo_cons, forO_nx, forO_ct, forO_bk, forO_rt, forO_er, gD_eq, mMut_eq, mutO_l, subO_eq, ownD_z, ownD_s, dSet_l, List.set_cons_zero, List.set_cons_succ, List.getElem?_cons_zero, List.getElem?_cons_succ, List.replicate_succ, List.replicate_zero, Nat.reduceSub, Nat.reduceAdd, List.length_cons, List.length_nil, Option.bind_some, Option.map_some, Bool.false_eq_true, if_true, if_false, reduceIte, Bool.and_true, Bool.true_and, Bool.and_false, Bool.false_and, Bool.or_true, Bool.true_or, Bool.or_false, Bool.false_or, Bool.not_true, Bool.not_false, DL.isNon, isSub, reduceCtorEq, decide_true, decide_false, clrO, Bool.or_self, Bool.and_self, Nat.reduceLT, Int.reduceLT, Int.reduceLE, Int.reduceAdd, Int.reduceSub, Int.reduceNeg, Int.reduceMul, Int.reduceEq, Int.cast_ofNat_Int, gk0, gk1, gk2, gk3, gk4, gk5, gk6, gk7, gk8, gk9, gk10, gk11, gk12, mMeth_eq, methO_ok, mRgI3_eq, mFrz_eq, frzO_s, mAug_eq, augO_s, dAddA_i, dTupX_l, dTupX_t, rowD_t, rowD_f, dList_f, dTupX_f, dRev_f, List.map_nil], by omega, hg⟩
  | succ m ih =>
    intro k ms s2 s3 s4 hk hl hg
    have ek : (2 : Int) + (k : Int) = ((2 + k : Nat) : Int) := by omega
    rw [List.range'_succ, List.map_cons]
    by_cases hb : ns.length ≤ 2 + k
    · have d1 : decide (((ns.length : Nat) : Int) ≤ ((2 + k : Nat) : Int)) = true := decide_eq_true (by omega)
      refine ⟨ms, some (.int (k : Int), false), s3, s4, ?_, by omega, hg⟩
      simp only [bnd_ok, bnd_er, sE_ok, sE_er, mSeq_eq, seqO_nx, seqO_rt, seqO_er, seqO_bk, seqO_ct, mIf_eq, ifO_ok, ifO_er, mVar_z, mVar_s, mVarD_z, mVarD_s, mC_eq, mBin_eq, mUn_eq, mCB_eq, mNil_eq, mCons_eq, mSet_eq, mRet_eq, mSkip_eq, mBrk_eq, mCnt_eq, mRaise_eq, mRetN_eq, mDrop_eq, mTst_eq, tstO_bl, tstO_er, mAndT_eq, andT_ok, andT_f, andT_t, andT_er, mOrT_eq, orT_ok, orT_f, orT_t, orT_er, mNotT_eq, mAnd_eq, andD_ok, andD_f, andD_t, andD_er, mOr_eq, orD_ok, orD_f, orD_t, orD_er, dNot_bl, dAdd_i, dSub_i, dNeg_i, dCmp_i, dInt_i, dInt_b, dAbs_i, dMax_i, dMin_i, dLen_l, dLen_t, dLen_f, dList_l, dList_t, dTuple_l, dTuple_t, dRev_l, dRev_t, dIx_l, dIx_t, dIx_f, dIsN_n, dNotN_n, mTup_eq, mLst_eq, mSl_eq, mNone_eq, mSome_eq, someO_i, dSl_t, dSl_l, mFor_eq, mItems_eq, itemsO_l, itemsO_t, itemsO_f, mRgI1_eq, mRgI2_eq, outR_nx, outR_rt, outR_er, run1, run2, run3, run4, forGo_nil, forGo_cons, forO_nx, forO_ct, forO_bk, forO_rt, forO_er, gD_eq, mMut_eq, mutO_l, subO_eq, ownD_z, ownD_s, dSet_l, List.set_cons_zero, List.set_cons_succ, List.getElem?_cons_zero, List.getElem?_cons_succ, List.replicate_succ, List.replicate_zero, Nat.reduceSub, Nat.reduceAdd, List.length_cons, List.length_nil, Option.bind_some, Option.map_some, Bool.false_eq_true, if_true, if_false, reduceIte, Bool.and_true, Bool.true_and, Bool.and_false, Bool.false_and, Bool.or_true, Bool.true_or, Bool.or_false, Bool.false_or, Bool.not_true, Bool.not_false, DL.isNon, isSub, reduceCtorEq, decide_true, decide_false, clrO, Bool.or_self, Bool.and_self, Nat.reduceLT, Int.reduceLT, Int.reduceLE, Int.reduceAdd, Int.reduceSub, Int.reduceNeg, Int.reduceMul, Int.reduceEq, Int.cast_ofNat_Int, gk0, gk1, gk2, gk3, gk4, gk5, gk6, gk7, gk8, gk9, gk10, gk11, gk12, mMeth_eq, methO_ok, mRgI3_eq, mFrz_eq, frzO_s, mAug_eq, augO_s, dAddA_i, dTupX_l, dTupX_t, rowD_t, rowD_f, dList_f, dTupX_f, dRev_f, lb_law_1, lb_law_1_1, ek, List.length_map, dGe, d1]
    · have d1 : decide (((ns.length : Nat) : Int) ≤ ((2 + k : Nat) : Int)) = false := decide_eq_false (by omega)
      have hd := digs_ok (richP (cellP ns (2 + k))) [9, 41, 41, 41, 41] (by intro s hs; simp at hs; omega) (by simp)
      have rr := rich_ok (cellP ns (2 + k))
      generalize richP (cellP ns (2 + k)) = c at hd rr
      have hds : digs c [9, 41, 41, 41, 41] = [c % 9, c / 9 % 41, c / 9 / 41 % 41, c / 9 / 41 / 41 % 41, c / 9 / 41 / 41 / 41 % 41] := rfl
      rw [hds] at hd
      have hm41 : ∀ z : Int, 0 ≤ z % 41 ∧ z % 41 ≤ 40 := fun z => by omega
      obtain ⟨w, hw, gw⟩ := name_at (c % 9) (by omega) (by omega)
      have q1 := hm41 (c / 9)
      have q2 := hm41 (c / 9 / 41)
      have q3 := hm41 (c / 9 / 41 / 41)
      have q4 := hm41 (c / 9 / 41 / 41 / 41)
      generalize c % 9 = e0 at hd hw
      generalize c / 9 % 41 = e1 at hd q1
      generalize c / 9 / 41 % 41 = e2 at hd q2
      generalize c / 9 / 41 / 41 % 41 = e3 at hd q3
      generalize c / 9 / 41 / 41 / 41 % 41 = e4 at hd q4
      obtain ⟨l, hl2, hlen, hmem⟩ : ∃ l : List Int, cut ([e0, e1, e2, e3, e4].map D.int) (some (1 : Int)) (some ((1 + cnt w : Nat) : Int)) = l.map D.int ∧ l.length = cnt w ∧ ∀ i ∈ l, 0 ≤ i ∧ i ≤ 40 := by
        refine ⟨[e1, e2, e3, e4].take (cnt w), ?_, by rw [List.length_take]; have := gw.2.1; simp only [List.length_cons, List.length_nil]; omega, fun i hi => ?_⟩
        · have := cut_nn ([e0, e1, e2, e3, e4].map D.int) 1 (1 + cnt w) (by simp) (by have := gw.2.1; simp only [List.length_map, List.length_cons, List.length_nil]; omega)
          rw [List.map_take]
          refine this.trans ?_
          rw [show 1 + cnt w - 1 = cnt w by omega]
          rfl
        · have := List.mem_of_mem_take hi
          simp only [List.mem_cons, List.not_mem_nil, or_false] at this
          rcases this with h | h | h | h <;> rw [h] <;> assumption
      simp only [List.map_cons, List.map_nil] at hl2 hd
      have hw' : L2.atI [D.str (S cSwap), .str (S cTake), .str (S cFlip), .str (S cTurn), .str (S cCut), .str (S cJoin), .str (S cNext), .str (S cBlocks), .str (S cRecut)] e0 = some (.str (S w)) := hw
      have ha := add_mv w l (Nat.lt_of_le_of_lt (m := 600) (by have := gw.2.1; omega) (by decide))
      have ce : (1 : Int) + ((cnt w : Nat) : Int) = ((1 + cnt w : Nat) : Int) := by omega
      have cc := cell_ok ns (2 + k)
      have la : (ms.map mvD).length < 1000000 := by rw [List.length_map]; omega
      have eL : lb_law_1 [some (.fz false (ns.map D.int), false), some (.lst (ms.map mvD), true), some (.int (k : Int), false), s3, s4, s5, s6, s7, s8, s9, s10] = some (.nx [some (.fz false (ns.map D.int), false), some (.lst ((ms ++ [(w, l)]).map mvD), true), some (.int (k : Int), false), some (.lst [.int e0, .int e1, .int e2, .int e3, .int e4], false), some (.str (S w), false), s5, s6, s7, s8, s9, s10]) := by
        simp only [bnd_ok, bnd_er, sE_ok, sE_er, mSeq_eq, seqO_nx, seqO_rt, seqO_er, seqO_bk, seqO_ct, mIf_eq, ifO_ok, ifO_er, mVar_z, mVar_s, mVarD_z, mVarD_s, mC_eq, mBin_eq, mUn_eq, mCB_eq, mNil_eq, mCons_eq, mSet_eq, mRet_eq, mSkip_eq, mBrk_eq, mCnt_eq, mRaise_eq, mRetN_eq, mDrop_eq, mTst_eq, tstO_bl, tstO_er, mAndT_eq, andT_ok, andT_f, andT_t, andT_er, mOrT_eq, orT_ok, orT_f, orT_t, orT_er, mNotT_eq, mAnd_eq, andD_ok, andD_f, andD_t, andD_er, mOr_eq, orD_ok, orD_f, orD_t, orD_er, dNot_bl, dAdd_i, dSub_i, dNeg_i, dCmp_i, dInt_i, dInt_b, dAbs_i, dMax_i, dMin_i, dLen_l, dLen_t, dLen_f, dList_l, dList_t, dTuple_l, dTuple_t, dRev_l, dRev_t, dIx_l, dIx_t, dIx_f, dIsN_n, dNotN_n, mTup_eq, mLst_eq, mSl_eq, mNone_eq, mSome_eq, someO_i, dSl_t, dSl_l, mFor_eq, mItems_eq, itemsO_l, itemsO_t, itemsO_f, mRgI1_eq, mRgI2_eq, outR_nx, outR_rt, outR_er, run1, run2, run3, run4, forGo_nil, forGo_cons, forO_nx, forO_ct, forO_bk, forO_rt, forO_er, gD_eq, mMut_eq, mutO_l, subO_eq, ownD_z, ownD_s, dSet_l, List.set_cons_zero, List.set_cons_succ, List.getElem?_cons_zero, List.getElem?_cons_succ, List.replicate_succ, List.replicate_zero, Nat.reduceSub, Nat.reduceAdd, List.length_cons, List.length_nil, Option.bind_some, Option.map_some, Bool.false_eq_true, if_true, if_false, reduceIte, Bool.and_true, Bool.true_and, Bool.and_false, Bool.false_and, Bool.or_true, Bool.true_or, Bool.or_false, Bool.false_or, Bool.not_true, Bool.not_false, DL.isNon, isSub, reduceCtorEq, decide_true, decide_false, clrO, Bool.or_self, Bool.and_self, Nat.reduceLT, Int.reduceLT, Int.reduceLE, Int.reduceAdd, Int.reduceSub, Int.reduceNeg, Int.reduceMul, Int.reduceEq, Int.cast_ofNat_Int, gk0, gk1, gk2, gk3, gk4, gk5, gk6, gk7, gk8, gk9, gk10, gk11, gk12, mMeth_eq, methO_ok, mRgI3_eq, mFrz_eq, frzO_s, mAug_eq, augO_s, dAddA_i, dTupX_l, dTupX_t, rowD_t, rowD_f, dList_f, dTupX_f, dRev_f, lb_law_1, lb_law_1_1, lb_law_1_2, lb_law_1_3, lb_law_1_4, ek, List.length_map, dGe, d1, cc, rr, hd, at_hd, sc_swap, sc_next, sc_take, sc_flip, sc_blocks, sc_turn, sc_recut, sc_cut, sc_join, guard_0, hw', law_count_val w, ce, hl2, ha, fApp_1 _ _ la, List.map_append, List.map_cons, List.map_nil]
      obtain ⟨ms', s2', s3', s4', e, q, g⟩ := ih (k + 1) (ms ++ [(w, l)]) (some (.int (k : Int), false)) (some (.lst [.int e0, .int e1, .int e2, .int e3, .int e4], false)) (some (.str (S w), false)) (by omega) (by rw [List.length_append, List.length_singleton]; omega) (fun x hx => by
        rcases List.mem_append.mp hx with hx | hx
        · exact hg x hx
        · rw [List.mem_singleton.mp hx]; exact ⟨gw, hlen, hmem⟩)
      refine ⟨ms', s2', s3', s4', ?_, q, g⟩
      simp only [bnd_ok, bnd_er, sE_ok, sE_er, mSeq_eq, seqO_nx, seqO_rt, seqO_er, seqO_bk, seqO_ct, mIf_eq, ifO_ok, ifO_er, mVar_z, mVar_s, mVarD_z, mVarD_s, mC_eq, mBin_eq, mUn_eq, mCB_eq, mNil_eq, mCons_eq, mSet_eq, mRet_eq, mSkip_eq, mBrk_eq, mCnt_eq, mRaise_eq, mRetN_eq, mDrop_eq, mTst_eq, tstO_bl, tstO_er, mAndT_eq, andT_ok, andT_f, andT_t, andT_er, mOrT_eq, orT_ok, orT_f, orT_t, orT_er, mNotT_eq, mAnd_eq, andD_ok, andD_f, andD_t, andD_er, mOr_eq, orD_ok, orD_f, orD_t, orD_er, dNot_bl, dAdd_i, dSub_i, dNeg_i, dCmp_i, dInt_i, dInt_b, dAbs_i, dMax_i, dMin_i, dLen_l, dLen_t, dLen_f, dList_l, dList_t, dTuple_l, dTuple_t, dRev_l, dRev_t, dIx_l, dIx_t, dIx_f, dIsN_n, dNotN_n, mTup_eq, mLst_eq, mSl_eq, mNone_eq, mSome_eq, someO_i, dSl_t, dSl_l, mFor_eq, mItems_eq, itemsO_l, itemsO_t, itemsO_f, mRgI1_eq, mRgI2_eq, outR_nx, outR_rt, outR_er, run1, run2, run3, run4, forGo_nil, forGo_cons, forO_nx, forO_ct, forO_bk, forO_rt, forO_er, gD_eq, mMut_eq, mutO_l, subO_eq, ownD_z, ownD_s, dSet_l, List.set_cons_zero, List.set_cons_succ, List.getElem?_cons_zero, List.getElem?_cons_succ, List.replicate_succ, List.replicate_zero, Nat.reduceSub, Nat.reduceAdd, List.length_cons, List.length_nil, Option.bind_some, Option.map_some, Bool.false_eq_true, if_true, if_false, reduceIte, Bool.and_true, Bool.true_and, Bool.and_false, Bool.false_and, Bool.or_true, Bool.true_or, Bool.or_false, Bool.false_or, Bool.not_true, Bool.not_false, DL.isNon, isSub, reduceCtorEq, decide_true, decide_false, clrO, Bool.or_self, Bool.and_self, Nat.reduceLT, Int.reduceLT, Int.reduceLE, Int.reduceAdd, Int.reduceSub, Int.reduceNeg, Int.reduceMul, Int.reduceEq, Int.cast_ofNat_Int, gk0, gk1, gk2, gk3, gk4, gk5, gk6, gk7, gk8, gk9, gk10, gk11, gk12, mMeth_eq, methO_ok, mRgI3_eq, mFrz_eq, frzO_s, mAug_eq, augO_s, dAddA_i, dTupX_l, dTupX_t, rowD_t, rowD_f, dList_f, dTupX_f, dRev_f]
      rw [eL]
      simp only [bnd_ok, bnd_er, sE_ok, sE_er, mSeq_eq, seqO_nx, seqO_rt, seqO_er, seqO_bk, seqO_ct, mIf_eq, ifO_ok, ifO_er, mVar_z, mVar_s, mVarD_z, mVarD_s, mC_eq, mBin_eq, mUn_eq, mCB_eq, mNil_eq, mCons_eq, mSet_eq, mRet_eq, mSkip_eq, mBrk_eq, mCnt_eq, mRaise_eq, mRetN_eq, mDrop_eq, mTst_eq, tstO_bl, tstO_er, mAndT_eq, andT_ok, andT_f, andT_t, andT_er, mOrT_eq, orT_ok, orT_f, orT_t, orT_er, mNotT_eq, mAnd_eq, andD_ok, andD_f, andD_t, andD_er, mOr_eq, orD_ok, orD_f, orD_t, orD_er, dNot_bl, dAdd_i, dSub_i, dNeg_i, dCmp_i, dInt_i, dInt_b, dAbs_i, dMax_i, dMin_i, dLen_l, dLen_t, dLen_f, dList_l, dList_t, dTuple_l, dTuple_t, dRev_l, dRev_t, dIx_l, dIx_t, dIx_f, dIsN_n, dNotN_n, mTup_eq, mLst_eq, mSl_eq, mNone_eq, mSome_eq, someO_i, dSl_t, dSl_l, mFor_eq, mItems_eq, itemsO_l, itemsO_t, itemsO_f, mRgI1_eq, mRgI2_eq, outR_nx, outR_rt, outR_er, run1, run2, run3, run4, forGo_nil, forGo_cons, forO_nx, forO_ct, forO_bk, forO_rt, forO_er, gD_eq, mMut_eq, mutO_l, subO_eq, ownD_z, ownD_s, dSet_l, List.set_cons_zero, List.set_cons_succ, List.getElem?_cons_zero, List.getElem?_cons_succ, List.replicate_succ, List.replicate_zero, Nat.reduceSub, Nat.reduceAdd, List.length_cons, List.length_nil, Option.bind_some, Option.map_some, Bool.false_eq_true, if_true, if_false, reduceIte, Bool.and_true, Bool.true_and, Bool.and_false, Bool.false_and, Bool.or_true, Bool.true_or, Bool.or_false, Bool.false_or, Bool.not_true, Bool.not_false, DL.isNon, isSub, reduceCtorEq, decide_true, decide_false, clrO, Bool.or_self, Bool.and_self, Nat.reduceLT, Int.reduceLT, Int.reduceLE, Int.reduceAdd, Int.reduceSub, Int.reduceNeg, Int.reduceMul, Int.reduceEq, Int.cast_ofNat_Int, gk0, gk1, gk2, gk3, gk4, gk5, gk6, gk7, gk8, gk9, gk10, gk11, gk12, mMeth_eq, methO_ok, mRgI3_eq, mFrz_eq, frzO_s, mAug_eq, augO_s, dAddA_i, dTupX_l, dTupX_t, rowD_t, rowD_f, dList_f, dTupX_f, dRev_f]
      exact e
theorem dig4 (c : Int) : ∃ a b d e : Nat, m__law_digits [.int c, .lst [.int 4, .int 400, .int 22, .int 3]] = some (.ok (.lst [.int a, .int b, .int d, .int e])) ∧ a < 4 ∧ b < 400 ∧ d < 22 ∧ e < 3 := by
  have h := digs_ok c [4, 400, 22, 3] (by intro s hs; simp at hs; omega) (by simp)
  obtain ⟨a, ha⟩ := Int.eq_ofNat_of_zero_le (Int.emod_nonneg c (show (4 : Int) ≠ 0 by decide))
  obtain ⟨b, hb⟩ := Int.eq_ofNat_of_zero_le (Int.emod_nonneg (c / 4) (show (400 : Int) ≠ 0 by decide))
  obtain ⟨d, hd⟩ := Int.eq_ofNat_of_zero_le (Int.emod_nonneg (c / 4 / 400) (show (22 : Int) ≠ 0 by decide))
  obtain ⟨e, he⟩ := Int.eq_ofNat_of_zero_le (Int.emod_nonneg (c / 4 / 400 / 22) (show (3 : Int) ≠ 0 by decide))
  have q : digs c [4, 400, 22, 3] = [(a : Int), (b : Int), (d : Int), (e : Int)] := by
    show [c % 4, c / 4 % 400, c / 4 / 400 % 22, c / 4 / 400 / 22 % 3] = _
    rw [ha, hb, hd, he]
  rw [q] at h
  exact ⟨a, b, d, e, h, by omega, by omega, by omega, by omega⟩
theorem chars22 : ("0123456789 ;\nacnosutw-" : Str) = S [48, 49, 50, 51, 52, 53, 54, 55, 56, 57, 32, 59, 10, 97, 99, 110, 111, 115, 117, 116, 119, 45] := by decide +kernel
theorem read_eq (x : List Nat) (h : x.length ≤ 600) : ∃ v, m__law_read [.str (S x)] = some (.ok v) ∧ m__law_script_of [.str (S x)] = some (.ok v) ∧ dEq v v = some (.ok (.bl true)) := by
  refine ⟨_, law_read_val x h, law_script_of_val x h, ?_⟩
  cases scrW x with
  | none => rfl
  | some ms => exact eq_mv ms
theorem plain (ns : List Int) (hl : ns.length ≤ 63) (hb : ∀ z ∈ ns, Builtin.Int.intBits z ≤ 1048576) : m_law [.fz false (ns.map D.int)] = ok (.bl true) := by
  obtain ⟨ms, s2, s3, s4, e2, hn, hg⟩ := moves_go ns none none none none none none 8 0 [] none none none rfl (Nat.le_refl _) (fun x hx => by cases hx)
  rw [← List.range_eq_range'] at e2
  obtain ⟨da, db, dd, de, hd, ha, hb', hd', he⟩ := dig4 (richP (cellP ns 1))
  have c1 := cell_ok ns 1
  simp only [Int.cast_ofNat_Int] at c1
  have tl := textS_len hg hn
  have tlim : (textS ms).length ≤ lim := Nat.le_trans tl (by decide)
  have l3 : mLc (mItems (mVar 1)) [9] (gD 9) mYes (mStr1 dJoin (mC (.str " ")) (mLc (mItems (mVar 9)) [10] (gD 10) mYes (mCB dStr (mCons (mVar 10) mNil)))) [some (.fz false (ns.map D.int), false), some (.lst (ms.map mvD), true), s2, s3, s4, none, none, none, none, none, none] = some (.ok (.lst ((ms.map textM).map fun y => D.str (S y)))) := by
    rw [lcx_is ms mvD (fun _ => true) (fun m => .str (S (textM m))) (by simp only [bnd_ok, bnd_er, sE_ok, sE_er, mSeq_eq, seqO_nx, seqO_rt, seqO_er, seqO_bk, seqO_ct, mIf_eq, ifO_ok, ifO_er, mVar_z, mVar_s, mVarD_z, mVarD_s, mC_eq, mBin_eq, mUn_eq, mCB_eq, mNil_eq, mCons_eq, mSet_eq, mRet_eq, mSkip_eq, mBrk_eq, mCnt_eq, mRaise_eq, mRetN_eq, mDrop_eq, mTst_eq, tstO_bl, tstO_er, mAndT_eq, andT_ok, andT_f, andT_t, andT_er, mOrT_eq, orT_ok, orT_f, orT_t, orT_er, mNotT_eq, mAnd_eq, andD_ok, andD_f, andD_t, andD_er, mOr_eq, orD_ok, orD_f, orD_t, orD_er, dNot_bl, dAdd_i, dSub_i, dNeg_i, dCmp_i, dInt_i, dInt_b, dAbs_i, dMax_i, dMin_i, dLen_l, dLen_t, dLen_f, dList_l, dList_t, dTuple_l, dTuple_t, dRev_l, dRev_t, dIx_l, dIx_t, dIx_f, dIsN_n, dNotN_n, mTup_eq, mLst_eq, mSl_eq, mNone_eq, mSome_eq, someO_i, dSl_t, dSl_l, mFor_eq, mItems_eq, itemsO_l, itemsO_t, itemsO_f, mRgI1_eq, mRgI2_eq, outR_nx, outR_rt, outR_er, run1, run2, run3, run4, forGo_nil, forGo_cons, forO_nx, forO_ct, forO_bk, forO_rt, forO_er, gD_eq, mMut_eq, mutO_l, subO_eq, ownD_z, ownD_s, dSet_l, List.set_cons_zero, List.set_cons_succ, List.getElem?_cons_zero, List.getElem?_cons_succ, List.replicate_succ, List.replicate_zero, Nat.reduceSub, Nat.reduceAdd, List.length_cons, List.length_nil, Option.bind_some, Option.map_some, Bool.false_eq_true, if_true, if_false, reduceIte, Bool.and_true, Bool.true_and, Bool.and_false, Bool.false_and, Bool.or_true, Bool.true_or, Bool.or_false, Bool.false_or, Bool.not_true, Bool.not_false, DL.isNon, isSub, reduceCtorEq, decide_true, decide_false, clrO, Bool.or_self, Bool.and_self, Nat.reduceLT, Int.reduceLT, Int.reduceLE, Int.reduceAdd, Int.reduceSub, Int.reduceNeg, Int.reduceMul, Int.reduceEq, Int.cast_ofNat_Int, gk0, gk1, gk2, gk3, gk4, gk5, gk6, gk7, gk8, gk9, gk10, gk11, gk12, mMeth_eq, methO_ok, mRgI3_eq, mFrz_eq, frzO_s, mAug_eq, augO_s, dAddA_i, dTupX_l, dTupX_t, rowD_t, rowD_f, dList_f, dTupX_f, dRev_f]) rfl (by omega)]
    · rw [List.filter_eq_self.mpr (fun _ _ => rfl), List.map_map]
      rfl
    · intro m hm
      refine ⟨rfl, fun _ => ?_⟩
      have inner : mLc (mItems (mVar 9)) [10] (gD 10) mYes (mCB dStr (mCons (mVar 10) mNil)) [some (.fz false (ns.map D.int), false), some (.lst (ms.map mvD), true), s2, s3, s4, none, none, none, none, some (mvD m, false), none] = some (.ok (.lst ((wordsM m).map fun y => D.str (S y)))) := by
        have g := hg m hm
        have hl : (itM m).length ≤ 5 := by
          unfold itM
          rw [List.length_cons, List.length_map, g.2.1]
          have := g.1.2.1
          omega
        rw [lcx_is (itM m) (·.2) (fun _ => true) (fun p => .str (S p.1)) (by unfold mvD; simp only [bnd_ok, bnd_er, sE_ok, sE_er, mSeq_eq, seqO_nx, seqO_rt, seqO_er, seqO_bk, seqO_ct, mIf_eq, ifO_ok, ifO_er, mVar_z, mVar_s, mVarD_z, mVarD_s, mC_eq, mBin_eq, mUn_eq, mCB_eq, mNil_eq, mCons_eq, mSet_eq, mRet_eq, mSkip_eq, mBrk_eq, mCnt_eq, mRaise_eq, mRetN_eq, mDrop_eq, mTst_eq, tstO_bl, tstO_er, mAndT_eq, andT_ok, andT_f, andT_t, andT_er, mOrT_eq, orT_ok, orT_f, orT_t, orT_er, mNotT_eq, mAnd_eq, andD_ok, andD_f, andD_t, andD_er, mOr_eq, orD_ok, orD_f, orD_t, orD_er, dNot_bl, dAdd_i, dSub_i, dNeg_i, dCmp_i, dInt_i, dInt_b, dAbs_i, dMax_i, dMin_i, dLen_l, dLen_t, dLen_f, dList_l, dList_t, dTuple_l, dTuple_t, dRev_l, dRev_t, dIx_l, dIx_t, dIx_f, dIsN_n, dNotN_n, mTup_eq, mLst_eq, mSl_eq, mNone_eq, mSome_eq, someO_i, dSl_t, dSl_l, mFor_eq, mItems_eq, itemsO_l, itemsO_t, itemsO_f, mRgI1_eq, mRgI2_eq, outR_nx, outR_rt, outR_er, run1, run2, run3, run4, forGo_nil, forGo_cons, forO_nx, forO_ct, forO_bk, forO_rt, forO_er, gD_eq, mMut_eq, mutO_l, subO_eq, ownD_z, ownD_s, dSet_l, List.set_cons_zero, List.set_cons_succ, List.getElem?_cons_zero, List.getElem?_cons_succ, List.replicate_succ, List.replicate_zero, Nat.reduceSub, Nat.reduceAdd, List.length_cons, List.length_nil, Option.bind_some, Option.map_some, Bool.false_eq_true, if_true, if_false, reduceIte, Bool.and_true, Bool.true_and, Bool.and_false, Bool.false_and, Bool.or_true, Bool.true_or, Bool.or_false, Bool.false_or, Bool.not_true, Bool.not_false, DL.isNon, isSub, reduceCtorEq, decide_true, decide_false, clrO, Bool.or_self, Bool.and_self, Nat.reduceLT, Int.reduceLT, Int.reduceLE, Int.reduceAdd, Int.reduceSub, Int.reduceNeg, Int.reduceMul, Int.reduceEq, Int.cast_ofNat_Int, gk0, gk1, gk2, gk3, gk4, gk5, gk6, gk7, gk8, gk9, gk10, gk11, gk12, mMeth_eq, methO_ok, mRgI3_eq, mFrz_eq, frzO_s, mAug_eq, augO_s, dAddA_i, dTupX_l, dTupX_t, rowD_t, rowD_f, dList_f, dTupX_f, dRev_f]; rw [itM_snd]) rfl (by omega)]
        · rw [List.filter_eq_self.mpr (fun _ _ => rfl), itM_fst]
        · intro p hp
          refine ⟨rfl, fun _ => ?_⟩
          show mCB dStr (mCons (mVar 10) mNil) [some (.fz false (ns.map D.int), false), some (.lst (ms.map mvD), true), s2, s3, s4, none, none, none, none, some (mvD m, false), some (p.2, false)] = _
          simp only [bnd_ok, bnd_er, sE_ok, sE_er, mSeq_eq, seqO_nx, seqO_rt, seqO_er, seqO_bk, seqO_ct, mIf_eq, ifO_ok, ifO_er, mVar_z, mVar_s, mVarD_z, mVarD_s, mC_eq, mBin_eq, mUn_eq, mCB_eq, mNil_eq, mCons_eq, mSet_eq, mRet_eq, mSkip_eq, mBrk_eq, mCnt_eq, mRaise_eq, mRetN_eq, mDrop_eq, mTst_eq, tstO_bl, tstO_er, mAndT_eq, andT_ok, andT_f, andT_t, andT_er, mOrT_eq, orT_ok, orT_f, orT_t, orT_er, mNotT_eq, mAnd_eq, andD_ok, andD_f, andD_t, andD_er, mOr_eq, orD_ok, orD_f, orD_t, orD_er, dNot_bl, dAdd_i, dSub_i, dNeg_i, dCmp_i, dInt_i, dInt_b, dAbs_i, dMax_i, dMin_i, dLen_l, dLen_t, dLen_f, dList_l, dList_t, dTuple_l, dTuple_t, dRev_l, dRev_t, dIx_l, dIx_t, dIx_f, dIsN_n, dNotN_n, mTup_eq, mLst_eq, mSl_eq, mNone_eq, mSome_eq, someO_i, dSl_t, dSl_l, mFor_eq, mItems_eq, itemsO_l, itemsO_t, itemsO_f, mRgI1_eq, mRgI2_eq, outR_nx, outR_rt, outR_er, run1, run2, run3, run4, forGo_nil, forGo_cons, forO_nx, forO_ct, forO_bk, forO_rt, forO_er, gD_eq, mMut_eq, mutO_l, subO_eq, ownD_z, ownD_s, dSet_l, List.set_cons_zero, List.set_cons_succ, List.getElem?_cons_zero, List.getElem?_cons_succ, List.replicate_succ, List.replicate_zero, Nat.reduceSub, Nat.reduceAdd, List.length_cons, List.length_nil, Option.bind_some, Option.map_some, Bool.false_eq_true, if_true, if_false, reduceIte, Bool.and_true, Bool.true_and, Bool.and_false, Bool.false_and, Bool.or_true, Bool.true_or, Bool.or_false, Bool.false_or, Bool.not_true, Bool.not_false, DL.isNon, isSub, reduceCtorEq, decide_true, decide_false, clrO, Bool.or_self, Bool.and_self, Nat.reduceLT, Int.reduceLT, Int.reduceLE, Int.reduceAdd, Int.reduceSub, Int.reduceNeg, Int.reduceMul, Int.reduceEq, Int.cast_ofNat_Int, gk0, gk1, gk2, gk3, gk4, gk5, gk6, gk7, gk8, gk9, gk10, gk11, gk12, mMeth_eq, methO_ok, mRgI3_eq, mFrz_eq, frzO_s, mAug_eq, augO_s, dAddA_i, dTupX_l, dTupX_t, rowD_t, rowD_f, dList_f, dTupX_f, dRev_f, itM_str g p hp]
      show mStr1 dJoin (mC (.str " ")) (mLc (mItems (mVar 9)) [10] (gD 10) mYes (mCB dStr (mCons (mVar 10) mNil))) [some (.fz false (ns.map D.int), false), some (.lst (ms.map mvD), true), s2, s3, s4, none, none, none, none, some (mvD m, false), none] = _
      simp only [bnd_ok, bnd_er, sE_ok, sE_er, mSeq_eq, seqO_nx, seqO_rt, seqO_er, seqO_bk, seqO_ct, mIf_eq, ifO_ok, ifO_er, mVar_z, mVar_s, mVarD_z, mVarD_s, mC_eq, mBin_eq, mUn_eq, mCB_eq, mNil_eq, mCons_eq, mSet_eq, mRet_eq, mSkip_eq, mBrk_eq, mCnt_eq, mRaise_eq, mRetN_eq, mDrop_eq, mTst_eq, tstO_bl, tstO_er, mAndT_eq, andT_ok, andT_f, andT_t, andT_er, mOrT_eq, orT_ok, orT_f, orT_t, orT_er, mNotT_eq, mAnd_eq, andD_ok, andD_f, andD_t, andD_er, mOr_eq, orD_ok, orD_f, orD_t, orD_er, dNot_bl, dAdd_i, dSub_i, dNeg_i, dCmp_i, dInt_i, dInt_b, dAbs_i, dMax_i, dMin_i, dLen_l, dLen_t, dLen_f, dList_l, dList_t, dTuple_l, dTuple_t, dRev_l, dRev_t, dIx_l, dIx_t, dIx_f, dIsN_n, dNotN_n, mTup_eq, mLst_eq, mSl_eq, mNone_eq, mSome_eq, someO_i, dSl_t, dSl_l, mFor_eq, mItems_eq, itemsO_l, itemsO_t, itemsO_f, mRgI1_eq, mRgI2_eq, outR_nx, outR_rt, outR_er, run1, run2, run3, run4, forGo_nil, forGo_cons, forO_nx, forO_ct, forO_bk, forO_rt, forO_er, gD_eq, mMut_eq, mutO_l, subO_eq, ownD_z, ownD_s, dSet_l, List.set_cons_zero, List.set_cons_succ, List.getElem?_cons_zero, List.getElem?_cons_succ, List.replicate_succ, List.replicate_zero, Nat.reduceSub, Nat.reduceAdd, List.length_cons, List.length_nil, Option.bind_some, Option.map_some, Bool.false_eq_true, if_true, if_false, reduceIte, Bool.and_true, Bool.true_and, Bool.and_false, Bool.false_and, Bool.or_true, Bool.true_or, Bool.or_false, Bool.false_or, Bool.not_true, Bool.not_false, DL.isNon, isSub, reduceCtorEq, decide_true, decide_false, clrO, Bool.or_self, Bool.and_self, Nat.reduceLT, Int.reduceLT, Int.reduceLE, Int.reduceAdd, Int.reduceSub, Int.reduceNeg, Int.reduceMul, Int.reduceEq, Int.cast_ofNat_Int, gk0, gk1, gk2, gk3, gk4, gk5, gk6, gk7, gk8, gk9, gk10, gk11, gk12, mMeth_eq, methO_ok, mRgI3_eq, mFrz_eq, frzO_s, mAug_eq, augO_s, dAddA_i, dTupX_l, dTupX_t, rowD_t, rowD_f, dList_f, dTupX_f, dRev_f, mStr1_eq, guard_str, inner, join_m (hg m hm)]
  have ws := write_script_val hg hn
  have rd := law_read_val (textS ms) (by omega)
  rw [scrW_text hg] at rd
  have sw := scrW_text hg
  unfold m_law b_law
  simp only [bnd_ok, bnd_er, sE_ok, sE_er, mSeq_eq, seqO_nx, seqO_rt, seqO_er, seqO_bk, seqO_ct, mIf_eq, ifO_ok, ifO_er, mVar_z, mVar_s, mVarD_z, mVarD_s, mC_eq, mBin_eq, mUn_eq, mCB_eq, mNil_eq, mCons_eq, mSet_eq, mRet_eq, mSkip_eq, mBrk_eq, mCnt_eq, mRaise_eq, mRetN_eq, mDrop_eq, mTst_eq, tstO_bl, tstO_er, mAndT_eq, andT_ok, andT_f, andT_t, andT_er, mOrT_eq, orT_ok, orT_f, orT_t, orT_er, mNotT_eq, mAnd_eq, andD_ok, andD_f, andD_t, andD_er, mOr_eq, orD_ok, orD_f, orD_t, orD_er, dNot_bl, dAdd_i, dSub_i, dNeg_i, dCmp_i, dInt_i, dInt_b, dAbs_i, dMax_i, dMin_i, dLen_l, dLen_t, dLen_f, dList_l, dList_t, dTuple_l, dTuple_t, dRev_l, dRev_t, dIx_l, dIx_t, dIx_f, dIsN_n, dNotN_n, mTup_eq, mLst_eq, mSl_eq, mNone_eq, mSome_eq, someO_i, dSl_t, dSl_l, mFor_eq, mItems_eq, itemsO_l, itemsO_t, itemsO_f, mRgI1_eq, mRgI2_eq, outR_nx, outR_rt, outR_er, run1, run2, run3, run4, forGo_nil, forGo_cons, forO_nx, forO_ct, forO_bk, forO_rt, forO_er, gD_eq, mMut_eq, mutO_l, subO_eq, ownD_z, ownD_s, dSet_l, List.set_cons_zero, List.set_cons_succ, List.getElem?_cons_zero, List.getElem?_cons_succ, List.replicate_succ, List.replicate_zero, Nat.reduceSub, Nat.reduceAdd, List.length_cons, List.length_nil, Option.bind_some, Option.map_some, Bool.false_eq_true, if_true, if_false, reduceIte, Bool.and_true, Bool.true_and, Bool.and_false, Bool.false_and, Bool.or_true, Bool.true_or, Bool.or_false, Bool.false_or, Bool.not_true, Bool.not_false, DL.isNon, isSub, reduceCtorEq, decide_true, decide_false, clrO, Bool.or_self, Bool.and_self, Nat.reduceLT, Int.reduceLT, Int.reduceLE, Int.reduceAdd, Int.reduceSub, Int.reduceNeg, Int.reduceMul, Int.reduceEq, Int.cast_ofNat_Int, gk0, gk1, gk2, gk3, gk4, gk5, gk6, gk7, gk8, gk9, gk10, gk11, gk12, mMeth_eq, methO_ok, mRgI3_eq, mFrz_eq, frzO_s, mAug_eq, augO_s, dAddA_i, dTupX_l, dTupX_t, rowD_t, rowD_f, dList_f, dTupX_f, dRev_f, st_law_1, st_law_2, guard_0, rgI1_i 8 (by decide)]
  rw [show rgD 0 8 = (List.range 8).map fun i : Nat => D.int (i : Int) from rgD_nat 8, show ([] : List D) = ([] : List Mv).map mvD from rfl, e2]
  simp only [bnd_ok, bnd_er, sE_ok, sE_er, mSeq_eq, seqO_nx, seqO_rt, seqO_er, seqO_bk, seqO_ct, mIf_eq, ifO_ok, ifO_er, mVar_z, mVar_s, mVarD_z, mVarD_s, mC_eq, mBin_eq, mUn_eq, mCB_eq, mNil_eq, mCons_eq, mSet_eq, mRet_eq, mSkip_eq, mBrk_eq, mCnt_eq, mRaise_eq, mRetN_eq, mDrop_eq, mTst_eq, tstO_bl, tstO_er, mAndT_eq, andT_ok, andT_f, andT_t, andT_er, mOrT_eq, orT_ok, orT_f, orT_t, orT_er, mNotT_eq, mAnd_eq, andD_ok, andD_f, andD_t, andD_er, mOr_eq, orD_ok, orD_f, orD_t, orD_er, dNot_bl, dAdd_i, dSub_i, dNeg_i, dCmp_i, dInt_i, dInt_b, dAbs_i, dMax_i, dMin_i, dLen_l, dLen_t, dLen_f, dList_l, dList_t, dTuple_l, dTuple_t, dRev_l, dRev_t, dIx_l, dIx_t, dIx_f, dIsN_n, dNotN_n, mTup_eq, mLst_eq, mSl_eq, mNone_eq, mSome_eq, someO_i, dSl_t, dSl_l, mFor_eq, mItems_eq, itemsO_l, itemsO_t, itemsO_f, mRgI1_eq, mRgI2_eq, outR_nx, outR_rt, outR_er, run1, run2, run3, run4, forGo_nil, forGo_cons, forO_nx, forO_ct, forO_bk, forO_rt, forO_er, gD_eq, mMut_eq, mutO_l, subO_eq, ownD_z, ownD_s, dSet_l, List.set_cons_zero, List.set_cons_succ, List.getElem?_cons_zero, List.getElem?_cons_succ, List.replicate_succ, List.replicate_zero, Nat.reduceSub, Nat.reduceAdd, List.length_cons, List.length_nil, Option.bind_some, Option.map_some, Bool.false_eq_true, if_true, if_false, reduceIte, Bool.and_true, Bool.true_and, Bool.and_false, Bool.false_and, Bool.or_true, Bool.true_or, Bool.or_false, Bool.false_or, Bool.not_true, Bool.not_false, DL.isNon, isSub, reduceCtorEq, decide_true, decide_false, clrO, Bool.or_self, Bool.and_self, Nat.reduceLT, Int.reduceLT, Int.reduceLE, Int.reduceAdd, Int.reduceSub, Int.reduceNeg, Int.reduceMul, Int.reduceEq, Int.cast_ofNat_Int, gk0, gk1, gk2, gk3, gk4, gk5, gk6, gk7, gk8, gk9, gk10, gk11, gk12, mMeth_eq, methO_ok, mRgI3_eq, mFrz_eq, frzO_s, mAug_eq, augO_s, dAddA_i, dTupX_l, dTupX_t, rowD_t, rowD_f, dList_f, dTupX_f, dRev_f, st_law_3, mStr1_eq, guard_str, l3, join_s hg hn]
  simp only [bnd_ok, bnd_er, sE_ok, sE_er, mSeq_eq, seqO_nx, seqO_rt, seqO_er, seqO_bk, seqO_ct, mIf_eq, ifO_ok, ifO_er, mVar_z, mVar_s, mVarD_z, mVarD_s, mC_eq, mBin_eq, mUn_eq, mCB_eq, mNil_eq, mCons_eq, mSet_eq, mRet_eq, mSkip_eq, mBrk_eq, mCnt_eq, mRaise_eq, mRetN_eq, mDrop_eq, mTst_eq, tstO_bl, tstO_er, mAndT_eq, andT_ok, andT_f, andT_t, andT_er, mOrT_eq, orT_ok, orT_f, orT_t, orT_er, mNotT_eq, mAnd_eq, andD_ok, andD_f, andD_t, andD_er, mOr_eq, orD_ok, orD_f, orD_t, orD_er, dNot_bl, dAdd_i, dSub_i, dNeg_i, dCmp_i, dInt_i, dInt_b, dAbs_i, dMax_i, dMin_i, dLen_l, dLen_t, dLen_f, dList_l, dList_t, dTuple_l, dTuple_t, dRev_l, dRev_t, dIx_l, dIx_t, dIx_f, dIsN_n, dNotN_n, mTup_eq, mLst_eq, mSl_eq, mNone_eq, mSome_eq, someO_i, dSl_t, dSl_l, mFor_eq, mItems_eq, itemsO_l, itemsO_t, itemsO_f, mRgI1_eq, mRgI2_eq, outR_nx, outR_rt, outR_er, run1, run2, run3, run4, forGo_nil, forGo_cons, forO_nx, forO_ct, forO_bk, forO_rt, forO_er, gD_eq, mMut_eq, mutO_l, subO_eq, ownD_z, ownD_s, dSet_l, List.set_cons_zero, List.set_cons_succ, List.getElem?_cons_zero, List.getElem?_cons_succ, List.replicate_succ, List.replicate_zero, Nat.reduceSub, Nat.reduceAdd, List.length_cons, List.length_nil, Option.bind_some, Option.map_some, Bool.false_eq_true, if_true, if_false, reduceIte, Bool.and_true, Bool.true_and, Bool.and_false, Bool.false_and, Bool.or_true, Bool.true_or, Bool.or_false, Bool.false_or, Bool.not_true, Bool.not_false, DL.isNon, isSub, reduceCtorEq, decide_true, decide_false, clrO, Bool.or_self, Bool.and_self, Nat.reduceLT, Int.reduceLT, Int.reduceLE, Int.reduceAdd, Int.reduceSub, Int.reduceNeg, Int.reduceMul, Int.reduceEq, Int.cast_ofNat_Int, gk0, gk1, gk2, gk3, gk4, gk5, gk6, gk7, gk8, gk9, gk10, gk11, gk12, mMeth_eq, methO_ok, mRgI3_eq, mFrz_eq, frzO_s, mAug_eq, augO_s, dAddA_i, dTupX_l, dTupX_t, rowD_t, rowD_f, dList_f, dTupX_f, dRev_f, st_law_4, ws, ne_T, rd, ne_mv]
  simp only [bnd_ok, bnd_er, sE_ok, sE_er, mSeq_eq, seqO_nx, seqO_rt, seqO_er, seqO_bk, seqO_ct, mIf_eq, ifO_ok, ifO_er, mVar_z, mVar_s, mVarD_z, mVarD_s, mC_eq, mBin_eq, mUn_eq, mCB_eq, mNil_eq, mCons_eq, mSet_eq, mRet_eq, mSkip_eq, mBrk_eq, mCnt_eq, mRaise_eq, mRetN_eq, mDrop_eq, mTst_eq, tstO_bl, tstO_er, mAndT_eq, andT_ok, andT_f, andT_t, andT_er, mOrT_eq, orT_ok, orT_f, orT_t, orT_er, mNotT_eq, mAnd_eq, andD_ok, andD_f, andD_t, andD_er, mOr_eq, orD_ok, orD_f, orD_t, orD_er, dNot_bl, dAdd_i, dSub_i, dNeg_i, dCmp_i, dInt_i, dInt_b, dAbs_i, dMax_i, dMin_i, dLen_l, dLen_t, dLen_f, dList_l, dList_t, dTuple_l, dTuple_t, dRev_l, dRev_t, dIx_l, dIx_t, dIx_f, dIsN_n, dNotN_n, mTup_eq, mLst_eq, mSl_eq, mNone_eq, mSome_eq, someO_i, dSl_t, dSl_l, mFor_eq, mItems_eq, itemsO_l, itemsO_t, itemsO_f, mRgI1_eq, mRgI2_eq, outR_nx, outR_rt, outR_er, run1, run2, run3, run4, forGo_nil, forGo_cons, forO_nx, forO_ct, forO_bk, forO_rt, forO_er, gD_eq, mMut_eq, mutO_l, subO_eq, ownD_z, ownD_s, dSet_l, List.set_cons_zero, List.set_cons_succ, List.getElem?_cons_zero, List.getElem?_cons_succ, List.replicate_succ, List.replicate_zero, Nat.reduceSub, Nat.reduceAdd, List.length_cons, List.length_nil, Option.bind_some, Option.map_some, Bool.false_eq_true, if_true, if_false, reduceIte, Bool.and_true, Bool.true_and, Bool.and_false, Bool.false_and, Bool.or_true, Bool.true_or, Bool.or_false, Bool.false_or, Bool.not_true, Bool.not_false, DL.isNon, isSub, reduceCtorEq, decide_true, decide_false, clrO, Bool.or_self, Bool.and_self, Nat.reduceLT, Int.reduceLT, Int.reduceLE, Int.reduceAdd, Int.reduceSub, Int.reduceNeg, Int.reduceMul, Int.reduceEq, Int.cast_ofNat_Int, gk0, gk1, gk2, gk3, gk4, gk5, gk6, gk7, gk8, gk9, gk10, gk11, gk12, mMeth_eq, methO_ok, mRgI3_eq, mFrz_eq, frzO_s, mAug_eq, augO_s, dAddA_i, dTupX_l, dTupX_t, rowD_t, rowD_f, dList_f, dTupX_f, dRev_f, st_law_5, c1, rich_ok, hd]
  have add_T : ∀ (a b : List Nat), a.length + b.length ≤ 600 → dAdd (.str (S a)) (.str (S b)) = some (.ok (.str (S (a ++ b)))) := fun a b h => d_add_S a b (Nat.le_trans h (by decide))
  have i0 : L2.atI [D.int (da : Int), .int (db : Int), .int (dd : Int), .int (de : Int)] 0 = some (.int da) := rfl
  have i1 : L2.atI [D.int (da : Int), .int (db : Int), .int (dd : Int), .int (de : Int)] 1 = some (.int db) := rfl
  have i2 : L2.atI [D.int (da : Int), .int (db : Int), .int (dd : Int), .int (de : Int)] 2 = some (.int dd) := rfl
  have i3 : L2.atI [D.int (da : Int), .int (db : Int), .int (dd : Int), .int (de : Int)] 3 = some (.int de) := rfl
  have lt := len_T (textS ms) tlim
  generalize textS ms = t at *
  have pp : (0 : Int) < ((t.length : Nat) : Int) + 1 := by omega
  obtain ⟨x1, hx1, lx1⟩ := sl_any none (some (((db : Nat) : Int) % (((t.length : Nat) : Int) + 1))) t tlim
  obtain ⟨z, hz⟩ : ∃ z : Nat, ([48, 49, 50, 51, 52, 53, 54, 55, 56, 57, 32, 59, 10, 97, 99, 110, 111, 115, 117, 116, 119, 45] : List Nat)[dd]? = some z := ⟨_, List.getElem?_eq_getElem (by simpa using hd')⟩
  have hz2 := ix_T hz (by decide)
  obtain ⟨y, hy, ly⟩ : ∃ y : List Nat, L2.atI [D.str (S []), .str (S [z]), .str (S [z])] (de : Int) = some (.str (S y)) ∧ y.length ≤ 1 := by
    have : de = 0 ∨ de = 1 ∨ de = 2 := by omega
    rcases this with h | h | h <;> subst h
    · exact ⟨[], rfl, by decide⟩
    · exact ⟨[z], rfl, Nat.le_refl _⟩
    · exact ⟨[z], rfl, Nat.le_refl _⟩
  simp only [bnd_ok, bnd_er, sE_ok, sE_er, mSeq_eq, seqO_nx, seqO_rt, seqO_er, seqO_bk, seqO_ct, mIf_eq, ifO_ok, ifO_er, mVar_z, mVar_s, mVarD_z, mVarD_s, mC_eq, mBin_eq, mUn_eq, mCB_eq, mNil_eq, mCons_eq, mSet_eq, mRet_eq, mSkip_eq, mBrk_eq, mCnt_eq, mRaise_eq, mRetN_eq, mDrop_eq, mTst_eq, tstO_bl, tstO_er, mAndT_eq, andT_ok, andT_f, andT_t, andT_er, mOrT_eq, orT_ok, orT_f, orT_t, orT_er, mNotT_eq, mAnd_eq, andD_ok, andD_f, andD_t, andD_er, mOr_eq, orD_ok, orD_f, orD_t, orD_er, dNot_bl, dAdd_i, dSub_i, dNeg_i, dCmp_i, dInt_i, dInt_b, dAbs_i, dMax_i, dMin_i, dLen_l, dLen_t, dLen_f, dList_l, dList_t, dTuple_l, dTuple_t, dRev_l, dRev_t, dIx_l, dIx_t, dIx_f, dIsN_n, dNotN_n, mTup_eq, mLst_eq, mSl_eq, mNone_eq, mSome_eq, someO_i, dSl_t, dSl_l, mFor_eq, mItems_eq, itemsO_l, itemsO_t, itemsO_f, mRgI1_eq, mRgI2_eq, outR_nx, outR_rt, outR_er, run1, run2, run3, run4, forGo_nil, forGo_cons, forO_nx, forO_ct, forO_bk, forO_rt, forO_er, gD_eq, mMut_eq, mutO_l, subO_eq, ownD_z, ownD_s, dSet_l, List.set_cons_zero, List.set_cons_succ, List.getElem?_cons_zero, List.getElem?_cons_succ, List.replicate_succ, List.replicate_zero, Nat.reduceSub, Nat.reduceAdd, List.length_cons, List.length_nil, Option.bind_some, Option.map_some, Bool.false_eq_true, if_true, if_false, reduceIte, Bool.and_true, Bool.true_and, Bool.and_false, Bool.false_and, Bool.or_true, Bool.true_or, Bool.or_false, Bool.false_or, Bool.not_true, Bool.not_false, DL.isNon, isSub, reduceCtorEq, decide_true, decide_false, clrO, Bool.or_self, Bool.and_self, Nat.reduceLT, Int.reduceLT, Int.reduceLE, Int.reduceAdd, Int.reduceSub, Int.reduceNeg, Int.reduceMul, Int.reduceEq, Int.cast_ofNat_Int, gk0, gk1, gk2, gk3, gk4, gk5, gk6, gk7, gk8, gk9, gk10, gk11, gk12, mMeth_eq, methO_ok, mRgI3_eq, mFrz_eq, frzO_s, mAug_eq, augO_s, dAddA_i, dTupX_l, dTupX_t, rowD_t, rowD_f, dList_f, dTupX_f, dRev_f, st_law_6, i1, lt, dMod_i _ _ pp]
  simp only [bnd_ok, bnd_er, sE_ok, sE_er, mSeq_eq, seqO_nx, seqO_rt, seqO_er, seqO_bk, seqO_ct, mIf_eq, ifO_ok, ifO_er, mVar_z, mVar_s, mVarD_z, mVarD_s, mC_eq, mBin_eq, mUn_eq, mCB_eq, mNil_eq, mCons_eq, mSet_eq, mRet_eq, mSkip_eq, mBrk_eq, mCnt_eq, mRaise_eq, mRetN_eq, mDrop_eq, mTst_eq, tstO_bl, tstO_er, mAndT_eq, andT_ok, andT_f, andT_t, andT_er, mOrT_eq, orT_ok, orT_f, orT_t, orT_er, mNotT_eq, mAnd_eq, andD_ok, andD_f, andD_t, andD_er, mOr_eq, orD_ok, orD_f, orD_t, orD_er, dNot_bl, dAdd_i, dSub_i, dNeg_i, dCmp_i, dInt_i, dInt_b, dAbs_i, dMax_i, dMin_i, dLen_l, dLen_t, dLen_f, dList_l, dList_t, dTuple_l, dTuple_t, dRev_l, dRev_t, dIx_l, dIx_t, dIx_f, dIsN_n, dNotN_n, mTup_eq, mLst_eq, mSl_eq, mNone_eq, mSome_eq, someO_i, dSl_t, dSl_l, mFor_eq, mItems_eq, itemsO_l, itemsO_t, itemsO_f, mRgI1_eq, mRgI2_eq, outR_nx, outR_rt, outR_er, run1, run2, run3, run4, forGo_nil, forGo_cons, forO_nx, forO_ct, forO_bk, forO_rt, forO_er, gD_eq, mMut_eq, mutO_l, subO_eq, ownD_z, ownD_s, dSet_l, List.set_cons_zero, List.set_cons_succ, List.getElem?_cons_zero, List.getElem?_cons_succ, List.replicate_succ, List.replicate_zero, Nat.reduceSub, Nat.reduceAdd, List.length_cons, List.length_nil, Option.bind_some, Option.map_some, Bool.false_eq_true, if_true, if_false, reduceIte, Bool.and_true, Bool.true_and, Bool.and_false, Bool.false_and, Bool.or_true, Bool.true_or, Bool.or_false, Bool.false_or, Bool.not_true, Bool.not_false, DL.isNon, isSub, reduceCtorEq, decide_true, decide_false, clrO, Bool.or_self, Bool.and_self, Nat.reduceLT, Int.reduceLT, Int.reduceLE, Int.reduceAdd, Int.reduceSub, Int.reduceNeg, Int.reduceMul, Int.reduceEq, Int.cast_ofNat_Int, gk0, gk1, gk2, gk3, gk4, gk5, gk6, gk7, gk8, gk9, gk10, gk11, gk12, mMeth_eq, methO_ok, mRgI3_eq, mFrz_eq, frzO_s, mAug_eq, augO_s, dAddA_i, dTupX_l, dTupX_t, rowD_t, rowD_f, dList_f, dTupX_f, dRev_f, st_law_7, i2, chars22, hz2]
  simp only [bnd_ok, bnd_er, sE_ok, sE_er, mSeq_eq, seqO_nx, seqO_rt, seqO_er, seqO_bk, seqO_ct, mIf_eq, ifO_ok, ifO_er, mVar_z, mVar_s, mVarD_z, mVarD_s, mC_eq, mBin_eq, mUn_eq, mCB_eq, mNil_eq, mCons_eq, mSet_eq, mRet_eq, mSkip_eq, mBrk_eq, mCnt_eq, mRaise_eq, mRetN_eq, mDrop_eq, mTst_eq, tstO_bl, tstO_er, mAndT_eq, andT_ok, andT_f, andT_t, andT_er, mOrT_eq, orT_ok, orT_f, orT_t, orT_er, mNotT_eq, mAnd_eq, andD_ok, andD_f, andD_t, andD_er, mOr_eq, orD_ok, orD_f, orD_t, orD_er, dNot_bl, dAdd_i, dSub_i, dNeg_i, dCmp_i, dInt_i, dInt_b, dAbs_i, dMax_i, dMin_i, dLen_l, dLen_t, dLen_f, dList_l, dList_t, dTuple_l, dTuple_t, dRev_l, dRev_t, dIx_l, dIx_t, dIx_f, dIsN_n, dNotN_n, mTup_eq, mLst_eq, mSl_eq, mNone_eq, mSome_eq, someO_i, dSl_t, dSl_l, mFor_eq, mItems_eq, itemsO_l, itemsO_t, itemsO_f, mRgI1_eq, mRgI2_eq, outR_nx, outR_rt, outR_er, run1, run2, run3, run4, forGo_nil, forGo_cons, forO_nx, forO_ct, forO_bk, forO_rt, forO_er, gD_eq, mMut_eq, mutO_l, subO_eq, ownD_z, ownD_s, dSet_l, List.set_cons_zero, List.set_cons_succ, List.getElem?_cons_zero, List.getElem?_cons_succ, List.replicate_succ, List.replicate_zero, Nat.reduceSub, Nat.reduceAdd, List.length_cons, List.length_nil, Option.bind_some, Option.map_some, Bool.false_eq_true, if_true, if_false, reduceIte, Bool.and_true, Bool.true_and, Bool.and_false, Bool.false_and, Bool.or_true, Bool.true_or, Bool.or_false, Bool.false_or, Bool.not_true, Bool.not_false, DL.isNon, isSub, reduceCtorEq, decide_true, decide_false, clrO, Bool.or_self, Bool.and_self, Nat.reduceLT, Int.reduceLT, Int.reduceLE, Int.reduceAdd, Int.reduceSub, Int.reduceNeg, Int.reduceMul, Int.reduceEq, Int.cast_ofNat_Int, gk0, gk1, gk2, gk3, gk4, gk5, gk6, gk7, gk8, gk9, gk10, gk11, gk12, mMeth_eq, methO_ok, mRgI3_eq, mFrz_eq, frzO_s, mAug_eq, augO_s, dAddA_i, dTupX_l, dTupX_t, rowD_t, rowD_f, dList_f, dTupX_f, dRev_f, st_law_8, i3, sc_e, guard_0, hy, hx1, dLt]
  generalize hq : (((db : Nat) : Int) % (((t.length : Nat) : Int) + 1) + if decide (((de : Nat) : Int) < 2) = true then (1 : Int) else 0) = q
  obtain ⟨x2, hx2, lx2⟩ := sl_any (some q) none t tlim
  obtain ⟨v1, r1, r2, r3⟩ := read_eq x1 (by omega)
  obtain ⟨v2, r4, r5, r6⟩ := read_eq ((x1 ++ y) ++ x2) (by simp only [List.length_append]; omega)
  simp only [bnd_ok, bnd_er, sE_ok, sE_er, mSeq_eq, seqO_nx, seqO_rt, seqO_er, seqO_bk, seqO_ct, mIf_eq, ifO_ok, ifO_er, mVar_z, mVar_s, mVarD_z, mVarD_s, mC_eq, mBin_eq, mUn_eq, mCB_eq, mNil_eq, mCons_eq, mSet_eq, mRet_eq, mSkip_eq, mBrk_eq, mCnt_eq, mRaise_eq, mRetN_eq, mDrop_eq, mTst_eq, tstO_bl, tstO_er, mAndT_eq, andT_ok, andT_f, andT_t, andT_er, mOrT_eq, orT_ok, orT_f, orT_t, orT_er, mNotT_eq, mAnd_eq, andD_ok, andD_f, andD_t, andD_er, mOr_eq, orD_ok, orD_f, orD_t, orD_er, dNot_bl, dAdd_i, dSub_i, dNeg_i, dCmp_i, dInt_i, dInt_b, dAbs_i, dMax_i, dMin_i, dLen_l, dLen_t, dLen_f, dList_l, dList_t, dTuple_l, dTuple_t, dRev_l, dRev_t, dIx_l, dIx_t, dIx_f, dIsN_n, dNotN_n, mTup_eq, mLst_eq, mSl_eq, mNone_eq, mSome_eq, someO_i, dSl_t, dSl_l, mFor_eq, mItems_eq, itemsO_l, itemsO_t, itemsO_f, mRgI1_eq, mRgI2_eq, outR_nx, outR_rt, outR_er, run1, run2, run3, run4, forGo_nil, forGo_cons, forO_nx, forO_ct, forO_bk, forO_rt, forO_er, gD_eq, mMut_eq, mutO_l, subO_eq, ownD_z, ownD_s, dSet_l, List.set_cons_zero, List.set_cons_succ, List.getElem?_cons_zero, List.getElem?_cons_succ, List.replicate_succ, List.replicate_zero, Nat.reduceSub, Nat.reduceAdd, List.length_cons, List.length_nil, Option.bind_some, Option.map_some, Bool.false_eq_true, if_true, if_false, reduceIte, Bool.and_true, Bool.true_and, Bool.and_false, Bool.false_and, Bool.or_true, Bool.true_or, Bool.or_false, Bool.false_or, Bool.not_true, Bool.not_false, DL.isNon, isSub, reduceCtorEq, decide_true, decide_false, clrO, Bool.or_self, Bool.and_self, Nat.reduceLT, Int.reduceLT, Int.reduceLE, Int.reduceAdd, Int.reduceSub, Int.reduceNeg, Int.reduceMul, Int.reduceEq, Int.cast_ofNat_Int, gk0, gk1, gk2, gk3, gk4, gk5, gk6, gk7, gk8, gk9, gk10, gk11, gk12, mMeth_eq, methO_ok, mRgI3_eq, mFrz_eq, frzO_s, mAug_eq, augO_s, dAddA_i, dTupX_l, dTupX_t, rowD_t, rowD_f, dList_f, dTupX_f, dRev_f, hx2, add_T x1 y (by omega), add_T (x1 ++ y) x2 (by simp only [List.length_append]; omega)]
  by_cases h0 : da = 0
  · have d0 : decide (((da : Nat) : Int) = 0) = true := decide_eq_true (by omega)
    simp only [bnd_ok, bnd_er, sE_ok, sE_er, mSeq_eq, seqO_nx, seqO_rt, seqO_er, seqO_bk, seqO_ct, mIf_eq, ifO_ok, ifO_er, mVar_z, mVar_s, mVarD_z, mVarD_s, mC_eq, mBin_eq, mUn_eq, mCB_eq, mNil_eq, mCons_eq, mSet_eq, mRet_eq, mSkip_eq, mBrk_eq, mCnt_eq, mRaise_eq, mRetN_eq, mDrop_eq, mTst_eq, tstO_bl, tstO_er, mAndT_eq, andT_ok, andT_f, andT_t, andT_er, mOrT_eq, orT_ok, orT_f, orT_t, orT_er, mNotT_eq, mAnd_eq, andD_ok, andD_f, andD_t, andD_er, mOr_eq, orD_ok, orD_f, orD_t, orD_er, dNot_bl, dAdd_i, dSub_i, dNeg_i, dCmp_i, dInt_i, dInt_b, dAbs_i, dMax_i, dMin_i, dLen_l, dLen_t, dLen_f, dList_l, dList_t, dTuple_l, dTuple_t, dRev_l, dRev_t, dIx_l, dIx_t, dIx_f, dIsN_n, dNotN_n, mTup_eq, mLst_eq, mSl_eq, mNone_eq, mSome_eq, someO_i, dSl_t, dSl_l, mFor_eq, mItems_eq, itemsO_l, itemsO_t, itemsO_f, mRgI1_eq, mRgI2_eq, outR_nx, outR_rt, outR_er, run1, run2, run3, run4, forGo_nil, forGo_cons, forO_nx, forO_ct, forO_bk, forO_rt, forO_er, gD_eq, mMut_eq, mutO_l, subO_eq, ownD_z, ownD_s, dSet_l, List.set_cons_zero, List.set_cons_succ, List.getElem?_cons_zero, List.getElem?_cons_succ, List.replicate_succ, List.replicate_zero, Nat.reduceSub, Nat.reduceAdd, List.length_cons, List.length_nil, Option.bind_some, Option.map_some, Bool.false_eq_true, if_true, if_false, reduceIte, Bool.and_true, Bool.true_and, Bool.and_false, Bool.false_and, Bool.or_true, Bool.true_or, Bool.or_false, Bool.false_or, Bool.not_true, Bool.not_false, DL.isNon, isSub, reduceCtorEq, decide_true, decide_false, clrO, Bool.or_self, Bool.and_self, Nat.reduceLT, Int.reduceLT, Int.reduceLE, Int.reduceAdd, Int.reduceSub, Int.reduceNeg, Int.reduceMul, Int.reduceEq, Int.cast_ofNat_Int, gk0, gk1, gk2, gk3, gk4, gk5, gk6, gk7, gk8, gk9, gk10, gk11, gk12, mMeth_eq, methO_ok, mRgI3_eq, mFrz_eq, frzO_s, mAug_eq, augO_s, dAddA_i, dTupX_l, dTupX_t, rowD_t, rowD_f, dList_f, dTupX_f, dRev_f, st_law_9, st_law_10, i0, dEq_i, d0, hx1, r1, r2, r3]
  · have d0 : decide (((da : Nat) : Int) = 0) = false := decide_eq_false (by omega)
    simp only [bnd_ok, bnd_er, sE_ok, sE_er, mSeq_eq, seqO_nx, seqO_rt, seqO_er, seqO_bk, seqO_ct, mIf_eq, ifO_ok, ifO_er, mVar_z, mVar_s, mVarD_z, mVarD_s, mC_eq, mBin_eq, mUn_eq, mCB_eq, mNil_eq, mCons_eq, mSet_eq, mRet_eq, mSkip_eq, mBrk_eq, mCnt_eq, mRaise_eq, mRetN_eq, mDrop_eq, mTst_eq, tstO_bl, tstO_er, mAndT_eq, andT_ok, andT_f, andT_t, andT_er, mOrT_eq, orT_ok, orT_f, orT_t, orT_er, mNotT_eq, mAnd_eq, andD_ok, andD_f, andD_t, andD_er, mOr_eq, orD_ok, orD_f, orD_t, orD_er, dNot_bl, dAdd_i, dSub_i, dNeg_i, dCmp_i, dInt_i, dInt_b, dAbs_i, dMax_i, dMin_i, dLen_l, dLen_t, dLen_f, dList_l, dList_t, dTuple_l, dTuple_t, dRev_l, dRev_t, dIx_l, dIx_t, dIx_f, dIsN_n, dNotN_n, mTup_eq, mLst_eq, mSl_eq, mNone_eq, mSome_eq, someO_i, dSl_t, dSl_l, mFor_eq, mItems_eq, itemsO_l, itemsO_t, itemsO_f, mRgI1_eq, mRgI2_eq, outR_nx, outR_rt, outR_er, run1, run2, run3, run4, forGo_nil, forGo_cons, forO_nx, forO_ct, forO_bk, forO_rt, forO_er, gD_eq, mMut_eq, mutO_l, subO_eq, ownD_z, ownD_s, dSet_l, List.set_cons_zero, List.set_cons_succ, List.getElem?_cons_zero, List.getElem?_cons_succ, List.replicate_succ, List.replicate_zero, Nat.reduceSub, Nat.reduceAdd, List.length_cons, List.length_nil, Option.bind_some, Option.map_some, Bool.false_eq_true, if_true, if_false, reduceIte, Bool.and_true, Bool.true_and, Bool.and_false, Bool.false_and, Bool.or_true, Bool.true_or, Bool.or_false, Bool.false_or, Bool.not_true, Bool.not_false, DL.isNon, isSub, reduceCtorEq, decide_true, decide_false, clrO, Bool.or_self, Bool.and_self, Nat.reduceLT, Int.reduceLT, Int.reduceLE, Int.reduceAdd, Int.reduceSub, Int.reduceNeg, Int.reduceMul, Int.reduceEq, Int.cast_ofNat_Int, gk0, gk1, gk2, gk3, gk4, gk5, gk6, gk7, gk8, gk9, gk10, gk11, gk12, mMeth_eq, methO_ok, mRgI3_eq, mFrz_eq, frzO_s, mAug_eq, augO_s, dAddA_i, dTupX_l, dTupX_t, rowD_t, rowD_f, dList_f, dTupX_f, dRev_f, st_law_9, st_law_10, i0, dEq_i, d0, r4, r5, r6]
end Lw

set_option Elab.async false
set_option maxRecDepth 100000
set_option maxHeartbeats 4000000
set_option autoImplicit false
namespace Lw
open PySem L2 DL
def top (i : Nat) : Stmt := PySem.Challenge.pw_turnedrows_k51_scripts_written_and_read.main.body.getD i (.Pass ⟨0, 0, 0, 0⟩)
/-- the layer's fixed things: the written part, where the errors stand -/
def cf (K : PySem.W.Frag) (Er : EN → Option Addr) : Conf := { K := K, err := fun x C => Er x = some C, cls := fun _ _ => False, fn := fun _ _ => False, fx := [] }
structure Txt (K : PySem.W.Frag) (mg : Str → Option Value) (Er : EN → Option Addr) (w : World) (v_InvalidMove v_InvalidText v_TurnedrowsError : Addr) : Prop where
  b_any : mg "any" = none
  b_int : mg "int" = none
  b_isinstance : mg "isinstance" = none
  b_len : mg "len" = none
  b_range : mg "range" = none
  b_str : mg "str" = none
  b_tuple : mg "tuple" = none
  c_DIGITS : ∃ t, mg "DIGITS" = some (.str "0123456789" t)
  kd_SIZES : KDAt K w mg "SIZES" kd_SIZES
  e_InvalidText : ∃ C, ErrAt K mg (cf K Er) "InvalidText" .text C
  m_InvalidMove : mg "InvalidMove" = some (.ref v_InvalidMove)
  m_InvalidText : mg "InvalidText" = some (.ref v_InvalidText)
  m_TurnedrowsError : mg "TurnedrowsError" = some (.ref v_TurnedrowsError)
  xm_InvalidText : ∀ x C, (cf K Er).err x C → PySem.W.exmOne K (.ref C) (.ref v_InvalidText) = some (isSub x .text)
  xc : ∀ x C, (cf K Er).err x C → ExcC K C
  ki_InvalidMove : ∀ x C, (cf K Er).err x C → PySem.W.kitOne K (.ref C) (.ref v_InvalidMove) = some (isSub x .move)
  ki_TurnedrowsError : ∀ x C, (cf K Er).err x C → PySem.W.kitOne K (.ref C) (.ref v_TurnedrowsError) = some (isSub x .base)
section
variable {P : Program} {w : World} {K : PySem.W.Frag} {mg : Str → Option Value} {base : Heap} {Er : EN → Option Addr} {v_InvalidMove v_InvalidText v_TurnedrowsError : Addr}
theorem Txt.n_InvalidText (T : Txt K mg Er w v_InvalidMove v_InvalidText v_TurnedrowsError) {X : Cx} (hm : X.mg = mg := by rfl) (hg : Gl X "InvalidText" := by rfl) : Names X "InvalidText" (.ref v_InvalidText) := ⟨hg, by decide, .inl (by rw [hm]; exact T.m_InvalidText)⟩
theorem Txt.cl_InvalidText (T : Txt K mg Er w v_InvalidMove v_InvalidText v_TurnedrowsError) {X : Cx} (hK : X.K = K := by rfl) : Clause X (cf K Er) (.ref v_InvalidText) (fun x => isSub x .text) := fun x C h => by rw [hK]; exact T.xm_InvalidText x C h
abbrev s_write_script : Stmt := top 7
theorem sc_write_script : FnScope ["moves", "move", "item"] ["moves"] (defScope s_write_script) := ⟨rfl, rfl, rfl, by decide +kernel, rfl, by decide +kernel, by decide +kernel⟩
theorem ok_write_script (T : Txt K mg Er w v_InvalidMove v_InvalidText v_TurnedrowsError) {f : Addr} {fd : FuncData} (F : Fun K "write_script" "write_script" s_write_script f fd) (hm : mg "write_script" = some (.ref f)) (b : Binds K fd ["moves"] []) : FnAt P w K mg base (cf K Er) "write_script" 1 ["moves"] m_write_script := by
  have nd := (sc_write_script).nd
  refine fn_at (k := 0) F hm b sc_write_script rfl (by decide) (fun cdv A outer s H E' hr => ?_)
  have hu := hr.units
  exact s_one (s_ret (PE.dur_ret (d_join (PE.dur_bor (d_str)) (PE.dur_bor (PE.own_dur (d_lc [("move", 1)] (by rfl) nd (i_bor (d_var 0)) (by show blkC ["moves", "move", "item"] (defScope s_write_script) _ _ = true; decide +kernel) (fun _ _ _ _ _ => pg_name nd (by rfl) (by first | exact Or.inl (by rfl) | exact Or.inr (by rfl))) gok_name (fun _ _ _ _ _ => t_yes) (fun _ _ _ _ _ => d_join (PE.dur_bor (d_str)) (PE.dur_bor (PE.own_dur (d_lc [("item", 2)] (by rfl) nd (i_bor (d_var 1)) (by show blkC ["moves", "move", "item"] _ _ _ = true; kernel_rfl) (fun _ _ _ _ _ => pg_name nd (by rfl) (by first | exact Or.inl (by rfl) | exact Or.inr (by rfl))) gok_name (fun _ _ _ _ _ => t_yes) (fun _ _ _ _ _ => d_ty bi_str (by rfl) T.b_str (by decide +kernel) (b_cons (d_var 2) (b_nil)))))))))))))
abbrev s_plain_number : Stmt := top 8
theorem sc_plain_number : FnScope ["word", "character"] ["word"] (defScope s_plain_number) := ⟨rfl, rfl, rfl, by decide +kernel, rfl, by decide +kernel, by decide +kernel⟩
theorem ok_plain_number (T : Txt K mg Er w v_InvalidMove v_InvalidText v_TurnedrowsError) {f : Addr} {fd : FuncData} (F : Fun K "plain_number" "plain_number" s_plain_number f fd) (hm : mg "plain_number" = some (.ref f)) (b : Binds K fd ["word"] []) : FnAt P w K mg base (cf K Er) "plain_number" 1 ["word"] m_plain_number := by
  have nd := (sc_plain_number).nd
  obtain ⟨C_InvalidText, e_InvalidText⟩ := T.e_InvalidText
  refine fn_at (k := 0) F hm b sc_plain_number rfl (by decide) (fun cdv A outer s H E' hr => ?_)
  have hu := hr.units
  exact s_cons (s_if (PW.pt (w_or (t_cmp (q_eq hu) (d_var 0) (PE.dur_bor (d_str))) (w_or1 (t_val (d_bi (bi_any (by rfl)) (by rfl) T.b_any (by decide +kernel) (b_cons (PE.dur_bor (PE.own_dur (d_lc [("character", 1)] (by rfl) nd (i_chars (d_var 0)) (by show blkC ["word", "character"] (defScope s_plain_number) _ _ = true; decide +kernel) (fun _ _ _ _ _ => pg_name nd (by rfl) (by first | exact Or.inl (by rfl) | exact Or.inr (by rfl))) gok_name (fun _ _ _ _ _ => t_yes) (fun _ _ _ _ _ => d_cmp (q_notIn hu) (d_var 1) (PE.dur_bor (d_glob_str T.c_DIGITS)))))) (b_nil))))))) (s_one (s_raise (by rfl) tk_of e_InvalidText)) (s_nil)) (s_cons (s_if (PW.pt (w_and (t_cmp (q_eq hu) (PE.dur_bor (d_ix hu (d_var 0) (PE.dur_bor (d_int)))) (PE.dur_bor (d_str))) (w_and1 (t_cmp (q_gt) (PE.dur_bor (d_bi (bi_len) (by rfl) T.b_len (by decide +kernel) (b_cons (d_var 0) (b_nil)))) (PE.dur_bor (d_int)))))) (s_one (s_raise (by rfl) tk_of e_InvalidText)) (s_nil)) (s_one (s_ret (PE.dur_ret (d_ty (bi_intS) (by rfl) T.b_int (by decide +kernel) (b_cons (d_var 0) (b_nil)))))))
abbrev s_read_move : Stmt := top 9
theorem sc_read_move : FnScope ["line", "words", "word"] ["line"] (defScope s_read_move) := ⟨rfl, rfl, rfl, by decide +kernel, rfl, by decide +kernel, by decide +kernel⟩
theorem ok_read_move (T : Txt K mg Er w v_InvalidMove v_InvalidText v_TurnedrowsError) {f : Addr} {fd : FuncData} (F : Fun K "read_move" "read_move" s_read_move f fd) (hm : mg "read_move" = some (.ref f)) (b : Binds K fd ["line"] []) (G_plain_number : FnAt P w K mg base (cf K Er) "plain_number" 1 ["word"] m_plain_number) : FnAt P w K mg base (cf K Er) "read_move" 2 ["line"] m_read_move := by
  have nd := (sc_read_move).nd
  obtain ⟨C_InvalidText, e_InvalidText⟩ := T.e_InvalidText
  refine fn_at (k := 1) F hm b sc_read_move rfl (by decide) (fun cdv A outer s H E' hr => ?_)
  have hu := hr.units
  exact s_cons (s_set 1 nd (PE.own_dur (d_split (d_var 0) (PE.dur_bor (d_str))))) (s_cons (s_if (PW.pt (w_or (t_knotIn T.kd_SIZES (PE.dur_bor (d_ix hu (d_var 1) (PE.dur_bor (d_int))))) (w_or1 (t_cmp (q_ne hu) (PE.dur_bor (d_bi (bi_len) (by rfl) T.b_len (by decide +kernel) (b_cons (d_var 1) (b_nil)))) (PE.dur_bor (d_add (PE.dur_bor (d_int)) (PE.dur_bor (d_kix T.kd_SIZES (PE.dur_bor (d_ix hu (d_var 1) (PE.dur_bor (d_int)))))))))))) (s_one (s_raise (by rfl) tk_of e_InvalidText)) (s_nil)) (s_one (s_ret (PE.dur_ret (d_add (PE.dur_bor (d_tup (a_cons (d_ix hu (d_var 1) (PE.dur_bor (d_int))) (a_nil)))) (PE.dur_bor (d_ty (bi_tuple) (by rfl) T.b_tuple (by decide +kernel) (b_cons (PE.dur_bor (PE.own_dur (d_lcE [("word", 2)] (by rfl) (by rfl) tk_of (by rfl) nd (i_bor (PE.dur_bor (d_sl (d_var 1) (o_some (PE.dur_bor (d_int))) (o_none)))) (by show blkC ["line", "words", "word"] (defScope s_read_move) _ _ = true; decide +kernel) (fun _ _ _ _ _ => pg_name nd (by rfl) (by first | exact Or.inl (by rfl) | exact Or.inr (by rfl))) gok_name (fun _ _ _ _ _ => t_yes) (fun _ _ _ _ _ _ _ tkE => d_fn G_plain_number (hr.mono (by decide)) tkE (a_cons (d_varD 2) (a_nil)))))) (b_nil)))))))))
abbrev s_read_script : Stmt := top 10
theorem sc_read_script : FnScope ["text", "line"] ["text"] (defScope s_read_script) := ⟨rfl, rfl, rfl, by decide +kernel, rfl, by decide +kernel, by decide +kernel⟩
theorem ok_read_script (T : Txt K mg Er w v_InvalidMove v_InvalidText v_TurnedrowsError) {f : Addr} {fd : FuncData} (F : Fun K "read_script" "read_script" s_read_script f fd) (hm : mg "read_script" = some (.ref f)) (b : Binds K fd ["text"] []) (G_read_move : FnAt P w K mg base (cf K Er) "read_move" 2 ["line"] m_read_move) : FnAt P w K mg base (cf K Er) "read_script" 3 ["text"] m_read_script := by
  have nd := (sc_read_script).nd
  refine fn_at (k := 2) F hm b sc_read_script rfl (by decide) (fun cdv A outer s H E' hr => ?_)
  have hu := hr.units
  exact s_cons (s_if (t_cmp (q_eq hu) (d_var 0) (PE.dur_bor (d_str))) (s_one (s_ret (PE.dur_ret (d_tup (a_nil))))) (s_nil)) (s_one (s_ret (PE.dur_ret (d_ty (bi_tuple) (by rfl) T.b_tuple (by decide +kernel) (b_cons (PE.dur_bor (PE.own_dur (d_lcE [("line", 1)] (by rfl) (by rfl) tk_of (by rfl) nd (i_bor (PE.dur_bor (PE.own_dur (d_split (d_var 0) (PE.dur_bor (d_str)))))) (by show blkC ["text", "line"] (defScope s_read_script) _ _ = true; decide +kernel) (fun _ _ _ _ _ => pg_name nd (by rfl) (by first | exact Or.inl (by rfl) | exact Or.inr (by rfl))) gok_name (fun _ _ _ _ _ => t_yes) (fun _ _ _ _ _ _ _ tkE => d_fn G_read_move (hr.mono (by decide)) tkE (a_cons (d_varD 1) (a_nil)))))) (b_nil))))))
abbrev s__law_cell : Stmt := top 12
theorem sc__law_cell : FnScope ["_law_script", "_law_k"] ["_law_script", "_law_k"] (defScope s__law_cell) := ⟨rfl, rfl, rfl, by decide +kernel, rfl, by decide +kernel, by decide +kernel⟩
theorem ok__law_cell (T : Txt K mg Er w v_InvalidMove v_InvalidText v_TurnedrowsError) {f : Addr} {fd : FuncData} (F : Fun K "_law_cell" "_law_cell" s__law_cell f fd) (hm : mg "_law_cell" = some (.ref f)) (b : Binds K fd ["_law_script", "_law_k"] []) : FnAt P w K mg base (cf K Er) "_law_cell" 1 ["_law_script", "_law_k"] m__law_cell := by
  have nd := (sc__law_cell).nd
  refine fn_at (k := 0) F hm b sc__law_cell rfl (by decide) (fun cdv A outer s H E' hr => ?_)
  have hu := hr.units
  exact s_cons (s_if (t_cmp (q_lt) (d_var 1) (PE.dur_bor (d_bi (bi_len) (by rfl) T.b_len (by decide +kernel) (b_cons (d_var 0) (b_nil))))) (s_one (s_ret (PE.dur_ret (d_ix hu (d_var 0) (d_var 1))))) (s_nil)) (s_one (s_ret (PE.dur_ret (d_int))))
abbrev s__law_digits : Stmt := top 13
theorem sc__law_digits : FnScope ["_law_cell_here", "_law_sizes", "_law_row", "_law_size"] ["_law_cell_here", "_law_sizes"] (defScope s__law_digits) := ⟨rfl, rfl, rfl, by decide +kernel, rfl, by decide +kernel, by decide +kernel⟩
theorem ok__law_digits (T : Txt K mg Er w v_InvalidMove v_InvalidText v_TurnedrowsError) {f : Addr} {fd : FuncData} (F : Fun K "_law_digits" "_law_digits" s__law_digits f fd) (hm : mg "_law_digits" = some (.ref f)) (b : Binds K fd ["_law_cell_here", "_law_sizes"] []) : FnAt P w K mg base (cf K Er) "_law_digits" 1 ["_law_cell_here", "_law_sizes"] m__law_digits := by
  have nd := (sc__law_digits).nd
  refine fn_at (k := 0) F hm b sc__law_digits rfl (by decide) (fun cdv A outer s H E' hr => ?_)
  have hu := hr.units
  exact s_cons (s_setO 2 nd (d_lst (a_nil))) (s_cons (s_for hp_of (by rfl) (i_dur (d_varD 1)) (dg_name 3 nd) (s_cons (s_append 2 (d_mod (PE.dur_bor (d_ty (bi_int) (by rfl) T.b_int (by decide +kernel) (b_cons (d_var 0) (b_nil)))) (d_var 3))) (s_one (s_set 0 nd (d_div (d_var 0) (d_var 3)))))) (s_one (s_ret (d_varR 2))))
abbrev s__law_rich : Stmt := top 14
theorem sc__law_rich : FnScope ["_law_cell_here", "_law_low", "_law_high"] ["_law_cell_here"] (defScope s__law_rich) := ⟨rfl, rfl, rfl, by decide +kernel, rfl, by decide +kernel, by decide +kernel⟩
theorem ok__law_rich (T : Txt K mg Er w v_InvalidMove v_InvalidText v_TurnedrowsError) {f : Addr} {fd : FuncData} (F : Fun K "_law_rich" "_law_rich" s__law_rich f fd) (hm : mg "_law_rich" = some (.ref f)) (b : Binds K fd ["_law_cell_here"] []) : FnAt P w K mg base (cf K Er) "_law_rich" 1 ["_law_cell_here"] m__law_rich := by
  have nd := (sc__law_rich).nd
  refine fn_at (k := 0) F hm b sc__law_rich rfl (by decide) (fun cdv A outer s H E' hr => ?_)
  have hu := hr.units
  exact s_cons (s_if (t_cmp (q_ge) (d_var 0) (PE.dur_bor (d_pow (PE.dur_bor (d_int)) (PE.dur_bor (d_int))))) (s_one (s_ret (d_varR 0))) (s_nil)) (s_cons (s_set 1 nd (d_mod (PE.dur_bor (d_ty (bi_int) (by rfl) T.b_int (by decide +kernel) (b_cons (PE.dur_bor (d_add (PE.dur_bor (d_mul (d_var 0) (PE.dur_bor (d_int)))) (PE.dur_bor (d_int)))) (b_nil)))) (PE.dur_bor (d_int)))) (s_cons (s_set 2 nd (d_mod (PE.dur_bor (d_ty (bi_int) (by rfl) T.b_int (by decide +kernel) (b_cons (PE.dur_bor (d_add (PE.dur_bor (d_add (PE.dur_bor (d_mul (d_var 1) (PE.dur_bor (d_int)))) (PE.dur_bor (d_div (d_var 0) (PE.dur_bor (d_int)))))) (PE.dur_bor (d_int)))) (b_nil)))) (PE.dur_bor (d_int)))) (s_one (s_ret (PE.dur_ret (d_add (PE.dur_bor (d_mul (d_var 1) (PE.dur_bor (d_int)))) (d_var 2)))))))
abbrev s__law_count : Stmt := top 15
theorem sc__law_count : FnScope ["_law_word", "_law_words", "_law_count_here"] ["_law_word"] (defScope s__law_count) := ⟨rfl, rfl, rfl, by decide +kernel, rfl, by decide +kernel, by decide +kernel⟩
theorem ok__law_count (T : Txt K mg Er w v_InvalidMove v_InvalidText v_TurnedrowsError) {f : Addr} {fd : FuncData} (F : Fun K "_law_count" "_law_count" s__law_count f fd) (hm : mg "_law_count" = some (.ref f)) (b : Binds K fd ["_law_word"] []) : FnAt P w K mg base (cf K Er) "_law_count" 1 ["_law_word"] m__law_count := by
  have nd := (sc__law_count).nd
  refine fn_at (k := 0) F hm b sc__law_count rfl (by decide) (fun cdv A outer s H E' hr => ?_)
  have hu := hr.units
  exact s_cons (s_for hp_of (by rfl) (i_dur (PE.own_dur (d_lst (a_cons (d_tup (a_cons (PE.own_dur (d_lst (a_cons (d_str) (a_cons (d_str) (a_cons (d_str) (a_cons (d_str) (a_cons (d_str) (a_cons (d_str) (a_nil))))))))) (a_cons (d_int) (a_nil)))) (a_cons (d_tup (a_cons (PE.own_dur (d_lst (a_cons (d_str) (a_nil)))) (a_cons (d_int) (a_nil)))) (a_cons (d_tup (a_cons (PE.own_dur (d_lst (a_cons (d_str) (a_cons (d_str) (a_nil))))) (a_cons (d_int) (a_nil)))) (a_nil))))))) (dg_tup (by rfl) (gn_cons 1 nd (gn_cons 2 nd (gn_nil)))) (s_one (s_if (t_cmp (q_in hu) (d_var 0) (d_var 1)) (s_one (s_ret (d_varR 2))) (s_nil)))) (s_one (s_ret (PE.dur_ret (d_int))))
abbrev s__law_script_of : Stmt := top 16
theorem sc__law_script_of : FnScope ["_law_text", "_law_moves", "_law_line", "_law_words", "_law_word", "_law_char"] ["_law_text"] (defScope s__law_script_of) := ⟨rfl, rfl, rfl, by decide +kernel, rfl, by decide +kernel, by decide +kernel⟩
theorem ok__law_script_of (T : Txt K mg Er w v_InvalidMove v_InvalidText v_TurnedrowsError) {f : Addr} {fd : FuncData} (F : Fun K "_law_script_of" "_law_script_of" s__law_script_of f fd) (hm : mg "_law_script_of" = some (.ref f)) (b : Binds K fd ["_law_text"] []) (G__law_count : FnAt P w K mg base (cf K Er) "_law_count" 1 ["_law_word"] m__law_count) : FnAt P w K mg base (cf K Er) "_law_script_of" 2 ["_law_text"] m__law_script_of := by
  have nd := (sc__law_script_of).nd
  refine fn_at (k := 1) F hm b sc__law_script_of rfl (by decide) (fun cdv A outer s H E' hr => ?_)
  have hu := hr.units
  exact s_cons (s_if (t_cmp (q_eq hu) (d_var 0) (PE.dur_bor (d_str))) (s_one (s_ret (PE.dur_ret (d_tup (a_nil))))) (s_nil)) (s_cons (s_setO 1 nd (d_lst (a_nil))) (s_cons (s_for hp_of (by rfl) (i_dur (PE.own_dur (d_split (d_var 0) (PE.dur_bor (d_str))))) (dg_name 2 nd) (s_cons (s_set 3 nd (PE.own_dur (d_split (d_var 2) (PE.dur_bor (d_str))))) (s_cons (s_if (PW.pt (w_or (t_cmp (q_eq hu) (PE.dur_bor (d_fn G__law_count (hr.mono (by decide)) tk_of (a_cons (d_ix hu (d_var 3) (PE.dur_bor (d_int))) (a_nil)))) (PE.dur_bor (d_int))) (w_or1 (t_cmp (q_ne hu) (PE.dur_bor (d_bi (bi_len) (by rfl) T.b_len (by decide +kernel) (b_cons (d_var 3) (b_nil)))) (PE.dur_bor (d_add (PE.dur_bor (d_int)) (PE.dur_bor (d_fn G__law_count (hr.mono (by decide)) tk_of (a_cons (d_ix hu (d_var 3) (PE.dur_bor (d_int))) (a_nil)))))))))) (s_one (s_ret (PE.dur_ret (d_non)))) (s_nil)) (s_cons (s_for hp_of (by rfl) (i_dur (d_sl (d_var 3) (o_some (PE.dur_bor (d_int))) (o_none))) (dg_name 4 nd) (s_cons (s_if (PW.pt (w_or (t_cmp (q_eq hu) (d_var 4) (PE.dur_bor (d_str))) (w_or1 (t_cmp (q_ne hu) (PE.dur_bor (PE.own_dur (d_lc [("_law_char", 5)] (by rfl) nd (i_chars (d_var 4)) (by show blkC ["_law_text", "_law_moves", "_law_line", "_law_words", "_law_word", "_law_char"] (defScope s__law_script_of) _ _ = true; decide +kernel) (fun _ _ _ _ _ => pg_name nd (by rfl) (by first | exact Or.inl (by rfl) | exact Or.inr (by rfl))) gok_name (fun _ _ _ _ _ => pts_one (t_cmp (q_notIn hu) (d_var 5) (PE.dur_bor (d_str)))) (fun _ _ _ _ _ => d_varD 5)))) (PE.dur_bor (PE.own_dur (d_lst (a_nil)))))))) (s_one (s_ret (PE.dur_ret (d_non)))) (s_nil)) (s_one (s_if (PW.pt (w_and (t_cmp (q_eq hu) (PE.dur_bor (d_ix hu (d_var 4) (PE.dur_bor (d_int)))) (PE.dur_bor (d_str))) (w_and1 (t_cmp (q_ne hu) (d_var 4) (PE.dur_bor (d_str)))))) (s_one (s_ret (PE.dur_ret (d_non)))) (s_nil))))) (s_one (s_append 1 (d_add (PE.dur_bor (d_tup (a_cons (d_ix hu (d_var 3) (PE.dur_bor (d_int))) (a_nil)))) (PE.dur_bor (d_ty (bi_tuple) (by rfl) T.b_tuple (by decide +kernel) (b_cons (PE.dur_bor (PE.own_dur (d_lc [("_law_word", 4)] (by rfl) nd (i_bor (PE.dur_bor (d_sl (d_var 3) (o_some (PE.dur_bor (d_int))) (o_none)))) (by show blkC ["_law_text", "_law_moves", "_law_line", "_law_words", "_law_word", "_law_char"] (defScope s__law_script_of) _ _ = true; decide +kernel) (fun _ _ _ _ _ => pg_name nd (by rfl) (by first | exact Or.inl (by rfl) | exact Or.inr (by rfl))) gok_name (fun _ _ _ _ _ => t_yes) (fun _ _ _ _ _ => d_ty (bi_intS) (by rfl) T.b_int (by decide +kernel) (b_cons (d_var 4) (b_nil)))))) (b_nil))))))))))) (s_one (s_ret (PE.dur_ret (d_ty (bi_tuple) (by rfl) T.b_tuple (by decide +kernel) (b_cons (d_var 1) (b_nil))))))))
abbrev s__law_read : Stmt := top 17
theorem sc__law_read : FnScope ["_law_text", "e"] ["_law_text"] (defScope s__law_read) := ⟨rfl, rfl, rfl, by decide +kernel, rfl, by decide +kernel, by decide +kernel⟩
theorem ok__law_read (T : Txt K mg Er w v_InvalidMove v_InvalidText v_TurnedrowsError) {f : Addr} {fd : FuncData} (F : Fun K "_law_read" "_law_read" s__law_read f fd) (hm : mg "_law_read" = some (.ref f)) (b : Binds K fd ["_law_text"] []) (G_read_script : FnAt P w K mg base (cf K Er) "read_script" 3 ["text"] m_read_script) : FnAt P w K mg base (cf K Er) "_law_read" 4 ["_law_text"] m__law_read := by
  have nd := (sc__law_read).nd
  refine fn_at (k := 3) F hm b sc__law_read rfl (by decide) (fun cdv A outer s H E' hr => ?_)
  have hu := hr.units
  exact s_cons (s_tryAs 1 (fun x => isSub x .text) nd T.n_InvalidText T.cl_InvalidText tk_of (fun W pn xe tk hp => s_one (s_ret (PE.dur_ret (d_fn G_read_script (hr.mono (by decide)) tk (a_cons (d_varD 0) (a_nil)))))) (fun a oe cls d pn hz hf x C eC ed kx => s_one (s_if (PW.pt (w_and (t_val (d_isE (cv := .ref v_TurnedrowsError) (u := .ref v_TurnedrowsError) (T.xc x C kx) (by rw [← eC, ← ed]; exact hz) hf (by exact List.mem_cons_self) (pe_glob (by rfl) T.m_TurnedrowsError (by rfl)) (fun _ h => h) (T.ki_TurnedrowsError x C kx) T.b_isinstance)) (w_and1 (t_not (t_val (d_isE (cv := .ref v_InvalidMove) (u := .ref v_InvalidMove) (T.xc x C kx) (by rw [← eC, ← ed]; exact hz) hf (by exact List.mem_cons_self) (pe_glob (by rfl) T.m_InvalidMove (by rfl)) (fun _ h => h) (T.ki_InvalidMove x C kx) T.b_isinstance)))))) (s_one (s_ret (PE.dur_ret (d_non)))) (s_nil)))) (s_one (s_ret (PE.dur_ret (d_int))))
abbrev s_law : Stmt := top 18
theorem sc_law : FnScope ["_law_script", "_law_moves", "_law_k", "_law_d", "_law_word", "_law_text", "_law_at", "_law_char", "_law_bent", "_law_move", "_law_item"] ["_law_script"] (defScope s_law) := ⟨rfl, rfl, rfl, by decide +kernel, rfl, by decide +kernel, by decide +kernel⟩
theorem ok_law (T : Txt K mg Er w v_InvalidMove v_InvalidText v_TurnedrowsError) {f : Addr} {fd : FuncData} (F : Fun K "law" "law" s_law f fd) (G__law_digits : FnAt P w K mg base (cf K Er) "_law_digits" 1 ["_law_cell_here", "_law_sizes"] m__law_digits) (G__law_rich : FnAt P w K mg base (cf K Er) "_law_rich" 1 ["_law_cell_here"] m__law_rich) (G__law_cell : FnAt P w K mg base (cf K Er) "_law_cell" 1 ["_law_script", "_law_k"] m__law_cell) (G__law_count : FnAt P w K mg base (cf K Er) "_law_count" 1 ["_law_word"] m__law_count) (G_write_script : FnAt P w K mg base (cf K Er) "write_script" 1 ["moves"] m_write_script) (G__law_read : FnAt P w K mg base (cf K Er) "_law_read" 4 ["_law_text"] m__law_read) (G__law_script_of : FnAt P w K mg base (cf K Er) "_law_script_of" 2 ["_law_text"] m__law_script_of) : FnOk P w K mg base (L2.CX P w) 5 f fd ["_law_script"] (SpD (cf K Er) m_law) := by
  have nd := (sc_law).nd
  refine fn_ok (k := 4) F sc_law rfl (by decide) (fun cdv A outer s H E' hr => ?_)
  have hu := hr.units
  exact s_cons (s_setO 1 nd (d_lst (a_nil))) (s_cons (s_for hp_of (by rfl) (i_rng1 (by rfl) T.b_range (PE.dur_bor (d_int))) (dg_name 2 nd) (s_cons (s_if (t_cmp (q_ge) (PE.dur_bor (d_add (PE.dur_bor (d_int)) (d_var 2))) (PE.dur_bor (d_bi (bi_len) (by rfl) T.b_len (by decide +kernel) (b_cons (d_var 0) (b_nil))))) (s_one (s_break)) (s_nil)) (s_cons (s_set 3 nd (d_fn G__law_digits (hr.mono (by decide)) tk_of (a_cons (d_fn G__law_rich (hr.mono (by decide)) tk_of (a_cons (d_fn G__law_cell (hr.mono (by decide)) tk_of (a_cons (d_varD 0) (a_cons (d_add (PE.dur_bor (d_int)) (d_var 2)) (a_nil)))) (a_nil))) (a_cons (PE.own_dur (d_lst (a_cons (d_int) (a_cons (d_int) (a_cons (d_int) (a_cons (d_int) (a_cons (d_int) (a_nil)))))))) (a_nil))))) (s_cons (s_set 4 nd (d_ix hu (PE.dur_bor (PE.own_dur (d_lst (a_cons (d_str) (a_cons (d_str) (a_cons (d_str) (a_cons (d_str) (a_cons (d_str) (a_cons (d_str) (a_cons (d_str) (a_cons (d_str) (a_cons (d_str) (a_nil))))))))))))) (PE.dur_bor (d_ix hu (d_var 3) (PE.dur_bor (d_int)))))) (s_one (s_append 1 (d_add (PE.dur_bor (d_tup (a_cons (d_varD 4) (a_nil)))) (PE.dur_bor (d_ty (bi_tuple) (by rfl) T.b_tuple (by decide +kernel) (b_cons (PE.dur_bor (d_sl (d_var 3) (o_some (PE.dur_bor (d_int))) (o_some (PE.dur_bor (d_add (PE.dur_bor (d_int)) (PE.dur_bor (d_fn G__law_count (hr.mono (by decide)) tk_of (a_cons (d_varD 4) (a_nil))))))))) (b_nil))))))))))) (s_cons (s_set 5 nd (d_join (PE.dur_bor (d_str)) (PE.dur_bor (PE.own_dur (d_lc [("_law_move", 9)] (by rfl) nd (i_bor (d_var 1)) (by show blkC ["_law_script", "_law_moves", "_law_k", "_law_d", "_law_word", "_law_text", "_law_at", "_law_char", "_law_bent", "_law_move", "_law_item"] (defScope s_law) _ _ = true; decide +kernel) (fun _ _ _ _ _ => pg_name nd (by rfl) (by first | exact Or.inl (by rfl) | exact Or.inr (by rfl))) gok_name (fun _ _ _ _ _ => t_yes) (fun _ _ _ _ _ => d_join (PE.dur_bor (d_str)) (PE.dur_bor (PE.own_dur (d_lc [("_law_item", 10)] (by rfl) nd (i_bor (d_var 9)) (by show blkC ["_law_script", "_law_moves", "_law_k", "_law_d", "_law_word", "_law_text", "_law_at", "_law_char", "_law_bent", "_law_move", "_law_item"] _ _ _ = true; kernel_rfl) (fun _ _ _ _ _ => pg_name nd (by rfl) (by first | exact Or.inl (by rfl) | exact Or.inr (by rfl))) gok_name (fun _ _ _ _ _ => t_yes) (fun _ _ _ _ _ => d_ty bi_str (by rfl) T.b_str (by decide +kernel) (b_cons (d_var 10) (b_nil)))))))))))) (s_cons (s_if (PW.pt (w_or (t_cmp (q_ne hu) (PE.dur_bor (d_fn G_write_script (hr.mono (by decide)) tk_of (a_cons (d_ty (bi_tuple) (by rfl) T.b_tuple (by decide +kernel) (b_cons (d_var 1) (b_nil))) (a_nil)))) (d_var 5)) (w_or1 (t_cmp (q_ne hu) (PE.dur_bor (d_fn G__law_read (hr.mono (by decide)) tk_of (a_cons (d_varD 5) (a_nil)))) (PE.dur_bor (d_ty (bi_tuple) (by rfl) T.b_tuple (by decide +kernel) (b_cons (d_var 1) (b_nil)))))))) (s_one (s_ret (PE.dur_ret (d_bl)))) (s_nil)) (s_cons (s_set 3 nd (d_fn G__law_digits (hr.mono (by decide)) tk_of (a_cons (d_fn G__law_rich (hr.mono (by decide)) tk_of (a_cons (d_fn G__law_cell (hr.mono (by decide)) tk_of (a_cons (d_varD 0) (a_cons (d_int) (a_nil)))) (a_nil))) (a_cons (PE.own_dur (d_lst (a_cons (d_int) (a_cons (d_int) (a_cons (d_int) (a_cons (d_int) (a_nil))))))) (a_nil))))) (s_cons (s_set 6 nd (d_mod (PE.dur_bor (d_ty (bi_int) (by rfl) T.b_int (by decide +kernel) (b_cons (PE.dur_bor (d_ix hu (d_var 3) (PE.dur_bor (d_int)))) (b_nil)))) (PE.dur_bor (d_add (PE.dur_bor (d_bi (bi_len) (by rfl) T.b_len (by decide +kernel) (b_cons (d_var 5) (b_nil)))) (PE.dur_bor (d_int)))))) (s_cons (s_set 7 nd (d_ix hu (PE.dur_bor (d_str)) (PE.dur_bor (d_ix hu (d_var 3) (PE.dur_bor (d_int)))))) (s_cons (s_set 8 nd (d_add (PE.dur_bor (d_add (PE.dur_bor (d_sl (d_var 5) (o_none) (o_some (d_var 6)))) (PE.dur_bor (d_ix hu (PE.dur_bor (PE.own_dur (d_lst (a_cons (d_str) (a_cons (d_varD 7) (a_cons (d_varD 7) (a_nil))))))) (PE.dur_bor (d_ix hu (d_var 3) (PE.dur_bor (d_int)))))))) (PE.dur_bor (d_sl (d_var 5) (o_some (PE.dur_bor (d_add (d_var 6) (PE.dur_bor (d_ty (bi_int) (by rfl) T.b_int (by decide +kernel) (b_cons (PE.dur_bor (d_cmp (q_lt) (PE.dur_bor (d_ix hu (d_var 3) (PE.dur_bor (d_int)))) (PE.dur_bor (d_int)))) (b_nil))))))) (o_none))))) (s_cons (s_if (t_cmp (q_eq hu) (PE.dur_bor (d_ix hu (d_var 3) (PE.dur_bor (d_int)))) (PE.dur_bor (d_int))) (s_one (s_set 8 nd (d_sl (d_var 5) (o_none) (o_some (d_var 6))))) (s_nil)) (s_one (s_ret (PE.dur_ret (d_cmp (q_eq hu) (PE.dur_bor (d_fn G__law_read (hr.mono (by decide)) tk_of (a_cons (d_varD 8) (a_nil)))) (PE.dur_bor (d_fn G__law_script_of (hr.mono (by decide)) tk_of (a_cons (d_varD 8) (a_nil))))))))))))))))
end
end Lw

set_option Elab.async false
set_option maxRecDepth 100000
set_option maxHeartbeats 4000000
set_option autoImplicit false
namespace Lw
open PySem L2 DL
theorem all_mk {P : Program} {w : World} {K : PySem.W.Frag} {h : Heap} {mg : Str → Option Value} {fa : Addr} (X : K.In h) (G : h.Ns mainGlobals mg) (hfa : mg "law" = some (.ref fa))
    {f_write_script f_plain_number f_read_move f_read_script f__law_cell f__law_digits f__law_rich f__law_count f__law_script_of f__law_read f_law v_InvalidMove v_InvalidText v_TurnedrowsError : Addr}
    {od_write_script an_write_script : Option Addr} {sl_write_script : Array (Option Value)} {oc_write_script kV_write_script dc_write_script pm_write_script cd_write_script ct_write_script : Value}
    {od_plain_number an_plain_number : Option Addr} {sl_plain_number : Array (Option Value)} {oc_plain_number kV_plain_number dc_plain_number pm_plain_number cd_plain_number ct_plain_number : Value}
    {od_read_move an_read_move : Option Addr} {sl_read_move : Array (Option Value)} {oc_read_move kV_read_move dc_read_move pm_read_move cd_read_move ct_read_move : Value}
    {od_read_script an_read_script : Option Addr} {sl_read_script : Array (Option Value)} {oc_read_script kV_read_script dc_read_script pm_read_script cd_read_script ct_read_script : Value}
    {od__law_cell an__law_cell : Option Addr} {sl__law_cell : Array (Option Value)} {oc__law_cell kV__law_cell dc__law_cell pm__law_cell cd__law_cell ct__law_cell : Value}
    {od__law_digits an__law_digits : Option Addr} {sl__law_digits : Array (Option Value)} {oc__law_digits kV__law_digits dc__law_digits pm__law_digits cd__law_digits ct__law_digits : Value}
    {od__law_rich an__law_rich : Option Addr} {sl__law_rich : Array (Option Value)} {oc__law_rich kV__law_rich dc__law_rich pm__law_rich cd__law_rich ct__law_rich : Value}
    {od__law_count an__law_count : Option Addr} {sl__law_count : Array (Option Value)} {oc__law_count kV__law_count dc__law_count pm__law_count cd__law_count ct__law_count : Value}
    {od__law_script_of an__law_script_of : Option Addr} {sl__law_script_of : Array (Option Value)} {oc__law_script_of kV__law_script_of dc__law_script_of pm__law_script_of cd__law_script_of ct__law_script_of : Value}
    {od__law_read an__law_read : Option Addr} {sl__law_read : Array (Option Value)} {oc__law_read kV__law_read dc__law_read pm__law_read cd__law_read ct__law_read : Value}
    {od_law an_law : Option Addr} {sl_law : Array (Option Value)} {oc_law kV_law dc_law pm_law cd_law ct_law : Value}
    {t_DIGITS : Tok}
    {v_SIZES : Addr} {es_SIZES : Array DictEntry} {n_SIZES : Nat}
    (a_write_script : PySem.W.nsIn K mainGlobals "write_script" = some (some (.ref f_write_script)))
    (l_write_script : K.lookup f_write_script = some ⟨oc_write_script, od_write_script, .func (PySem.W.fnOf "write_script" "write_script" (defArgs s_write_script) (defBody s_write_script) (defScope s_write_script) .none kV_write_script dc_write_script pm_write_script an_write_script cd_write_script ct_write_script), sl_write_script⟩)
    (c_write_script : PySem.W.codeIn K cd_write_script "write_script" = true)
    (k_write_script : PySem.W.keepIn K (.ref f_write_script) = true)
    (a_plain_number : PySem.W.nsIn K mainGlobals "plain_number" = some (some (.ref f_plain_number)))
    (l_plain_number : K.lookup f_plain_number = some ⟨oc_plain_number, od_plain_number, .func (PySem.W.fnOf "plain_number" "plain_number" (defArgs s_plain_number) (defBody s_plain_number) (defScope s_plain_number) .none kV_plain_number dc_plain_number pm_plain_number an_plain_number cd_plain_number ct_plain_number), sl_plain_number⟩)
    (c_plain_number : PySem.W.codeIn K cd_plain_number "plain_number" = true)
    (k_plain_number : PySem.W.keepIn K (.ref f_plain_number) = true)
    (a_read_move : PySem.W.nsIn K mainGlobals "read_move" = some (some (.ref f_read_move)))
    (l_read_move : K.lookup f_read_move = some ⟨oc_read_move, od_read_move, .func (PySem.W.fnOf "read_move" "read_move" (defArgs s_read_move) (defBody s_read_move) (defScope s_read_move) .none kV_read_move dc_read_move pm_read_move an_read_move cd_read_move ct_read_move), sl_read_move⟩)
    (c_read_move : PySem.W.codeIn K cd_read_move "read_move" = true)
    (k_read_move : PySem.W.keepIn K (.ref f_read_move) = true)
    (a_read_script : PySem.W.nsIn K mainGlobals "read_script" = some (some (.ref f_read_script)))
    (l_read_script : K.lookup f_read_script = some ⟨oc_read_script, od_read_script, .func (PySem.W.fnOf "read_script" "read_script" (defArgs s_read_script) (defBody s_read_script) (defScope s_read_script) .none kV_read_script dc_read_script pm_read_script an_read_script cd_read_script ct_read_script), sl_read_script⟩)
    (c_read_script : PySem.W.codeIn K cd_read_script "read_script" = true)
    (k_read_script : PySem.W.keepIn K (.ref f_read_script) = true)
    (a__law_cell : PySem.W.nsIn K mainGlobals "_law_cell" = some (some (.ref f__law_cell)))
    (l__law_cell : K.lookup f__law_cell = some ⟨oc__law_cell, od__law_cell, .func (PySem.W.fnOf "_law_cell" "_law_cell" (defArgs s__law_cell) (defBody s__law_cell) (defScope s__law_cell) .none kV__law_cell dc__law_cell pm__law_cell an__law_cell cd__law_cell ct__law_cell), sl__law_cell⟩)
    (c__law_cell : PySem.W.codeIn K cd__law_cell "_law_cell" = true)
    (k__law_cell : PySem.W.keepIn K (.ref f__law_cell) = true)
    (a__law_digits : PySem.W.nsIn K mainGlobals "_law_digits" = some (some (.ref f__law_digits)))
    (l__law_digits : K.lookup f__law_digits = some ⟨oc__law_digits, od__law_digits, .func (PySem.W.fnOf "_law_digits" "_law_digits" (defArgs s__law_digits) (defBody s__law_digits) (defScope s__law_digits) .none kV__law_digits dc__law_digits pm__law_digits an__law_digits cd__law_digits ct__law_digits), sl__law_digits⟩)
    (c__law_digits : PySem.W.codeIn K cd__law_digits "_law_digits" = true)
    (k__law_digits : PySem.W.keepIn K (.ref f__law_digits) = true)
    (a__law_rich : PySem.W.nsIn K mainGlobals "_law_rich" = some (some (.ref f__law_rich)))
    (l__law_rich : K.lookup f__law_rich = some ⟨oc__law_rich, od__law_rich, .func (PySem.W.fnOf "_law_rich" "_law_rich" (defArgs s__law_rich) (defBody s__law_rich) (defScope s__law_rich) .none kV__law_rich dc__law_rich pm__law_rich an__law_rich cd__law_rich ct__law_rich), sl__law_rich⟩)
    (c__law_rich : PySem.W.codeIn K cd__law_rich "_law_rich" = true)
    (k__law_rich : PySem.W.keepIn K (.ref f__law_rich) = true)
    (a__law_count : PySem.W.nsIn K mainGlobals "_law_count" = some (some (.ref f__law_count)))
    (l__law_count : K.lookup f__law_count = some ⟨oc__law_count, od__law_count, .func (PySem.W.fnOf "_law_count" "_law_count" (defArgs s__law_count) (defBody s__law_count) (defScope s__law_count) .none kV__law_count dc__law_count pm__law_count an__law_count cd__law_count ct__law_count), sl__law_count⟩)
    (c__law_count : PySem.W.codeIn K cd__law_count "_law_count" = true)
    (k__law_count : PySem.W.keepIn K (.ref f__law_count) = true)
    (a__law_script_of : PySem.W.nsIn K mainGlobals "_law_script_of" = some (some (.ref f__law_script_of)))
    (l__law_script_of : K.lookup f__law_script_of = some ⟨oc__law_script_of, od__law_script_of, .func (PySem.W.fnOf "_law_script_of" "_law_script_of" (defArgs s__law_script_of) (defBody s__law_script_of) (defScope s__law_script_of) .none kV__law_script_of dc__law_script_of pm__law_script_of an__law_script_of cd__law_script_of ct__law_script_of), sl__law_script_of⟩)
    (c__law_script_of : PySem.W.codeIn K cd__law_script_of "_law_script_of" = true)
    (k__law_script_of : PySem.W.keepIn K (.ref f__law_script_of) = true)
    (a__law_read : PySem.W.nsIn K mainGlobals "_law_read" = some (some (.ref f__law_read)))
    (l__law_read : K.lookup f__law_read = some ⟨oc__law_read, od__law_read, .func (PySem.W.fnOf "_law_read" "_law_read" (defArgs s__law_read) (defBody s__law_read) (defScope s__law_read) .none kV__law_read dc__law_read pm__law_read an__law_read cd__law_read ct__law_read), sl__law_read⟩)
    (c__law_read : PySem.W.codeIn K cd__law_read "_law_read" = true)
    (k__law_read : PySem.W.keepIn K (.ref f__law_read) = true)
    (a_law : PySem.W.nsIn K mainGlobals "law" = some (some (.ref f_law)))
    (l_law : K.lookup f_law = some ⟨oc_law, od_law, .func (PySem.W.fnOf "law" "law" (defArgs s_law) (defBody s_law) (defScope s_law) .none kV_law dc_law pm_law an_law cd_law ct_law), sl_law⟩)
    (c_law : PySem.W.codeIn K cd_law "law" = true)
    (k_law : PySem.W.keepIn K (.ref f_law) = true)
    (a_InvalidMove : PySem.W.nsIn K mainGlobals "InvalidMove" = some (some (.ref v_InvalidMove)))
    (a_InvalidText : PySem.W.nsIn K mainGlobals "InvalidText" = some (some (.ref v_InvalidText)))
    (a_TurnedrowsError : PySem.W.nsIn K mainGlobals "TurnedrowsError" = some (some (.ref v_TurnedrowsError)))
    (x_InvalidText : PySem.W.excIn K v_InvalidText [.type "ValueError", .type "Exception", .type "BaseException", .type "object"] "ValueError.__new__" = true)
    (kp_InvalidText : PySem.W.keepIn K (.ref v_InvalidText) = true)
    (sb_InvalidMove : PySem.W.subIn K (.ref v_InvalidMove) (.type "BaseException") = some true)
    (ty_InvalidMove : PySem.W.typeIn K (.ref v_InvalidMove) = some (.type "type"))
    (hd_InvalidMove : PySem.W.hasDictIn K v_InvalidMove = true)
    (sb_InvalidText : PySem.W.subIn K (.ref v_InvalidText) (.type "BaseException") = some true)
    (ty_InvalidText : PySem.W.typeIn K (.ref v_InvalidText) = some (.type "type"))
    (hd_InvalidText : PySem.W.hasDictIn K v_InvalidText = true)
    (sb_TurnedrowsError : PySem.W.subIn K (.ref v_TurnedrowsError) (.type "BaseException") = some true)
    (ty_TurnedrowsError : PySem.W.typeIn K (.ref v_TurnedrowsError) = some (.type "type"))
    (hd_TurnedrowsError : PySem.W.hasDictIn K v_TurnedrowsError = true)
    (q_InvalidMove_InvalidMove : PySem.W.subIn K (.ref v_InvalidMove) (.ref v_InvalidMove) = some true)
    (q_InvalidText_InvalidMove : PySem.W.subIn K (.ref v_InvalidText) (.ref v_InvalidMove) = some false)
    (q_InvalidText_InvalidText : PySem.W.subIn K (.ref v_InvalidText) (.ref v_InvalidText) = some true)
    (q_InvalidText_TurnedrowsError : PySem.W.subIn K (.ref v_InvalidText) (.ref v_TurnedrowsError) = some true)
    (q_TurnedrowsError_TurnedrowsError : PySem.W.subIn K (.ref v_TurnedrowsError) (.ref v_TurnedrowsError) = some true)
    (hg_InvalidText : PySem.W.findIn K (.ref v_InvalidText) "__getattribute__" = some (some (.builtin "BaseException.__getattribute__")))
    (hk_InvalidText : PySem.W.findIn K (.ref v_InvalidText) "__getattr__" = some none)
    (ha_InvalidText : PySem.W.findIn K (.ref v_InvalidText) "__class__" = some (some (.builtin "object.__class__")))
    (ho_InvalidText : PySem.W.mroIn K v_InvalidText (.type "object") = some true)
    (hn_ : PySem.W.specialIn K (.builtin "object.__class__") "__get__" = some (some (.builtin "getset_descriptor.__get__")))
    (ht_ : PySem.W.takesIn K (.builtin "object.__class__") = some true)
    (z_any : PySem.W.nsIn K mainGlobals "any" = some none)
    (z_int : PySem.W.nsIn K mainGlobals "int" = some none)
    (z_isinstance : PySem.W.nsIn K mainGlobals "isinstance" = some none)
    (z_len : PySem.W.nsIn K mainGlobals "len" = some none)
    (z_range : PySem.W.nsIn K mainGlobals "range" = some none)
    (z_str : PySem.W.nsIn K mainGlobals "str" = some none)
    (z_tuple : PySem.W.nsIn K mainGlobals "tuple" = some none)
    (zc_DIGITS : PySem.W.nsIn K mainGlobals "DIGITS" = some (some (.str "0123456789" t_DIGITS)))
    (zd_SIZES : PySem.W.nsIn K mainGlobals "SIZES" = some (some (.ref v_SIZES)))
    (ld_SIZES : K.lookup v_SIZES = some ⟨.type "dict", none, .dict es_SIZES n_SIZES, #[]⟩)
    (sm_SIZES : (v_SIZES == sysModules) = false)
    (kk_SIZES : PySem.W.KeysLit w.params es_SIZES.toList)
    (ke_SIZES : KdE es_SIZES.toList kd_SIZES)
    : ∃ fd : FuncData, (∀ (s : Shared) (v : Value), BindsTo s fd ⟨[v], []⟩ [("_law_script", v)]) ∧ ∀ base : Heap, K.In base → base.Ns mainGlobals mg → FnOk P w K mg base (L2.CX P w) 5 fa fd ["_law_script"] (spLaw K) := by
  have e := hfa.symm.trans (PySem.W.mg_of X G a_law)
  cases e
  let Er : EN → Option Addr := fun x => match x with | .text => some v_InvalidText | _ => none
  have T : Txt K mg Er w v_InvalidMove v_InvalidText v_TurnedrowsError := {
    b_any := PySem.W.mg_none_of X G z_any,
    b_int := PySem.W.mg_none_of X G z_int,
    b_isinstance := PySem.W.mg_none_of X G z_isinstance,
    b_len := PySem.W.mg_none_of X G z_len,
    b_range := PySem.W.mg_none_of X G z_range,
    b_str := PySem.W.mg_none_of X G z_str,
    b_tuple := PySem.W.mg_none_of X G z_tuple,
    c_DIGITS := ⟨_, PySem.W.mg_of X G zc_DIGITS⟩,
    kd_SIZES := ⟨⟨_, _, _, PySem.W.mg_of X G zd_SIZES, sm_SIZES, ld_SIZES, kk_SIZES, ke_SIZES⟩⟩,
    e_InvalidText := ⟨v_InvalidText, ⟨x_InvalidText, PySem.W.mg_of X G a_InvalidText, kp_InvalidText, sb_InvalidText, ty_InvalidText, rfl⟩⟩,
    m_InvalidMove := PySem.W.mg_of X G a_InvalidMove,
    m_InvalidText := PySem.W.mg_of X G a_InvalidText,
    m_TurnedrowsError := PySem.W.mg_of X G a_TurnedrowsError,
    xm_InvalidText := fun x C h => (by cases x with | text => (cases h; exact PySem.W.exm_ref sb_InvalidText hd_InvalidText ty_InvalidText q_InvalidText_InvalidText) | _ => (cases h)),
    xc := fun x C h => (by cases x with | text => (cases h; exact ⟨hg_InvalidText, hk_InvalidText, sb_InvalidText, hd_InvalidText, ha_InvalidText, hn_, ht_, ho_InvalidText⟩) | _ => (cases h)),
    ki_InvalidMove := fun x C h => (by cases x with | text => (cases h; exact kit_ref hd_InvalidMove ty_InvalidMove q_InvalidMove_InvalidMove q_InvalidText_InvalidMove) | _ => (cases h)),
    ki_TurnedrowsError := fun x C h => (by cases x with | text => (cases h; exact kit_ref hd_TurnedrowsError ty_TurnedrowsError q_TurnedrowsError_TurnedrowsError q_InvalidText_TurnedrowsError) | _ => (cases h)) }
  have F_write_script := fun_mk (st := s_write_script) l_write_script c_write_script k_write_script
  have B_write_script := F_write_script.binds (ps := ["moves"]) fun _ _ _ _ _ _ us hl => match us, hl with | [_], _ => rfl
  have F_plain_number := fun_mk (st := s_plain_number) l_plain_number c_plain_number k_plain_number
  have B_plain_number := F_plain_number.binds (ps := ["word"]) fun _ _ _ _ _ _ us hl => match us, hl with | [_], _ => rfl
  have F_read_move := fun_mk (st := s_read_move) l_read_move c_read_move k_read_move
  have B_read_move := F_read_move.binds (ps := ["line"]) fun _ _ _ _ _ _ us hl => match us, hl with | [_], _ => rfl
  have F_read_script := fun_mk (st := s_read_script) l_read_script c_read_script k_read_script
  have B_read_script := F_read_script.binds (ps := ["text"]) fun _ _ _ _ _ _ us hl => match us, hl with | [_], _ => rfl
  have F__law_cell := fun_mk (st := s__law_cell) l__law_cell c__law_cell k__law_cell
  have B__law_cell := F__law_cell.binds (ps := ["_law_script", "_law_k"]) fun _ _ _ _ _ _ us hl => match us, hl with | [_, _], _ => rfl
  have F__law_digits := fun_mk (st := s__law_digits) l__law_digits c__law_digits k__law_digits
  have B__law_digits := F__law_digits.binds (ps := ["_law_cell_here", "_law_sizes"]) fun _ _ _ _ _ _ us hl => match us, hl with | [_, _], _ => rfl
  have F__law_rich := fun_mk (st := s__law_rich) l__law_rich c__law_rich k__law_rich
  have B__law_rich := F__law_rich.binds (ps := ["_law_cell_here"]) fun _ _ _ _ _ _ us hl => match us, hl with | [_], _ => rfl
  have F__law_count := fun_mk (st := s__law_count) l__law_count c__law_count k__law_count
  have B__law_count := F__law_count.binds (ps := ["_law_word"]) fun _ _ _ _ _ _ us hl => match us, hl with | [_], _ => rfl
  have F__law_script_of := fun_mk (st := s__law_script_of) l__law_script_of c__law_script_of k__law_script_of
  have B__law_script_of := F__law_script_of.binds (ps := ["_law_text"]) fun _ _ _ _ _ _ us hl => match us, hl with | [_], _ => rfl
  have F__law_read := fun_mk (st := s__law_read) l__law_read c__law_read k__law_read
  have B__law_read := F__law_read.binds (ps := ["_law_text"]) fun _ _ _ _ _ _ us hl => match us, hl with | [_], _ => rfl
  have F_law := fun_mk (st := s_law) l_law c_law k_law
  refine ⟨PySem.W.fnOf "law" "law" (defArgs s_law) (defBody s_law) (defScope s_law) .none kV_law dc_law pm_law an_law cd_law ct_law, fun s v => .of_eq rfl, fun base _ _ => ?_⟩
  have G_write_script := ok_write_script (P := P) (w := w) (base := base) T F_write_script (PySem.W.mg_of X G a_write_script) B_write_script
  have G_plain_number := ok_plain_number (P := P) (w := w) (base := base) T F_plain_number (PySem.W.mg_of X G a_plain_number) B_plain_number
  have G__law_cell := ok__law_cell (P := P) (w := w) (base := base) T F__law_cell (PySem.W.mg_of X G a__law_cell) B__law_cell
  have G__law_digits := ok__law_digits (P := P) (w := w) (base := base) T F__law_digits (PySem.W.mg_of X G a__law_digits) B__law_digits
  have G__law_rich := ok__law_rich (P := P) (w := w) (base := base) T F__law_rich (PySem.W.mg_of X G a__law_rich) B__law_rich
  have G__law_count := ok__law_count (P := P) (w := w) (base := base) T F__law_count (PySem.W.mg_of X G a__law_count) B__law_count
  have G_read_move := ok_read_move (P := P) (w := w) (base := base) T F_read_move (PySem.W.mg_of X G a_read_move) B_read_move G_plain_number
  have G__law_script_of := ok__law_script_of (P := P) (w := w) (base := base) T F__law_script_of (PySem.W.mg_of X G a__law_script_of) B__law_script_of G__law_count
  have G_read_script := ok_read_script (P := P) (w := w) (base := base) T F_read_script (PySem.W.mg_of X G a_read_script) B_read_script G_read_move
  have G__law_read := ok__law_read (P := P) (w := w) (base := base) T F__law_read (PySem.W.mg_of X G a__law_read) B__law_read G_read_script
  exact law_imp rfl (ok_law T F_law G__law_digits G__law_rich G__law_cell G__law_count G_write_script G__law_read G__law_script_of) plain
end Lw
open PySem PySem.W PyProof.Rows
set_option maxRecDepth 100000 in
set_option maxHeartbeats 0 in
theorem PySem.Challenge.cw_turnedrows_k51_scripts_written_and_read_holds : PySem.Challenge.rw_turnedrows_k51_scripts_written_and_read.Holds := by
  w_on; o_law; k_head; (case hw => w_witness2)
  k_fill
  refine DL.law_walk (k := 5) (x := "_law_script") (l := PySem.Challenge.rw_turnedrows_k51_scripts_written_and_read) rfl rfl ⟨rfl, by decide, by decide⟩ (fun w h Y => PySem.W.kIn_of Y) ?F
  case F =>
    intro w mg fa h KX G hmg
    refine' Lw.all_mk KX G hmg ?a_write_script ?l_write_script ?c_write_script ?k_write_script ?a_plain_number ?l_plain_number ?c_plain_number ?k_plain_number ?a_read_move ?l_read_move ?c_read_move ?k_read_move ?a_read_script ?l_read_script ?c_read_script ?k_read_script ?a__law_cell ?l__law_cell ?c__law_cell ?k__law_cell ?a__law_digits ?l__law_digits ?c__law_digits ?k__law_digits ?a__law_rich ?l__law_rich ?c__law_rich ?k__law_rich ?a__law_count ?l__law_count ?c__law_count ?k__law_count ?a__law_script_of ?l__law_script_of ?c__law_script_of ?k__law_script_of ?a__law_read ?l__law_read ?c__law_read ?k__law_read ?a_law ?l_law ?c_law ?k_law ?a_InvalidMove ?a_InvalidText ?a_TurnedrowsError ?x_InvalidText ?kp_InvalidText ?sb_InvalidMove ?ty_InvalidMove ?hd_InvalidMove ?sb_InvalidText ?ty_InvalidText ?hd_InvalidText ?sb_TurnedrowsError ?ty_TurnedrowsError ?hd_TurnedrowsError ?q_InvalidMove_InvalidMove ?q_InvalidText_InvalidMove ?q_InvalidText_InvalidText ?q_InvalidText_TurnedrowsError ?q_TurnedrowsError_TurnedrowsError ?hg_InvalidText ?hk_InvalidText ?ha_InvalidText ?ho_InvalidText ?hn_ ?ht_ ?z_any ?z_int ?z_isinstance ?z_len ?z_range ?z_str ?z_tuple ?zc_DIGITS ?zd_SIZES ?ld_SIZES ?sm_SIZES ?kk_SIZES ?ke_SIZES
    (case a_write_script => k_is)
    (case l_write_script => k_is)
    (case c_write_script => k_is)
    (case k_write_script => k_is)
    (case a_plain_number => k_is)
    (case l_plain_number => k_is)
    (case c_plain_number => k_is)
    (case k_plain_number => k_is)
    (case a_read_move => k_is)
    (case l_read_move => k_is)
    (case c_read_move => k_is)
    (case k_read_move => k_is)
    (case a_read_script => k_is)
    (case l_read_script => k_is)
    (case c_read_script => k_is)
    (case k_read_script => k_is)
    (case a__law_cell => k_is)
    (case l__law_cell => k_is)
    (case c__law_cell => k_is)
    (case k__law_cell => k_is)
    (case a__law_digits => k_is)
    (case l__law_digits => k_is)
    (case c__law_digits => k_is)
    (case k__law_digits => k_is)
    (case a__law_rich => k_is)
    (case l__law_rich => k_is)
    (case c__law_rich => k_is)
    (case k__law_rich => k_is)
    (case a__law_count => k_is)
    (case l__law_count => k_is)
    (case c__law_count => k_is)
    (case k__law_count => k_is)
    (case a__law_script_of => k_is)
    (case l__law_script_of => k_is)
    (case c__law_script_of => k_is)
    (case k__law_script_of => k_is)
    (case a__law_read => k_is)
    (case l__law_read => k_is)
    (case c__law_read => k_is)
    (case k__law_read => k_is)
    (case a_law => k_is)
    (case l_law => k_is)
    (case c_law => k_is)
    (case k_law => k_is)
    (case a_InvalidMove => k_is)
    (case a_InvalidText => k_is)
    (case a_TurnedrowsError => k_is)
    (case x_InvalidText => k_exc)
    (case kp_InvalidText => k_is)
    (case sb_InvalidMove => k_is)
    (case ty_InvalidMove => k_is)
    (case hd_InvalidMove => k_is)
    (case sb_InvalidText => k_is)
    (case ty_InvalidText => k_is)
    (case hd_InvalidText => k_is)
    (case sb_TurnedrowsError => k_is)
    (case ty_TurnedrowsError => k_is)
    (case hd_TurnedrowsError => k_is)
    (case q_InvalidMove_InvalidMove => k_is)
    (case q_InvalidText_InvalidMove => k_is)
    (case q_InvalidText_InvalidText => k_is)
    (case q_InvalidText_TurnedrowsError => k_is)
    (case q_TurnedrowsError_TurnedrowsError => k_is)
    (case hg_InvalidText => k_is)
    (case hk_InvalidText => k_is)
    (case ha_InvalidText => k_is)
    (case ho_InvalidText => k_is)
    (case hn_ => k_is)
    (case ht_ => k_is)
    (case z_any => k_is)
    (case z_int => k_is)
    (case z_isinstance => k_is)
    (case z_len => k_is)
    (case z_range => k_is)
    (case z_str => k_is)
    (case z_tuple => k_is)
    (case zc_DIGITS => k_is)
    (case zd_SIZES => k_is)
    (case ld_SIZES => k_is)
    (case sm_SIZES => decide)
    (case kk_SIZES => exact ⟨⟨_, _, rfl, rfl⟩, ⟨_, _, rfl, rfl⟩, ⟨_, _, rfl, rfl⟩, ⟨_, _, rfl, rfl⟩, ⟨_, _, rfl, rfl⟩, ⟨_, _, rfl, rfl⟩, ⟨_, _, rfl, rfl⟩, ⟨_, _, rfl, rfl⟩, ⟨_, _, rfl, rfl⟩, trivial⟩)
    (case ke_SIZES => exact ⟨⟨⟨_, rfl⟩, ⟨_, rfl⟩⟩, ⟨⟨_, rfl⟩, ⟨_, rfl⟩⟩, ⟨⟨_, rfl⟩, ⟨_, rfl⟩⟩, ⟨⟨_, rfl⟩, ⟨_, rfl⟩⟩, ⟨⟨_, rfl⟩, ⟨_, rfl⟩⟩, ⟨⟨_, rfl⟩, ⟨_, rfl⟩⟩, ⟨⟨_, rfl⟩, ⟨_, rfl⟩⟩, ⟨⟨_, rfl⟩, ⟨_, rfl⟩⟩, ⟨⟨_, rfl⟩, ⟨_, rfl⟩⟩, trivial⟩)
#print axioms PySem.Challenge.cw_turnedrows_k51_scripts_written_and_read_holds
