import PyProof.Rows.All
import PySem.Challenge.RW_slotfile_k06_whole_the_safe_order
import HandS.ForMost
import HandS.Deep
import HandS.TupAny
import HandS.Conv
import HandS.Style
import HandS.IsInst
import HandS.Lambda
import HandS.Text
import HandS.More
import HandS.Walk
set_option Elab.async false
set_option linter.all false
set_option maxRecDepth 100000
set_option maxHeartbeats 4000000
/-! ## The data layer: what a value stands for, as data without addresses -/
namespace SF
open PySem PySem.Spec PyProof.Rows L2

def Ex (H H' : Hp) : Prop := ∀ a o, H a = some o → H' a = some o
theorem Ex.refl (H : Hp) : Ex H H := fun _ _ h => h
theorem Ex.trans {H H1 H2 : Hp} (a : Ex H H1) (b : Ex H1 H2) : Ex H H2 := fun x o h => b x o (a x o h)
theorem Ex.new {H : Hp} {p : Addr} {o : HO} (h : H p = none) : Ex H (upd H p o) := fun a u e => by
  rw [upd_ne (ne_of_none e h)]
  exact e
theorem Ex.back {H H' : Hp} (e : Ex H H') {p : Addr} (h : H' p = none) : H p = none := by
  cases q : H p with
  | none => rfl
  | some o =>
    rw [e p o q] at h
    cases h
/-- both sides get the same new object -/
theorem Ex.both {H H' : Hp} {p : Addr} {o : HO} (e : Ex H H') : Ex (upd H p o) (upd H' p o) := fun a u h => by
  by_cases q : a = p
  · subst q
    rw [upd_same] at h ⊢
    exact h
  · rw [upd_ne q] at h ⊢
    exact e a u h
theorem Ex.out {H H' : Hp} {p : Addr} {o : HO} (e : Ex H H') (h : H p = none) : Ex H (upd H' p o) := fun a u q => by
  rw [upd_ne (ne_of_none q h)]
  exact e a u q
theorem ex_rd {H H' : Hp} {a : Addr} {u : HO} (e : Ex H H') (h : Rd H a u) : Rd H' a u := by
  rcases h with h | ⟨o, h⟩
  · exact .inl (e a _ h)
  · exact .inr ⟨o, e a _ h⟩
section
variable {K : PySem.W.Frag} {G G' H H' : Hp}
theorem ex_l {a : Addr} {xs : List V} (e : Ex H H') (h : SqL K H a xs) : SqL K H' a xs := by
  rcases h with h | h
  · exact .inl (ex_rd e h)
  · exact .inr h
theorem ex_t {a : Addr} {xs : List V} (e : Ex H H') (h : SqT K H a xs) : SqT K H' a xs := by
  rcases h with h | h
  · exact .inl (ex_rd e h)
  · exact .inr h
theorem sq_of {a : Addr} {xs : List V} (h : H a = some (.lst xs)) : SqL K H a xs := .inl (.inl h)
theorem st_of {a : Addr} {xs : List V} (h : H a = some (.tup xs)) : SqT K H a xs := .inl (.inl h)

mutual
def Im (K : PySem.W.Frag) (G : Hp) : PyData → V → Prop
  | .none, v => v = .non
  | .bool b, v => v = .bl b
  | .int i, v => v = .int i
  | .str x, v => v = .str x
  | .list ds, v => ∃ a xs, v = .ref a ∧ G a = some (.lst xs) ∧ ImL K G ds xs
  | .tuple ds, v => ∃ a xs, v = .ref a ∧ SqT K G a xs ∧ ImL K G ds xs
  | .dict _, _ => False
def ImL (K : PySem.W.Frag) (G : Hp) : List PyData → List V → Prop
  | [], xs => xs = []
  | d :: ds, xs => ∃ x r, xs = x :: r ∧ Im K G d x ∧ ImL K G ds r
end
theorem im_none {v : V} : Im K G .none v = (v = .non) := by rw [Im]
theorem im_bool {b : Bool} {v : V} : Im K G (.bool b) v = (v = .bl b) := by rw [Im]
theorem im_int {i : Int} {v : V} : Im K G (.int i) v = (v = .int i) := by rw [Im]
theorem im_str {x : Str} {v : V} : Im K G (.str x) v = (v = .str x) := by rw [Im]
theorem im_list {ds : List PyData} {v : V} : Im K G (.list ds) v = (∃ a xs, v = .ref a ∧ G a = some (.lst xs) ∧ ImL K G ds xs) := by rw [Im]
theorem im_tuple {ds : List PyData} {v : V} : Im K G (.tuple ds) v = (∃ a xs, v = .ref a ∧ SqT K G a xs ∧ ImL K G ds xs) := by rw [Im]
theorem im_dict {ds : List (PyData × PyData)} {v : V} : Im K G (.dict ds) v = False := by rw [Im]
theorem imL_nil {xs : List V} : ImL K G [] xs = (xs = []) := by rw [ImL]
theorem imL_cons {d : PyData} {ds : List PyData} {xs : List V} : ImL K G (d :: ds) xs = (∃ x r, xs = x :: r ∧ Im K G d x ∧ ImL K G ds r) := by rw [ImL]
theorem ImL.nil : ImL K G [] [] := by rw [imL_nil]
theorem ImL.cons {d : PyData} {ds : List PyData} {x : V} {xs : List V} (h : Im K G d x) (t : ImL K G ds xs) : ImL K G (d :: ds) (x :: xs) := by
  rw [imL_cons]
  exact ⟨x, xs, rfl, h, t⟩
mutual
theorem Im.mono (e : Ex G G') : ∀ {d : PyData} {v : V}, Im K G d v → Im K G' d v
  | .none, v, h => by rw [im_none] at h ⊢; exact h
  | .bool _, v, h => by rw [im_bool] at h ⊢; exact h
  | .int _, v, h => by rw [im_int] at h ⊢; exact h
  | .str _, v, h => by rw [im_str] at h ⊢; exact h
  | .list ds, v, h => by
    rw [im_list] at h ⊢
    obtain ⟨a, xs, e1, e2, e3⟩ := h
    exact ⟨a, xs, e1, e a _ e2, ImL.mono e e3⟩
  | .tuple ds, v, h => by
    rw [im_tuple] at h ⊢
    obtain ⟨a, xs, e1, e2, e3⟩ := h
    exact ⟨a, xs, e1, ex_t e e2, ImL.mono e e3⟩
  | .dict _, v, h => by rw [im_dict] at h; exact h.elim
theorem ImL.mono (e : Ex G G') : ∀ {ds : List PyData} {xs : List V}, ImL K G ds xs → ImL K G' ds xs
  | [], xs, h => by rw [imL_nil] at h ⊢; exact h
  | d :: ds, xs, h => by
    rw [imL_cons] at h ⊢
    obtain ⟨x, r, e1, e2, e3⟩ := h
    exact ⟨x, r, e1, Im.mono e e2, ImL.mono e e3⟩
end
theorem ImL.len : ∀ {ds : List PyData} {xs : List V}, ImL K G ds xs → ds.length = xs.length
  | [], xs, h => by rw [imL_nil] at h; subst h; rfl
  | d :: ds, xs, h => by
    rw [imL_cons] at h
    obtain ⟨x, r, rfl, _, e3⟩ := h
    show ds.length + 1 = r.length + 1
    rw [ImL.len e3]
theorem ImL.get : ∀ {ds : List PyData} {xs : List V} {i : Nat} {d : PyData}, ImL K G ds xs → ds[i]? = some d → ∃ x, xs[i]? = some x ∧ Im K G d x
  | [], xs, i, d, h, e => by simp at e
  | d0 :: ds, xs, 0, d, h, e => by
    rw [imL_cons] at h
    obtain ⟨x, r, rfl, h1, h2⟩ := h
    have : d0 = d := by simpa using e
    subst this
    exact ⟨x, rfl, h1⟩
  | d0 :: ds, xs, i + 1, d, h, e => by
    rw [imL_cons] at h
    obtain ⟨x, r, rfl, h1, h2⟩ := h
    obtain ⟨y, hy, im⟩ := ImL.get (i := i) (d := d) h2 (by simpa using e)
    exact ⟨y, by simpa using hy, im⟩
theorem ImL.of_get : ∀ {ds : List PyData} {xs : List V}, ds.length = xs.length → (∀ (i : Nat) (d : PyData) (x : V), ds[i]? = some d → xs[i]? = some x → Im K G d x) → ImL K G ds xs
  | [], xs, hl, h => by
    rw [imL_nil]
    exact List.eq_nil_of_length_eq_zero hl.symm
  | d :: ds, [], hl, h => by simp at hl
  | d :: ds, x :: xs, hl, h => .cons (h 0 d x rfl rfl) (ImL.of_get (by simpa using hl) fun i e y h1 h2 => h (i + 1) e y (by simpa using h1) (by simpa using h2))
theorem ImL.append : ∀ {ds es : List PyData} {xs ys : List V}, ImL K G ds xs → ImL K G es ys → ImL K G (ds ++ es) (xs ++ ys)
  | [], es, xs, ys, h, k => by rw [imL_nil] at h; subst h; exact k
  | d :: ds, es, xs, ys, h, k => by
    rw [imL_cons] at h
    obtain ⟨x, r, rfl, h1, h2⟩ := h
    exact .cons h1 (ImL.append h2 k)
theorem ImL.one {d : PyData} {x : V} (h : Im K G d x) : ImL K G [d] [x] := .cons h .nil
theorem ImL.take {ds : List PyData} {xs : List V} (n : Nat) (h : ImL K G ds xs) : ImL K G (ds.take n) (xs.take n) := by
  refine .of_get (by rw [List.length_take, List.length_take, h.len]) fun i d x h1 h2 => ?_
  rw [List.getElem?_take] at h1 h2
  by_cases q : i < n
  · rw [if_pos q] at h1 h2
    obtain ⟨y, e, im⟩ := h.get h1
    rw [e] at h2
    cases h2
    exact im
  · rw [if_neg q] at h1
    cases h1
theorem ImL.drop {ds : List PyData} {xs : List V} (n : Nat) (h : ImL K G ds xs) : ImL K G (ds.drop n) (xs.drop n) := by
  refine .of_get (by rw [List.length_drop, List.length_drop, h.len]) fun i d x h1 h2 => ?_
  rw [List.getElem?_drop] at h1 h2
  obtain ⟨y, e, im⟩ := h.get h1
  rw [e] at h2
  cases h2
  exact im
theorem ImL.set {ds : List PyData} {xs : List V} {d : PyData} {x : V} (n : Nat) (h : ImL K G ds xs) (hd : Im K G d x) : ImL K G (ds.set n d) (xs.set n x) := by
  refine .of_get (by rw [List.length_set, List.length_set, h.len]) fun i e y h1 h2 => ?_
  rw [List.getElem?_set] at h1 h2
  have hl := h.len
  by_cases q : n = i
  · rw [if_pos q] at h1 h2
    by_cases q2 : n < ds.length
    · rw [if_pos (q ▸ q2)] at h1
      rw [if_pos (by rw [← hl]; exact q ▸ q2)] at h2
      cases h1
      cases h2
      exact hd
    · rw [if_neg (q ▸ q2)] at h1
      cases h1
  · rw [if_neg q] at h1 h2
    obtain ⟨y, e, im⟩ := h.get h1
    rw [e] at h2
    cases h2
    exact im
theorem ImL.rev {ds : List PyData} {xs : List V} (h : ImL K G ds xs) : ImL K G ds.reverse xs.reverse := by
  have hl := h.len
  refine .of_get (by rw [List.length_reverse, List.length_reverse, hl]) fun i d x h1 h2 => ?_
  have hi : i < ds.length := by
    have := (List.getElem?_eq_some_iff.mp h1).1
    simpa using this
  rw [List.getElem?_reverse hi] at h1
  rw [List.getElem?_reverse (hl ▸ hi), ← hl] at h2
  obtain ⟨y, e, im⟩ := h.get h1
  rw [e] at h2
  cases h2
  exact im
theorem ImL.dropLast {ds : List PyData} {xs : List V} (h : ImL K G ds xs) : ImL K G ds.dropLast xs.dropLast := by
  rw [List.dropLast_eq_take, List.dropLast_eq_take, h.len]
  exact h.take _
theorem ImL.eraseIdx {ds : List PyData} {xs : List V} (k : Nat) (h : ImL K G ds xs) : ImL K G (ds.eraseIdx k) (xs.eraseIdx k) := by
  rw [List.eraseIdx_eq_take_drop_succ, List.eraseIdx_eq_take_drop_succ]
  exact (h.take k).append (h.drop _)
theorem ImL.none_of {ds : List PyData} {xs : List V} {i : Nat} (h : ImL K G ds xs) (e : ds[i]? = none) : xs[i]? = none := by
  rw [List.getElem?_eq_none_iff] at e ⊢
  rw [← h.len]
  exact e
theorem imL_ints {ns : List Int} : ImL K G (ns.map PyData.int) (ns.map V.int) := by
  refine .of_get (by simp) fun i d x h1 h2 => ?_
  rw [List.getElem?_map] at h1 h2
  cases e : ns[i]? with
  | none => rw [e] at h1; cases h1
  | some n =>
    rw [e] at h1 h2
    cases h1
    cases h2
    rw [im_int]
mutual
theorem Im.dp (e : Ex G H) : ∀ {d : PyData} {v : V}, Im K G d v → Dp K H v d
  | .none, v, h => by rw [im_none] at h; subst h; exact .non
  | .bool _, v, h => by rw [im_bool] at h; subst h; exact .bl _
  | .int _, v, h => by rw [im_int] at h; subst h; exact .int _
  | .str _, v, h => by rw [im_str] at h; subst h; exact .str _
  | .list ds, v, h => by
    rw [im_list] at h
    obtain ⟨a, xs, rfl, e2, e3⟩ := h
    exact .lst (sq_of (e a _ e2)) (ImL.dp e e3)
  | .tuple ds, v, h => by
    rw [im_tuple] at h
    obtain ⟨a, xs, rfl, e2, e3⟩ := h
    exact .tup (ex_t e e2) (ImL.dp e e3)
  | .dict _, v, h => by rw [im_dict] at h; exact h.elim
theorem ImL.dp (e : Ex G H) : ∀ {ds : List PyData} {xs : List V}, ImL K G ds xs → DpAll K H xs ds
  | [], xs, h => by rw [imL_nil] at h; subst h; exact .nil
  | d :: ds, xs, h => by
    rw [imL_cons] at h
    obtain ⟨x, r, rfl, e2, e3⟩ := h
    exact .cons (Im.dp e e2) (ImL.dp e e3)
end
/-! ### flat data -/
def sc : PyData → Option V
  | .none => some .non
  | .bool b => some (.bl b)
  | .int i => some (.int i)
  | .str x => some (.str x)
  | _ => none
def isSc : PyData → Bool
  | .none => true
  | .bool _ => true
  | .int _ => true
  | .str _ => true
  | _ => false
theorem Im.sc {d : PyData} {v : V} (h : Im K G d v) (f : isSc d = true) : sc d = some v ∧ flatV v = true := by
  cases d with
  | none => rw [im_none] at h; subst h; exact ⟨rfl, rfl⟩
  | bool _ => rw [im_bool] at h; subst h; exact ⟨rfl, rfl⟩
  | int _ => rw [im_int] at h; subst h; exact ⟨rfl, rfl⟩
  | str _ => rw [im_str] at h; subst h; exact ⟨rfl, rfl⟩
  | list _ => cases f
  | tuple _ => cases f
  | dict _ => cases f
theorem eqV_sc {d e : PyData} {v u : V} (h : sc d = some v) (k : sc e = some u) : eqV v u = PyData.eqv d e := by
  cases d <;> cases e <;> simp only [SF.sc, Option.some.injEq, reduceCtorEq] at h k <;> subst h <;> subst k <;> simp [eqV, PyData.eqv]
theorem inV_sc {d : PyData} {v : V} (hd : sc d = some v) : ∀ {ds : List PyData} {xs : List V}, ImL K G ds xs → ds.all isSc = true → inV v xs = ds.any (fun z => PyData.eqv z d) ∧ xs.all flatV = true
  | [], xs, h, _ => by rw [imL_nil] at h; subst h; exact ⟨rfl, rfl⟩
  | e :: ds, xs, h, f => by
    rw [imL_cons] at h
    obtain ⟨x, r, rfl, h1, h2⟩ := h
    rw [List.all_cons, Bool.and_eq_true] at f
    obtain ⟨s1, s2⟩ := h1.sc f.1
    obtain ⟨t1, t2⟩ := inV_sc hd h2 f.2
    refine ⟨?_, ?_⟩
    · show (eqV x v || inV v r) = _
      rw [List.any_cons, eqV_sc s1 hd, t1]
    · rw [List.all_cons, s2, t2]
      rfl
/-! ### data without lists -/
mutual
def nol : PyData → Bool
  | .list _ => false
  | .tuple ds => nolL ds
  | .dict _ => false
  | .none => true
  | .bool _ => true
  | .int _ => true
  | .str _ => true
def nolL : List PyData → Bool
  | [] => true
  | d :: ds => nol d && nolL ds
end
theorem nolL_all : ∀ {ds : List PyData}, nolL ds = ds.all nol
  | [] => by rw [nolL]; rfl
  | d :: ds => by rw [nolL, nolL_all, List.all_cons]
/-- every tuple of the one stands in the other -/
def ExT (G G' : Hp) : Prop := ∀ a xs, Rd G a (.tup xs) → Rd G' a (.tup xs)
mutual
theorem Im.monoT (e : ExT G G') : ∀ {d : PyData} {v : V}, nol d = true → Im K G d v → Im K G' d v
  | .none, v, _, h => by rw [im_none] at h ⊢; exact h
  | .bool _, v, _, h => by rw [im_bool] at h ⊢; exact h
  | .int _, v, _, h => by rw [im_int] at h ⊢; exact h
  | .str _, v, _, h => by rw [im_str] at h ⊢; exact h
  | .list ds, v, q, h => by rw [nol] at q; cases q
  | .tuple ds, v, q, h => by
    rw [nol] at q
    rw [im_tuple] at h ⊢
    obtain ⟨a, xs, e1, e2, e3⟩ := h
    refine ⟨a, xs, e1, ?_, ImL.monoT e q e3⟩
    rcases e2 with e2 | e2
    · exact .inl (e a xs e2)
    · exact .inr e2
  | .dict _, v, _, h => by rw [im_dict] at h; exact h.elim
theorem ImL.monoT (e : ExT G G') : ∀ {ds : List PyData} {xs : List V}, nolL ds = true → ImL K G ds xs → ImL K G' ds xs
  | [], xs, _, h => by rw [imL_nil] at h ⊢; exact h
  | d :: ds, xs, q, h => by
    rw [nolL, Bool.and_eq_true] at q
    rw [imL_cons] at h ⊢
    obtain ⟨x, r, e1, e2, e3⟩ := h
    exact ⟨x, r, e1, Im.monoT e q.1 e2, ImL.monoT e q.2 e3⟩
end
/-- a heap without what stands at l -/
def cut (G : Hp) (l : Addr) : Hp := fun a => if a = l then none else G a
theorem cut_same {G : Hp} {l : Addr} : cut G l l = none := by unfold cut; rw [if_pos rfl]
theorem cut_ne {G : Hp} {l a : Addr} (h : a ≠ l) : cut G l a = G a := by unfold cut; rw [if_neg h]
theorem Ex.cut {l : Addr} : Ex (cut G l) G := fun a o h => by
  by_cases q : a = l
  · subst q; rw [cut_same] at h; cases h
  · rw [cut_ne q] at h; exact h
theorem ExT.cut {l : Addr} {xs : List V} (h : G l = some (.lst xs)) : ExT G (cut G l) := fun a ys r => by
  have q : a ≠ l := by
    rintro rfl
    rcases r with r | ⟨o, r⟩
    · rw [h] at r; cases r
    · rw [h] at r; cases r
  rcases r with r | ⟨o, r⟩
  · exact .inl (by rw [cut_ne q]; exact r)
  · exact .inr ⟨o, by rw [cut_ne q]; exact r⟩
end
end SF

/-! ## States as data: slots, a frozen part of the heap, lists of one's own, a row that is drawn from -/
namespace SF
open PySem PySem.Spec PyProof.Rows L2

/-- what is raised: which class, what its field holds -/
structure Exn where
  k : Nat
  v : Int
/-- an object that is no table of code objects -/
abbrev NTbl (o : HO) : Prop := ∀ ps, o ≠ .tbl ps
theorem ntL {xs : List V} : NTbl (.lst xs) := fun _ z => by cases z
/-- an object of one's own of any kind: what is true of it -/
structure ObK where
  ok : PySem.W.Frag → Addr → Hp → HO → Prop
  mono : ∀ K a G G' o, Ex G G' → ok K a G o → ok K a G' o
  nt : ∀ K a G o, ok K a G o → NTbl o
/-- a value, and what is true of it -/
structure VaK where
  v : V
  ok : Hp → Prop
  mono : ∀ G G', Ex G G' → ok G → ok G'
/-- what a slot holds: nothing known, data, a list of one's own, the row, another object of one's own, a value -/
inductive Ent where
  | no | dat (d : PyData) | ls (ds : List PyData) | row | ob (k : ObK) | val (k : VaK)
def Ent.isM : Ent → Bool
  | .ls _ => true
  | .row => true
  | .ob _ => true
  | _ => false
/-- tables of code objects grow -/
structure TblK (H H' : Hp) : Prop where
  up : ∀ a ps, H a = some (.tbl ps) → ∃ qs, H' a = some (.tbl qs)
  tab : ∀ T, LamX.Tabs T H → LamX.Tabs T H'
theorem TblK.refl (H : Hp) : TblK H H := ⟨fun _ ps h => ⟨ps, h⟩, fun _ h => h⟩
theorem TblK.trans {H H1 H2 : Hp} (a : TblK H H1) (b : TblK H1 H2) : TblK H H2 :=
  ⟨fun x ps h => by obtain ⟨qs, h1⟩ := a.up x ps h; exact b.up x qs h1, fun T h => b.tab T (a.tab T h)⟩
/-- all but lists stay -/
theorem TblK.of {H H' : Hp} (k : ∀ a o, H a = some o → (∀ xs, o ≠ .lst xs) → H' a = some o) : TblK H H' := by
  refine ⟨fun a ps h => ⟨ps, k a _ h (fun xs z => by cases z)⟩, fun T h p hp => ?_⟩
  obtain ⟨ps, h1, h2, h3⟩ := h p hp
  refine ⟨ps, k _ _ h1 (fun xs z => by cases z), h2, fun pos cv hc => ?_⟩
  obtain ⟨c, e1, e2⟩ := h3 pos cv hc
  exact ⟨c, e1, k _ _ e2 (fun xs z => by unfold LamX.CodeO at z; cases z)⟩
theorem TblK.ex {H H' : Hp} (k : Ex H H') : TblK H H' := .of fun a o h _ => k a o h
theorem TblK.new {H : Hp} {p : Addr} {o : HO} (h : H p = none) : TblK H (upd H p o) := .ex (.new h)
theorem TblK.lst {H : Hp} {p : Addr} {xs : List V} {o : HO} (h : H p = some (.lst xs)) : TblK H (upd H p o) := .of fun a u e n => by
  rw [upd_ne (fun z => by rw [z, h] at e; exact n xs (Option.some.inj e).symm)]
  exact e
abbrev Rho := List Ent
/-- what an expression gives: data, or a list made just now -/
inductive Res where
  | dat (d : PyData) | lst (ds : List PyData)
def Res.frz : Res → PyData
  | .dat d => d
  | .lst ds => .list ds
def Res.ent : Res → Ent
  | .dat d => .dat d
  | .lst ds => .ls ds
structure Bs where
  XR : Exn → Value → Option Addr → Hp → Prop
  E : XK
structure Cn where
  M : Option Addr
  Ge : Hp
  He : Hp
section
variable {K : PySem.W.Frag} {G G' G1 G2 H H' H1 H2 : Hp}
/-- the script -/
def ScrAt (K : PySem.W.Frag) (G : Hp) (s : Addr) (ns : List Int) : Prop := (∃ o, G s = some (.frz o (.lst (ns.map V.int)))) ∨ SqL K (fun _ => none) s (ns.map V.int)
theorem ScrAt.mono {s : Addr} {ns : List Int} (h : ScrAt K G s ns) (e : Ex G G') : ScrAt K G' s ns := by
  rcases h with ⟨o, h⟩ | h
  · exact .inl ⟨o, e _ _ h⟩
  · exact .inr h
theorem ScrAt.sql {s : Addr} {ns : List Int} (h : ScrAt K G s ns) (e : Ex G H) : SqL K H s (ns.map V.int) := by
  rcases h with ⟨o, h⟩ | h
  · exact .inl (.inr ⟨o, e _ _ h⟩)
  · exact ex_l (fun _ _ z => by cases z) h
theorem ScrAt.cut {s l : Addr} {ns : List Int} {xs : List V} (h : ScrAt K G s ns) (hl : G l = some (.lst xs)) : ScrAt K (cut G l) s ns := by
  rcases h with ⟨o, h⟩ | h
  · exact .inl ⟨o, by rw [cut_ne (fun e => by rw [e, hl] at h; cases h)]; exact h⟩
  · exact .inr h
theorem ScrAt.of {s : Addr} {ns : List Int} (h : SqL K H s (ns.map V.int)) (o : Only H) : ScrAt K H s ns := by
  rcases h with (h | h) | h
  · rcases o s with z | ⟨a, b, z⟩
    · rw [h] at z; cases z
    · rw [h] at z; cases z
  · exact .inl h
  · exact .inr (.inr h)
def RowAt (K : PySem.W.Frag) (G H : Hp) (r : Addr) : Prop := G r = none ∧ ∃ (s : Addr) (ns : List Int) (i x : Int), H r = some (.lst [.ref s, .int i, .int x]) ∧ ScrAt K G s ns ∧ 0 ≤ i ∧ 0 ≤ x ∧ x < 2147483647
theorem RowAt.there {r : Addr} (h : RowAt K G H r) : H r ≠ none := by
  obtain ⟨_, s, ns, i, x, e, _⟩ := h
  rw [e]
  exact fun z => by cases z
theorem RowAt.go {r : Addr} (h : RowAt K G H r) (e : Ex G G') (n : G' r = none) (k : ∀ xs, H r = some (.lst xs) → H' r = some (.lst xs)) : RowAt K G' H' r := by
  obtain ⟨_, s, ns, i, x, e1, e2, e3⟩ := h
  exact ⟨n, s, ns, i, x, k _ e1, e2.mono e, e3⟩
def SlotOk (K : PySem.W.Frag) (G H : Hp) : Ent → Option V → Prop
  | .no, _ => True
  | .dat d, o => ∃ v, o = some v ∧ Im K G d v
  | .ls ds, o => ∃ l xs, o = some (.ref l) ∧ H l = some (.lst xs) ∧ G l = none ∧ ImL K G ds xs
  | .row, o => ∃ r, o = some (.ref r) ∧ RowAt K G H r
  | .ob k, o => ∃ l u, o = some (.ref l) ∧ H l = some u ∧ G l = none ∧ k.ok K l G u
  | .val k, o => o = some k.v ∧ k.ok G
def IsRow (ρ : Rho) (σ : L2.St) (r : Addr) : Prop := ∃ i : Nat, ρ[i]? = some Ent.row ∧ σ[i]? = some (some (.ref r))
structure Sat (K : PySem.W.Frag) (c : Cn) (ρ : Rho) (σ : L2.St) (G H : Hp) : Prop where
  ex1 : Ex c.Ge G
  ex2 : Ex G H
  keep : ∀ a o, c.He a = some o → c.M ≠ some a → NTbl o → H a = some o
  tbl : TblK c.He H
  there : ∀ a, c.He a ≠ none → H a ≠ none
  avoid : ∀ a, c.Ge a = none → c.He a ≠ none → G a = none
  mrow : ∀ r, c.M = some r → RowAt K G H r
  mhe : ∀ r, c.M = some r → c.He r ≠ none
  len : ρ.length = σ.length
  slot : ∀ (i : Nat) e o, ρ[i]? = some e → σ[i]? = some o → SlotOk K G H e o
  own : ∀ (i : Nat) e l, ρ[i]? = some e → e.isM = true → σ[i]? = some (some (.ref l)) → c.He l = none ∨ (c.M = some l ∧ e = .row)
  ne : ∀ (i j : Nat) e f l, i ≠ j → ρ[i]? = some e → ρ[j]? = some f → e.isM = true → f.isM = true → σ[i]? = some (some (.ref l)) → σ[j]? ≠ some (some (.ref l))
/-- a step of the two heaps, the slots as they are -/
structure Tr (K : PySem.W.Frag) (ρ : Rho) (σ : L2.St) (G H G' H' : Hp) : Prop where
  eg : Ex G G'
  eh : Ex G' H'
  keep : ∀ a o, H a = some o → ¬ IsRow ρ σ a → NTbl o → H' a = some o
  tbl : TblK H H'
  avoid : ∀ a, G a = none → H a ≠ none → G' a = none
  row : ∀ r, IsRow ρ σ r → RowAt K G' H' r
def Out (K : PySem.W.Frag) (H G' H' : Hp) : Res → V → Prop
  | .dat d, v => Im K G' d v
  | .lst ds, v => ∃ l xs, v = .ref l ∧ H l = none ∧ G' l = none ∧ H' l = some (.lst xs) ∧ ImL K G' ds xs
/-- at a def's end -/
structure Fin' (K : PySem.W.Frag) (c : Cn) (G H : Hp) : Prop where
  ex1 : Ex c.Ge G
  ex2 : Ex G H
  keep : ∀ a o, c.He a = some o → c.M ≠ some a → NTbl o → H a = some o
  tbl : TblK c.He H
  there : ∀ a, c.He a ≠ none → H a ≠ none
  avoid : ∀ a, c.Ge a = none → c.He a ≠ none → G a = none
  mrow : ∀ r, c.M = some r → RowAt K G H r
theorem Sat.fin {c : Cn} {ρ : Rho} {σ : L2.St} (S : Sat K c ρ σ G H) : Fin' K c G H := ⟨S.ex1, S.ex2, S.keep, S.tbl, S.there, S.avoid, S.mrow⟩

variable {c : Cn} {ρ : Rho} {σ : L2.St}
theorem Sat.rowAt (S : Sat K c ρ σ G H) {r : Addr} (h : IsRow ρ σ r) : RowAt K G H r := by
  obtain ⟨i, e1, e2⟩ := h
  obtain ⟨r', e, q⟩ := S.slot i _ _ e1 e2
  cases e
  exact q
theorem Tr.refl (S : Sat K c ρ σ G H) : Tr K ρ σ G H G H := ⟨.refl _, S.ex2, fun _ _ h _ _ => h, .refl _, fun _ h _ => h, fun _ h => S.rowAt h⟩
theorem Tr.there (t : Tr K ρ σ G H G' H') {a : Addr} (h : H a ≠ none) : H' a ≠ none := by
  by_cases q : IsRow ρ σ a
  · exact (t.row a q).there
  · cases e : H a with
    | none => exact absurd e h
    | some o =>
      by_cases n : NTbl o
      · rw [t.keep a o e q n]
        exact fun z => by cases z
      · obtain ⟨ps, hps⟩ : ∃ ps, o = .tbl ps := Classical.byContradiction fun z => n fun ps hps => z ⟨ps, hps⟩
        rw [hps] at e
        obtain ⟨qs, h2⟩ := t.tbl.up a ps e
        rw [h2]
        exact fun z => by cases z
theorem Tr.back (t : Tr K ρ σ G H G' H') {a : Addr} (h : H' a = none) : H a = none := by
  cases e : H a with
  | none => rfl
  | some o => exact absurd h (t.there (by rw [e]; exact fun z => by cases z))
theorem Tr.trans (a : Tr K ρ σ G H G1 H1) (b : Tr K ρ σ G1 H1 G2 H2) : Tr K ρ σ G H G2 H2 :=
  ⟨a.eg.trans b.eg, b.eh, fun x o h n m => b.keep x o (a.keep x o h n m) n m, a.tbl.trans b.tbl, fun x h h' => b.avoid x (a.avoid x h h') (a.there h'), b.row⟩
theorem Sat.neRowM (S : Sat K c ρ σ G H) {i : Nat} {e : Ent} {l : Addr} (h1 : ρ[i]? = some e) (hm : e.isM = true) (hr : e ≠ .row) (h2 : σ[i]? = some (some (.ref l))) : ¬ IsRow ρ σ l := fun ⟨j, e1, e2⟩ => by
  have hne : i ≠ j := by
    rintro rfl
    rw [h1] at e1
    exact hr (Option.some.inj e1)
  exact S.ne i j _ _ l hne h1 e1 hm rfl h2 e2
theorem Sat.neRow (S : Sat K c ρ σ G H) {i : Nat} {ds : List PyData} {l : Addr} (h1 : ρ[i]? = some (.ls ds)) (h2 : σ[i]? = some (some (.ref l))) : ¬ IsRow ρ σ l := S.neRowM h1 rfl (fun z => by cases z) h2
theorem Sat.tr (S : Sat K c ρ σ G H) (t : Tr K ρ σ G H G' H') : Sat K c ρ σ G' H' where
  ex1 := S.ex1.trans t.eg
  ex2 := t.eh
  keep := fun a o h n m => by
    by_cases q : IsRow ρ σ a
    · obtain ⟨i, e1, e2⟩ := q
      rcases S.own i _ a e1 rfl e2 with z | z
      · rw [h] at z; cases z
      · exact absurd z.1 n
    · exact t.keep a o (S.keep a o h n m) q m
  tbl := S.tbl.trans t.tbl
  there := fun a h => t.there (S.there a h)
  avoid := fun a h h' => t.avoid a (S.avoid a h h') (S.there a h')
  mrow := fun r h => by
    by_cases q : IsRow ρ σ r
    · exact t.row r q
    · have z := S.mrow r h
      exact z.go t.eg (t.avoid r z.1 z.there) fun o e => t.keep r _ e q ntL
  mhe := S.mhe
  len := S.len
  slot := fun i e o h1 h2 => by
    have z := S.slot i e o h1 h2
    cases e with
    | no => trivial
    | dat d =>
      obtain ⟨v, e, im⟩ := z
      exact ⟨v, e, im.mono t.eg⟩
    | ls ds =>
      obtain ⟨l, xs, rfl, e2, e3, e4⟩ := z
      refine ⟨l, xs, rfl, t.keep l _ e2 (S.neRow h1 h2) ntL, t.avoid l e3 (by rw [e2]; exact fun z => by cases z), e4.mono t.eg⟩
    | row =>
      obtain ⟨r, rfl, _⟩ := z
      exact ⟨r, rfl, t.row r ⟨i, h1, h2⟩⟩
    | ob k =>
      obtain ⟨l, u, rfl, e2, e3, e4⟩ := z
      exact ⟨l, u, rfl, t.keep l _ e2 (S.neRowM h1 rfl (fun z => by cases z) h2) (k.nt _ _ _ _ e4), t.avoid l e3 (by rw [e2]; exact fun z => by cases z), k.mono _ _ _ _ _ t.eg e4⟩
    | val k => exact ⟨z.1, k.mono _ _ t.eg z.2⟩
  own := S.own
  ne := S.ne
/-- a new object that is frozen at once -/
theorem Tr.newG (S : Sat K c ρ σ G H) {p : Addr} {o : HO} (hp : H p = none) : Tr K ρ σ G H (upd G p o) (upd H p o) where
  eg := .new (S.ex2.back hp)
  eh := S.ex2.both
  keep := fun a u h _ _ => Ex.new hp a u h
  tbl := .new hp
  avoid := fun a h h' => by
    rw [upd_ne (show a ≠ p from fun e => h' (by rw [e]; exact hp))]
    exact h
  row := fun r h => by
    have z := S.rowAt h
    have ne : r ≠ p := fun e => z.there (e ▸ hp)
    exact z.go (.new (S.ex2.back hp)) (by rw [upd_ne ne]; exact z.1) fun o e => by rw [upd_ne ne]; exact e
/-- a new object of one's own -/
theorem Tr.newH (S : Sat K c ρ σ G H) {p : Addr} {o : HO} (hp : H p = none) : Tr K ρ σ G H G (upd H p o) where
  eg := .refl _
  eh := S.ex2.out (S.ex2.back hp)
  keep := fun a u h _ _ => Ex.new hp a u h
  tbl := .new hp
  avoid := fun a h _ => h
  row := fun r h => by
    have z := S.rowAt h
    have ne : r ≠ p := fun e => z.there (e ▸ hp)
    exact z.go (.refl _) z.1 fun o e => by rw [upd_ne ne]; exact e
/-- what was made just now is frozen -/
theorem freeze (S : Sat K c ρ σ G H) (t : Tr K ρ σ G H G1 H1) : ∀ {r : Res} {v : V}, Out K H G1 H1 r v → ∃ G2, Tr K ρ σ G H G2 H1 ∧ Im K G2 r.frz v
  | .dat d, v, o => ⟨G1, t, o⟩
  | .lst ds, v, o => by
    obtain ⟨l, xs, rfl, o1, o2, o3, o4⟩ := o
    have hx : Ex G1 (upd G1 l (.lst xs)) := .new o2
    refine ⟨upd G1 l (.lst xs), ⟨t.eg.trans hx, fun a u h => ?_, t.keep, t.tbl, fun a h h' => ?_, fun r h => ?_⟩, ?_⟩
    · by_cases q : a = l
      · subst q
        rw [upd_same] at h
        cases h
        exact o3
      · rw [upd_ne q] at h
        exact t.eh a u h
    · rw [upd_ne (show a ≠ l from fun e => h' (by rw [e]; exact o1))]
      exact t.avoid a h h'
    · have z := t.row r h
      have ne : r ≠ l := fun e => (S.rowAt h).there (e ▸ o1)
      exact z.go hx (by rw [upd_ne ne]; exact z.1) fun _ e => e
    · show Im K _ (.list ds) _
      rw [im_list]
      exact ⟨l, xs, rfl, upd_same, o4.mono hx⟩
theorem Out.back {r : Res} {v : V} (h : ∀ a, H1 a = none → H a = none) (o : Out K H1 G' H' r v) : Out K H G' H' r v := by
  cases r with
  | dat d => exact o
  | lst ds =>
    obtain ⟨l, xs, e, o1, o2⟩ := o
    exact ⟨l, xs, e, h l o1, o2⟩
theorem Sat.var (S : Sat K c ρ σ G H) {i : Nat} {d : PyData} (h : ρ[i]? = some (.dat d)) : ∃ v, σ[i]? = some (some v) ∧ Im K G d v := by
  have hi : i < σ.length := by
    rw [← S.len]
    exact (List.getElem?_eq_some_iff.mp h).1
  obtain ⟨v, e, im⟩ := S.slot i _ _ h (List.getElem?_eq_getElem hi)
  exact ⟨v, by rw [List.getElem?_eq_getElem hi, e], im⟩
theorem Sat.mutAt (S : Sat K c ρ σ G H) {i : Nat} {ds : List PyData} (h : ρ[i]? = some (.ls ds)) : ∃ l xs, σ[i]? = some (some (.ref l)) ∧ H l = some (.lst xs) ∧ G l = none ∧ ImL K G ds xs := by
  have hi : i < σ.length := by
    rw [← S.len]
    exact (List.getElem?_eq_some_iff.mp h).1
  obtain ⟨l, xs, e, q⟩ := S.slot i _ _ h (List.getElem?_eq_getElem hi)
  exact ⟨l, xs, by rw [List.getElem?_eq_getElem hi, e], q⟩
theorem Sat.rowVar (S : Sat K c ρ σ G H) {i : Nat} (h : ρ[i]? = some .row) : ∃ r, σ[i]? = some (some (.ref r)) ∧ RowAt K G H r := by
  have hi : i < σ.length := by
    rw [← S.len]
    exact (List.getElem?_eq_some_iff.mp h).1
  obtain ⟨r, e, q⟩ := S.slot i _ _ h (List.getElem?_eq_getElem hi)
  exact ⟨r, by rw [List.getElem?_eq_getElem hi, e], q⟩
/-- a value that may go to a slot -/
def ResAt (K : PySem.W.Frag) (c : Cn) (ρ : Rho) (σ : L2.St) (G H : Hp) : Res → V → Prop
  | .dat d, v => Im K G d v
  | .lst ds, v => ∃ l xs, v = .ref l ∧ c.He l = none ∧ G l = none ∧ H l = some (.lst xs) ∧ ImL K G ds xs ∧ ∀ (j : Nat) e, ρ[j]? = some e → e.isM = true → σ[j]? ≠ some (some (.ref l))
/-- a slot gets data, or a list made just now -/
theorem Sat.set (S : Sat K c ρ σ G H) {i : Nat} {r : Res} {v : V} (o : ResAt K c ρ σ G H r v) : Sat K c (ρ.set i r.ent) (σ.set i (some v)) G H where
  ex1 := S.ex1
  ex2 := S.ex2
  keep := S.keep
  tbl := S.tbl
  there := S.there
  avoid := S.avoid
  mrow := S.mrow
  mhe := S.mhe
  len := by rw [List.length_set, List.length_set, S.len]
  slot := fun j e u h1 h2 => by
    by_cases q : i = j
    · subst q
      have hl := S.len
      have hj : i < ρ.length := by
        have := (List.getElem?_eq_some_iff.mp h1).1
        rwa [List.length_set] at this
      rw [List.getElem?_set_self hj] at h1
      rw [List.getElem?_set_self (hl ▸ hj)] at h2
      cases h1
      cases h2
      cases r with
      | dat d => exact ⟨v, rfl, o⟩
      | lst ds =>
        obtain ⟨l, xs, rfl, o1, o2, o3, o4, _⟩ := o
        exact ⟨l, xs, rfl, o3, o2, o4⟩
    · rw [List.getElem?_set_ne q] at h1 h2
      exact S.slot j e u h1 h2
  own := fun j e l h1 hm h2 => by
    by_cases q : i = j
    · subst q
      have hl := S.len
      have hj : i < ρ.length := by
        have := (List.getElem?_eq_some_iff.mp h1).1
        rwa [List.length_set] at this
      rw [List.getElem?_set_self hj] at h1
      rw [List.getElem?_set_self (hl ▸ hj)] at h2
      cases h1
      cases r with
      | dat d => cases hm
      | lst ds =>
        obtain ⟨l', xs, rfl, o1, _⟩ := o
        cases h2
        exact .inl o1
    · rw [List.getElem?_set_ne q] at h1 h2
      exact S.own j e l h1 hm h2
  ne := fun j k e f l hne h1 h2 m1 m2 h3 h4 => by
    have hl := S.len
    have self : ∀ e, (ρ.set i r.ent)[i]? = some e → e.isM = true → (σ.set i (some v))[i]? = some (some (.ref l)) → ∀ (j : Nat) e, ρ[j]? = some e → e.isM = true → σ[j]? ≠ some (some (.ref l)) := fun e q1 q2 q3 => by
      have hj : i < ρ.length := by
        have := (List.getElem?_eq_some_iff.mp q1).1
        rwa [List.length_set] at this
      rw [List.getElem?_set_self hj] at q1
      rw [List.getElem?_set_self (hl ▸ hj)] at q3
      cases q1
      cases r with
      | dat d => cases q2
      | lst ds =>
        obtain ⟨l', xs, rfl, _, _, _, _, o1⟩ := o
        cases q3
        exact o1
    by_cases qj : i = j
    · subst qj
      rw [List.getElem?_set_ne hne] at h2 h4
      exact self e h1 m1 h3 k f h2 m2 h4
    · by_cases qk : i = k
      · subst qk
        rw [List.getElem?_set_ne qj] at h1 h3
        exact self f h2 m2 h4 j e h1 m1 h3
      · rw [List.getElem?_set_ne qj] at h1 h3
        rw [List.getElem?_set_ne qk] at h2 h4
        exact S.ne j k e f l hne h1 h2 m1 m2 h3 h4
theorem Sat.resAt (S : Sat K c ρ σ G H) (t : Tr K ρ σ G H G1 H1) : ∀ {r : Res} {v : V}, Out K H G1 H1 r v → ResAt K c ρ σ G1 H1 r v
  | .dat d, v, o => o
  | .lst ds, v, o => by
    obtain ⟨l, xs, rfl, o1, o2, o3, o4⟩ := o
    refine ⟨l, xs, rfl, ?_, o2, o3, o4, fun j e q1 q2 q3 => ?_⟩
    · cases e : c.He l with
      | none => rfl
      | some u => exact absurd o1 (S.there l (by rw [e]; exact fun z => by cases z))
    · have hj : j < σ.length := (List.getElem?_eq_some_iff.mp q3).1
      have z := S.slot j e _ q1 q3
      cases e with
      | no => cases q2
      | dat d => cases q2
      | ls ds =>
        obtain ⟨l2, xs2, e1, e2, _⟩ := z
        cases e1
        rw [o1] at e2
        cases e2
      | row =>
        obtain ⟨l2, e1, e2⟩ := z
        cases e1
        exact e2.there o1
      | ob k =>
        obtain ⟨l2, u2, e1, e2, _⟩ := z
        cases e1
        rw [o1] at e2
        cases e2
      | val k => cases q2
theorem Sat.setOut (S : Sat K c ρ σ G H) (t : Tr K ρ σ G H G1 H1) {i : Nat} {r : Res} {v : V} (o : Out K H G1 H1 r v) : Sat K c (ρ.set i r.ent) (σ.set i (some v)) G1 H1 := (S.tr t).set (S.resAt t o)
theorem Sat.setDat (S : Sat K c ρ σ G H) {i : Nat} {d : PyData} {v : V} (h : Im K G d v) : Sat K c (ρ.set i (.dat d)) (σ.set i (some v)) G H := S.set (r := .dat d) h
/-- a slot is forgotten -/
theorem Sat.setNo (S : Sat K c ρ σ G H) {i : Nat} {o : Option V} : Sat K c (ρ.set i .no) (σ.set i o) G H where
  ex1 := S.ex1
  ex2 := S.ex2
  keep := S.keep
  tbl := S.tbl
  there := S.there
  avoid := S.avoid
  mrow := S.mrow
  mhe := S.mhe
  len := by rw [List.length_set, List.length_set, S.len]
  slot := fun j e u h1 h2 => by
    by_cases q : i = j
    · subst q
      have hj : i < ρ.length := by
        have := (List.getElem?_eq_some_iff.mp h1).1
        rwa [List.length_set] at this
      rw [List.getElem?_set_self hj] at h1
      cases h1
      trivial
    · rw [List.getElem?_set_ne q] at h1 h2
      exact S.slot j e u h1 h2
  own := fun j e l h1 hm h2 => by
    by_cases q : i = j
    · subst q
      have hj : i < ρ.length := by
        have := (List.getElem?_eq_some_iff.mp h1).1
        rwa [List.length_set] at this
      rw [List.getElem?_set_self hj] at h1
      cases h1
      cases hm
    · rw [List.getElem?_set_ne q] at h1 h2
      exact S.own j e l h1 hm h2
  ne := fun j k e f l hne h1 h2 m1 m2 h3 h4 => by
    by_cases qj : i = j
    · subst qj
      have hj : i < ρ.length := by
        have := (List.getElem?_eq_some_iff.mp h1).1
        rwa [List.length_set] at this
      rw [List.getElem?_set_self hj] at h1
      cases h1
      cases m1
    · by_cases qk : i = k
      · subst qk
        have hj : i < ρ.length := by
          have := (List.getElem?_eq_some_iff.mp h2).1
          rwa [List.length_set] at this
        rw [List.getElem?_set_self hj] at h2
        cases h2
        cases m2
      · rw [List.getElem?_set_ne qj] at h1 h3
        rw [List.getElem?_set_ne qk] at h2 h4
        exact S.ne j k e f l hne h1 h2 m1 m2 h3 h4
/-- an object of one's own changes -/
theorem Sat.writeM (S : Sat K c ρ σ G H) {i : Nat} {e e' : Ent} {l : Addr} {o o' : HO} (h1 : ρ[i]? = some e) (hm : e.isM = true) (hr : e ≠ .row) (h2 : σ[i]? = some (some (.ref l))) (e2 : H l = some o) (e3 : G l = none) (hm' : e'.isM = true)
    (hk : TblK H (upd H l o')) (hs : ∀ H', H' l = some o' → SlotOk K G H' e' (some (.ref l))) : Sat K c (ρ.set i e') σ G (upd H l o') := by
  have hnr := S.neRowM h1 hm hr h2
  have hHe : c.He l = none := by
    rcases S.own i _ l h1 hm h2 with z | z
    · exact z
    · exact absurd z.2 hr
  have hi : i < ρ.length := (List.getElem?_eq_some_iff.mp h1).1
  have hM : ∀ r, c.M = some r → r ≠ l := fun r hr e => S.mhe r hr (e ▸ hHe)
  have nm : ∀ (j : Nat) f, ρ[j]? = some f → f.isM = true → i ≠ j → σ[j]? ≠ some (some (.ref l)) := fun j f q1 q2 q3 => S.ne i j _ f l q3 h1 q1 hm q2 h2
  refine ⟨S.ex1, S.ex2.out e3, fun a o h n m => ?_, S.tbl.trans hk, fun a h => ?_, S.avoid, fun r h => ?_, S.mhe, by rw [List.length_set, S.len], fun j f u q1 q2 => ?_, fun j f l2 q1 qm q2 => ?_, fun j k f g l2 hne q1 q2 m1 m2 q3 q4 => ?_⟩
  · rw [upd_ne (fun q => by rw [q, hHe] at h; cases h)]
    exact S.keep a o h n m
  · by_cases q : a = l
    · subst q
      rw [upd_same]
      exact fun z => by cases z
    · rw [upd_ne q]
      exact S.there a h
  · have z := S.mrow r h
    exact z.go (.refl _) z.1 fun o e => by rw [upd_ne (hM r h)]; exact e
  · by_cases q : i = j
    · subst q
      rw [List.getElem?_set_self hi] at q1
      cases q1
      rw [h2] at q2
      cases q2
      exact hs _ upd_same
    · rw [List.getElem?_set_ne q] at q1
      have z := S.slot j f u q1 q2
      cases f with
      | no => trivial
      | dat d => exact z
      | ls ds2 =>
        obtain ⟨l3, xs3, rfl, z2, z3⟩ := z
        have : l3 ≠ l := fun e => nm j _ q1 rfl q (e ▸ q2)
        exact ⟨l3, xs3, rfl, by rw [upd_ne this]; exact z2, z3⟩
      | row =>
        obtain ⟨r, rfl, z⟩ := z
        have : r ≠ l := fun e => nm j _ q1 rfl q (e ▸ q2)
        exact ⟨r, rfl, z.go (.refl _) z.1 fun o e => by rw [upd_ne this]; exact e⟩
      | ob k2 =>
        obtain ⟨l3, u3, rfl, z2, z3⟩ := z
        have : l3 ≠ l := fun e => nm j _ q1 rfl q (e ▸ q2)
        exact ⟨l3, u3, rfl, by rw [upd_ne this]; exact z2, z3⟩
      | val k2 => exact z
  · by_cases q : i = j
    · subst q
      rw [h2] at q2
      cases q2
      exact .inl hHe
    · rw [List.getElem?_set_ne q] at q1
      exact S.own j f l2 q1 qm q2
  · have gt : ∀ (j : Nat) f, (ρ.set i e')[j]? = some f → f.isM = true → ∃ f', ρ[j]? = some f' ∧ f'.isM = true := fun j f q1 q2 => by
      by_cases q : i = j
      · subst q
        exact ⟨_, h1, hm⟩
      · rw [List.getElem?_set_ne q] at q1
        exact ⟨f, q1, q2⟩
    obtain ⟨e', a1, a2⟩ := gt j f q1 m1
    obtain ⟨f', b1, b2⟩ := gt k g q2 m2
    exact S.ne j k e' f' l2 hne a1 b1 a2 b2 q3 q4
/-- a list of one's own changes -/
theorem Sat.write (S : Sat K c ρ σ G H) {i : Nat} {ds es : List PyData} {l : Addr} {ys : List V} (h1 : ρ[i]? = some (.ls ds)) (h2 : σ[i]? = some (some (.ref l))) (im : ImL K G es ys) : Sat K c (ρ.set i (.ls es)) σ G (upd H l (.lst ys)) := by
  obtain ⟨l', xs, e1, e2, e3, e4⟩ := S.mutAt h1
  rw [h2] at e1
  cases e1
  exact S.writeM h1 rfl (fun z => by cases z) h2 e2 e3 rfl (.lst e2) fun H' h => ⟨l, ys, rfl, h, e3, im⟩
theorem Sat.obAt (S : Sat K c ρ σ G H) {i : Nat} {k : ObK} (h : ρ[i]? = some (.ob k)) : ∃ l u, σ[i]? = some (some (.ref l)) ∧ H l = some u ∧ G l = none ∧ k.ok K l G u := by
  have hi : i < σ.length := by
    rw [← S.len]
    exact (List.getElem?_eq_some_iff.mp h).1
  obtain ⟨l, u, e, q⟩ := S.slot i _ _ h (List.getElem?_eq_getElem hi)
  exact ⟨l, u, by rw [List.getElem?_eq_getElem hi, e], q⟩
theorem Sat.writeOb (S : Sat K c ρ σ G H) {i : Nat} {k k' : ObK} {l : Addr} {u u' : HO} (h1 : ρ[i]? = some (.ob k)) (h2 : σ[i]? = some (some (.ref l))) (e2 : H l = some u) (e3 : G l = none) (nx : ∀ q, u ≠ .ext q) (hu : k.ok K l G u) (h : k'.ok K l G u') : Sat K c (ρ.set i (.ob k')) σ G (upd H l u') :=
  S.writeM h1 rfl (fun z => by cases z) h2 e2 e3 rfl ⟨fun a ps q => by
      have : a ≠ l := fun z => by rw [z, e2] at q; exact k.nt _ _ _ _ hu ps (Option.some.inj q)
      exact ⟨ps, by rw [upd_ne this]; exact q⟩, fun T hT p hp => by
      obtain ⟨ps, a1, a2, a3⟩ := hT p hp
      have n1 : p.1 ≠ l := fun z => by rw [z, e2] at a1; exact k.nt _ _ _ _ hu ps (Option.some.inj a1)
      refine ⟨ps, by rw [upd_ne n1]; exact a1, a2, fun pos cv hc => ?_⟩
      obtain ⟨c0, b1, b2⟩ := a3 pos cv hc
      have n2 : c0 ≠ l := fun z => by rw [z, e2] at b2; exact nx _ (Option.some.inj b2)
      exact ⟨c0, b1, by rw [upd_ne n2]; exact b2⟩⟩ fun H' q => ⟨l, u', rfl, q, e3, h⟩
/-- a new object of one's own goes to a slot -/
theorem Sat.setOb (S : Sat K c ρ σ G H) {i : Nat} {k : ObK} {l : Addr} {u : HO} (hn : H l = none) (h : k.ok K l G u) : Sat K c (ρ.set i (.ob k)) (σ.set i (some (.ref l))) G (upd H l u) := by
  have S1 := S.tr (Tr.newH (o := u) S hn)
  have hG : G l = none := S.ex2.back hn
  have S2 : Sat K c (ρ.set i .no) (σ.set i (some (.ref l))) G (upd H l u) := S1.setNo
  have hHe : c.He l = none := by
    cases e : c.He l with
    | none => rfl
    | some o => exact absurd hn (S.there l (by rw [e]; exact fun z => by cases z))
  have sg : ∀ {j : Nat} {f : Ent}, (ρ.set i (.ob k))[j]? = some f → f = .ob k ∧ i = j ∨ i ≠ j ∧ (ρ.set i .no)[j]? = some f := fun {j f} q => by
    by_cases z : i = j
    · subst z
      have hi : i < ρ.length := by
        have := (List.getElem?_eq_some_iff.mp q).1
        rwa [List.length_set] at this
      rw [List.getElem?_set_self hi] at q
      exact .inl ⟨(Option.some.inj q).symm, rfl⟩
    · rw [List.getElem?_set_ne z] at q
      exact .inr ⟨z, by rw [List.getElem?_set_ne z]; exact q⟩
  have self : ∀ {j : Nat} {f : Ent}, i ≠ j → (ρ.set i .no)[j]? = some f → f.isM = true → (σ.set i (some (.ref l)))[j]? ≠ some (some (.ref l)) := fun {j f} z q m hq => by
    rw [List.getElem?_set_ne z] at q hq
    have y := S.slot j f _ q hq
    cases f with
    | no => cases m
    | dat d => cases m
    | ls ds =>
      obtain ⟨l2, xs, e1, e2, _⟩ := y
      cases e1
      rw [hn] at e2
      cases e2
    | row =>
      obtain ⟨r, e1, e2⟩ := y
      cases e1
      exact e2.there hn
    | ob k2 =>
      obtain ⟨l2, u2, e1, e2, _⟩ := y
      cases e1
      rw [hn] at e2
      cases e2
    | val k2 => cases m
  refine ⟨S2.ex1, S2.ex2, S2.keep, S2.tbl, S2.there, S2.avoid, S2.mrow, S2.mhe, by rw [List.length_set, List.length_set, S.len], fun j f o q1 q2 => ?_, fun j f l2 q1 qm q2 => ?_, fun j m f g l2 hne q1 q2 m1 m2 q3 q4 => ?_⟩
  · rcases sg q1 with ⟨e, z⟩ | ⟨z, q⟩
    · subst e z
      have hi : i < σ.length := by
        have := (List.getElem?_eq_some_iff.mp q2).1
        rwa [List.length_set] at this
      rw [List.getElem?_set_self hi] at q2
      cases q2
      exact ⟨l, u, rfl, upd_same, hG, h⟩
    · exact S2.slot j f o q q2
  · rcases sg q1 with ⟨e, z⟩ | ⟨z, q⟩
    · subst e z
      have hi : i < σ.length := by
        have := (List.getElem?_eq_some_iff.mp q2).1
        rwa [List.length_set] at this
      rw [List.getElem?_set_self hi] at q2
      cases q2
      exact .inl hHe
    · exact S2.own j f l2 q qm q2
  · have at_ : ∀ {j : Nat}, i = j → (σ.set i (some (.ref l)))[j]? = some (some (.ref l2)) → l2 = l := fun {j} z q => by
      subst z
      have hi : i < σ.length := by
        have := (List.getElem?_eq_some_iff.mp q).1
        rwa [List.length_set] at this
      rw [List.getElem?_set_self hi] at q
      cases q
      rfl
    rcases sg q1 with ⟨_, z⟩ | ⟨z, q⟩
    · rcases sg q2 with ⟨_, z2⟩ | ⟨z2, q'⟩
      · exact hne (z.symm.trans z2)
      · rw [at_ z q3] at q4
        exact self z2 q' m2 q4
    · rcases sg q2 with ⟨_, z2⟩ | ⟨z2, q'⟩
      · rw [at_ z2 q4] at q3
        exact self z q m1 q3
      · exact S2.ne j m f g l2 hne q q' m1 m2 q3 q4
end
end SF

/-! ## Judgements over data -/
namespace SF
open PySem PySem.Spec PyProof.Rows L2

abbrev WE := Rho → (Res → Prop) → (Exn → Prop) → Prop
abbrev WA := Rho → (List PyData → Prop) → (Exn → Prop) → Prop
abbrev WT := Rho → (Bool → Prop) → (Exn → Prop) → Prop
structure Pst where
  nx : Rho → Prop
  rt : Res → Prop
  xc : Exn → Prop
  bk : Rho → Prop := fun _ => False
  ct : Rho → Prop := fun _ => False
abbrev WS := Rho → Pst → Prop
section
variable {K : PySem.W.Frag} {b : Bs} {G G' G1 G2 H H' H1 H2 : Hp} {c : Cn} {ρ : Rho} {σ : L2.St}
def PostE (K : PySem.W.Frag) (ρ : Rho) (σ : L2.St) (G H : Hp) (Φ : Res → Prop) (Q : VK) : Prop := ∀ v r G' H', Tr K ρ σ G H G' H' → Out K H G' H' r v → Φ r → Q v H'
def PostA (K : PySem.W.Frag) (n : Nat) (ρ : Rho) (σ : L2.St) (G H : Hp) (Φ : List PyData → Prop) (Q : List V → Hp → Prop) : Prop := ∀ vs ds G' H', Tr K ρ σ G H G' H' → ImL K G' ds vs → ds.length = n → Φ ds → Q vs H'
def PostT (K : PySem.W.Frag) (ρ : Rho) (σ : L2.St) (G H : Hp) (Φ : Bool → Prop) (Q : Bool → Hp → Prop) : Prop := ∀ k G' H', Tr K ρ σ G H G' H' → Φ k → Q k H'
def ExcE (K : PySem.W.Frag) (b : Bs) (ρ : Rho) (σ : L2.St) (G H : Hp) (Ξ : Exn → Prop) : Prop := ∀ ex cls d G' H', Tr K ρ σ G H G' H' → b.XR ex cls d G' → Ξ ex → b.E cls d H'
theorem PostE.tr {Φ : Res → Prop} {Q : VK} (p : PostE K ρ σ G H Φ Q) (t : Tr K ρ σ G H G1 H1) : PostE K ρ σ G1 H1 Φ Q := fun v r G' H' t' o h => p v r G' H' (t.trans t') (o.back fun _ z => t.back z) h
theorem PostA.tr {n : Nat} {Φ : List PyData → Prop} {Q : List V → Hp → Prop} (p : PostA K n ρ σ G H Φ Q) (t : Tr K ρ σ G H G1 H1) : PostA K n ρ σ G1 H1 Φ Q := fun v r G' H' t' o l h => p v r G' H' (t.trans t') o l h
theorem PostT.tr {Φ : Bool → Prop} {Q : Bool → Hp → Prop} (p : PostT K ρ σ G H Φ Q) (t : Tr K ρ σ G H G1 H1) : PostT K ρ σ G1 H1 Φ Q := fun k G' H' t' h => p k G' H' (t.trans t') h
theorem ExcE.tr {Ξ : Exn → Prop} (p : ExcE K b ρ σ G H Ξ) (t : Tr K ρ σ G H G1 H1) : ExcE K b ρ σ G1 H1 Ξ := fun ex cls d G' H' t' x h => p ex cls d G' H' (t.trans t') x h
def teOf (K : PySem.W.Frag) (b : Bs) (w : WE) : TE := fun σ H Q => ∃ (c : Cn) (ρ : Rho) (G : Hp) (Φ : Res → Prop) (Ξ : Exn → Prop), Sat K c ρ σ G H ∧ w ρ Φ Ξ ∧ PostE K ρ σ G H Φ Q ∧ ExcE K b ρ σ G H Ξ
def taOf (K : PySem.W.Frag) (b : Bs) (n : Nat) (w : WA) : TA := fun σ H Q => ∃ (c : Cn) (ρ : Rho) (G : Hp) (Φ : List PyData → Prop) (Ξ : Exn → Prop), Sat K c ρ σ G H ∧ w ρ Φ Ξ ∧ PostA K n ρ σ G H Φ Q ∧ ExcE K b ρ σ G H Ξ
def ttOf (K : PySem.W.Frag) (b : Bs) (w : WT) : TT := fun σ H Q => ∃ (c : Cn) (ρ : Rho) (G : Hp) (Φ : Bool → Prop) (Ξ : Exn → Prop), Sat K c ρ σ G H ∧ w ρ Φ Ξ ∧ PostT K ρ σ G H Φ Q ∧ ExcE K b ρ σ G H Ξ
structure PostS (K : PySem.W.Frag) (b : Bs) (c : Cn) (Ψ : Pst) (D : Ends) : Prop where
  nx : ∀ ρ' σ' G' H', Sat K c ρ' σ' G' H' → Ψ.nx ρ' → D.nx σ' H'
  rt : ∀ v r G' H', Fin' K c G' H' → Out K c.He G' H' r v → Ψ.rt r → D.rt v H'
  bk : ∀ ρ' σ' G' H', Sat K c ρ' σ' G' H' → Ψ.bk ρ' → D.bk σ' H'
  ct : ∀ ρ' σ' G' H', Sat K c ρ' σ' G' H' → Ψ.ct ρ' → D.ct σ' H'
  xc : ∀ ex cls d G' H', Fin' K c G' H' → b.XR ex cls d G' → Ψ.xc ex → b.E cls d H'
def tsOf (K : PySem.W.Frag) (b : Bs) (w : WS) : TS := fun D σ H => ∃ (c : Cn) (ρ : Rho) (G : Hp) (Ψ : Pst), Sat K c ρ σ G H ∧ w ρ Ψ ∧ PostS K b c Ψ D
end
section
variable {X : Cx} {b : Bs}
abbrev PEI (X : Cx) (b : Bs) (e : Expr) (w : WE) : Prop := PE X e (teOf X.K b w)
abbrev PAI (X : Cx) (b : Bs) (n : Nat) (es : List Expr) (w : WA) : Prop := PA X es (taOf X.K b n w)
abbrev PTI (X : Cx) (b : Bs) (e : Expr) (w : WT) : Prop := PT X e (ttOf X.K b w)
abbrev PSI (X : Cx) (b : Bs) (st : Stmt) (w : WS) : Prop := PS X st (tsOf X.K b w)
abbrev PSsI (X : Cx) (b : Bs) (st : List Stmt) (w : WS) : Prop := PSs X st (tsOf X.K b w)
theorem pe_imp {e : Expr} {t t' : TE} (h : PE X e t) (hi : ∀ σ H Q, t' σ H Q → t σ H Q) : PE X e t' := ⟨fun pins s σ H Q I q => h.run pins s σ H Q I (hi σ H Q q)⟩
theorem pa_imp {e : List Expr} {t t' : TA} (h : PA X e t) (hi : ∀ σ H Q, t' σ H Q → t σ H Q) : PA X e t' := ⟨fun pos pins s σ H Q I q => h.run pos pins s σ H Q I (hi σ H Q q)⟩
theorem pt_imp {e : Expr} {t t' : TT} (h : PT X e t) (hi : ∀ σ H Q, t' σ H Q → t σ H Q) : PT X e t' := ⟨fun pins s σ H Q I q => h.run pins s σ H Q I (hi σ H Q q)⟩
theorem ps_imp {e : Stmt} {t t' : TS} (h : PS X e t) (hi : ∀ D σ H, t' D σ H → t D σ H) : PS X e t' := ⟨fun pins s σ H D I q => h.run pins s σ H D I (hi D σ H q)⟩
theorem pss_imp {e : List Stmt} {t t' : TS} (h : PSs X e t) (hi : ∀ D σ H, t' D σ H → t D σ H) : PSs X e t' := ⟨fun pins s σ H D I q => h.run pins s σ H D I (hi D σ H q)⟩
theorem pei_of {e : Expr} {t : TE} {w : WE} (h : PE X e t) (hi : ∀ c ρ σ G H Φ Ξ Q, Sat X.K c ρ σ G H → w ρ Φ Ξ → PostE X.K ρ σ G H Φ Q → ExcE X.K b ρ σ G H Ξ → t σ H Q) : PEI X b e w :=
  pe_imp h fun σ H Q ⟨c, ρ, G, Φ, Ξ, S, hw, p, x⟩ => hi c ρ σ G H Φ Ξ Q S hw p x
theorem psi_of {st : Stmt} {t : TS} {w : WS} (h : PS X st t) (hi : ∀ c ρ σ G H Ψ D, Sat X.K c ρ σ G H → w ρ Ψ → PostS X.K b c Ψ D → t D σ H) : PSI X b st w :=
  ps_imp h fun D σ H ⟨c, ρ, G, Ψ, S, hw, p⟩ => hi c ρ σ G H Ψ D S hw p

/-! ### names, constants -/
def wVar (i : Nat) : WE := fun ρ Φ _ => ∃ d, ρ[i]? = some (.dat d) ∧ Φ (.dat d)
theorem pei_var (i : Nat) {x : Str} {pos : Pos} (hN : X.N[i]? = some x := by rfl) (hv : Vis X.env.scope x := by first | exact Or.inl rfl | exact Or.inr (Or.inl rfl) | exact Or.inr (Or.inr rfl)) (hd : (x == ("__debug__" : Str)) = false := by decide)
    (hcd : (x == ("__classdict__" : Str)) = false := by decide) : PEI X b (.Name x pos) (wVar i) := pei_of (pe_var hN hv hd hcd) fun c ρ σ G H Φ Ξ Q S hw p _ => by
  obtain ⟨d, e, h⟩ := hw
  obtain ⟨v, e2, im⟩ := S.var e
  exact ⟨v, e2, p v (.dat d) G H (.refl S) im h⟩
def wC (d : PyData) : WE := fun _ Φ _ => Φ (.dat d)
theorem pei_c {e : Expr} {v : V} (d : PyData) (h : PE X e (tC v)) (hd : ∀ G, Im X.K G d v) : PEI X b e (wC d) := pei_of h fun c ρ σ G H Φ Ξ Q S hw p _ => p v (.dat d) G H (.refl S) (hd G) hw
theorem pei_int {i j pos} : PEI X b (.Constant (.int i) j pos) (wC (.int i)) := pei_c _ pe_int fun _ => by rw [im_int]
theorem pei_bl {i j pos} : PEI X b (.Constant (.bool i) j pos) (wC (.bool i)) := pei_c _ pe_bl fun _ => by rw [im_bool]
theorem pei_non {j pos} : PEI X b (.Constant .none j pos) (wC .none) := pei_c _ pe_non fun _ => by rw [im_none]
theorem pei_str {i j pos} : PEI X b (.Constant (.str i) j pos) (wC (.str i)) := pei_c _ pe_str fun _ => by rw [im_str]
theorem pei_gint {x : Str} {i : Int} {pos : Pos} (hg : Gl X x) (hm : ∃ t, X.mg x = some (.int i t)) (hd : (x == ("__debug__" : Str)) = false := by decide) : PEI X b (.Name x pos) (wC (.int i)) := by
  obtain ⟨t, hm⟩ := hm
  exact pei_c _ (pe_glob (v := .int i) hg hm ⟨t, rfl⟩ hd) fun _ => by rw [im_int]
theorem pei_gstr {x : Str} {i : Str} {pos : Pos} (hg : Gl X x) (hm : ∃ t, X.mg x = some (.str i t)) (hd : (x == ("__debug__" : Str)) = false := by decide) : PEI X b (.Name x pos) (wC (.str i)) := by
  obtain ⟨t, hm⟩ := hm
  exact pei_c _ (pe_glob (v := .str i) hg hm ⟨t, rfl⟩ hd) fun _ => by rw [im_str]
theorem pei_gref {x : Str} {a : Addr} {d : PyData} {pos : Pos} (hg : Gl X x) (hm : X.mg x = some (.ref a)) (hi : ∀ G, Im X.K G d (.ref a)) (hd : (x == ("__debug__" : Str)) = false := by decide) : PEI X b (.Name x pos) (wC d) :=
  pei_c _ (pe_glob (v := .ref a) hg hm rfl hd) hi

/-! ### operations on data -/
abbrev Sem1 := PyData → (Res → Prop) → Prop
abbrev Sem2 := PyData → PyData → (Res → Prop) → Prop
def wOp (sem : Sem2) (wa wb : WE) : WE := fun ρ Φ Ξ => wa ρ (fun x => wb ρ (fun y => sem x.frz y.frz Φ) Ξ) Ξ
def wUn (sem : Sem1) (wa : WE) : WE := fun ρ Φ Ξ => wa ρ (fun x => sem x.frz Φ) Ξ
/-- an operation on values is one on data -/
def Op2 (X : Cx) (r : R2) (sem : Sem2) : Prop := ∀ c ρ σ G H d1 d2 x y Φ Q, Sat X.K c ρ σ G H → Im X.K G d1 x → Im X.K G d2 y → sem d1 d2 Φ → PostE X.K ρ σ G H Φ Q → r x y H Q
def Op1 (X : Cx) (r : V → Hp → VK → Prop) (sem : Sem1) : Prop := ∀ c ρ σ G H d1 x Φ Q, Sat X.K c ρ σ G H → Im X.K G d1 x → sem d1 Φ → PostE X.K ρ σ G H Φ Q → r x H Q
theorem pei_op {e : Expr} {r : R2} {sem : Sem2} {wa wb : WE} (h : PE X e (tOp r (teOf X.K b wa) (teOf X.K b wb))) (hr : Op2 X r sem) : PEI X b e (wOp sem wa wb) := pei_of h fun c ρ σ G H Φ Ξ Q S hw p x => by
  refine ⟨c, ρ, G, _, Ξ, S, hw, fun v1 r1 G1 H1 t1 o1 h1 => ?_, x⟩
  obtain ⟨G1', t1', i1⟩ := freeze S t1 o1
  refine ⟨c, ρ, G1', _, Ξ, S.tr t1', h1, fun v2 r2 G2 H2 t2 o2 h2 => ?_, x.tr t1'⟩
  obtain ⟨G2', t2', i2⟩ := freeze (S.tr t1') t2 o2
  exact hr c ρ σ G2' H2 _ _ v1 v2 Φ Q ((S.tr t1').tr t2') (i1.mono t2'.eg) i2 h2 (p.tr (t1'.trans t2'))
theorem pei_un {e : Expr} {r : V → Hp → VK → Prop} {sem : Sem1} {wa : WE} (h : PE X e (fun σ H Q => teOf X.K b wa σ H fun x H1 => r x H1 Q)) (hr : Op1 X r sem) : PEI X b e (wUn sem wa) := pei_of h fun c ρ σ G H Φ Ξ Q S hw p x => by
  refine ⟨c, ρ, G, _, Ξ, S, hw, fun v1 r1 G1 H1 t1 o1 h1 => ?_, x⟩
  obtain ⟨G1', t1', i1⟩ := freeze S t1 o1
  exact hr c ρ σ G1' H1 _ v1 Φ Q (S.tr t1') i1 h1 (p.tr t1')
/-- two ints give flat data -/
def sII (f : Int → Int → PyData) : Sem2 := fun a b Φ => ∃ i j, a = .int i ∧ b = .int j ∧ Φ (.dat (f i j))
def sIIc (C : Int → Int → Prop) (f : Int → Int → PyData) : Sem2 := fun a b Φ => ∃ i j, a = .int i ∧ b = .int j ∧ C i j ∧ Φ (.dat (f i j))
theorem op2_I0 {g : Int → Int → V} {f : Int → Int → PyData} (hg : ∀ i j G, Im X.K G (f i j) (g i j)) : Op2 X (rI0 g) (sII f) := fun c ρ σ G H d1 d2 x y Φ Q S i1 i2 hs p => by
  obtain ⟨i, j, rfl, rfl, h⟩ := hs
  rw [im_int] at i1 i2
  exact ⟨i, j, i1, i2, p _ (.dat _) G H (.refl S) (hg i j G) h⟩
theorem op2_I {C : Int → Int → Prop} {g : Int → Int → V} {f : Int → Int → PyData} (hg : ∀ i j G, Im X.K G (f i j) (g i j)) : Op2 X (rI C g) (sIIc C f) := fun c ρ σ G H d1 d2 x y Φ Q S i1 i2 hs p => by
  obtain ⟨i, j, rfl, rfl, hc, h⟩ := hs
  rw [im_int] at i1 i2
  exact ⟨i, j, i1, i2, hc, p _ (.dat _) G H (.refl S) (hg i j G) h⟩
abbrev sAdd : Sem2 := sII fun i j => .int (i + j)
abbrev sSub : Sem2 := sII fun i j => .int (i - j)
abbrev sMul : Sem2 := sIIc CMul fun i j => .int (i * j)
abbrev sMod : Sem2 := sIIc (fun _ j => 0 < j) fun i j => .int (i % j)
abbrev sDiv : Sem2 := sIIc CDiv fun i j => .int (i / j)
abbrev sLt : Sem2 := sII fun i j => .bool (decide (i < j))
abbrev sLe : Sem2 := sII fun i j => .bool (decide (i ≤ j))
abbrev sGt : Sem2 := sII fun i j => .bool (decide (j < i))
abbrev sGe : Sem2 := sII fun i j => .bool (decide (j ≤ i))
variable {x y z : Expr} {pos : Pos} {wx wy wz : WE}
theorem pei_add (hx : PEI X b x wx) (hy : PEI X b y wy) : PEI X b (.BinOp x .Add y pos) (wOp sAdd wx wy) := pei_op (pe_op op_add hx hy) (op2_I0 fun i j G => by rw [im_int])
theorem pei_sub (hx : PEI X b x wx) (hy : PEI X b y wy) : PEI X b (.BinOp x .Sub y pos) (wOp sSub wx wy) := pei_op (pe_op op_sub hx hy) (op2_I0 fun i j G => by rw [im_int])
theorem pei_mul (hx : PEI X b x wx) (hy : PEI X b y wy) : PEI X b (.BinOp x .Mult y pos) (wOp sMul wx wy) := pei_op (pe_op op_mul hx hy) (op2_I fun i j G => by rw [im_int])
theorem pei_mod (hx : PEI X b x wx) (hy : PEI X b y wy) : PEI X b (.BinOp x .Mod y pos) (wOp sMod wx wy) := pei_op (pe_op op_mod hx hy) (op2_I fun i j G => by rw [im_int])
theorem pei_fdiv (hx : PEI X b x wx) (hy : PEI X b y wy) : PEI X b (.BinOp x .FloorDiv y pos) (wOp sDiv wx wy) := pei_op (pe_op op_fdiv hx hy) (op2_I fun i j G => by rw [im_int])
theorem pei_cmp {op : CmpOp} {r : R2} {sem : Sem2} (ho : OpR X (compareOp op) r) (hr : Op2 X r sem) (hm : behindInMarks op y = false) (hx : PEI X b x wx) (hy : PEI X b y wy) : PEI X b (.Compare x [op] [y] pos) (wOp sem wx wy) := pei_op (pe_cmpR ho hx hy hm) hr
theorem op2_lt : Op2 X (rI0 fun i j => .bl (decide (i < j))) sLt := op2_I0 fun i j G => by rw [im_bool]
theorem op2_le : Op2 X (rI0 fun i j => .bl (decide (i ≤ j))) sLe := op2_I0 fun i j G => by rw [im_bool]
theorem op2_gt : Op2 X (rI0 fun i j => .bl (decide (j < i))) sGt := op2_I0 fun i j G => by rw [im_bool]
theorem op2_ge : Op2 X (rI0 fun i j => .bl (decide (j ≤ i))) sGe := op2_I0 fun i j G => by rw [im_bool]
/-- == of data of any depth -/
def sEq : Sem2 := fun a b Φ => SeqAt.shaped a = true ∧ SeqAt.shaped b = true ∧ Φ (.dat (.bool (PyData.eqv a b)))
def sNe : Sem2 := fun a b Φ => SeqAt.shaped a = true ∧ SeqAt.shaped b = true ∧ Φ (.dat (.bool (!PyData.eqv a b)))
theorem op2_eq : Op2 X (rEqD X.K) sEq := fun c ρ σ G H d1 d2 x y Φ Q S i1 i2 hs p =>
  ⟨d1, d2, i1.dp S.ex2, i2.dp S.ex2, hs.1, hs.2.1, p _ (.dat (.bool _)) G H (.refl S) (by show Im _ _ _ _; rw [im_bool]) hs.2.2⟩
theorem op2_ne : Op2 X (rNeD X.K) sNe := fun c ρ σ G H d1 d2 x y Φ Q S i1 i2 hs p =>
  ⟨d1, d2, i1.dp S.ex2, i2.dp S.ex2, hs.1, hs.2.1, p _ (.dat (.bool _)) G H (.refl S) (by show Im _ _ _ _; rw [im_bool]) hs.2.2⟩
/-- is None -/
def isNone : PyData → Bool
  | .none => true
  | _ => false
theorem Im.nonB {K : PySem.W.Frag} {G : Hp} {d : PyData} {v : V} (h : Im K G d v) : decide (v = .non) = isNone d := by
  cases d with
  | none => rw [im_none] at h; subst h; rfl
  | bool _ => rw [im_bool] at h; subst h; rfl
  | int _ => rw [im_int] at h; subst h; rfl
  | str _ => rw [im_str] at h; subst h; rfl
  | list _ => rw [im_list] at h; obtain ⟨a, xs, rfl, _⟩ := h; rfl
  | tuple _ => rw [im_tuple] at h; obtain ⟨a, xs, rfl, _⟩ := h; rfl
  | dict _ => rw [im_dict] at h; exact h.elim
def sIsN : Sem2 := fun a b Φ => b = .none ∧ Φ (.dat (.bool (isNone a)))
def sNotN : Sem2 := fun a b Φ => b = .none ∧ Φ (.dat (.bool (!isNone a)))
abbrev rIsNo : R2 := fun x y H Q => y = .non ∧ Q (.bl (decide (x = .non))) H
abbrev rNotNo : R2 := fun x y H Q => y = .non ∧ Q (.bl (!decide (x = .non))) H
theorem op2_isN : Op2 X rIsNo sIsN := fun c ρ σ G H d1 d2 x y Φ Q S i1 i2 hs p => by
  obtain ⟨rfl, h⟩ := hs
  rw [im_none] at i2
  refine ⟨i2, p _ (.dat (.bool (isNone d1))) G H (.refl S) (by show Im _ _ _ _; rw [im_bool, i1.nonB]) h⟩
theorem op2_notN : Op2 X rNotNo sNotN := fun c ρ σ G H d1 d2 x y Φ Q S i1 i2 hs p => by
  obtain ⟨rfl, h⟩ := hs
  rw [im_none] at i2
  refine ⟨i2, p _ (.dat (.bool (!isNone d1))) G H (.refl S) (by show Im _ _ _ _; rw [im_bool, i1.nonB]) h⟩
/-- in a list of any data; in a tuple of flat data -/
def sInL (f : Bool → Bool) : Sem2 := fun a b Φ => ∃ ds, b = .list ds ∧ SeqAt.shaped a = true ∧ SeqAt.shaped (.list ds) = true ∧ Φ (.dat (.bool (f (ds.any fun z => PyData.eqv z a))))
def sInT (f : Bool → Bool) : Sem2 := fun a b Φ => ∃ ds, b = .tuple ds ∧ isSc a = true ∧ ds.all isSc = true ∧ Φ (.dat (.bool (f (ds.any fun z => PyData.eqv z a))))
theorem op2_inL : Op2 X (rInD X.K) (sInL fun k => k) := fun c ρ σ G H d1 d2 x y Φ Q S i1 i2 hs p => by
  obtain ⟨ds, rfl, h1, h2, h⟩ := hs
  exact ⟨d1, ds, i1.dp S.ex2, i2.dp S.ex2, h1, h2, p _ (.dat (.bool _)) G H (.refl S) (by show Im _ _ _ _; rw [im_bool]) h⟩
theorem op2_notInL : Op2 X (rNotInD X.K) (sInL not) := fun c ρ σ G H d1 d2 x y Φ Q S i1 i2 hs p => by
  obtain ⟨ds, rfl, h1, h2, h⟩ := hs
  exact ⟨d1, ds, i1.dp S.ex2, i2.dp S.ex2, h1, h2, p _ (.dat (.bool _)) G H (.refl S) (by show Im _ _ _ _; rw [im_bool]) h⟩
theorem op2_inT {neg : Bool} {f : Bool → Bool} (hf : ∀ k, (if neg then !k else k) = f k) : Op2 X (rIn X.K neg) (sInT f) := fun c ρ σ G H d1 d2 x y Φ Q S i1 i2 hs p => by
  obtain ⟨ds, rfl, h1, h2, h⟩ := hs
  rw [im_tuple] at i2
  obtain ⟨a, xs, rfl, ht, il⟩ := i2
  obtain ⟨s1, s2⟩ := i1.sc h1
  obtain ⟨t1, t2⟩ := inV_sc s1 il h2
  refine ⟨a, xs, rfl, .inr (ex_t S.ex2 ht), s2, t2, p _ (.dat (.bool (f (ds.any fun z => PyData.eqv z d1)))) G H (.refl S) ?_ h⟩
  show Im _ _ _ _
  rw [im_bool, ← hf, t1]
theorem op2_inT1 : Op2 X (rIn X.K false) (sInT fun k => k) := op2_inT fun k => rfl
theorem op2_notInT : Op2 X (rIn X.K true) (sInT not) := op2_inT fun k => rfl

/-! ### and, or, not, a if c else d -/
def isB (r : Res) (Φ : Bool → Prop) : Prop := ∃ k, r = .dat (.bool k) ∧ Φ k
def wAnd (wa wb : WE) : WE := fun ρ Φ Ξ => wa ρ (fun r => isB r fun k => if k = true then wb ρ Φ Ξ else Φ (.dat (.bool false))) Ξ
def wOr (wa wb : WE) : WE := fun ρ Φ Ξ => wa ρ (fun r => isB r fun k => if k = true then Φ (.dat (.bool true)) else wb ρ Φ Ξ) Ξ
def wNot (wa : WE) : WE := fun ρ Φ Ξ => wa ρ (fun r => isB r fun k => Φ (.dat (.bool (!k)))) Ξ
variable {rest : List Expr}
theorem pei_one (hop : BoolOp) (hx : PEI X b x wx) : PEI X b (.BoolOp hop [x] pos) wx := pe_one hx
theorem pei_and (hx : PEI X b x wx) (hy : PEI X b (.BoolOp .And (y :: rest) pos) wy) : PEI X b (.BoolOp .And (x :: y :: rest) pos) (wAnd wx wy) := pei_of (pe_and hx hy) fun c ρ σ G H Φ Ξ Q S hw p ex => by
  refine ⟨c, ρ, G, _, Ξ, S, hw, fun v1 r1 G1 H1 t1 o1 h1 => ?_, ex⟩
  obtain ⟨k, rfl, h1⟩ := h1
  have o1 : Im X.K G1 (.bool k) v1 := o1
  rw [im_bool] at o1
  refine ⟨k, o1, ?_⟩
  cases k with
  | true => exact ⟨c, ρ, G1, Φ, Ξ, S.tr t1, h1, p.tr t1, ex.tr t1⟩
  | false => exact p _ (.dat (.bool false)) G1 H1 t1 (by show Im _ _ _ _; rw [im_bool]) h1
theorem pei_or (hx : PEI X b x wx) (hy : PEI X b (.BoolOp .Or (y :: rest) pos) wy) : PEI X b (.BoolOp .Or (x :: y :: rest) pos) (wOr wx wy) := pei_of (pe_or hx hy) fun c ρ σ G H Φ Ξ Q S hw p ex => by
  refine ⟨c, ρ, G, _, Ξ, S, hw, fun v1 r1 G1 H1 t1 o1 h1 => ?_, ex⟩
  obtain ⟨k, rfl, h1⟩ := h1
  have o1 : Im X.K G1 (.bool k) v1 := o1
  rw [im_bool] at o1
  refine ⟨k, o1, ?_⟩
  cases k with
  | false => exact ⟨c, ρ, G1, Φ, Ξ, S.tr t1, h1, p.tr t1, ex.tr t1⟩
  | true => exact p _ (.dat (.bool true)) G1 H1 t1 (by show Im _ _ _ _; rw [im_bool]) h1
theorem pei_not (hx : PEI X b x wx) : PEI X b (.UnaryOp .Not x pos) (wNot wx) := pei_of (pe_not hx) fun c ρ σ G H Φ Ξ Q S hw p ex => by
  refine ⟨c, ρ, G, _, Ξ, S, hw, fun v1 r1 G1 H1 t1 o1 h1 => ?_, ex⟩
  obtain ⟨k, rfl, h1⟩ := h1
  have o1 : Im X.K G1 (.bool k) v1 := o1
  rw [im_bool] at o1
  exact ⟨k, o1, p _ (.dat (.bool (!k))) G1 H1 t1 (by show Im _ _ _ _; rw [im_bool]) h1⟩
/-- a test by its value -/
def wTest (w : WE) : WT := fun ρ Φ Ξ => w ρ (fun r => isB r Φ) Ξ
theorem pti_of {e : Expr} {t : TT} {w : WT} (h : PT X e t) (hi : ∀ c ρ σ G H Φ Ξ Q, Sat X.K c ρ σ G H → w ρ Φ Ξ → PostT X.K ρ σ G H Φ Q → ExcE X.K b ρ σ G H Ξ → t σ H Q) : PTI X b e w :=
  pt_imp h fun σ H Q ⟨c, ρ, G, Φ, Ξ, S, hw, p, x⟩ => hi c ρ σ G H Φ Ξ Q S hw p x
theorem pti_val (hx : PEI X b x wx) (he : ∀ whole, PySem.isTrue x X.env whole = (do let v ← whole; standAt x.pos; holding [v] (truthy v)) := by intro _; rfl) : PTI X b x (wTest wx) := pti_of (pt_val hx he) fun c ρ σ G H Φ Ξ Q S hw p ex => by
  refine ⟨c, ρ, G, _, Ξ, S, hw, fun v1 r1 G1 H1 t1 o1 h1 => ?_, ex⟩
  obtain ⟨k, rfl, h1⟩ := h1
  have o1 : Im X.K G1 (.bool k) v1 := o1
  rw [im_bool] at o1
  exact ⟨k, o1, p k G1 H1 t1 h1⟩
theorem pti_cmp {op : CmpOp} {r : R2} {sem : Sem2} (ho : OpR X (compareOp op) r) (hr : Op2 X r sem) (hm : behindInMarks op y = false) (hx : PEI X b x wx) (hy : PEI X b y wy) : PTI X b (.Compare x [op] [y] pos) (wTest (wOp sem wx wy)) := pti_of (pt_cmpR ho hx hy hm) fun c ρ σ G H Φ Ξ Q S hw p ex => by
  refine ⟨c, ρ, G, _, Ξ, S, hw, fun v1 r1 G1 H1 t1 o1 h1 => ?_, ex⟩
  obtain ⟨G1', t1', i1⟩ := freeze S t1 o1
  refine ⟨c, ρ, G1', _, Ξ, S.tr t1', h1, fun v2 r2 G2 H2 t2 o2 h2 => ?_, ex.tr t1'⟩
  obtain ⟨G2', t2', i2⟩ := freeze (S.tr t1') t2 o2
  refine hr c ρ σ G2' H2 _ _ v1 v2 _ _ ((S.tr t1').tr t2') (i1.mono t2'.eg) i2 h2 fun v3 r3 G3 H3 t3 o3 h3 => ?_
  obtain ⟨k, rfl, h3⟩ := h3
  have o3 : Im X.K G3 (.bool k) v3 := o3
  rw [im_bool] at o3
  exact ⟨k, o3, p k G3 H3 ((t1'.trans t2').trans t3) h3⟩
def wNotT (w : WT) : WT := fun ρ Φ Ξ => w ρ (fun k => Φ (!k)) Ξ
def wAndT (w u : WT) : WT := fun ρ Φ Ξ => w ρ (fun k => if k = true then u ρ Φ Ξ else Φ false) Ξ
def wOrT (w u : WT) : WT := fun ρ Φ Ξ => w ρ (fun k => if k = true then Φ true else u ρ Φ Ξ) Ξ
theorem pti_not {w : WT} (hx : PTI X b x w) : PTI X b (.UnaryOp .Not x pos) (wNotT w) := pti_of (pt_not hx) fun c ρ σ G H Φ Ξ Q S hw p ex => ⟨c, ρ, G, _, Ξ, S, hw, fun k G1 H1 t1 h1 => p _ G1 H1 t1 h1, ex⟩
abbrev PWI (X : Cx) (b : Bs) (e : Expr) (w : WT) : Prop := PW X e (ttOf X.K b w)
theorem pw_imp {e : Expr} {t t' : TT} (h : PW X e t) (hi : ∀ σ H Q, t' σ H Q → t σ H Q) : PW X e t' := ⟨fun wh pins s σ H Q I q => h.run wh pins s σ H Q I (hi σ H Q q)⟩
theorem pwi_one {hop : BoolOp} {w : WT} (hx : PTI X b x w) : PWI X b (.BoolOp hop [x] pos) w := by
  cases hop with
  | And => exact pw_and1 hx
  | Or => exact pw_or1 hx
theorem pwi_and {w u : WT} (hx : PTI X b x w) (hy : PWI X b (.BoolOp .And (y :: rest) pos) u) : PWI X b (.BoolOp .And (x :: y :: rest) pos) (wAndT w u) := pw_imp (pw_and hx hy) fun σ H Q ⟨c, ρ, G, Φ, Ξ, S, hw, p, ex⟩ => by
  refine ⟨c, ρ, G, _, Ξ, S, hw, fun k G1 H1 t1 h1 => ?_, ex⟩
  cases k with
  | true => exact ⟨c, ρ, G1, Φ, Ξ, S.tr t1, h1, p.tr t1, ex.tr t1⟩
  | false => exact p false G1 H1 t1 h1
theorem pwi_or {w u : WT} (hx : PTI X b x w) (hy : PWI X b (.BoolOp .Or (y :: rest) pos) u) : PWI X b (.BoolOp .Or (x :: y :: rest) pos) (wOrT w u) := pw_imp (pw_or hx hy) fun σ H Q ⟨c, ρ, G, Φ, Ξ, S, hw, p, ex⟩ => by
  refine ⟨c, ρ, G, _, Ξ, S, hw, fun k G1 H1 t1 h1 => ?_, ex⟩
  cases k with
  | false => exact ⟨c, ρ, G1, Φ, Ξ, S.tr t1, h1, p.tr t1, ex.tr t1⟩
  | true => exact p true G1 H1 t1 h1
theorem pti_bool {w : WT} (h : PWI X b x w) : PTI X b x w := PW.pt h
def wIf (wt : WT) (wa wb : WE) : WE := fun ρ Φ Ξ => wt ρ (fun k => if k = true then wa ρ Φ Ξ else wb ρ Φ Ξ) Ξ
theorem pei_if {wt : WT} (ht : PTI X b z wt) (hx : PEI X b x wx) (hy : PEI X b y wy) : PEI X b (.IfExp z x y pos) (wIf wt wx wy) := pei_of (pe_ifExp ht hx hy) fun c ρ σ G H Φ Ξ Q S hw p ex => by
  refine ⟨c, ρ, G, _, Ξ, S, hw, fun k G1 H1 t1 h1 => ?_, ex⟩
  cases k with
  | true => exact ⟨c, ρ, G1, Φ, Ξ, S.tr t1, h1, p.tr t1, ex.tr t1⟩
  | false => exact ⟨c, ρ, G1, Φ, Ξ, S.tr t1, h1, p.tr t1, ex.tr t1⟩
/-- a op b op' c -/
def wChain (s s' : Sem2) (wa wb wc : WE) : WE := fun ρ Φ Ξ => wa ρ (fun x => wb ρ (fun y => s x.frz y.frz (fun r => isB r fun k => if k = true then wc ρ (fun z => s' y.frz z.frz Φ) Ξ else Φ (.dat (.bool false)))) Ξ) Ξ
theorem pei_chain {op op' : CmpOp} {r r' : R2} {s s' : Sem2} (ho : OpR X (compareOp op) r) (ho' : OpR X (compareOp op') r') (hs : Op2 X r s) (hs' : Op2 X r' s') (hx : PEI X b x wx) (hy : PEI X b y wy) (hz : PEI X b z wz)
    (hm : lastMarks [op, op'] [y, z] = false := by with_unfolding_all rfl) : PEI X b (.Compare x [op, op'] [y, z] pos) (wChain s s' wx wy wz) := pei_of (pe_chain ho ho' hx hy hz hm) fun c ρ σ G H Φ Ξ Q S hw p ex => by
  refine ⟨c, ρ, G, _, Ξ, S, hw, fun v1 r1 G1 H1 t1 o1 h1 => ?_, ex⟩
  obtain ⟨G1', t1', i1⟩ := freeze S t1 o1
  refine ⟨c, ρ, G1', _, Ξ, S.tr t1', h1, fun v2 r2 G2 H2 t2 o2 h2 => ?_, ex.tr t1'⟩
  obtain ⟨G2', t2', i2⟩ := freeze (S.tr t1') t2 o2
  have t12 := t1'.trans t2'
  refine hs c ρ σ G2' H2 _ _ v1 v2 _ _ (S.tr t12) (i1.mono t2'.eg) i2 h2 fun v3 r3 G3 H3 t3 o3 h3 => ?_
  obtain ⟨k, rfl, h3⟩ := h3
  have o3 : Im X.K G3 (.bool k) v3 := o3
  rw [im_bool] at o3
  refine ⟨k, o3, ?_⟩
  have t13 := t12.trans t3
  cases k with
  | false => exact p _ (.dat (.bool false)) G3 H3 t13 (by show Im _ _ _ _; rw [im_bool]) h3
  | true =>
    refine ⟨c, ρ, G3, _, Ξ, S.tr t13, h3, fun v4 r4 G4 H4 t4 o4 h4 => ?_, ex.tr t13⟩
    obtain ⟨G4', t4', i4⟩ := freeze (S.tr t13) t4 o4
    exact hs' c ρ σ G4' H4 _ _ v2 v4 Φ Q (S.tr (t13.trans t4')) ((i2.mono t3.eg).mono t4'.eg) i4 h4 (p.tr (t13.trans t4'))
theorem pti_chain {op op' : CmpOp} {r r' : R2} {s s' : Sem2} (ho : OpR X (compareOp op) r) (ho' : OpR X (compareOp op') r') (hs : Op2 X r s) (hs' : Op2 X r' s') (hx : PEI X b x wx) (hy : PEI X b y wy) (hz : PEI X b z wz)
    (hm : lastMarks [op, op'] [y, z] = false := by with_unfolding_all rfl) : PTI X b (.Compare x [op, op'] [y, z] pos) (wTest (wChain s s' wx wy wz)) := pti_of (pt_chain ho ho' hx hy hz hm) fun c ρ σ G H Φ Ξ Q S hw p ex => by
  refine ⟨c, ρ, G, _, Ξ, S, hw, fun v1 r1 G1 H1 t1 o1 h1 => ?_, ex⟩
  obtain ⟨G1', t1', i1⟩ := freeze S t1 o1
  refine ⟨c, ρ, G1', _, Ξ, S.tr t1', h1, fun v2 r2 G2 H2 t2 o2 h2 => ?_, ex.tr t1'⟩
  obtain ⟨G2', t2', i2⟩ := freeze (S.tr t1') t2 o2
  have t12 := t1'.trans t2'
  refine hs c ρ σ G2' H2 _ _ v1 v2 _ _ (S.tr t12) (i1.mono t2'.eg) i2 h2 fun v3 r3 G3 H3 t3 o3 h3 => ?_
  obtain ⟨k, rfl, h3⟩ := h3
  have o3 : Im X.K G3 (.bool k) v3 := o3
  rw [im_bool] at o3
  refine ⟨k, o3, ?_⟩
  have t13 := t12.trans t3
  cases k with
  | false =>
    obtain ⟨k, e, h3⟩ := h3
    cases e
    exact ⟨false, rfl, p false G3 H3 t13 h3⟩
  | true =>
    refine ⟨c, ρ, G3, _, Ξ, S.tr t13, h3, fun v4 r4 G4 H4 t4 o4 h4 => ?_, ex.tr t13⟩
    obtain ⟨G4', t4', i4⟩ := freeze (S.tr t13) t4 o4
    refine hs' c ρ σ G4' H4 _ _ v2 v4 _ _ (S.tr (t13.trans t4')) ((i2.mono t3.eg).mono t4'.eg) i4 h4 fun v5 r5 G5 H5 t5 o5 h5 => ?_
    obtain ⟨k, rfl, h5⟩ := h5
    have o5 : Im X.K G5 (.bool k) v5 := o5
    rw [im_bool] at o5
    exact ⟨k, o5, p k G5 H5 ((t13.trans t4').trans t5) h5⟩
end
end SF

/-! ## More rules over data: items, slices, displays, calls -/
namespace SF
open PySem PySem.Spec PyProof.Rows L2
theorem atI_im {K : PySem.W.Frag} {G : Hp} {ds : List PyData} {xs : List V} {i : Int} {d : PyData} (h : ImL K G ds xs) (e : atI ds i = some d) : ∃ x, atI xs i = some x ∧ Im K G d x := by
  unfold atI at e ⊢
  rw [← h.len]
  cases q : ixN ds.length i with
  | none => rw [q] at e; cases e
  | some j =>
    rw [q] at e
    obtain ⟨x, hx, im⟩ := h.get (i := j) (d := d) e
    exact ⟨x, hx, im⟩
def cutD {α : Type} (xs : List α) (lo hi : Option Int) : List α := (xs.drop (HT.sIx xs.length 0 lo)).take (HT.sIx xs.length xs.length hi - HT.sIx xs.length 0 lo)
theorem cutD_im {K : PySem.W.Frag} {G : Hp} {ds : List PyData} {xs : List V} (h : ImL K G ds xs) (lo hi : Option Int) : ImL K G (cutD ds lo hi) (cutV xs lo hi) := by
  unfold cutD cutV
  rw [h.len]
  exact (h.drop _).take _
theorem cutD_all {α : Type} (xs : List α) (lo hi : Option Int) (h : HT.sIx xs.length 0 lo = 0 ∧ HT.sIx xs.length xs.length hi = xs.length) : cutD xs lo hi = xs := by
  unfold cutD
  rw [h.1, h.2]
  simp
section
variable {X : Cx} {b : Bs} {x y z e : Expr} {pos : Pos} {wx wy wz we : WE} {es : List Expr}
/-! ### items -/
def sIxT : Sem2 := fun a i Φ => ∃ ds j d, a = .tuple ds ∧ i = .int j ∧ atI ds j = some d ∧ Φ (.dat d)
def sIxL : Sem2 := fun a i Φ => ∃ ds j d, a = .list ds ∧ i = .int j ∧ atI ds j = some d ∧ Φ (.dat d)
def sIxS : Sem2 := fun a i Φ => ∃ s j k, a = .str s ∧ i = .int j ∧ s.length ≤ 1000000 ∧ atI s.cps.toList j = some k ∧ Φ (.dat (.str ⟨#[k]⟩))
theorem op2_ixT : Op2 X (rIxT X.K) sIxT := fun c ρ σ G H d1 d2 x y Φ Q S i1 i2 hs p => by
  obtain ⟨ds, j, d, rfl, rfl, e, h⟩ := hs
  rw [im_tuple] at i1
  rw [im_int] at i2
  obtain ⟨a, xs, rfl, ht, il⟩ := i1
  obtain ⟨v, e2, im⟩ := atI_im il e
  exact ⟨a, xs, j, v, rfl, i2, ex_t S.ex2 ht, e2, p v (.dat d) G H (.refl S) im h⟩
theorem op2_ixL : Op2 X (rIxL X.K) sIxL := fun c ρ σ G H d1 d2 x y Φ Q S i1 i2 hs p => by
  obtain ⟨ds, j, d, rfl, rfl, e, h⟩ := hs
  rw [im_list] at i1
  rw [im_int] at i2
  obtain ⟨a, xs, rfl, ht, il⟩ := i1
  obtain ⟨v, e2, im⟩ := atI_im il e
  exact ⟨a, xs, j, v, rfl, i2, sq_of (S.ex2 a _ ht), e2, p v (.dat d) G H (.refl S) im h⟩
theorem op2_ixS : Op2 X rIxS sIxS := fun c ρ σ G H d1 d2 x y Φ Q S i1 i2 hs p => by
  obtain ⟨s, j, k, rfl, rfl, hz, e, h⟩ := hs
  rw [im_str] at i1
  rw [im_int] at i2
  exact ⟨s, j, k, i1, i2, Nat.le_trans hz (by decide), e, p _ (.dat (.str _)) G H (.refl S) (by show Im _ _ _ _; rw [im_str]) h⟩
theorem pei_ixT (hx : PEI X b x wx) (hy : PEI X b y wy) (hs : PlainIx y := by intro _ _; rfl) : PEI X b (.Subscript x y pos) (wOp sIxT wx wy) := pei_op (pe_ix ix_tup hx hy hs) op2_ixT
theorem pei_ixL (hx : PEI X b x wx) (hy : PEI X b y wy) (hs : PlainIx y := by intro _ _; rfl) : PEI X b (.Subscript x y pos) (wOp sIxL wx wy) := pei_op (pe_ix ix_list hx hy hs) op2_ixL
theorem pei_ixS (hx : PEI X b x wx) (hy : PEI X b y wy) (hs : PlainIx y := by intro _ _; rfl) : PEI X b (.Subscript x y pos) (wOp sIxS wx wy) := pei_op (pe_ix ix_str hx hy hs) op2_ixS
/-! ### slices -/
abbrev WO := Rho → (Option Int → Prop) → (Exn → Prop) → Prop
def PostO (K : PySem.W.Frag) (ρ : Rho) (σ : L2.St) (G H : Hp) (Φ : Option Int → Prop) (Q : Option Int → Hp → Prop) : Prop := ∀ k G' H', Tr K ρ σ G H G' H' → Φ k → Q k H'
def toOf (K : PySem.W.Frag) (b : Bs) (w : WO) : TO := fun σ H Q => ∃ (c : Cn) (ρ : Rho) (G : Hp) (Φ : Option Int → Prop) (Ξ : Exn → Prop), Sat K c ρ σ G H ∧ w ρ Φ Ξ ∧ PostO K ρ σ G H Φ Q ∧ ExcE K b ρ σ G H Ξ
abbrev POI (X : Cx) (b : Bs) (e : Option Expr) (w : WO) : Prop := PO X e (toOf X.K b w)
theorem po_imp {e : Option Expr} {t t' : TO} (h : PO X e t) (hi : ∀ σ H Q, t' σ H Q → t σ H Q) : PO X e t' := ⟨fun pins s σ H Q I q => h.run pins s σ H Q I (hi σ H Q q)⟩
def wNoP : WO := fun _ Φ _ => Φ none
def wPart (w : WE) : WO := fun ρ Φ Ξ => w ρ (fun r => ∃ i, r = .dat (.int i) ∧ Φ (some i)) Ξ
theorem poi_none : POI X b none wNoP := po_imp po_none fun σ H Q ⟨c, ρ, G, Φ, Ξ, S, hw, p, ex⟩ => p none G H (.refl S) hw
theorem poi_some (hx : PEI X b x wx) : POI X b (some x) (wPart wx) := po_imp (po_some hx) fun σ H Q ⟨c, ρ, G, Φ, Ξ, S, hw, p, ex⟩ => by
  refine ⟨c, ρ, G, _, Ξ, S, hw, fun v r G1 H1 t1 o1 h1 => ?_, ex⟩
  obtain ⟨i, rfl, h1⟩ := h1
  have o1 : Im X.K G1 (.int i) v := o1
  rw [im_int] at o1
  exact ⟨i, o1, p (some i) G1 H1 t1 h1⟩
abbrev SemS := PyData → Option Int → Option Int → (Res → Prop) → Prop
def wSl (sem : SemS) (w : WE) (wl wh : WO) : WE := fun ρ Φ Ξ => w ρ (fun r => wl ρ (fun lo => wh ρ (fun hi => sem r.frz lo hi Φ) Ξ) Ξ) Ξ
def OpS (X : Cx) (r : V → Option Int → Option Int → Hp → VK → Prop) (sem : SemS) : Prop := ∀ c ρ σ G H d x lo hi Φ Q, Sat X.K c ρ σ G H → Im X.K G d x → sem d lo hi Φ → PostE X.K ρ σ G H Φ Q → r x lo hi H Q
theorem pei_slice {r : V → Option Int → Option Int → Hp → VK → Prop} {sem : SemS} {lo hi : Option Expr} {p2 : Pos} {wl wh : WO} (hr : SlR X r) (ho : OpS X r sem) (hx : PEI X b x wx) (hl : POI X b lo wl) (hh : POI X b hi wh) : PEI X b (.Subscript x (.Slice lo hi none p2) pos) (wSl sem wx wl wh) := pei_of (pe_slice hr hx hl hh) fun c ρ σ G H Φ Ξ Q S hw p ex => by
  refine ⟨c, ρ, G, _, Ξ, S, hw, fun v r G1 H1 t1 o1 h1 => ?_, ex⟩
  obtain ⟨G1', t1', i1⟩ := freeze S t1 o1
  refine ⟨c, ρ, G1', _, Ξ, S.tr t1', h1, fun lo G2 H2 t2 h2 => ?_, ex.tr t1'⟩
  refine ⟨c, ρ, G2, _, Ξ, (S.tr t1').tr t2, h2, fun hi G3 H3 t3 h3 => ?_, ex.tr (t1'.trans t2)⟩
  exact ho c ρ σ G3 H3 _ v lo hi Φ Q (((S.tr t1').tr t2).tr t3) ((i1.mono t2.eg).mono t3.eg) h3 (p.tr ((t1'.trans t2).trans t3))
def sSlT : SemS := fun a lo hi Φ => ∃ ds, a = .tuple ds ∧ Φ (.dat (.tuple (cutD ds lo hi)))
def sSlL : SemS := fun a lo hi Φ => ∃ ds, a = .list ds ∧ Φ (.lst (cutD ds lo hi))
def sSlS : SemS := fun a lo hi Φ => ∃ s, a = .str s ∧ s.length ≤ 1000000 ∧ Φ (.dat (.str (cutS s lo hi)))
theorem ops_T : OpS X (rSlA X.K) sSlT := fun c ρ σ G H d x lo hi Φ Q S i1 hs p => by
  obtain ⟨ds, rfl, h⟩ := hs
  rw [im_tuple] at i1
  obtain ⟨a, xs, rfl, ht, il⟩ := i1
  have hl := il.len
  refine ⟨a, xs, rfl, ex_t S.ex2 ht, fun q => ?_, fun _ q hq => ?_⟩
  · refine p _ (.dat (.tuple (cutD ds lo hi))) G H (.refl S) ?_ h
    show Im _ _ _ _
    rw [cutD_all ds lo hi (by rw [hl]; exact q), im_tuple]
    exact ⟨a, xs, rfl, ht, il⟩
  · refine p _ (.dat (.tuple (cutD ds lo hi))) _ _ (.newG S hq) ?_ h
    show Im _ _ _ _
    rw [im_tuple]
    exact ⟨q, _, rfl, st_of upd_same, (cutD_im il lo hi).mono (.new (S.ex2.back hq))⟩
theorem ops_L : OpS X (rSlL X.K) sSlL := fun c ρ σ G H d x lo hi Φ Q S i1 hs p => by
  obtain ⟨ds, rfl, h⟩ := hs
  rw [im_list] at i1
  obtain ⟨a, xs, rfl, ht, il⟩ := i1
  refine ⟨a, xs, rfl, sq_of (S.ex2 a _ ht), fun q hq => ?_⟩
  exact p _ (.lst (cutD ds lo hi)) _ _ (.newH S hq) ⟨q, _, rfl, hq, S.ex2.back hq, upd_same, cutD_im il lo hi⟩ h
theorem ops_S : OpS X rSlS sSlS := fun c ρ σ G H d x lo hi Φ Q S i1 hs p => by
  obtain ⟨s, rfl, hz, h⟩ := hs
  rw [im_str] at i1
  exact ⟨s, i1, Nat.le_trans hz (by decide), p _ (.dat (.str _)) G H (.refl S) (by show Im _ _ _ _; rw [im_str]) h⟩
theorem pei_slT {lo hi : Option Expr} {p2 : Pos} {wl wh : WO} (hx : PEI X b x wx) (hl : POI X b lo wl) (hh : POI X b hi wh) : PEI X b (.Subscript x (.Slice lo hi none p2) pos) (wSl sSlT wx wl wh) := pei_slice sl_tupA ops_T hx hl hh
theorem pei_slL {lo hi : Option Expr} {p2 : Pos} {wl wh : WO} (hx : PEI X b x wx) (hl : POI X b lo wl) (hh : POI X b hi wh) : PEI X b (.Subscript x (.Slice lo hi none p2) pos) (wSl sSlL wx wl wh) := pei_slice sl_list ops_L hx hl hh
theorem pei_slS {lo hi : Option Expr} {p2 : Pos} {wl wh : WO} (hx : PEI X b x wx) (hl : POI X b lo wl) (hh : POI X b hi wh) : PEI X b (.Subscript x (.Slice lo hi none p2) pos) (wSl sSlS wx wl wh) := pei_slice sl_str ops_S hx hl hh
def sRev : Sem1 := fun a Φ => ∃ ds, a = .list ds ∧ Φ (.lst ds.reverse)
theorem pei_rev {k : Nat} {p1 p2 p3 : Pos} (hx : PEI X b x wx) : PEI X b (.Subscript x (.Slice none none (some (.UnaryOp .USub (.Constant (.int 1) k p1) p2)) p3) pos) (wUn sRev wx) :=
  pei_un (r := fun x H Q => ∃ a xs, x = .ref a ∧ SqL X.K H a xs ∧ ∀ p, H p = none → Q (.ref p) (upd H p (.lst xs.reverse))) (pe_revL hx) fun c ρ σ G H d x Φ Q S i1 hs p => by
    obtain ⟨ds, rfl, h⟩ := hs
    rw [im_list] at i1
    obtain ⟨a, xs, rfl, ht, il⟩ := i1
    exact ⟨a, xs, rfl, sq_of (S.ex2 a _ ht), fun q hq => p _ (.lst ds.reverse) _ _ (.newH S hq) ⟨q, _, rfl, hq, S.ex2.back hq, upd_same, il.rev⟩ h⟩
def sNeg : Sem1 := fun a Φ => ∃ i, a = .int i ∧ Φ (.dat (.int (-i)))
theorem pei_neg (hx : PEI X b x wx) : PEI X b (.UnaryOp .USub x pos) (wUn sNeg wx) := pei_un (r := rU fun i => .int (-i)) (pe_un un_neg hx) fun c ρ σ G H d x Φ Q S i1 hs p => by
  obtain ⟨i, rfl, h⟩ := hs
  rw [im_int] at i1
  exact ⟨i, i1, p _ (.dat (.int _)) G H (.refl S) (by show Im _ _ _ _; rw [im_int]) h⟩
/-! ### sums of lists, tuples, texts -/
def sCatL : Sem2 := fun a c Φ => ∃ ds es, a = .list ds ∧ c = .list es ∧ ds.length + es.length ≤ 1000000 ∧ Φ (.lst (ds ++ es))
def sCatT : Sem2 := fun a c Φ => ∃ ds es, a = .tuple ds ∧ c = .tuple es ∧ ds.length + es.length ≤ 1000000 ∧ Φ (.dat (.tuple (ds ++ es)))
def sCatS : Sem2 := fun a c Φ => ∃ s t, a = .str s ∧ c = .str t ∧ s.length + t.length ≤ 1000000 ∧ Φ (.dat (.str (s ++ t)))
theorem pei_catL (hx : PEI X b x wx) (hy : PEI X b y wy) : PEI X b (.BinOp x .Add y pos) (wOp sCatL wx wy) := pei_op (pe_op op_cat hx hy) fun c ρ σ G H d1 d2 x y Φ Q S i1 i2 hs p => by
  obtain ⟨ds, es, rfl, rfl, hz, h⟩ := hs
  rw [im_list] at i1 i2
  obtain ⟨a, xs, rfl, ha, il⟩ := i1
  obtain ⟨a2, ys, rfl, ha2, il2⟩ := i2
  refine ⟨a, a2, xs, ys, rfl, rfl, S.ex2 a _ ha, S.ex2 a2 _ ha2, ?_, fun q hq => p _ (.lst (ds ++ es)) _ _ (.newH S hq) ⟨q, _, rfl, hq, S.ex2.back hq, upd_same, il.append il2⟩ h⟩
  rw [← il.len, ← il2.len]
  exact Nat.le_trans hz (by decide)
theorem pei_catT (hx : PEI X b x wx) (hy : PEI X b y wy) : PEI X b (.BinOp x .Add y pos) (wOp sCatT wx wy) := pei_op (pe_op op_catA hx hy) fun c ρ σ G H d1 d2 x y Φ Q S i1 i2 hs p => by
  obtain ⟨ds, es, rfl, rfl, hz, h⟩ := hs
  have i1' := i1
  have i2' := i2
  rw [im_tuple] at i1 i2
  obtain ⟨a, xs, rfl, ha, il⟩ := i1
  obtain ⟨a2, ys, rfl, ha2, il2⟩ := i2
  refine ⟨a, a2, xs, ys, rfl, rfl, ex_t S.ex2 ha, ex_t S.ex2 ha2, ?_, fun q => ?_, fun q1 q2 => ?_, fun q1 q2 q hq => ?_⟩
  · rw [← il.len, ← il2.len]
    exact Nat.le_trans hz (by decide)
  · subst q
    have e : ds = [] := List.eq_nil_of_length_eq_zero (by rw [il.len]; rfl)
    subst e
    exact p _ (.dat (.tuple ([] ++ es))) G H (.refl S) (by show Im _ _ _ _; rw [List.nil_append]; exact i2') h
  · subst q2
    have e : es = [] := List.eq_nil_of_length_eq_zero (by rw [il2.len]; rfl)
    subst e
    refine p _ (.dat (.tuple (ds ++ []))) G H (.refl S) ?_ h
    show Im _ _ _ _
    rw [List.append_nil]
    exact i1'
  · refine p _ (.dat (.tuple (ds ++ es))) _ _ (.newG S hq) ?_ h
    show Im _ _ _ _
    rw [im_tuple]
    exact ⟨q, _, rfl, st_of upd_same, (il.append il2).mono (.new (S.ex2.back hq))⟩
theorem pei_catS (hx : PEI X b x wx) (hy : PEI X b y wy) : PEI X b (.BinOp x .Add y pos) (wOp sCatS wx wy) := pei_op (pe_op op_add_str hx hy) fun c ρ σ G H d1 d2 x y Φ Q S i1 i2 hs p => by
  obtain ⟨s, t, rfl, rfl, hz, h⟩ := hs
  rw [im_str] at i1 i2
  exact ⟨s, t, i1, i2, Nat.le_trans hz (by decide), p _ (.dat (.str _)) G H (.refl S) (by show Im _ _ _ _; rw [im_str]) h⟩
/-! ### argument lists, displays -/
def wNil : WA := fun _ Φ _ => Φ []
def wCons (w : WE) (wr : WA) : WA := fun ρ Φ Ξ => w ρ (fun r => wr ρ (fun ds => Φ (r.frz :: ds)) Ξ) Ξ
theorem pai_nil : PAI X b 0 [] wNil := pa_imp pa_nil fun σ H Q ⟨c, ρ, G, Φ, Ξ, S, hw, p, ex⟩ => p [] [] G H (.refl S) .nil rfl hw
theorem pai_cons {n : Nat} {wr : WA} (hx : PEI X b x wx) (hr : PAI X b n es wr) (hs : starEach (x :: es) X.env = (false, eval x X.env) :: starEach es X.env := by rfl) : PAI X b (n + 1) (x :: es) (wCons wx wr) := pa_imp (pa_cons hx hr hs) fun σ H Q ⟨c, ρ, G, Φ, Ξ, S, hw, p, ex⟩ => by
  refine ⟨c, ρ, G, _, Ξ, S, hw, fun v r G1 H1 t1 o1 h1 => ?_, ex⟩
  obtain ⟨G1', t1', i1⟩ := freeze S t1 o1
  refine ⟨c, ρ, G1', _, Ξ, S.tr t1', h1, fun vs ds G2 H2 t2 il hn h2 => ?_, ex.tr t1'⟩
  exact p (v :: vs) (r.frz :: ds) G2 H2 (t1'.trans t2) (.cons (i1.mono t2.eg) il) (by rw [List.length_cons, hn]) h2
def wTup (wa : WA) : WE := fun ρ Φ Ξ => wa ρ (fun ds => Φ (.dat (.tuple ds))) Ξ
def wLst (wa : WA) : WE := fun ρ Φ Ξ => wa ρ (fun ds => Φ (.lst ds)) Ξ
theorem pei_tup {n k : Nat} {wa : WA} (h : PAI X b n es wa) (hn : n ≤ 100 := by decide) : PEI X b (.Tuple es k pos) (wTup wa) := pei_of (pe_tup h) fun c ρ σ G H Φ Ξ Q S hw p ex => by
  refine ⟨c, ρ, G, _, Ξ, S, hw, fun vs ds G1 H1 t1 il hl h1 => ?_, ex⟩
  refine ⟨by rw [← il.len, hl]; exact Nat.le_trans hn (by decide), fun q hq => ?_⟩
  have S1 := S.tr t1
  refine p _ (.dat (.tuple ds)) _ _ (t1.trans (.newG S1 hq)) ?_ h1
  show Im _ _ _ _
  rw [im_tuple]
  exact ⟨q, _, rfl, st_of upd_same, il.mono (.new (S1.ex2.back hq))⟩
theorem pei_lst {n : Nat} {wa : WA} (h : PAI X b n es wa) (hn : n ≤ 100 := by decide) : PEI X b (.List es pos) (wLst wa) := pei_of (pe_lst h) fun c ρ σ G H Φ Ξ Q S hw p ex => by
  refine ⟨c, ρ, G, _, Ξ, S, hw, fun vs ds G1 H1 t1 il hl h1 => ?_, ex⟩
  refine ⟨by rw [← il.len, hl]; exact Nat.le_trans hn (by decide), fun q hq => ?_⟩
  have S1 := S.tr t1
  exact p _ (.lst ds) _ _ (t1.trans (.newH S1 hq)) ⟨q, _, rfl, t1.back hq, S1.ex2.back hq, upd_same, il⟩ h1
/-! ### built-ins by name -/
abbrev SemA := List PyData → (Res → Prop) → Prop
def wCall (sem : SemA) (wa : WA) : WE := fun ρ Φ Ξ => wa ρ (fun ds => sem ds Φ) Ξ
def OpA (X : Cx) (r : List V → Hp → VK → Prop) (sem : SemA) : Prop := ∀ c ρ σ G H ds xs Φ Q, Sat X.K c ρ σ G H → ImL X.K G ds xs → sem ds Φ → PostE X.K ρ σ G H Φ Q → r xs H Q
theorem pei_cb {e : Expr} {r : List V → Hp → VK → Prop} {sem : SemA} {n : Nat} {wa : WA} (h : PE X e (tCB r (taOf X.K b n wa))) (ho : OpA X r sem) : PEI X b e (wCall sem wa) := pei_of h fun c ρ σ G H Φ Ξ Q S hw p ex => by
  refine ⟨c, ρ, G, _, Ξ, S, hw, fun vs ds G1 H1 t1 il hl h1 => ?_, ex⟩
  exact ho c ρ σ G1 H1 ds vs Φ Q (S.tr t1) il h1 (p.tr t1)
theorem imL_1 {K : PySem.W.Frag} {G : Hp} {d : PyData} {xs : List V} (h : ImL K G [d] xs) : ∃ x, xs = [x] ∧ Im K G d x := by
  rw [imL_cons] at h
  obtain ⟨x, r, rfl, h1, h2⟩ := h
  rw [imL_nil] at h2
  subst h2
  exact ⟨x, rfl, h1⟩
theorem imL_2 {K : PySem.W.Frag} {G : Hp} {d e : PyData} {xs : List V} (h : ImL K G [d, e] xs) : ∃ x y, xs = [x, y] ∧ Im K G d x ∧ Im K G e y := by
  rw [imL_cons] at h
  obtain ⟨x, r, rfl, h1, h2⟩ := h
  obtain ⟨y, rfl, h3⟩ := imL_1 h2
  exact ⟨x, y, rfl, h1, h3⟩
def sLen : SemA := fun ds Φ => ∃ d n, ds = [d] ∧ ((∃ es, d = .tuple es ∧ n = es.length) ∨ (∃ es, d = .list es ∧ n = es.length)) ∧ Φ (.dat (.int (n : Nat)))
theorem pei_len {p : Pos} {wa : WA} (hm : X.mg "len" = none) (hg : Gl X "len") (h : PAI X b 1 [x] wa) (he : starEach [x] X.env = (false, eval x X.env) :: starEach [] X.env := by rfl) (hpl : (backTo pos (starEach [] X.env)).any (·.1) = false := by rfl) : PEI X b (.Call (.Name "len" p) [x] [] pos) (wCall sLen wa) :=
  pei_cb (pe_callB call_len_seq hg hm PySem.boot_len h (he := he) (hpl := hpl)) fun c ρ σ G H ds xs Φ Q S il hs p => by
    obtain ⟨d, n, rfl, hd, hΦ⟩ := hs
    obtain ⟨v, rfl, im⟩ := imL_1 il
    have fin : Q (.int (n : Nat)) H := p _ (.dat (.int (n : Nat))) G H (.refl S) (by show Im _ _ _ _; rw [im_int]) hΦ
    rcases hd with ⟨es, rfl, rfl⟩ | ⟨es, rfl, rfl⟩
    · rw [im_tuple] at im
      obtain ⟨a, ys, rfl, ha, il2⟩ := im
      exact ⟨a, ys, rfl, .inr (ex_t S.ex2 ha), by rw [← il2.len]; exact fin⟩
    · rw [im_list] at im
      obtain ⟨a, ys, rfl, ha, il2⟩ := im
      exact ⟨a, ys, rfl, .inl (sq_of (S.ex2 a _ ha)), by rw [← il2.len]; exact fin⟩
def sMax2 : SemA := fun ds Φ => ∃ i j, ds = [.int i, .int j] ∧ Φ (.dat (.int (max i j)))
def sMin2 : SemA := fun ds Φ => ∃ i j, ds = [.int i, .int j] ∧ Φ (.dat (.int (min i j)))
theorem opa_max2 : OpA X (fun xs H Q => ∃ i j, xs = [.int i, .int j] ∧ Q (.int (if j > i then j else i)) H) sMax2 := fun c ρ σ G H ds xs Φ Q S il hs p => by
  obtain ⟨i, j, rfl, h⟩ := hs
  obtain ⟨v, u, rfl, i1, i2⟩ := imL_2 il
  rw [im_int] at i1 i2
  subst i1 i2
  refine ⟨i, j, rfl, p _ (.dat (.int (max i j))) G H (.refl S) ?_ h⟩
  show Im _ _ _ _
  rw [im_int]
  congr 1
  split <;> omega
theorem opa_min2 : OpA X (fun xs H Q => ∃ i j, xs = [.int i, .int j] ∧ Q (.int (if j < i then j else i)) H) sMin2 := fun c ρ σ G H ds xs Φ Q S il hs p => by
  obtain ⟨i, j, rfl, h⟩ := hs
  obtain ⟨v, u, rfl, i1, i2⟩ := imL_2 il
  rw [im_int] at i1 i2
  subst i1 i2
  refine ⟨i, j, rfl, p _ (.dat (.int (min i j))) G H (.refl S) ?_ h⟩
  show Im _ _ _ _
  rw [im_int]
  congr 1
  split <;> omega
theorem pei_max2 {p : Pos} {wa : WA} (hm : X.mg "max" = none) (hg : Gl X "max") (hc : X.calm = true) (h : PAI X b 2 [x, y] wa) (he : starEach [x, y] X.env = (false, eval x X.env) :: starEach [y] X.env := by rfl)
    (hpl : (backTo pos (starEach [y] X.env)).any (·.1) = false := by rfl) : PEI X b (.Call (.Name "max" p) [x, y] [] pos) (wCall sMax2 wa) := pei_cb (pe_callB (call_max2 hc) hg hm (by decide +kernel) h (he := he) (hpl := hpl)) opa_max2
theorem pei_min2 {p : Pos} {wa : WA} (hm : X.mg "min" = none) (hg : Gl X "min") (hc : X.calm = true) (h : PAI X b 2 [x, y] wa) (he : starEach [x, y] X.env = (false, eval x X.env) :: starEach [y] X.env := by rfl)
    (hpl : (backTo pos (starEach [y] X.env)).any (·.1) = false := by rfl) : PEI X b (.Call (.Name "min" p) [x, y] [] pos) (wCall sMin2 wa) := pei_cb (pe_callB (call_min2 hc) hg hm (by decide +kernel) h (he := he) (hpl := hpl)) opa_min2
def sListOf : SemA := fun ds Φ => ∃ d es, ds = [d] ∧ (d = .tuple es ∨ d = .list es) ∧ Φ (.lst es)
theorem opa_list : OpA X (fun xs H Q => ∃ p ys, xs = [.ref p] ∧ (SqL X.K H p ys ∨ SqT X.K H p ys) ∧ ∀ l, H l = none → Q (.ref l) (upd H l (.lst ys))) sListOf := fun c ρ σ G H ds xs Φ Q S il hs p => by
  obtain ⟨d, es, rfl, hd, h⟩ := hs
  obtain ⟨v, rfl, im⟩ := imL_1 il
  have fin : ∀ ys, ImL X.K G es ys → ∀ l, H l = none → Q (.ref l) (upd H l (.lst ys)) := fun ys iy q hq => p _ (.lst es) _ _ (.newH S hq) ⟨q, _, rfl, hq, S.ex2.back hq, upd_same, iy⟩ h
  rcases hd with rfl | rfl
  · rw [im_tuple] at im
    obtain ⟨a, ys, rfl, ha, il2⟩ := im
    exact ⟨a, ys, rfl, .inr (ex_t S.ex2 ha), fin ys il2⟩
  · rw [im_list] at im
    obtain ⟨a, ys, rfl, ha, il2⟩ := im
    exact ⟨a, ys, rfl, .inl (sq_of (S.ex2 a _ ha)), fin ys il2⟩
theorem pei_list {p : Pos} {wa : WA} (hm : X.mg "list" = none) (hg : Gl X "list") (h : PAI X b 1 [x] wa) (he : starEach [x] X.env = (false, eval x X.env) :: starEach [] X.env := by rfl) (hpl : (backTo pos (starEach [] X.env)).any (·.1) = false := by rfl) : PEI X b (.Call (.Name "list" p) [x] [] pos) (wCall sListOf wa) :=
  pei_cb (pe_callTy call_list_of hg hm (by decide +kernel) h (he := he) (hpl := hpl)) opa_list
def sTupleOf : SemA := fun ds Φ => ∃ d es, ds = [d] ∧ (d = .tuple es ∨ d = .list es) ∧ Φ (.dat (.tuple es))
theorem opa_tuple : OpA X (fun xs H Q => ∃ p ys, xs = [.ref p] ∧ ((SqL X.K H p ys ∧ ∀ l, H l = none → Q (.ref l) (upd H l (.tup ys))) ∨ (SqT X.K H p ys ∧ Q (.ref p) H))) sTupleOf := fun c ρ σ G H ds xs Φ Q S il hs p => by
  obtain ⟨d, es, rfl, hd, h⟩ := hs
  obtain ⟨v, rfl, im⟩ := imL_1 il
  rcases hd with rfl | rfl
  · have im' := im
    rw [im_tuple] at im
    obtain ⟨a, ys, rfl, ha, il2⟩ := im
    exact ⟨a, ys, rfl, .inr ⟨ex_t S.ex2 ha, p _ (.dat (.tuple es)) G H (.refl S) im' h⟩⟩
  · rw [im_list] at im
    obtain ⟨a, ys, rfl, ha, il2⟩ := im
    refine ⟨a, ys, rfl, .inl ⟨sq_of (S.ex2 a _ ha), fun q hq => p _ (.dat (.tuple es)) _ _ (.newG S hq) ?_ h⟩⟩
    show Im _ _ _ _
    rw [im_tuple]
    exact ⟨q, _, rfl, st_of upd_same, il2.mono (.new (S.ex2.back hq))⟩
theorem pei_tuple {p : Pos} {wa : WA} (hm : X.mg "tuple" = none) (hg : Gl X "tuple") (h : PAI X b 1 [x] wa) (he : starEach [x] X.env = (false, eval x X.env) :: starEach [] X.env := by rfl) (hpl : (backTo pos (starEach [] X.env)).any (·.1) = false := by rfl) : PEI X b (.Call (.Name "tuple" p) [x] [] pos) (wCall sTupleOf wa) :=
  pei_cb (pe_callTy call_tuple_of hg hm (by decide +kernel) h (he := he) (hpl := hpl)) opa_tuple
def sIntB : SemA := fun ds Φ => ∃ k, ds = [.bool k] ∧ Φ (.dat (.int (if k then 1 else 0)))
theorem opa_intB : OpA X (fun xs H Q => (∃ i, xs = [.int i] ∧ Q (.int i) H) ∨ ∃ k, xs = [.bl k] ∧ Q (.int (if k then 1 else 0)) H) sIntB := fun c ρ σ G H ds xs Φ Q S il hs p => by
  obtain ⟨k, rfl, h⟩ := hs
  obtain ⟨v, rfl, im⟩ := imL_1 il
  rw [im_bool] at im
  subst im
  exact .inr ⟨k, rfl, p _ (.dat (.int (if k then 1 else 0))) G H (.refl S) (by show Im _ _ _ _; rw [im_int]) h⟩
theorem pei_intB {p : Pos} {wa : WA} (hm : X.mg "int" = none) (hg : Gl X "int") (h : PAI X b 1 [x] wa) (he : starEach [x] X.env = (false, eval x X.env) :: starEach [] X.env := by rfl) (hpl : (backTo pos (starEach [] X.env)).any (·.1) = false := by rfl) : PEI X b (.Call (.Name "int" p) [x] [] pos) (wCall sIntB wa) :=
  pei_cb (pe_callTy call_int1 hg hm (by decide +kernel) h (he := he) (hpl := hpl)) opa_intB
/-- list(range(n)) -/
def sRng (n : Int) (Φ : Res → Prop) : Prop := n ≤ 1000000 ∧ Φ (.lst ((List.range n.toNat).map fun i : Nat => PyData.int (i : Int)))
def wLstRg (w : WE) : WE := fun ρ Φ Ξ => w ρ (fun r => ∃ n, r = .dat (.int n) ∧ 0 ≤ n ∧ sRng n Φ) Ξ
theorem pei_listRange {p p1 pos1 : Pos} (hm : X.mg "list" = none) (hg : Gl X "list") (hm1 : X.mg "range" = none) (hg1 : Gl X "range") (hc : X.calm = true) (h : PEI X b x wx) (na : starEach [x] X.env = (false, eval x X.env) :: starEach [] X.env := by rfl)
    (nb : starEach [.Call (.Name "range" p1) [x] [] pos1] X.env = (false, eval (.Call (.Name "range" p1) [x] [] pos1) X.env) :: starEach [] X.env := by rfl) : PEI X b (.Call (.Name "list" p) [.Call (.Name "range" p1) [x] [] pos1] [] pos) (wLstRg wx) :=
  pei_of (pe_listRg hc hg hm (prg_1 hg1 hm1 h na) nb) fun c ρ σ G H Φ Ξ Q S hw p ex => by
    refine ⟨c, ρ, G, _, Ξ, S, hw, fun v r G1 H1 t1 o1 h1 => ?_, ex⟩
    obtain ⟨n, rfl, hn, hz, h1⟩ := h1
    have o1 : Im X.K G1 (.int n) v := o1
    rw [im_int] at o1
    refine ⟨n, o1, .of_le (Int.le_refl 0) (by omega) (by omega) hn, fun q hq => ?_⟩
    have S1 := S.tr t1
    refine p _ (.lst _) _ _ (t1.trans (.newH S1 hq)) ⟨q, _, rfl, t1.back hq, S1.ex2.back hq, upd_same, ?_⟩ h1
    unfold rgV
    rw [Int.sub_zero]
    refine .of_get (by simp) fun i d x h1 h2 => ?_
    rw [List.getElem?_map] at h1 h2
    cases e : (List.range n.toNat)[i]? with
    | none => rw [e] at h1; cases h1
    | some k =>
      rw [e] at h1 h2
      cases h1
      cases h2
      rw [im_int]
      show V.int (0 + ((k : Nat) : Int)) = _
      rw [Int.zero_add]
/-! ### calls of defs of the text -/
abbrev Tf := List PyData → (Res → Prop) → (Exn → Prop) → Prop
def spP (K : PySem.W.Frag) (XR : Exn → Value → Option Addr → Hp → Prop) (T : Tf) : Sp := fun vs H Q E => ∃ (G : Hp) (ds : List PyData) (Φ : Res → Prop) (Ξ : Exn → Prop), Ex G H ∧ ImL K G ds vs ∧ T ds Φ Ξ ∧
  (∀ v r G' H', Fin' K ⟨none, G, H⟩ G' H' → Out K H G' H' r v → Φ r → Q v H') ∧ ∀ ex cls d G' H', Fin' K ⟨none, G, H⟩ G' H' → XR ex cls d G' → Ξ ex → E cls d H'
def spR (K : PySem.W.Frag) (XR : Exn → Value → Option Addr → Hp → Prop) (T : Tf) : Sp := fun vs H Q E => ∃ (r : Addr) (us : List V) (G : Hp) (ds : List PyData) (Φ : Res → Prop) (Ξ : Exn → Prop), vs = .ref r :: us ∧ Ex G H ∧ RowAt K G H r ∧ ImL K G ds us ∧ T ds Φ Ξ ∧
  (∀ v e G' H', Fin' K ⟨some r, G, H⟩ G' H' → Out K H G' H' e v → Φ e → Q v H') ∧ ∀ ex cls d G' H', Fin' K ⟨some r, G, H⟩ G' H' → XR ex cls d G' → Ξ ex → E cls d H'
def wDef (T : Tf) (wa : WA) : WE := fun ρ Φ Ξ => wa ρ (fun ds => T ds Φ Ξ) Ξ
theorem Fin'.tr {K : PySem.W.Frag} {c : Cn} {ρ : Rho} {σ : L2.St} {G H G' H' : Hp} (S : Sat K c ρ σ G H) (f : Fin' K ⟨none, G, H⟩ G' H') : Tr K ρ σ G H G' H' :=
  ⟨f.ex1, f.ex2, fun a o h _ m => f.keep a o h (fun z => by cases z) m, f.tbl, fun a h h' => f.avoid a h h', fun r h => by
    have z := S.rowAt h
    exact z.go f.ex1 (f.avoid r z.1 z.there) fun o e => f.keep r _ e (fun z => by cases z) ntL⟩
theorem Fin'.trR {K : PySem.W.Frag} {c : Cn} {ρ : Rho} {σ : L2.St} {G H G' H' : Hp} {r : Addr} (S : Sat K c ρ σ G H) (hr : IsRow ρ σ r) (f : Fin' K ⟨some r, G, H⟩ G' H') : Tr K ρ σ G H G' H' :=
  ⟨f.ex1, f.ex2, fun a o h n m => f.keep a o h (fun z => n (by cases z; exact hr)) m, f.tbl, fun a h h' => f.avoid a h h', fun q h => by
    by_cases e : q = r
    · subst e
      exact f.mrow q rfl
    · have z := S.rowAt h
      exact z.go f.ex1 (f.avoid q z.1 z.there) fun o e' => f.keep q _ e' (fun z => e (by cases z; rfl)) ntL⟩
theorem pei_def {CX : CXT} {k : Nat} {f : Addr} {fd : FuncData} {ps : List Str} {T : Tf} {n : Nat} {fx : Str} {p : Pos} {wa : WA} (F : FnOk X.prog X.w X.K X.mg X.base CX k f fd ps (spP X.K b.XR T)) (hr : Room k X.A) (hm : X.mg fx = some (.ref f)) (hk : PySem.W.keepIn X.K (.ref f) = true) (hb : Binds X.K fd ps []) (hx : Passes CX X b.E)
    (ha : PAI X b n (x :: es) wa) (hg : Gl X fx) (hdb : (fx == ("__debug__" : Str)) = false := by decide) (he : starEach (x :: es) X.env = (false, eval x X.env) :: starEach es X.env := by rfl) (hpl : (backTo pos (starEach es X.env)).any (·.1) = false := by rfl) :
    PEI X b (.Call (.Name fx p) (x :: es) [] pos) (wDef T wa) := pei_of (pe_call F hr hg hm hk hb .nil hx ha hdb he hpl) fun c ρ σ G H Φ Ξ Q S hw p ex => by
  refine ⟨c, ρ, G, _, Ξ, S, hw, fun vs ds G1 H1 t1 il hl h1 => ?_, ex⟩
  have S1 := S.tr t1
  show spP X.K b.XR T (vs ++ []) H1 Q b.E
  rw [List.append_nil]
  refine ⟨G1, ds, Φ, Ξ, S1.ex2, il, h1, fun v r G' H' fi o hΦ => ?_, fun exn cls d G' H' fi xr hΞ => ?_⟩
  · exact p v r G' H' (t1.trans (fi.tr S1)) (o.back fun _ q => t1.back q) hΦ
  · exact ex exn cls d G' H' (t1.trans (fi.tr S1)) xr hΞ
/-- a def whose first parameter is the row -/
def wDefR (i : Nat) (T : Tf) (wa : WA) : WE := fun ρ Φ Ξ => ρ[i]? = some .row ∧ wa ρ (fun ds => T ds Φ Ξ) Ξ
theorem pei_defR {CX : CXT} {k : Nat} {f : Addr} {fd : FuncData} {ps : List Str} {T : Tf} {n : Nat} {fx rx : Str} {p rp : Pos} {wa : WA} (i : Nat) (F : FnOk X.prog X.w X.K X.mg X.base CX k f fd ps (spR X.K b.XR T)) (hr : Room k X.A) (hm : X.mg fx = some (.ref f)) (hk : PySem.W.keepIn X.K (.ref f) = true) (hb : Binds X.K fd ps []) (hx : Passes CX X b.E)
    (ha : PAI X b n es wa) (hg : Gl X fx) (hN : X.N[i]? = some rx := by rfl) (hv : Vis X.env.scope rx := by first | exact Or.inl rfl | exact Or.inr (Or.inl rfl) | exact Or.inr (Or.inr rfl)) (hd1 : (rx == ("__debug__" : Str)) = false := by decide) (hcd : (rx == ("__classdict__" : Str)) = false := by decide)
    (hdb : (fx == ("__debug__" : Str)) = false := by decide) (he : starEach (.Name rx rp :: es) X.env = (false, eval (.Name rx rp) X.env) :: starEach es X.env := by rfl) (hpl : (backTo pos (starEach es X.env)).any (·.1) = false := by rfl) :
    PEI X b (.Call (.Name fx p) (.Name rx rp :: es) [] pos) (wDefR i T wa) := pei_of (pe_call F hr hg hm hk hb .nil hx (pa_cons (pe_var hN hv hd1 hcd) ha he) hdb he hpl) fun c ρ σ G H Φ Ξ Q S hw p ex => by
  obtain ⟨hi, hw⟩ := hw
  obtain ⟨r, e1, _⟩ := S.rowVar hi
  refine ⟨.ref r, e1, c, ρ, G, _, Ξ, S, hw, fun vs ds G1 H1 t1 il hl h1 => ?_, ex⟩
  have S1 := S.tr t1
  have ir : IsRow ρ σ r := ⟨i, hi, e1⟩
  show spR X.K b.XR T ((.ref r :: vs) ++ []) H1 Q b.E
  rw [List.append_nil]
  refine ⟨r, vs, G1, ds, Φ, Ξ, rfl, S1.ex2, t1.row r ir, il, h1, fun v e G' H' fi o hΦ => ?_, fun exn cls d G' H' fi xr hΞ => ?_⟩
  · exact p v e G' H' (t1.trans (fi.trR S1 ir)) (o.back fun _ q => t1.back q) hΦ
  · exact ex exn cls d G' H' (t1.trans (fi.trR S1 ir)) xr hΞ
/-! ### a list of one's own, looked into -/
def nolR : Res → Bool
  | .dat d => nol d
  | .lst ds => nolL ds
theorem Sat.frz {K : PySem.W.Frag} {c : Cn} {ρ : Rho} {σ : L2.St} {G H : Hp} (S : Sat K c ρ σ G H) {i : Nat} {ds : List PyData} {l : Addr} {xs : List V} (h1 : ρ[i]? = some (.ls ds)) (h2 : σ[i]? = some (some (.ref l))) (h3 : H l = some (.lst xs)) (h4 : G l = none) (h5 : ImL K G ds xs) :
    Sat K c (ρ.set i (.dat (.list ds))) σ (upd G l (.lst xs)) H := by
  have hx : Ex G (upd G l (.lst xs)) := .new h4
  have hi : i < ρ.length := (List.getElem?_eq_some_iff.mp h1).1
  have hHe : c.He l = none := by
    rcases S.own i _ l h1 rfl h2 with z | z
    · exact z
    · cases z.2
  have nm : ∀ (j : Nat) e, ρ[j]? = some e → e.isM = true → i ≠ j → σ[j]? ≠ some (some (.ref l)) := fun j e q1 q2 q3 => S.ne i j _ e l q3 h1 q1 rfl q2 h2
  have gt : ∀ (j : Nat) e, (ρ.set i (.dat (.list ds)))[j]? = some e → e.isM = true → ρ[j]? = some e ∧ i ≠ j := fun j e q1 q2 => by
    by_cases q : i = j
    · subst q
      rw [List.getElem?_set_self hi] at q1
      cases q1
      cases q2
    · rw [List.getElem?_set_ne q] at q1
      exact ⟨q1, q⟩
  refine ⟨S.ex1.trans hx, fun a o h => ?_, S.keep, S.tbl, S.there, fun a h h' => ?_, fun r h => ?_, S.mhe, by rw [List.length_set, S.len], fun j e u q1 q2 => ?_, fun j e l2 q1 qm q2 => ?_, fun j k e f l2 hne q1 q2 m1 m2 q3 q4 => ?_⟩
  · by_cases q : a = l
    · subst q
      rw [upd_same] at h
      cases h
      exact h3
    · rw [upd_ne q] at h
      exact S.ex2 a o h
  · rw [upd_ne (show a ≠ l from fun e => h' (by rw [e]; exact hHe))]
    exact S.avoid a h h'
  · have z := S.mrow r h
    have ne : r ≠ l := fun e => S.mhe r h (by rw [e]; exact hHe)
    exact z.go hx (by rw [upd_ne ne]; exact z.1) fun _ e => e
  · by_cases q : i = j
    · subst q
      rw [List.getElem?_set_self hi] at q1
      cases q1
      rw [h2] at q2
      cases q2
      refine ⟨.ref l, rfl, ?_⟩
      rw [im_list]
      exact ⟨l, xs, rfl, upd_same, h5.mono hx⟩
    · rw [List.getElem?_set_ne q] at q1
      have z := S.slot j e u q1 q2
      cases e with
      | no => trivial
      | dat d =>
        obtain ⟨v, e, im⟩ := z
        exact ⟨v, e, im.mono hx⟩
      | ls ds2 =>
        obtain ⟨l3, xs3, rfl, z2, z3, z4⟩ := z
        have : l3 ≠ l := fun e => nm j _ q1 rfl q (e ▸ q2)
        exact ⟨l3, xs3, rfl, z2, by rw [upd_ne this]; exact z3, z4.mono hx⟩
      | row =>
        obtain ⟨r, rfl, z⟩ := z
        have ne : r ≠ l := fun e => nm j _ q1 rfl q (e ▸ q2)
        exact ⟨r, rfl, z.go hx (by rw [upd_ne ne]; exact z.1) fun _ e => e⟩
      | ob k2 =>
        obtain ⟨l3, u3, rfl, z2, z3, z4⟩ := z
        have : l3 ≠ l := fun e => nm j _ q1 rfl q (e ▸ q2)
        exact ⟨l3, u3, rfl, z2, by rw [upd_ne this]; exact z3, k2.mono _ _ _ _ _ hx z4⟩
      | val k2 => exact ⟨z.1, k2.mono _ _ hx z.2⟩
  · obtain ⟨q, _⟩ := gt j e q1 qm
    exact S.own j e l2 q qm q2
  · obtain ⟨a1, _⟩ := gt j e q1 m1
    obtain ⟨b1, _⟩ := gt k f q2 m2
    exact S.ne j k e f l2 hne a1 b1 m1 m2 q3 q4
theorem isRow_set {ρ : Rho} {σ : L2.St} {i : Nat} {ds : List PyData} {d : PyData} (h1 : ρ[i]? = some (.ls ds)) (r : Addr) : IsRow (ρ.set i (.dat d)) σ r ↔ IsRow ρ σ r := by
  have hi : i < ρ.length := (List.getElem?_eq_some_iff.mp h1).1
  constructor
  · rintro ⟨j, e1, e2⟩
    by_cases q : i = j
    · subst q
      rw [List.getElem?_set_self hi] at e1
      cases e1
    · rw [List.getElem?_set_ne q] at e1
      exact ⟨j, e1, e2⟩
  · rintro ⟨j, e1, e2⟩
    have q : i ≠ j := by
      rintro rfl
      rw [h1] at e1
      cases e1
    exact ⟨j, by rw [List.getElem?_set_ne q]; exact e1, e2⟩
/-- back from a look: what stands at l is one's own again -/
theorem Tr.unfrz {K : PySem.W.Frag} {c : Cn} {ρ : Rho} {σ : L2.St} {G H G' H' : Hp} (S : Sat K c ρ σ G H) {i : Nat} {ds : List PyData} {l : Addr} {xs : List V} (h1 : ρ[i]? = some (.ls ds)) (h2 : σ[i]? = some (some (.ref l))) (h3 : H l = some (.lst xs)) (h4 : G l = none)
    (t : Tr K (ρ.set i (.dat (.list ds))) σ (upd G l (.lst xs)) H G' H') : Tr K ρ σ G H (cut G' l) H' ∧ G' l = some (.lst xs) := by
  have hl : G' l = some (.lst xs) := t.eg l _ upd_same
  refine ⟨⟨fun a o h => ?_, Ex.cut.trans t.eh, fun a o h n m => t.keep a o h (fun z => n ((isRow_set h1 a).mp z)) m, t.tbl, fun a h h' => ?_, fun r h => ?_⟩, hl⟩
  · have q : a ≠ l := by
      rintro rfl
      rw [h4] at h
      cases h
    rw [cut_ne q]
    exact t.eg a o (by rw [upd_ne q]; exact h)
  · by_cases q : a = l
    · subst q
      exact cut_same
    · rw [cut_ne q]
      exact t.avoid a (by rw [upd_ne q]; exact h) h'
  · have z := t.row r ((isRow_set h1 r).mpr h)
    have ne : r ≠ l := by
      rintro rfl
      have z1 := z.1
      rw [hl] at z1
      cases z1
    obtain ⟨z1, s, ns, a, x, z2, z3, z4⟩ := z
    exact ⟨by rw [cut_ne ne]; exact z1, s, ns, a, x, z2, z3.cut hl, z4⟩
theorem Out.unfrz {K : PySem.W.Frag} {H G' H' : Hp} {l : Addr} {xs : List V} (hl : G' l = some (.lst xs)) : ∀ {r : Res} {v : V}, nolR r = true → Out K H G' H' r v → Out K H (cut G' l) H' r v
  | .dat d, v, n, o => Im.monoT (ExT.cut hl) n o
  | .lst ds, v, n, o => by
    obtain ⟨l2, ys, e, o1, o2, o3, o4⟩ := o
    refine ⟨l2, ys, e, o1, ?_, o3, ImL.monoT (ExT.cut hl) n o4⟩
    by_cases q : l2 = l
    · rw [q]; exact cut_same
    · rw [cut_ne q]; exact o2
def wPeek (i : Nat) (w : WE) : WE := fun ρ Φ Ξ => ∃ ds, ρ[i]? = some (.ls ds) ∧ w (ρ.set i (.dat (.list ds))) (fun r => nolR r = true ∧ Φ r) (fun _ => False)
theorem pei_peek (i : Nat) (h : PEI X b e we) : PEI X b e (wPeek i we) := pei_of h fun c ρ σ G H Φ Ξ Q S hw p ex => by
  obtain ⟨ds, h1, hw⟩ := hw
  obtain ⟨l, xs, h2, h3, h4, h5⟩ := S.mutAt h1
  refine ⟨c, _, _, _, _, S.frz h1 h2 h3 h4 h5, hw, fun v r G1 H1 t1 o1 hΦ => ?_, fun _ _ _ _ _ _ _ z => z.elim⟩
  obtain ⟨t, hl⟩ := Tr.unfrz S h1 h2 h3 h4 t1
  exact p v r _ H1 t (o1.unfrz hl hΦ.1) hΦ.2
def wPeekT (i : Nat) (w : WT) : WT := fun ρ Φ Ξ => ∃ ds, ρ[i]? = some (.ls ds) ∧ w (ρ.set i (.dat (.list ds))) Φ (fun _ => False)
theorem pti_peek {wt : WT} (i : Nat) (h : PTI X b e wt) : PTI X b e (wPeekT i wt) := pti_of h fun c ρ σ G H Φ Ξ Q S hw p ex => by
  obtain ⟨ds, h1, hw⟩ := hw
  obtain ⟨l, xs, h2, h3, h4, h5⟩ := S.mutAt h1
  refine ⟨c, _, _, _, _, S.frz h1 h2 h3 h4 h5, hw, fun k G1 H1 t1 hΦ => ?_, fun _ _ _ _ _ _ _ z => z.elim⟩
  obtain ⟨t, hl⟩ := Tr.unfrz S h1 h2 h3 h4 t1
  exact p k _ H1 t hΦ
theorem hu64 {k : Nat} {A : Around} (hr : Room k A) : A.units + 64 < cLine := by have := hr.un; omega
theorem hu65 {k : Nat} {A : Around} (hr : Room k A) : A.units + 65 < cLine := by have := hr.un; omega
theorem passE {X : Cx} {E : XK} : Passes CX0 X E := fun _ _ _ _ _ _ _ h => h.elim
end
end SF

/-! ## Statements, loops, comprehensions, defs over data -/
namespace SF
open PySem PySem.Spec PyProof.Rows L2
/-! ### targets -/
inductive Tgt where
  | nm (i : Nat) | tp (is : List Nat)
def gNames : List Nat → TGs
  | [] => gNil
  | i :: is => gCons (gName i) (gNames is)
def tgOf (K : PySem.W.Frag) : Tgt → TG
  | .nm i => gName i
  | .tp is => gTup K is.length (gNames is)
def setsE : Rho → List Nat → List PyData → Rho
  | ρ, i :: is, d :: ds => setsE (ρ.set i (.dat d)) is ds
  | ρ, _, _ => ρ
def bindT : Tgt → PyData → Rho → (Rho → Prop) → Prop
  | .nm i, d, ρ, Φ => Φ (ρ.set i (.dat d))
  | .tp is, d, ρ, Φ => ∃ ds, d = .tuple ds ∧ ds.length = is.length ∧ Φ (setsE ρ is ds)
def Tgt.slots : Tgt → List Nat
  | .nm i => [i]
  | .tp is => is
section
variable {K : PySem.W.Frag} {c : Cn} {ρ : Rho} {σ : L2.St} {G G' H H' G1 H1 : Hp}
/-- what a binding leaves -/
structure Bnd (is : List Nat) (ρ : Rho) (σ : L2.St) (ρ' : Rho) (σ' : L2.St) : Prop where
  len : σ'.length = σ.length
  st : ∀ (n : Nat), n ∉ is → σ'[n]? = σ[n]?
  rh : ∀ (n : Nat), n ∉ is → ρ'[n]? = ρ[n]?
  nr : ∀ (n : Nat), n ∈ is → ρ'[n]? ≠ some .row
theorem gNames_ok : ∀ {is : List Nat} {ds : List PyData} {xs : List V} {ρ : Rho} {σ : L2.St} {Q : L2.St → Hp → Prop}, Sat K c ρ σ G H → ImL K G ds xs → ds.length = is.length →
    (∀ σ', Sat K c (setsE ρ is ds) σ' G H → Bnd is ρ σ (setsE ρ is ds) σ' → Q σ' H) → gNames is xs σ H Q
  | [], [], xs, ρ, σ, Q, S, h, hl, q => by
    rw [imL_nil] at h
    exact ⟨h, q σ S ⟨rfl, fun _ _ => rfl, fun _ _ => rfl, fun _ h => by simp at h⟩⟩
  | [], d :: ds, xs, ρ, σ, Q, S, h, hl, q => by simp at hl
  | i :: is, [], xs, ρ, σ, Q, S, h, hl, q => by simp at hl
  | i :: is, d :: ds, xs, ρ, σ, Q, S, h, hl, q => by
    rw [imL_cons] at h
    obtain ⟨x, r, rfl, h1, h2⟩ := h
    refine ⟨x, r, rfl, ?_⟩
    show gNames is r (σ.set i (some x)) H Q
    refine gNames_ok (S.setDat h1) h2 (by simpa using hl) fun σ' S' hs => q σ' S' ⟨by rw [hs.len, List.length_set], fun n hn => ?_, fun n hn => ?_, fun n hn => ?_⟩
    · rw [List.mem_cons, not_or] at hn
      rw [hs.st n hn.2, List.getElem?_set_ne (Ne.symm hn.1)]
    · rw [List.mem_cons, not_or] at hn
      have e := hs.rh n hn.2
      rw [List.getElem?_set_ne (Ne.symm hn.1)] at e
      exact e
    · by_cases k : n ∈ is
      · exact hs.nr n k
      · have e := hs.rh n k
        have en : n = i := by
          rcases List.mem_cons.mp hn with z | z
          · exact z
          · exact absurd z k
        subst en
        show (setsE (ρ.set n (.dat d)) is ds)[n]? ≠ some .row
        rw [e]
        by_cases hn2 : n < ρ.length
        · rw [List.getElem?_set_self hn2]
          exact fun z => by cases z
        · rw [List.getElem?_eq_none (by rw [List.length_set]; omega)]
          exact fun z => by cases z
theorem tgt_ok {tgt : Tgt} {d : PyData} {x : V} {Φ : Rho → Prop} {Q : L2.St → Hp → Prop} (S : Sat K c ρ σ G H) (im : Im K G d x) (h : bindT tgt d ρ Φ) (q : ∀ ρ' σ', Sat K c ρ' σ' G H → Φ ρ' → Bnd tgt.slots ρ σ ρ' σ' → Q σ' H) : tgOf K tgt x σ H Q := by
  cases tgt with
  | nm i =>
    have ne : ∀ n, n ∉ (Tgt.nm i).slots → i ≠ n := fun n hn e => hn (by rw [e]; exact List.mem_singleton.mpr rfl)
    refine q _ _ (S.setDat im) h ⟨List.length_set, fun n hn => ?_, fun n hn => ?_, fun n hn => ?_⟩
    · rw [List.getElem?_set_ne (ne n hn)]
    · rw [List.getElem?_set_ne (ne n hn)]
    · have e : n = i := List.mem_singleton.mp hn
      subst e
      by_cases hn2 : n < ρ.length
      · rw [List.getElem?_set_self hn2]
        exact fun z => by cases z
      · rw [List.getElem?_eq_none (by rw [List.length_set]; omega)]
        exact fun z => by cases z
  | tp is =>
    obtain ⟨ds, rfl, hl, h⟩ := h
    rw [im_tuple] at im
    obtain ⟨a, xs, rfl, ht, il⟩ := im
    exact ⟨a, xs, rfl, ex_t S.ex2 ht, by rw [← il.len, hl], gNames_ok S il hl fun σ' S' hs => q _ σ' S' h hs⟩
theorem Sat.up (S : Sat K c ρ σ G H) : Sat K { c with Ge := G } ρ σ G H :=
  ⟨.refl _, S.ex2, S.keep, S.tbl, S.there, fun _ h _ => h, S.mrow, S.mhe, S.len, S.slot, S.own, S.ne⟩
theorem Sat.down {ρ' : Rho} {σ' : L2.St} (S0 : Sat K c ρ σ G H) (S : Sat K { c with Ge := G } ρ' σ' G' H') : Sat K c ρ' σ' G' H' :=
  ⟨S0.ex1.trans S.ex1, S.ex2, S.keep, S.tbl, S.there, fun a h h' => S.avoid a (S0.avoid a h h') h', S.mrow, S.mhe, S.len, S.slot, S.own, S.ne⟩
theorem Fin'.down (S0 : Sat K c ρ σ G H) (S : Fin' K { c with Ge := G } G' H') : Fin' K c G' H' :=
  ⟨S0.ex1.trans S.ex1, S.ex2, S.keep, S.tbl, S.there, fun a h h' => S.avoid a (S0.avoid a h h') h', S.mrow⟩
theorem PostS.up {b : Bs} {Ψ : Pst} {D : Ends} (S0 : Sat K c ρ σ G H) (p : PostS K b c Ψ D) : PostS K b { c with Ge := G } Ψ D where
  nx := fun ρ' σ' G' H' S h => p.nx ρ' σ' G' H' (S0.down S) h
  rt := fun v r G' H' f o h => p.rt v r G' H' (f.down S0) o h
  bk := fun ρ' σ' G' H' S h => p.bk ρ' σ' G' H' (S0.down S) h
  ct := fun ρ' σ' G' H' S h => p.ct ρ' σ' G' H' (S0.down S) h
  xc := fun ex cls d G' H' f x h => p.xc ex cls d G' H' (f.down S0) x h
theorem PostS.exc {b : Bs} {Ψ : Pst} {D : Ends} (p : PostS K b c Ψ D) (S : Sat K c ρ σ G H) : ExcE K b ρ σ G H Ψ.xc := fun ex cls d G' H' t x h => p.xc ex cls d G' H' (S.tr t).fin x h
theorem Sat.backHe (S : Sat K c ρ σ G H) {a : Addr} (h : H a = none) : c.He a = none := by
  cases e : c.He a with
  | none => rfl
  | some u => exact absurd h (S.there a (by rw [e]; exact fun z => by cases z))
end
section
variable {X : Cx} {b : Bs} {x y z e : Expr} {pos : Pos} {we wx wy wz : WE} {es : List Expr} {st : Stmt} {rest body orelse : List Stmt} {w u : WS} {wt : WT}
/-! ### blocks -/
def wSkip : WS := fun ρ Ψ => Ψ.nx ρ
def wSeq (w u : WS) : WS := fun ρ Ψ => w ρ { Ψ with nx := fun ρ' => u ρ' Ψ }
def wNever : WS := fun _ _ => False
theorem psis_nil : PSsI X b [] wSkip := pss_imp pss_nil fun D σ H ⟨c, ρ, G, Ψ, S, hw, p⟩ => p.nx ρ σ G H S hw
theorem psis_one (h : PSI X b st w) : PSsI X b [st] w := pss_one h
theorem psis_cons (h : PSI X b st w) (h2 : PSsI X b rest u) : PSsI X b (st :: rest) (wSeq w u) := pss_imp (pss_cons h h2) fun D σ H ⟨c, ρ, G, Ψ, S, hw, p⟩ =>
  ⟨c, ρ, G, _, S, hw, ⟨fun ρ' σ' G' H' S' h' => ⟨c, ρ', G', Ψ, S', h', p⟩, p.rt, p.bk, p.ct, p.xc⟩⟩
theorem psi_never : PSI X b st wNever := psi_of (t := tNever) ps_never fun c ρ σ G H Ψ D S hw p => hw
/-! ### statements -/
def wSet (i : Nat) (w : WE) : WS := fun ρ Ψ => w ρ (fun r => Ψ.nx (ρ.set i r.ent)) Ψ.xc
def wSetF (i : Nat) (w : WE) : WS := fun ρ Ψ => w ρ (fun r => Ψ.nx (ρ.set i (.dat r.frz))) Ψ.xc
theorem asg_ok {K : PySem.W.Frag} {w : WE} {i : Nat} {D : Ends} {σ : L2.St} {H : Hp} {te : TE} (h : ∀ σ H Q, teOf K b w σ H Q → te σ H Q) : tsOf K b (wSet i w) D σ H → tAsg te (gName i) D σ H := fun ⟨c, ρ, G, Ψ, S, hw, p⟩ =>
  h σ H _ ⟨c, ρ, G, _, Ψ.xc, S, hw, fun v r G1 H1 t1 o1 h1 => p.nx _ _ G1 H1 (S.setOut t1 o1) h1, p.exc S⟩
theorem asgF_ok {K : PySem.W.Frag} {w : WE} {i : Nat} {D : Ends} {σ : L2.St} {H : Hp} {te : TE} (h : ∀ σ H Q, teOf K b w σ H Q → te σ H Q) : tsOf K b (wSetF i w) D σ H → tAsg te (gName i) D σ H := fun ⟨c, ρ, G, Ψ, S, hw, p⟩ =>
  h σ H _ ⟨c, ρ, G, _, Ψ.xc, S, hw, fun v r G1 H1 t1 o1 h1 => by
    obtain ⟨G2, t2, im⟩ := freeze S t1 o1
    exact p.nx _ _ G2 H1 ((S.tr t2).setDat im) h1, p.exc S⟩
theorem psi_set (i : Nat) {nm : Str} {np : Pos} (he : PEI X b e we) (hN : X.N.Nodup) (hi : X.N[i]? = some nm := by rfl) (hx : Loc X.env.scope nm := by first | exact Or.inl rfl | exact Or.inr rfl)
    (hs : swapsWithSole [Expr.Name nm np] e pos.line X.env = pure false := by rfl) (hw : swappedStores [Expr.Name nm np] e X.env = pure none := by rfl) (h1 : (assignEach [Expr.Name nm np] X.env).map (·.2) = [assign (Expr.Name nm np) X.env] := by rfl)
    (hf : X.fn nm = true ∨ X.env.scope.names.lookup nm = some .local := by first | exact .inl rfl | exact .inr rfl) : PSI X b (.Assign [.Name nm np] e pos) (wSet i we) :=
  ps_imp (ps_asg he (pg_name hN hi hx hf) hs hw h1) fun D σ H q => asg_ok (fun _ _ _ q => q) q
theorem psi_setF (i : Nat) {nm : Str} {np : Pos} (he : PEI X b e we) (hN : X.N.Nodup) (hi : X.N[i]? = some nm := by rfl) (hx : Loc X.env.scope nm := by first | exact Or.inl rfl | exact Or.inr rfl)
    (hs : swapsWithSole [Expr.Name nm np] e pos.line X.env = pure false := by rfl) (hw : swappedStores [Expr.Name nm np] e X.env = pure none := by rfl) (h1 : (assignEach [Expr.Name nm np] X.env).map (·.2) = [assign (Expr.Name nm np) X.env] := by rfl)
    (hf : X.fn nm = true ∨ X.env.scope.names.lookup nm = some .local := by first | exact .inl rfl | exact .inr rfl) : PSI X b (.Assign [.Name nm np] e pos) (wSetF i we) :=
  ps_imp (ps_asg he (pg_name hN hi hx hf) hs hw h1) fun D σ H q => asgF_ok (fun _ _ _ q => q) q
/-- a, b = e -/
def wUnpack (is : List Nat) (w : WE) : WS := fun ρ Ψ => w ρ (fun r => ∃ ds, r.frz = .tuple ds ∧ ds.length = is.length ∧ Ψ.nx (setsE ρ is ds)) Ψ.xc
theorem psi_unpack (is : List Nat) {tg : Expr} (he : PEI X b e we) (hg : PG X tg (tgOf X.K (.tp is)))
    (hs : swapsWithSole [tg] e pos.line X.env = pure false := by rfl) (hw : swappedStores [tg] e X.env = pure none := by rfl) (h1 : (assignEach [tg] X.env).map (·.2) = [assign tg X.env] := by rfl) : PSI X b (.Assign [tg] e pos) (wUnpack is we) :=
  psi_of (ps_asg he hg hs hw h1) fun c ρ σ G H Ψ D S hw p => by
    refine ⟨c, ρ, G, _, Ψ.xc, S, hw, fun v r G1 H1 t1 o1 h1 => ?_, p.exc S⟩
    obtain ⟨G2, t2, im⟩ := freeze S t1 o1
    obtain ⟨ds, e, hl, h⟩ := h1
    rw [e] at im
    exact tgt_ok (tgt := .tp is) (S.tr t2) im ⟨ds, rfl, hl, h⟩ fun ρ' σ' S' h' _ => p.nx ρ' σ' G2 H1 S' h'
def wRet (w : WE) : WS := fun ρ Ψ => w ρ Ψ.rt Ψ.xc
theorem psi_ret (he : PEI X b e we) : PSI X b (.Return (some e) pos) (wRet we) := psi_of (ps_ret he) fun c ρ σ G H Ψ D S hw p =>
  ⟨c, ρ, G, _, Ψ.xc, S, hw, fun v r G1 H1 t1 o1 h1 => p.rt v r G1 H1 (S.tr t1).fin (o1.back fun _ q => S.backHe q) h1, p.exc S⟩
def wRetM (i : Nat) : WS := fun ρ Ψ => ∃ ds, ρ[i]? = some (.ls ds) ∧ Ψ.rt (.lst ds)
theorem psi_retM (i : Nat) {nm : Str} {np : Pos} (hN : X.N[i]? = some nm := by rfl) (hv : Vis X.env.scope nm := by first | exact Or.inl rfl | exact Or.inr (Or.inl rfl) | exact Or.inr (Or.inr rfl)) (hd : (nm == ("__debug__" : Str)) = false := by decide)
    (hcd : (nm == ("__classdict__" : Str)) = false := by decide) : PSI X b (.Return (some (.Name nm np)) pos) (wRetM i) := psi_of (ps_ret (pe_var hN hv hd hcd)) fun c ρ σ G H Ψ D S hw p => by
  obtain ⟨ds, h1, h⟩ := hw
  obtain ⟨l, xs, h2, h3, h4, h5⟩ := S.mutAt h1
  have hHe : c.He l = none := by
    rcases S.own i _ l h1 rfl h2 with z | z
    · exact z
    · cases z.2
  exact ⟨.ref l, h2, p.rt _ (.lst ds) G H S.fin ⟨l, xs, rfl, hHe, h4, h3, h5⟩ h⟩
def wDrop (w : WE) : WS := fun ρ Ψ => w ρ (fun _ => Ψ.nx ρ) Ψ.xc
theorem psi_expr (he : PEI X b e we) (hs : swapsWith e none pos.line X.env = pure false := by rfl) : PSI X b (.Expr e pos) (wDrop we) := psi_of (ps_expr he hs) fun c ρ σ G H Ψ D S hw p =>
  ⟨c, ρ, G, _, Ψ.xc, S, hw, fun v r G1 H1 t1 o1 h1 => p.nx ρ σ G1 H1 (S.tr t1) h1, p.exc S⟩
def wIfS (wt : WT) (w u : WS) : WS := fun ρ Ψ => wt ρ (fun k => if k = true then w ρ Ψ else u ρ Ψ) Ψ.xc
theorem psi_if (ht : PTI X b e wt) (h1 : PSsI X b body w) (h2 : PSsI X b orelse u) : PSI X b (.If e body orelse pos) (wIfS wt w u) := psi_of (ps_if ht h1 h2) fun c ρ σ G H Ψ D S hw p => by
  refine ⟨c, ρ, G, _, Ψ.xc, S, hw, fun k G1 H1 t1 h => ?_, p.exc S⟩
  cases k with
  | true => exact ⟨c, ρ, G1, Ψ, S.tr t1, h, p⟩
  | false => exact ⟨c, ρ, G1, Ψ, S.tr t1, h, p⟩
/-- a list of one's own is frozen from here on -/
def wFrz (i : Nat) (w : WS) : WS := fun ρ Ψ => ∃ ds, ρ[i]? = some (.ls ds) ∧ w (ρ.set i (.dat (.list ds))) Ψ
theorem psi_frz (i : Nat) (h : PSI X b st w) : PSI X b st (wFrz i w) := psi_of h fun c ρ σ G H Ψ D S hw p => by
  obtain ⟨ds, h1, hw⟩ := hw
  obtain ⟨l, xs, h2, h3, h4, h5⟩ := S.mutAt h1
  exact ⟨c, _, _, Ψ, S.frz h1 h2 h3 h4 h5, hw, p⟩
theorem psis_frz (i : Nat) (h : PSsI X b body w) : PSsI X b body (wFrz i w) := pss_imp h fun D σ H ⟨c, ρ, G, Ψ, S, hw, p⟩ => by
  obtain ⟨ds, h1, hw⟩ := hw
  obtain ⟨l, xs, h2, h3, h4, h5⟩ := S.mutAt h1
  exact ⟨c, _, _, Ψ, S.frz h1 h2 h3 h4 h5, hw, p⟩
/-- xs.append(e) -/
def wApp (i : Nat) (w : WE) : WS := fun ρ Ψ => ∃ ds, ρ[i]? = some (.ls ds) ∧ ds.length < 1000000 ∧ w ρ (fun r => Ψ.nx (ρ.set i (.ls (ds ++ [r.frz])))) Ψ.xc
theorem psi_app (i : Nat) {nm : Str} {np apos cpos : Pos} (he : PEI X b e we) (hN : X.N[i]? = some nm := by rfl) (hv : Vis X.env.scope nm := by first | exact Or.inl rfl | exact Or.inr (Or.inl rfl) | exact Or.inr (Or.inr rfl)) (hd : (nm == ("__debug__" : Str)) = false := by decide)
    (hcd : (nm == ("__classdict__" : Str)) = false := by decide) (hb : attributeBase (.Name nm np) "append" X.env (eval (.Name nm np) X.env) = eval (.Name nm np) X.env := by rfl)
    (hfew : ((backTo cpos (starEach [e] X.env)).all (fun x => !x.1) && (backToKw cpos (keywordEach [] X.env)).all (fun x => x.1.isSome) && decide ([e].length + ([] : List Keyword).length + (if ([] : List Keyword).isEmpty then 0 else 1) < 30)) = true := by rfl)
    (hline : (apos.endLine == cpos.line) = true := by rfl) (hse : starEach [e] X.env = (false, eval e X.env) :: starEach [] X.env := by rfl) (hpl : (backTo cpos (starEach [] X.env)).any (·.1) = false := by rfl)
    (hs : swapsWith (.Call (.Attribute (.Name nm np) "append" apos) [e] [] cpos) none pos.line X.env = pure false := by rfl) :
    PSI X b (.Expr (.Call (.Attribute (.Name nm np) "append" apos) [e] [] cpos) pos) (wApp i we) :=
  psi_of (ps_expr (pe_bm PySem.F.plainAttrs_list PySem.F.slot_list_append PySem.F.type_list_append mt_append (pe_var hN hv hd hcd) (pa_cons he pa_nil hse) hb hfew hline hse hpl) hs) fun c ρ σ G H Ψ D S hw p => by
    obtain ⟨ds, h1, hz, hw⟩ := hw
    obtain ⟨l, xs, h2, h3, h4, h5⟩ := S.mutAt h1
    refine ⟨.ref l, h2, .inl ⟨rfl, xs, sq_of h3⟩, c, ρ, G, _, Ψ.xc, S, hw, fun v r G1 H1 t1 o1 hn => ?_, p.exc S⟩
    obtain ⟨G2, t2, im⟩ := freeze S t1 o1
    have S2 := S.tr t2
    have k3 := t2.keep l _ h3 (S.neRow h1 h2) ntL
    refine ⟨l, xs, v, rfl, rfl, k3, ?_, ?_⟩
    · rw [← h5.len]
      exact Nat.lt_of_lt_of_le hz (by decide)
    · exact p.nx _ _ G2 _ (S2.write h1 h2 ((h5.mono t2.eg).append (.one im))) hn
/-- xs[k] = e -/
def wStore (i : Nat) (w wk : WE) : WS := fun ρ Ψ => ∃ ds, ρ[i]? = some (.ls ds) ∧ w ρ (fun r => wk ρ (fun q => ∃ n j, q.frz = .int n ∧ ixN ds.length n = some j ∧ Ψ.nx (ρ.set i (.ls (ds.set j r.frz)))) Ψ.xc) Ψ.xc
theorem psi_store (i : Nat) {nm : Str} {np spos : Pos} {k : Expr} {wk : WE} (he : PEI X b e we) (hg : PG X (.Subscript (.Name nm np) k spos) (gSub (tVar i) (teOf X.K b wk) rSetL)) (hs : swapsWithSole [.Subscript (.Name nm np) k spos] e pos.line X.env = pure false := by rfl)
    (hw : swappedStores [.Subscript (.Name nm np) k spos] e X.env = pure none := by rfl) (h1 : (assignEach [.Subscript (.Name nm np) k spos] X.env).map (·.2) = [assign (.Subscript (.Name nm np) k spos) X.env] := by rfl) :
    PSI X b (.Assign [.Subscript (.Name nm np) k spos] e pos) (wStore i we wk) :=
  psi_of (ps_asg he hg hs hw h1) fun c ρ σ G H Ψ D S hw p => by
    obtain ⟨ds, h1, hw⟩ := hw
    obtain ⟨l, xs, h2, h3, h4, h5⟩ := S.mutAt h1
    have nr := S.neRow h1 h2
    refine ⟨c, ρ, G, _, Ψ.xc, S, hw, fun v r G1 H1 t1 o1 hn => ?_, p.exc S⟩
    obtain ⟨G1', t1', i1⟩ := freeze S t1 o1
    have S1 := S.tr t1'
    refine ⟨.ref l, h2, c, ρ, G1', _, Ψ.xc, S1, hn, fun v2 r2 G2 H2 t2 o2 hq => ?_, (p.exc S).tr t1'⟩
    obtain ⟨G2', t2', i2⟩ := freeze S1 t2 o2
    obtain ⟨n, j, e, hj, hΨ⟩ := hq
    rw [e, im_int] at i2
    subst i2
    refine ⟨l, xs, n, j, rfl, rfl, t2'.keep l _ (t1'.keep l _ h3 nr ntL) nr ntL, by rw [← h5.len]; exact hj, ?_⟩
    exact p.nx _ _ G2' _ ((S1.tr t2').write h1 h2 (((h5.mono t1'.eg).mono t2'.eg).set j (i1.mono t2'.eg))) hΨ
/-- x = xs.pop(e) -/
def wPopAt (i j : Nat) (w : WE) : WS := fun ρ Ψ => ∃ ds, ρ[j]? = some (.ls ds) ∧ w ρ (fun r => ∃ (k : Nat) (d : PyData), r.frz = .int k ∧ k < 1000000 ∧ ds[k]? = some d ∧ Ψ.nx ((ρ.set j (.ls (ds.eraseIdx k))).set i (.dat d))) Ψ.xc
theorem psi_popAt (i j : Nat) {nm tn : Str} {np tp apos cpos : Pos} (he : PEI X b e we) (hN : X.N[j]? = some nm := by rfl) (hv : Vis X.env.scope nm := by first | exact Or.inl rfl | exact Or.inr (Or.inl rfl) | exact Or.inr (Or.inr rfl)) (hd : (nm == ("__debug__" : Str)) = false := by decide)
    (hcd : (nm == ("__classdict__" : Str)) = false := by decide) (hb : attributeBase (.Name nm np) "pop" X.env (eval (.Name nm np) X.env) = eval (.Name nm np) X.env := by rfl)
    (hfew : ((backTo cpos (starEach [e] X.env)).all (fun x => !x.1) && (backToKw cpos (keywordEach [] X.env)).all (fun x => x.1.isSome) && decide ([e].length + ([] : List Keyword).length + (if ([] : List Keyword).isEmpty then 0 else 1) < 30)) = true := by rfl)
    (hline : (apos.endLine == cpos.line) = true := by rfl) (hse : starEach [e] X.env = (false, eval e X.env) :: starEach [] X.env := by rfl) (hpl : (backTo cpos (starEach [] X.env)).any (·.1) = false := by rfl)
    (hN2 : X.N.Nodup) (hi : X.N[i]? = some tn := by rfl) (hx : Loc X.env.scope tn := by first | exact Or.inl rfl | exact Or.inr rfl)
    (hs : swapsWithSole [Expr.Name tn tp] (.Call (.Attribute (.Name nm np) "pop" apos) [e] [] cpos) pos.line X.env = pure false := by rfl) (hw : swappedStores [Expr.Name tn tp] (.Call (.Attribute (.Name nm np) "pop" apos) [e] [] cpos) X.env = pure none := by rfl)
    (h1 : (assignEach [Expr.Name tn tp] X.env).map (·.2) = [assign (Expr.Name tn tp) X.env] := by rfl) (hf : X.fn tn = true ∨ X.env.scope.names.lookup tn = some .local := by first | exact .inl rfl | exact .inr rfl) :
    PSI X b (.Assign [.Name tn tp] (.Call (.Attribute (.Name nm np) "pop" apos) [e] [] cpos) pos) (wPopAt i j we) :=
  psi_of (ps_asg (pe_bm PySem.F.plainAttrs_list PySem.F.slot_list_pop PySem.F.type_list_pop mt_popAt (pe_var hN hv hd hcd) (pa_cons he pa_nil hse) hb hfew hline hse hpl) (pg_name hN2 hi hx hf) hs hw h1) fun c ρ σ G H Ψ D S hw p => by
    obtain ⟨ds, h1, hw⟩ := hw
    obtain ⟨l, xs, h2, h3, h4, h5⟩ := S.mutAt h1
    refine ⟨.ref l, h2, .inl ⟨rfl, xs, sq_of h3⟩, c, ρ, G, _, Ψ.xc, S, hw, fun v r G1 H1 t1 o1 hn => ?_, p.exc S⟩
    obtain ⟨G2, t2, im⟩ := freeze S t1 o1
    have S2 := S.tr t2
    have k3 := t2.keep l _ h3 (S.neRow h1 h2) ntL
    obtain ⟨k, d, e, hk, hd, hΨ⟩ := hn
    rw [e, im_int] at im
    subst im
    obtain ⟨y, hy, imy⟩ := h5.get hd
    have hkl : k < xs.length := (List.getElem?_eq_some_iff.mp hy).1
    refine ⟨l, xs, (k : Nat), k, y, rfl, rfl, k3, by omega, by omega, ?_, hy, ?_⟩
    · rw [seqIndex_of (by omega) (by omega), Int.toNat_natCast]
    · have S3 := S2.write h1 h2 ((h5.mono t2.eg).eraseIdx k)
      exact p.nx _ _ G2 _ (S3.setDat (imy.mono t2.eg)) hΨ
/-! ### for -/
def ForI (tgt : Tgt) (wb : WS) (ds : List PyData) (ρ : Rho) (Ψ : Pst) : Prop := ∃ I : Nat → Rho → Prop, I 0 ρ ∧ (∀ (i : Nat) d ρ', ds[i]? = some d → I i ρ' → bindT tgt d ρ' (fun ρ2 => wb ρ2 { Ψ with nx := I (i + 1), ct := I (i + 1), bk := Ψ.nx })) ∧ ∀ ρ', I ds.length ρ' → Ψ.nx ρ'
def ForR (tgt : Tgt) (wb : WS) (lo : Int) (n : Nat) (ρ : Rho) (Ψ : Pst) : Prop := ∃ I : Nat → Rho → Prop, I 0 ρ ∧ (∀ (i : Nat) ρ', i < n → I i ρ' → bindT tgt (.int (lo + (i : Nat))) ρ' (fun ρ2 => wb ρ2 { Ψ with nx := I (i + 1), ct := I (i + 1), bk := Ψ.nx })) ∧ ∀ ρ', I n ρ' → Ψ.nx ρ'
def wForL (tgt : Tgt) (w : WE) (wb : WS) : WS := fun ρ Ψ => w ρ (fun r => ∃ ds, r.frz = .list ds ∧ ForI tgt wb ds ρ Ψ) Ψ.xc
def wForT (tgt : Tgt) (w : WE) (wb : WS) : WS := fun ρ Ψ => w ρ (fun r => ∃ ds, r.frz = .tuple ds ∧ ForI tgt wb ds ρ Ψ) Ψ.xc
def wForR1 (tgt : Tgt) (wa : WA) (wb : WS) : WS := fun ρ Ψ => wa ρ (fun ds => ∃ n : Int, ds = [.int n] ∧ -1000000 ≤ n ∧ n ≤ 1000000 ∧ ForR tgt wb 0 n.toNat ρ Ψ) Ψ.xc
def wForR2 (tgt : Tgt) (wa : WA) (wb : WS) : WS := fun ρ Ψ => wa ρ (fun ds => ∃ lo n : Int, ds = [.int lo, .int n] ∧ (-1000000 ≤ lo ∧ lo ≤ 1000000 ∧ -1000000 ≤ n ∧ n ≤ 1000000) ∧ ForR tgt wb lo (n - lo).toNat ρ Ψ) Ψ.xc
theorem turnS {K : PySem.W.Frag} {c : Cn} {ρ : Rho} {σ : L2.St} {G H : Hp} {Ψ : Pst} {D : Ends} {tgt : Tgt} {wb : WS} {Pi : L2.St → Hp → Prop} {Ii : Rho → Prop} {d : PyData} {v : V} (S : Sat K c ρ σ G H) (im : Im K G d v) (p : PostS K b c Ψ D)
    (hP : ∀ ρ' σ' G' H', Sat K c ρ' σ' G' H' → Ii ρ' → Pi σ' H') (h : bindT tgt d ρ fun ρ2 => wb ρ2 { Ψ with nx := Ii, ct := Ii, bk := Ψ.nx }) : tgOf K tgt v σ H fun σ2 H2 => tsOf K b wb { D with nx := Pi, ct := Pi, bk := D.nx } σ2 H2 :=
  tgt_ok S im h fun ρ' σ' S' h' _ => ⟨c, ρ', G, _, S', h', ⟨hP, p.rt, p.nx, hP, p.xc⟩⟩
theorem psi_forL (tgt : Tgt) {tg : Expr} (hp : PassesOwn (model X.prog X.w) X.A X.env X.xe) (hc : X.calm = true) (he : PEI X b e we) (hg : PG X tg (tgOf X.K tgt)) (hb : PSsI X b body w) (hs : ∀ x, foldedSetIterable e X.env x = pure x := by intro _; rfl) :
    PSI X b (.For tg e body [] pos) (wForL tgt we w) := psi_of (ps_for hp hc (pi_list he) hg hb hs) fun c ρ σ G H Ψ D S hw p => by
  refine ⟨c, ρ, G, _, Ψ.xc, S, hw, fun v r G1 H1 t1 o1 hn => ?_, p.exc S⟩
  obtain ⟨G2, t2, im⟩ := freeze S t1 o1
  obtain ⟨ds, e, I, h0, hI, hd⟩ := hn
  rw [e, im_list] at im
  obtain ⟨a, xs, rfl, ha, il⟩ := im
  have S2 := S.tr t2
  have S2' := S2.up
  refine ⟨a, rfl, ⟨xs, sq_of (S2.ex2 a _ ha)⟩, for_list (xs := xs) (fun i σ' H' => ∃ ρ' G', Sat X.K { c with Ge := G2 } ρ' σ' G' H' ∧ I i ρ') ⟨ρ, G2, S2', h0⟩ (fun i σ' H' _ ⟨ρ', G', S', _⟩ => sq_of (S'.ex2 a _ (S'.ex1 a _ ha))) (fun i x σ' H' hx ⟨ρ', G', S', hi⟩ => ?_) (fun σ' H' ⟨ρ', G', S', hi⟩ => ?_)⟩
  · have hl : i < ds.length := by rw [il.len]; exact (List.getElem?_eq_some_iff.mp hx).1
    obtain ⟨y, hy, iy⟩ := il.get (List.getElem?_eq_getElem hl)
    rw [hx] at hy
    cases hy
    exact turnS S' (iy.mono S'.ex1) (p.up S2) (fun ρ2 σ2 G3 H3 S3 h3 => ⟨ρ2, G3, S3, h3⟩) (hI i _ ρ' (List.getElem?_eq_getElem hl) hi)
  · exact p.nx ρ' σ' G' H' (S2.down S') (hd ρ' (by rw [il.len]; exact hi))
theorem psi_forT (tgt : Tgt) {tg : Expr} (hp : PassesOwn (model X.prog X.w) X.A X.env X.xe) (hc : X.calm = true) (he : PEI X b e we) (hg : PG X tg (tgOf X.K tgt)) (hb : PSsI X b body w) (hs : ∀ x, foldedSetIterable e X.env x = pure x := by intro _; rfl) :
    PSI X b (.For tg e body [] pos) (wForT tgt we w) := psi_of (ps_for hp hc (pi_tup he) hg hb hs) fun c ρ σ G H Ψ D S hw p => by
  refine ⟨c, ρ, G, _, Ψ.xc, S, hw, fun v r G1 H1 t1 o1 hn => ?_, p.exc S⟩
  obtain ⟨G2, t2, im⟩ := freeze S t1 o1
  obtain ⟨ds, e, I, h0, hI, hd⟩ := hn
  rw [e, im_tuple] at im
  obtain ⟨a, xs, rfl, ha, il⟩ := im
  have S2 := S.tr t2
  have S2' := S2.up
  refine ⟨a, rfl, ⟨xs, ex_t S2.ex2 ha⟩, for_tup (xs := xs) (fun i σ' H' => ∃ ρ' G', Sat X.K { c with Ge := G2 } ρ' σ' G' H' ∧ I i ρ') ⟨ρ, G2, S2', h0⟩ (fun i σ' H' _ ⟨ρ', G', S', _⟩ => ex_t S'.ex2 (ex_t S'.ex1 ha)) (fun i x σ' H' hx ⟨ρ', G', S', hi⟩ => ?_) (fun σ' H' ⟨ρ', G', S', hi⟩ => ?_)⟩
  · have hl : i < ds.length := by rw [il.len]; exact (List.getElem?_eq_some_iff.mp hx).1
    obtain ⟨y, hy, iy⟩ := il.get (List.getElem?_eq_getElem hl)
    rw [hx] at hy
    cases hy
    exact turnS S' (iy.mono S'.ex1) (p.up S2) (fun ρ2 σ2 G3 H3 S3 h3 => ⟨ρ2, G3, S3, h3⟩) (hI i _ ρ' (List.getElem?_eq_getElem hl) hi)
  · exact p.nx ρ' σ' G' H' (S2.down S') (hd ρ' (by rw [il.len]; exact hi))
theorem forR_ok {K : PySem.W.Frag} {c : Cn} {ρ : Rho} {σ : L2.St} {G H : Hp} {Ψ : Pst} {D : Ends} {tgt : Tgt} {wb : WS} {lo : Int} {n : Nat} (S : Sat K c ρ σ G H) (p : PostS K b c Ψ D) (h : ForR tgt wb lo n ρ Ψ) :
    ∃ W : Nat → Nat → L2.St → Hp → Prop, (∃ m, W 0 m σ H) ∧ ∀ i m σ H, W i m σ H →
      ((Itr lo n).stop i H ∧ D.nx σ H) ∨ ((Itr lo n).go i H ∧ ∃ N : L2.St → Hp → Prop, (∀ σ' H', N σ' H' → ∃ m', m' < m ∧ W (i + 1) m' σ' H') ∧ ∀ x H', (Itr lo n).yld i H x H' → tgOf K tgt x σ H' fun σ2 H2 => tsOf K b wb { D with nx := N, ct := N, bk := D.nx } σ2 H2) := by
  obtain ⟨I, h0, hI, hd⟩ := h
  refine for_range (lo := lo) (n := n) (fun i σ' H' => ∃ ρ' G', Sat K c ρ' σ' G' H' ∧ I i ρ') ⟨ρ, G, S, h0⟩ (fun i σ' H' hi ⟨ρ', G', S', h'⟩ => ?_) (fun σ' H' ⟨ρ', G', S', h'⟩ => p.nx ρ' σ' G' H' S' (hd ρ' h'))
  exact turnS S' (by rw [im_int]) p (fun ρ2 σ2 G3 H3 S3 h3 => ⟨ρ2, G3, S3, h3⟩) (hI i ρ' hi h')
theorem psi_forR1 (tgt : Tgt) {tg : Expr} {p1 p2 : Pos} {wa : WA} (hp : PassesOwn (model X.prog X.w) X.A X.env X.xe) (hc : X.calm = true) (hm : X.mg "range" = none) (hgl : Gl X "range") (ha : PAI X b 1 [x] wa) (hg : PG X tg (tgOf X.K tgt)) (hb : PSsI X b body w)
    (hse : starEach [x] X.env = [(false, eval x X.env)] := by rfl) (hs : ∀ y, foldedSetIterable (.Call (.Name "range" p1) [x] [] p2) X.env y = pure y := by intro _; rfl) :
    PSI X b (.For tg (.Call (.Name "range" p1) [x] [] p2) body [] pos) (wForR1 tgt wa w) := psi_of (ps_for hp hc (pi_range1 hgl hm ha hse) hg hb hs) fun c ρ σ G H Ψ D S hw p => by
  refine ⟨c, ρ, G, _, Ψ.xc, S, hw, fun vs ds G1 H1 t1 il hl hn => ?_, p.exc S⟩
  obtain ⟨n, rfl, h1, h2, hf⟩ := hn
  obtain ⟨v, rfl, im⟩ := imL_1 il
  rw [im_int] at im
  subst im
  exact ⟨n, rfl, by omega, by omega, forR_ok (S.tr t1) p hf⟩
theorem psi_forR2 (tgt : Tgt) {tg : Expr} {p1 p2 : Pos} {wa : WA} (hp : PassesOwn (model X.prog X.w) X.A X.env X.xe) (hc : X.calm = true) (hm : X.mg "range" = none) (hgl : Gl X "range") (ha : PAI X b 2 [x, y] wa) (hg : PG X tg (tgOf X.K tgt)) (hb : PSsI X b body w)
    (hse : starEach [x, y] X.env = [(false, eval x X.env), (false, eval y X.env)] := by rfl) (hse2 : starEach [y] X.env = [(false, eval y X.env)] := by rfl) (hs : ∀ z, foldedSetIterable (.Call (.Name "range" p1) [x, y] [] p2) X.env z = pure z := by intro _; rfl) :
    PSI X b (.For tg (.Call (.Name "range" p1) [x, y] [] p2) body [] pos) (wForR2 tgt wa w) := psi_of (ps_for hp hc (pi_range2 hgl hm ha hse hse2) hg hb hs) fun c ρ σ G H Ψ D S hw p => by
  refine ⟨c, ρ, G, _, Ψ.xc, S, hw, fun vs ds G1 H1 t1 il hl hn => ?_, p.exc S⟩
  obtain ⟨lo, n, rfl, h1, hf⟩ := hn
  obtain ⟨v, u, rfl, im, im2⟩ := imL_2 il
  rw [im_int] at im im2
  subst im im2
  exact ⟨lo, n, rfl, ⟨by omega, by omega, by omega, by omega⟩, forR_ok (S.tr t1) p hf⟩
/-! ### while -/
def wWhile (wt : WT) (wb : WS) : WS := fun ρ Ψ => ∃ I : Nat → Rho → Prop, (∃ m, I m ρ) ∧ ∀ m ρ', I m ρ' → wt ρ' (fun k => if k = true then wb ρ' { Ψ with nx := fun ρ2 => ∃ m', m' < m ∧ I m' ρ2, ct := fun ρ2 => ∃ m', m' < m ∧ I m' ρ2, bk := Ψ.nx } else Ψ.nx ρ') Ψ.xc
theorem psi_while (hp : PassesOwn (model X.prog X.w) X.A X.env X.xe) (ht : PTI X b e wt) (hb : PSsI X b body w) : PSI X b (.While e body [] pos) (wWhile wt w) := psi_of (ps_while hp ht hb) fun c ρ σ G H Ψ D S hw p => by
  obtain ⟨I, ⟨m0, h0⟩, hI⟩ := hw
  refine ⟨fun m σ' H' => ∃ ρ' G', Sat X.K c ρ' σ' G' H' ∧ I m ρ', ⟨m0, ρ, G, S, h0⟩, fun m σ' H' ⟨ρ', G', S', hi⟩ => ?_⟩
  refine ⟨c, ρ', G', _, Ψ.xc, S', hI m ρ' hi, fun k G1 H1 t1 h => ?_, p.exc S'⟩
  cases k with
  | true =>
    rw [if_pos rfl] at h ⊢
    refine ⟨fun σ2 H2 => ∃ m', m' < m ∧ ∃ ρ2 G2, Sat X.K c ρ2 σ2 G2 H2 ∧ I m' ρ2, fun σ2 H2 q => q, c, ρ', G1, _, S'.tr t1, h, ⟨?_, p.rt, p.nx, ?_, p.xc⟩⟩
    · exact fun ρ2 σ2 G2 H2 S2 ⟨m', hm, h2⟩ => ⟨m', hm, ρ2, G2, S2, h2⟩
    · exact fun ρ2 σ2 G2 H2 S2 ⟨m', hm, h2⟩ => ⟨m', hm, ρ2, G2, S2, h2⟩
  | false =>
    rw [if_neg (by decide)] at h ⊢
    exact p.nx ρ' σ' G1 H1 (S'.tr t1) h
end
end SF

/-! ## Comprehensions and defs over data -/
namespace SF
open PySem PySem.Spec PyProof.Rows L2
def wipeE : Rho → List Nat → Rho
  | ρ, [] => ρ
  | ρ, v :: vs => (wipeE ρ vs).set v .no
def noRow (ρ : Rho) (vs : List Nat) : Bool := vs.all fun i => match ρ[i]? with
  | some .row => false
  | _ => true
section
variable {K : PySem.W.Frag} {c : Cn} {ρ : Rho} {σ : L2.St} {G G' H H' G1 H1 : Hp}
theorem Sat.wipe (S : Sat K c ρ σ G H) : ∀ vs : List Nat, Sat K c (wipeE ρ vs) (wipe σ vs) G H
  | [] => S
  | v :: vs => (S.wipe vs).setNo
theorem wipeE_get {i : Nat} : ∀ {vs : List Nat}, i ∉ vs → (wipeE ρ vs)[i]? = ρ[i]?
  | [], _ => rfl
  | v :: vs, h => by
    rw [List.mem_cons, not_or] at h
    show ((wipeE ρ vs).set v .no)[i]? = _
    rw [List.getElem?_set_ne (Ne.symm h.1), wipeE_get h.2]
theorem wipe_get {i : Nat} : ∀ {vs : List Nat}, i ∉ vs → (wipe σ vs)[i]? = σ[i]?
  | [], _ => rfl
  | v :: vs, h => by
    rw [List.mem_cons, not_or] at h
    show ((wipe σ vs).set v none)[i]? = _
    rw [List.getElem?_set_ne (Ne.symm h.1), wipe_get h.2]
theorem wipe_in {i : Nat} : ∀ {vs : List Nat}, i ∈ vs → i < σ.length → (wipe σ vs)[i]? = some none
  | [], h, _ => by simp at h
  | v :: vs, h, hl => by
    show ((wipe σ vs).set v none)[i]? = _
    by_cases q : v = i
    · subst q
      rw [List.getElem?_set_self (by rw [wipe_length]; exact hl)]
    · rw [List.getElem?_set_ne q]
      refine wipe_in ?_ hl
      rcases List.mem_cons.mp h with e | e
      · exact absurd e.symm q
      · exact e
theorem wipe_eq {σ' : L2.St} {vs : List Nat} (hl : σ'.length = σ.length) (h : ∀ (n : Nat), n ∉ vs → σ'[n]? = (wipe σ vs)[n]?) : wipe σ' vs = wipe σ vs := by
  apply List.ext_getElem?
  intro n
  by_cases q : n ∈ vs
  · by_cases k : n < σ.length
    · rw [wipe_in q (by rw [hl]; exact k), wipe_in q k]
    · rw [List.getElem?_eq_none (by rw [wipe_length, hl]; omega), List.getElem?_eq_none (by rw [wipe_length]; omega)]
  · rw [wipe_get q, h n q]
/-- the slots that a binding sets -/
theorem setsE_get {i : Nat} : ∀ {is : List Nat} {ds : List PyData} {ρ : Rho}, i ∉ is → (setsE ρ is ds)[i]? = ρ[i]?
  | [], ds, ρ, _ => by cases ds <;> rfl
  | j :: is, [], ρ, _ => rfl
  | j :: is, d :: ds, ρ, h => by
    rw [List.mem_cons, not_or] at h
    show (setsE (ρ.set j (.dat d)) is ds)[i]? = _
    rw [setsE_get h.2, List.getElem?_set_ne (Ne.symm h.1)]
theorem wipeE_length (ρ : Rho) : ∀ vs : List Nat, (wipeE ρ vs).length = ρ.length
  | [] => rfl
  | v :: vs => by show ((wipeE ρ vs).set v .no).length = _; rw [List.length_set, wipeE_length ρ vs]
theorem wipeE_in {i : Nat} : ∀ {vs : List Nat}, i ∈ vs → (wipeE ρ vs)[i]? = if i < ρ.length then some .no else none
  | [], h => by simp at h
  | v :: vs, h => by
    show ((wipeE ρ vs).set v .no)[i]? = _
    by_cases q : v = i
    · subst q
      rw [List.getElem?_set, if_pos rfl, wipeE_length]
    · rw [List.getElem?_set_ne q]
      refine wipeE_in ?_
      rcases List.mem_cons.mp h with e | e
      · exact absurd e.symm q
      · exact e
/-- rows are those of the state ahead -/
structure Rows (ρ : Rho) (σ : L2.St) (ρ' : Rho) (σ' : L2.St) : Prop where
  iff : ∀ r, IsRow ρ' σ' r ↔ IsRow ρ σ r
theorem Tr.lift {ρ' : Rho} {σ' : L2.St} (h : ∀ r, IsRow ρ' σ' r ↔ IsRow ρ σ r) (t : Tr K ρ' σ' G H G' H') : Tr K ρ σ G H G' H' :=
  ⟨t.eg, t.eh, fun a o q n m => t.keep a o q (fun z => n ((h a).mp z)) m, t.tbl, t.avoid, fun r q => t.row r ((h r).mpr q)⟩
/-- the list that is made: at D, untracked by slots -/
theorem Tr.side {D : Addr} {o : HO} (S1 : Sat K c ρ σ G1 H1) (t : Tr K ρ σ G1 H1 G H) (h1 : H1 D = none) (hG : G D = none) {xs : List V} (hD : H D = some (.lst xs)) : Tr K ρ σ G1 H1 G (upd H D o) :=
  ⟨t.eg, t.eh.out hG, fun a u h n m => by
    rw [upd_ne (fun e => by rw [e, h1] at h; cases h)]
    exact t.keep a u h n m, t.tbl.trans (.lst hD), t.avoid, fun r h => by
    have z := t.row r h
    have ne : r ≠ D := fun e => (S1.rowAt h).there (by rw [e]; exact h1)
    exact z.go (.refl _) z.1 fun u e => by rw [upd_ne ne]; exact e⟩
end
section
variable {X : Cx} {b : Bs} {x y z e elt tg : Expr} {ifs : List Expr} {scope : Scope} {pos : Pos} {we w : WE} {wt : WT} {tgt : Tgt} {own : List (Str × Nat)}
abbrev PTsI (X : Cx) (b : Bs) (ifs : List Expr) (w : WT) : Prop := PTs X ifs (ttOf X.K b w)
def wYes : WT := fun _ Φ _ => Φ true
theorem pts_imp {ifs : List Expr} {t t' : TT} (h : PTs X ifs t) (hi : ∀ σ H Q, t' σ H Q → t σ H Q) : PTs X ifs t' := ⟨fun pins s σ H Q I q => h.run pins s σ H Q I (hi σ H Q q)⟩
theorem ptsi_nil : PTsI X b [] wYes := pts_imp pts_nil fun σ H Q ⟨c, ρ, G, Φ, Ξ, S, hw, p, ex⟩ => p true G H (.refl S) hw
theorem ptsi_one (h : PTI X b x wt) : PTsI X b [x] wt := pts_one h
def LcTurn (tgt : Tgt) (vs : List Nat) (wt : WT) (w : WE) (I : Nat → List PyData → Prop) (i : Nat) (d : PyData) (ρ : Rho) : Prop := ∀ acc, I i acc → acc.length < 1000000 ∧ bindT tgt d (wipeE ρ vs) (fun ρ2 => wt ρ2 (fun k => if k = true then w ρ2 (fun r => I (i + 1) (acc ++ [r.frz])) (fun _ => False) else I (i + 1) acc) (fun _ => False))
def LcI (tgt : Tgt) (vs : List Nat) (wt : WT) (w : WE) (ds : List PyData) (ρ : Rho) (Φ : Res → Prop) : Prop := noRow ρ vs = true ∧ ∃ I : Nat → List PyData → Prop, I 0 [] ∧ (∀ (i : Nat) d, ds[i]? = some d → LcTurn tgt vs wt w I i d ρ) ∧ ∀ acc, I ds.length acc → Φ (.lst acc)
def LcR (tgt : Tgt) (vs : List Nat) (wt : WT) (w : WE) (lo : Int) (n : Nat) (ρ : Rho) (Φ : Res → Prop) : Prop := noRow ρ vs = true ∧ ∃ I : Nat → List PyData → Prop, I 0 [] ∧ (∀ (i : Nat), i < n → LcTurn tgt vs wt w I i (.int (lo + (i : Nat))) ρ) ∧ ∀ acc, I n acc → Φ (.lst acc)
def wLcL (tgt : Tgt) (vs : List Nat) (wi : WE) (wt : WT) (w : WE) : WE := fun ρ Φ Ξ => wi ρ (fun r => ∃ ds, r.frz = .list ds ∧ LcI tgt vs wt w ds ρ Φ) Ξ
def wLcT (tgt : Tgt) (vs : List Nat) (wi : WE) (wt : WT) (w : WE) : WE := fun ρ Φ Ξ => wi ρ (fun r => ∃ ds, r.frz = .tuple ds ∧ LcI tgt vs wt w ds ρ Φ) Ξ
def wLcR1 (tgt : Tgt) (vs : List Nat) (wa : WA) (wt : WT) (w : WE) : WE := fun ρ Φ Ξ => wa ρ (fun ds => ∃ n : Int, ds = [.int n] ∧ -1000000 ≤ n ∧ n ≤ 1000000 ∧ LcR tgt vs wt w 0 n.toNat ρ Φ) Ξ
def PvLc (K : PySem.W.Frag) (ρ : Rho) (σ : L2.St) (G1 H1 : Hp) (D : Addr) (I : Nat → List PyData → Prop) (i : Nat) (H' : Hp) : Prop := ∃ G' acc ys, Tr K ρ σ G1 H1 G' H' ∧ H' D = some (.lst ys) ∧ G' D = none ∧ ImL K G' acc ys ∧ I i acc
/-- one turn -/
theorem lc_turn {K : PySem.W.Frag} {c : Cn} {ρ : Rho} {σ : L2.St} {G1 H1 G H : Hp} {vs : List Nat} {D : Addr} {I : Nat → List PyData → Prop} {i : Nat} {d : PyData} {v : V} {acc : List PyData} {xs : List V} {Pv : Nat → Hp → Prop} (hts : ∀ n ∈ tgt.slots, n ∈ vs) (S1 : Sat K c ρ σ G1 H1) (hn : noRow ρ vs = true)
    (t : Tr K ρ σ G1 H1 G H) (hD1 : H1 D = none) (hD : H D = some (.lst xs)) (hG : G D = none) (il : ImL K G acc xs) (hI : I i acc) (im : Im K G d v) (h : LcTurn tgt vs wt w I i d ρ)
    (hP : ∀ G' H' acc' xs', Tr K ρ σ G1 H1 G' H' → H' D = some (.lst xs') → G' D = none → ImL K G' acc' xs' → I (i + 1) acc' → Pv (i + 1) H') :
    tgOf K tgt v (wipe σ vs) H fun σ2 H2 => wipe σ2 vs = wipe σ vs ∧ ttOf K b wt σ2 H2 fun k H3 => if k = true then teOf K b w σ2 H3 fun y H4 => ∃ acc, H4 D = some (.lst acc) ∧ acc.length < sizeLine ∧ Pv (i + 1) (upd H4 D (.lst (acc ++ [y]))) else Pv (i + 1) H3 := by
  have S := S1.tr t
  obtain ⟨hz, h⟩ := h acc hI
  refine tgt_ok (S.wipe vs) im h fun ρ2 σ2 S2 h2 hs => ?_
  have hl2 : σ2.length = σ.length := by rw [hs.len, wipe_length]
  have hw : wipe σ2 vs = wipe σ vs := wipe_eq hl2 fun n hn' => hs.st n fun z => hn' (hts n z)
  have rows : ∀ r, IsRow ρ2 σ2 r ↔ IsRow ρ σ r := fun r => by
    constructor
    · rintro ⟨j, e1, e2⟩
      have h1 : j ∉ tgt.slots := fun z => hs.nr j z e1
      rw [hs.rh j h1] at e1
      rw [hs.st j h1] at e2
      have h3 : j ∉ vs := fun z => by rw [wipeE_in z] at e1; split at e1 <;> cases e1
      rw [wipeE_get h3] at e1
      rw [wipe_get h3] at e2
      exact ⟨j, e1, e2⟩
    · rintro ⟨j, e1, e2⟩
      have h3 : j ∉ vs := fun z => by
        have q := List.all_eq_true.mp hn j z
        rw [e1] at q
        cases q
      have h1 : j ∉ tgt.slots := fun z => h3 (hts j z)
      exact ⟨j, by rw [hs.rh j h1, wipeE_get h3]; exact e1, by rw [hs.st j h1, wipe_get h3]; exact e2⟩
  have nD : ¬ IsRow ρ σ D := fun z => (S1.rowAt z).there hD1
  refine ⟨hw, c, ρ2, G, _, _, S2, h2, fun k G3 H3 t3 h3 => ?_, fun _ _ _ _ _ _ _ z => z.elim⟩
  have t3' : Tr K ρ σ G1 H1 G3 H3 := t.trans (t3.lift rows)
  have S3 := S2.tr t3
  have hD3 : H3 D = some (.lst xs) := t3.keep D _ hD (fun z => nD ((rows D).mp z)) ntL
  have hG3 : G3 D = none := t3.avoid D hG (by rw [hD]; exact fun z => by cases z)
  cases k with
  | false =>
    rw [if_neg (by decide)] at h3
    exact hP G3 H3 acc xs t3' hD3 hG3 (il.mono t3.eg) h3
  | true =>
    rw [if_pos rfl] at h3
    refine ⟨c, ρ2, G3, _, _, S3, h3, fun y r G4 H4 t4 o4 h4 => ?_, fun _ _ _ _ _ _ _ z => z.elim⟩
    obtain ⟨G5, t5, im5⟩ := freeze S3 t4 o4
    have t5' : Tr K ρ σ G1 H1 G5 H4 := t3'.trans (t5.lift rows)
    have hD5 : H4 D = some (.lst xs) := t5.keep D _ hD3 (fun z => nD ((rows D).mp z)) ntL
    have hG5 : G5 D = none := t5.avoid D hG3 (by rw [hD3]; exact fun z => by cases z)
    have il5 : ImL K G5 acc xs := (il.mono t3.eg).mono t5.eg
    refine ⟨xs, hD5, by rw [← il5.len]; exact Nat.lt_of_lt_of_le hz (by decide), ?_⟩
    exact hP G5 _ (acc ++ [r.frz]) (xs ++ [y]) (Tr.side S1 t5' hD1 hG5 hD5) upd_same hG5 (il5.append (.one im5)) h4
variable {K : PySem.W.Frag}
theorem lcL_ok (hts : ∀ n ∈ tgt.slots, n ∈ own.map (·.2)) (σ : L2.St) (H : Hp) (Q : VK) (h : teOf K b (wLcL tgt (own.map (·.2)) we wt w) σ H Q) : tLc (iList K (teOf K b we)) (tgOf K tgt) (ttOf K b wt) (teOf K b w) (own.map (·.2)) σ H Q := by
  obtain ⟨c, ρ, G, Φ, Ξ, S, hw, p, ex⟩ := h
  refine ⟨c, ρ, G, _, Ξ, S, hw, fun v r G1 H1 t1 o1 h1 => ?_, ex⟩
  obtain ⟨G2, t2, im⟩ := freeze S t1 o1
  obtain ⟨ds, e, hn, I, h0, hI, hd⟩ := h1
  rw [e, im_list] at im
  obtain ⟨a, xs, rfl, ha, il⟩ := im
  have S2 := S.tr t2
  refine ⟨a, rfl, ⟨xs, sq_of (S2.ex2 a _ ha)⟩, fun D hD => ?_⟩
  refine lc_list (xs := xs) (PvLc K ρ σ G2 H1 D I) ⟨G2, [], [], Tr.newH S2 hD, upd_same, S2.ex2.back hD, .nil, h0⟩ (fun i H' _ ⟨G', acc, ys, t, _⟩ => sq_of (t.eh a _ (t.eg a _ ha))) (fun i x H' hx ⟨G', acc, ys, t, k1, k2, k3, k4⟩ => ?_) (fun H' ⟨G', acc, ys, t, k1, k2, k3, k4⟩ => ?_)
  · have hl : i < ds.length := by rw [il.len]; exact (List.getElem?_eq_some_iff.mp hx).1
    obtain ⟨y, hy, iy⟩ := il.get (List.getElem?_eq_getElem hl)
    rw [hx] at hy
    cases hy
    exact lc_turn (b := b) (Pv := PvLc K ρ σ G2 H1 D I) hts S2 hn t hD k1 k2 k3 k4 (iy.mono t.eg) (hI i _ (List.getElem?_eq_getElem hl)) fun G' H' acc' xs' q1 q2 q3 q4 q5 => ⟨G', acc', xs', q1, q2, q3, q4, q5⟩
  · exact p _ (.lst acc) G' H' (t2.trans t) ⟨D, ys, rfl, t2.back hD, k2, k1, k3⟩ (hd acc (by rw [il.len]; exact k4))
theorem lcT_ok (hts : ∀ n ∈ tgt.slots, n ∈ own.map (·.2)) (σ : L2.St) (H : Hp) (Q : VK) (h : teOf K b (wLcT tgt (own.map (·.2)) we wt w) σ H Q) : tLc (iTup K (teOf K b we)) (tgOf K tgt) (ttOf K b wt) (teOf K b w) (own.map (·.2)) σ H Q := by
  obtain ⟨c, ρ, G, Φ, Ξ, S, hw, p, ex⟩ := h
  refine ⟨c, ρ, G, _, Ξ, S, hw, fun v r G1 H1 t1 o1 h1 => ?_, ex⟩
  obtain ⟨G2, t2, im⟩ := freeze S t1 o1
  obtain ⟨ds, e, hn, I, h0, hI, hd⟩ := h1
  rw [e, im_tuple] at im
  obtain ⟨a, xs, rfl, ha, il⟩ := im
  have S2 := S.tr t2
  refine ⟨a, rfl, ⟨xs, ex_t S2.ex2 ha⟩, fun D hD => ?_⟩
  refine lc_tup (xs := xs) (PvLc K ρ σ G2 H1 D I) ⟨G2, [], [], Tr.newH S2 hD, upd_same, S2.ex2.back hD, .nil, h0⟩ (fun i H' _ ⟨G', acc, ys, t, _⟩ => ex_t t.eh (ex_t t.eg ha)) (fun i x H' hx ⟨G', acc, ys, t, k1, k2, k3, k4⟩ => ?_) (fun H' ⟨G', acc, ys, t, k1, k2, k3, k4⟩ => ?_)
  · have hl : i < ds.length := by rw [il.len]; exact (List.getElem?_eq_some_iff.mp hx).1
    obtain ⟨y, hy, iy⟩ := il.get (List.getElem?_eq_getElem hl)
    rw [hx] at hy
    cases hy
    exact lc_turn (b := b) (Pv := PvLc K ρ σ G2 H1 D I) hts S2 hn t hD k1 k2 k3 k4 (iy.mono t.eg) (hI i _ (List.getElem?_eq_getElem hl)) fun G' H' acc' xs' q1 q2 q3 q4 q5 => ⟨G', acc', xs', q1, q2, q3, q4, q5⟩
  · exact p _ (.lst acc) G' H' (t2.trans t) ⟨D, ys, rfl, t2.back hD, k2, k1, k3⟩ (hd acc (by rw [il.len]; exact k4))
theorem lcR_ok {wa : WA} (hts : ∀ n ∈ tgt.slots, n ∈ own.map (·.2)) (σ : L2.St) (H : Hp) (Q : VK) (h : teOf K b (wLcR1 tgt (own.map (·.2)) wa wt w) σ H Q) : tLc (iRng1 (taOf K b 1 wa)) (tgOf K tgt) (ttOf K b wt) (teOf K b w) (own.map (·.2)) σ H Q := by
  obtain ⟨c, ρ, G, Φ, Ξ, S, hw, p, ex⟩ := h
  refine ⟨c, ρ, G, _, Ξ, S, hw, fun vs ds G1 H1 t1 il hl h1 => ?_, ex⟩
  obtain ⟨n, rfl, b1, b2, hn, I, h0, hI, hd⟩ := h1
  obtain ⟨v, rfl, im⟩ := imL_1 il
  rw [im_int] at im
  subst im
  have S2 := S.tr t1
  refine ⟨n, rfl, by omega, by omega, fun D hD => ?_⟩
  refine lc_range (lo := 0) (n := n.toNat) (PvLc K ρ σ G1 H1 D I) ⟨G1, [], [], Tr.newH S2 hD, upd_same, S2.ex2.back hD, .nil, h0⟩ (fun i H' hi ⟨G', acc, ys, t, k1, k2, k3, k4⟩ => ?_) (fun H' ⟨G', acc, ys, t, k1, k2, k3, k4⟩ => ?_)
  · exact lc_turn (b := b) (Pv := PvLc K ρ σ G1 H1 D I) hts S2 hn t hD k1 k2 k3 k4 (by rw [im_int]) (hI i hi) fun G' H' acc' xs' q1 q2 q3 q4 q5 => ⟨G', acc', xs', q1, q2, q3, q4, q5⟩
  · exact p _ (.lst acc) G' H' (t1.trans t) ⟨D, ys, rfl, t1.back hD, k2, k1, k3⟩ (hd acc k4)
/-- the parts of a comprehension within its block -/
structure Blk (X : Cx) (b : Bs) (scope : Scope) (own : List (Str × Nat)) (tg : Expr) (ifs : List Expr) (elt : Expr) (tgt : Tgt) (wt : WT) (w : WE) : Prop where
  ok : BlkOk X.N X.env.scope scope own
  sl : ∀ n ∈ tgt.slots, n ∈ own.map (·.2)
  hg : ∀ (s : Shared) (H : Hp) (C : Addr) (cl : List (Str × Addr)) (fp : List Addr), PG (X.blk s H scope (compEnvC scope cl C X.env) fp) tg (tgOf X.K tgt)
  ht : ∀ (s : Shared) (H : Hp) (C : Addr) (cl : List (Str × Addr)) (fp : List Addr), PTsI (X.blk s H scope (compEnvC scope cl C X.env) fp) b ifs wt
  he : ∀ (s : Shared) (H : Hp) (C : Addr) (cl : List (Str × Addr)) (fp : List Addr), PEI (X.blk s H scope (compEnvC scope cl C X.env) fp) b elt w
theorem pei_lcL (hc : X.calm = true) (hN : X.N.Nodup) (hi : PEI X b e we) (B : Blk X b scope own tg ifs elt tgt wt w) (hs : ∀ x, foldedSetIterable e X.env x = pure x := by intro _; rfl) : PEI X b (.ListComp elt [⟨tg, e, ifs, 0⟩] scope pos) (wLcL tgt (own.map (·.2)) we wt w) :=
  pe_imp (pe_lc hc hN (pi_list hi) B.ok B.hg B.ht B.he hs) (lcL_ok B.sl)
theorem pei_lcT (hc : X.calm = true) (hN : X.N.Nodup) (hi : PEI X b e we) (B : Blk X b scope own tg ifs elt tgt wt w) (hs : ∀ x, foldedSetIterable e X.env x = pure x := by intro _; rfl) : PEI X b (.ListComp elt [⟨tg, e, ifs, 0⟩] scope pos) (wLcT tgt (own.map (·.2)) we wt w) :=
  pe_imp (pe_lc hc hN (pi_tup hi) B.ok B.hg B.ht B.he hs) (lcT_ok B.sl)
theorem pei_lcR {wa : WA} {p1 p2 : Pos} (hc : X.calm = true) (hN : X.N.Nodup) (hm : X.mg "range" = none) (hgl : Gl X "range") (ha : PAI X b 1 [x] wa) (B : Blk X b scope own tg ifs elt tgt wt w) (hse : starEach [x] X.env = [(false, eval x X.env)] := by rfl)
    (hs : ∀ y, foldedSetIterable (.Call (.Name "range" p1) [x] [] p2) X.env y = pure y := by intro _; rfl) : PEI X b (.ListComp elt [⟨tg, .Call (.Name "range" p1) [x] [] p2, ifs, 0⟩] scope pos) (wLcR1 tgt (own.map (·.2)) wa wt w) :=
  pe_imp (pe_lc hc hN (pi_range1 hgl hm ha hse) B.ok B.hg B.ht B.he hs) (lcR_ok B.sl)
/-- name = [..] -/
theorem psi_setLcL (i : Nat) {nm : Str} {np spos : Pos} (hc : X.calm = true) (hN : X.N.Nodup) (hi : PEI X b e we) (B : Blk X b scope own tg ifs elt tgt wt w) (hsw : swapsWith (.ListComp elt [⟨tg, e, ifs, 0⟩] scope pos) (some (.Name nm np)) spos.line X.env = pure true) (hy : X.N[i]? = some nm := by rfl) (hyl : X.env.scope.names.lookup nm = some .local := by rfl)
    (hs : ∀ x, foldedSetIterable e X.env x = pure x := by intro _; rfl) : PSI X b (.Assign [.Name nm np] (.ListComp elt [⟨tg, e, ifs, 0⟩] scope pos) spos) (wSet i (wLcL tgt (own.map (·.2)) we wt w)) :=
  ps_imp (ps_setLc hc hN hy hyl hsw (pi_list hi) B.ok B.hg B.ht B.he hs) fun D σ H q => asg_ok (lcL_ok B.sl) q
theorem psi_setFLcL (i : Nat) {nm : Str} {np spos : Pos} (hc : X.calm = true) (hN : X.N.Nodup) (hi : PEI X b e we) (B : Blk X b scope own tg ifs elt tgt wt w) (hsw : swapsWith (.ListComp elt [⟨tg, e, ifs, 0⟩] scope pos) (some (.Name nm np)) spos.line X.env = pure true) (hy : X.N[i]? = some nm := by rfl) (hyl : X.env.scope.names.lookup nm = some .local := by rfl)
    (hs : ∀ x, foldedSetIterable e X.env x = pure x := by intro _; rfl) : PSI X b (.Assign [.Name nm np] (.ListComp elt [⟨tg, e, ifs, 0⟩] scope pos) spos) (wSetF i (wLcL tgt (own.map (·.2)) we wt w)) :=
  ps_imp (ps_setLc hc hN hy hyl hsw (pi_list hi) B.ok B.hg B.ht B.he hs) fun D σ H q => asgF_ok (lcL_ok B.sl) q
theorem psi_setFLcT (i : Nat) {nm : Str} {np spos : Pos} (hc : X.calm = true) (hN : X.N.Nodup) (hi : PEI X b e we) (B : Blk X b scope own tg ifs elt tgt wt w) (hsw : swapsWith (.ListComp elt [⟨tg, e, ifs, 0⟩] scope pos) (some (.Name nm np)) spos.line X.env = pure true) (hy : X.N[i]? = some nm := by rfl) (hyl : X.env.scope.names.lookup nm = some .local := by rfl)
    (hs : ∀ x, foldedSetIterable e X.env x = pure x := by intro _; rfl) : PSI X b (.Assign [.Name nm np] (.ListComp elt [⟨tg, e, ifs, 0⟩] scope pos) spos) (wSetF i (wLcT tgt (own.map (·.2)) we wt w)) :=
  ps_imp (ps_setLc hc hN hy hyl hsw (pi_tup hi) B.ok B.hg B.ht B.he hs) fun D σ H q => asgF_ok (lcT_ok B.sl) q
theorem psi_setLcR (i : Nat) {nm : Str} {np spos p1 p2 : Pos} {wa : WA} (hc : X.calm = true) (hN : X.N.Nodup) (hm : X.mg "range" = none) (hgl : Gl X "range") (ha : PAI X b 1 [x] wa) (B : Blk X b scope own tg ifs elt tgt wt w)
    (hsw : swapsWith (.ListComp elt [⟨tg, .Call (.Name "range" p1) [x] [] p2, ifs, 0⟩] scope pos) (some (.Name nm np)) spos.line X.env = pure true) (hy : X.N[i]? = some nm := by rfl) (hyl : X.env.scope.names.lookup nm = some .local := by rfl) (hse : starEach [x] X.env = [(false, eval x X.env)] := by rfl)
    (hs : ∀ y, foldedSetIterable (.Call (.Name "range" p1) [x] [] p2) X.env y = pure y := by intro _; rfl) : PSI X b (.Assign [.Name nm np] (.ListComp elt [⟨tg, .Call (.Name "range" p1) [x] [] p2, ifs, 0⟩] scope pos) spos) (wSet i (wLcR1 tgt (own.map (·.2)) wa wt w)) :=
  ps_imp (ps_setLc hc hN hy hyl hsw (pi_range1 hgl hm ha hse) B.ok B.hg B.ht B.he hs) fun D σ H q => asg_ok (lcR_ok B.sl) q
theorem psi_setFLcR (i : Nat) {nm : Str} {np spos p1 p2 : Pos} {wa : WA} (hc : X.calm = true) (hN : X.N.Nodup) (hm : X.mg "range" = none) (hgl : Gl X "range") (ha : PAI X b 1 [x] wa) (B : Blk X b scope own tg ifs elt tgt wt w)
    (hsw : swapsWith (.ListComp elt [⟨tg, .Call (.Name "range" p1) [x] [] p2, ifs, 0⟩] scope pos) (some (.Name nm np)) spos.line X.env = pure true) (hy : X.N[i]? = some nm := by rfl) (hyl : X.env.scope.names.lookup nm = some .local := by rfl) (hse : starEach [x] X.env = [(false, eval x X.env)] := by rfl)
    (hs : ∀ y, foldedSetIterable (.Call (.Name "range" p1) [x] [] p2) X.env y = pure y := by intro _; rfl) : PSI X b (.Assign [.Name nm np] (.ListComp elt [⟨tg, .Call (.Name "range" p1) [x] [] p2, ifs, 0⟩] scope pos) spos) (wSetF i (wLcR1 tgt (own.map (·.2)) wa wt w)) :=
  ps_imp (ps_setLc hc hN hy hyl hsw (pi_range1 hgl hm ha hse) B.ok B.hg B.ht B.he hs) fun D σ H q => asgF_ok (lcR_ok B.sl) q
end
/-! ### defs -/
section
variable {P : Program} {w : World} {K : PySem.W.Frag} {mg : Str → Option Value} {base : Heap}
/-- the slots at a def's start -/
def startE (es : List Ent) (n : Nat) : Rho := es ++ List.replicate n .no
theorem start_len {N : List Str} {vs : List V} {n : Nat} (h : N.length = vs.length + n) : L2.start N vs = vs.map some ++ List.replicate n none := by
  unfold L2.start
  rw [h, Nat.add_sub_cancel_left]
theorem sat_startP {G H : Hp} {ds : List PyData} {vs : List V} {n : Nat} (e : Ex G H) (il : ImL K G ds vs) : Sat K ⟨none, G, H⟩ (startE (ds.map .dat) n) (vs.map some ++ List.replicate n none) G H where
  ex1 := .refl _
  ex2 := e
  keep := fun _ _ h _ _ => h
  tbl := .refl _
  there := fun _ h => h
  avoid := fun _ h _ => h
  mrow := fun _ h => by cases h
  mhe := fun _ h => by cases h
  len := by unfold startE; rw [List.length_append, List.length_append, List.length_map, List.length_map, il.len, List.length_replicate, List.length_replicate]
  slot := fun i u o h1 h2 => by
    unfold startE at h1
    by_cases q : i < ds.length
    · rw [List.getElem?_append_left (by rw [List.length_map]; exact q), List.getElem?_map, List.getElem?_eq_getElem q] at h1
      rw [List.getElem?_append_left (by rw [List.length_map, ← il.len]; exact q), List.getElem?_map] at h2
      obtain ⟨x, hx, im⟩ := il.get (List.getElem?_eq_getElem q)
      rw [hx] at h2
      cases h1
      cases h2
      exact ⟨x, rfl, im⟩
    · rw [List.getElem?_append_right (by rw [List.length_map]; omega)] at h1
      have e := List.mem_of_getElem? h1
      rw [List.mem_replicate] at e
      rw [e.2]
      trivial
  own := fun i u l h1 hm h2 => by
    unfold startE at h1
    have hmem := List.mem_of_getElem? h1
    rcases List.mem_append.mp hmem with z | z
    · obtain ⟨d, _, rfl⟩ := List.mem_map.mp z
      cases hm
    · rw [List.mem_replicate] at z
      rw [z.2] at hm
      cases hm
  ne := fun i j u f l hne h1 h2 m1 m2 h3 => by
    unfold startE at h1
    have hmem := List.mem_of_getElem? h1
    rcases List.mem_append.mp hmem with z | z
    · obtain ⟨d, _, rfl⟩ := List.mem_map.mp z
      cases m1
    · rw [List.mem_replicate] at z
      rw [z.2] at m1
      cases m1
theorem sat_startR {G H : Hp} {r : Addr} {ds : List PyData} {vs : List V} {n : Nat} (e : Ex G H) (hr : RowAt K G H r) (il : ImL K G ds vs) : Sat K ⟨some r, G, H⟩ (.row :: startE (ds.map .dat) n) (some (.ref r) :: (vs.map some ++ List.replicate n none)) G H := by
  have S := sat_startP (K := K) (n := n) e il
  have nomut : ∀ (i : Nat) u, (startE (ds.map .dat) n)[i]? = some u → u.isM = false := fun i u h1 => by
    unfold startE at h1
    have hmem := List.mem_of_getElem? h1
    rcases List.mem_append.mp hmem with z | z
    · obtain ⟨d, _, rfl⟩ := List.mem_map.mp z
      rfl
    · rw [List.mem_replicate] at z
      rw [z.2]
      rfl
  refine ⟨.refl _, e, fun _ _ h _ _ => h, .refl _, fun _ h => h, fun _ h _ => h, fun q h => by cases h; exact hr, fun q h => by cases h; exact hr.there, by rw [List.length_cons, List.length_cons]; exact congrArg (· + 1) S.len, fun i u o h1 h2 => ?_, fun i u l h1 hm h2 => ?_, fun i j u f l hne h1 h2 m1 m2 h3 h4 => ?_⟩
  · cases i with
    | zero =>
      cases h1
      cases h2
      exact ⟨r, rfl, hr⟩
    | succ i => exact S.slot i u o (by simpa using h1) (by simpa using h2)
  · cases i with
    | zero =>
      cases h1
      cases h2
      exact .inr ⟨rfl, rfl⟩
    | succ i =>
      rw [nomut i u (by simpa using h1)] at hm
      cases hm
  · cases i with
    | zero =>
      cases j with
      | zero => exact hne rfl
      | succ j =>
        rw [nomut j f (by simpa using h2)] at m2
        cases m2
    | succ i =>
      rw [nomut i u (by simpa using h1)] at m1
      cases m1
def endP (Φ : Res → Prop) (Ξ : Exn → Prop) : Pst := { nx := fun _ => Φ (.dat .none), rt := Φ, xc := Ξ }
theorem post_end {b : Bs} {c : Cn} {Φ : Res → Prop} {Ξ : Exn → Prop} {Q : VK} (q : ∀ v r G' H', Fin' K c G' H' → Out K c.He G' H' r v → Φ r → Q v H') (x : ∀ ex cls d G' H', Fin' K c G' H' → b.XR ex cls d G' → Ξ ex → b.E cls d H') :
    PostS K b c (endP Φ Ξ) { nx := fun _ H' => Q .non H', rt := Q } :=
  ⟨fun ρ' σ' G' H' S h => q .non (.dat .none) G' H' S.fin (by show Im _ _ _ _; rw [im_none]) h, q, fun _ _ _ _ _ h => h.elim, fun _ _ _ _ _ h => h.elim, x⟩
/-- THE RULE for a def of the text whose arguments are data: it keeps the promise T -/
theorem okP {x qual : Str} {st : Stmt} {f : Addr} {fd : FuncData} {N ps : List Str} {k n : Nat} {XR : Exn → Value → Option Addr → Hp → Prop} {T : Tf} (F : Fun K x qual st f fd) (S : FnScope N ps (defScope st)) (hn : N.length = ps.length + n) (hT : ∀ ds Φ Ξ, T ds Φ Ξ → ds.length = ps.length)
    (hbody : ∀ (cdv : Value) (A : Around) (outer : List Env) (s : Shared) (H : Hp) (E : XK), Room k (A.deeper (envOfC qual (defScope st) s.heap.objs.size f cdv)) →
      ∃ wS, PSsI (cxOf CX0 P w K mg base N qual (defScope st) f cdv A outer s H E).nox ⟨XR, E⟩ (defBody st) wS ∧ ∀ ds Φ Ξ, T ds Φ Ξ → wS (startE (ds.map .dat) n) (endP Φ Ξ)) : FnOk P w K mg base CX0 (k + 1) f fd ps (spP K XR T) :=
  F.ok S (fun vs H Q E ⟨G, ds, Φ, Ξ, e, il, hT', _⟩ => by rw [← il.len]; exact hT ds Φ Ξ hT') fun cdv A outer s H vs Q E hr ⟨G, ds, Φ, Ξ, e, il, hT', q, ex⟩ => by
    obtain ⟨wS, h1, h2⟩ := hbody cdv A outer s H E hr
    refine ⟨_, h1, ⟨none, G, H⟩, _, G, _, ?_, h2 ds Φ Ξ hT', post_end q ex⟩
    rw [start_len (n := n) (by rw [hn, ← hT ds Φ Ξ hT', il.len])]
    exact sat_startP e il
/-- .. whose first argument is the row -/
theorem okR {x qual : Str} {st : Stmt} {f : Addr} {fd : FuncData} {N ps : List Str} {k n : Nat} {XR : Exn → Value → Option Addr → Hp → Prop} {T : Tf} (F : Fun K x qual st f fd) (S : FnScope N ps (defScope st)) (hn : N.length = ps.length + n) (hT : ∀ ds Φ Ξ, T ds Φ Ξ → ds.length + 1 = ps.length)
    (hbody : ∀ (cdv : Value) (A : Around) (outer : List Env) (s : Shared) (H : Hp) (E : XK), Room k (A.deeper (envOfC qual (defScope st) s.heap.objs.size f cdv)) →
      ∃ wS, PSsI (cxOf CX0 P w K mg base N qual (defScope st) f cdv A outer s H E).nox ⟨XR, E⟩ (defBody st) wS ∧ ∀ ds Φ Ξ, T ds Φ Ξ → wS (.row :: startE (ds.map .dat) n) (endP Φ Ξ)) : FnOk P w K mg base CX0 (k + 1) f fd ps (spR K XR T) :=
  F.ok S (fun vs H Q E ⟨r, us, G, ds, Φ, Ξ, ev, e, hr, il, hT', _⟩ => by rw [ev, List.length_cons, ← il.len]; exact hT ds Φ Ξ hT') fun cdv A outer s H vs Q E hr ⟨r, us, G, ds, Φ, Ξ, ev, e, hrow, il, hT', q, ex⟩ => by
    obtain ⟨wS, h1, h2⟩ := hbody cdv A outer s H E hr
    subst ev
    refine ⟨_, h1, ⟨some r, G, H⟩, _, G, _, ?_, h2 ds Φ Ξ hT', post_end q ex⟩
    rw [start_len (n := n) (by rw [hn, ← hT ds Φ Ξ hT', List.length_cons, il.len])]
    exact sat_startR e hrow il
end
end SF

/-! ## How a reading over data is computed -/
namespace SF
open PySem PySem.Spec PyProof.Rows L2
def XR0 : Exn → Value → Option Addr → Hp → Prop := fun _ _ _ _ => False
section
variable {Φ : Res → Prop} {i j : Int} {ds es : List PyData} {x y z u : PyData}
theorem r_sII {f : Int → Int → PyData} : sII f (.int i) (.int j) Φ = Φ (.dat (f i j)) := by simp [sII]
theorem r_sIIc {C : Int → Int → Prop} {f : Int → Int → PyData} : sIIc C f (.int i) (.int j) Φ = (C i j ∧ Φ (.dat (f i j))) := by simp [sIIc]
theorem r_sIsN : sIsN x .none Φ = Φ (.dat (.bool (isNone x))) := by simp [sIsN]
theorem r_sNotN : sNotN x .none Φ = Φ (.dat (.bool (!isNone x))) := by simp [sNotN]
theorem r_sInL {f : Bool → Bool} : sInL f x (.list ds) Φ = (SeqAt.shaped x = true ∧ SeqAt.shaped (.list ds) = true ∧ Φ (.dat (.bool (f (ds.any fun z => PyData.eqv z x))))) := by simp [sInL]
theorem r_sInT {f : Bool → Bool} : sInT f x (.tuple ds) Φ = (isSc x = true ∧ ds.all isSc = true ∧ Φ (.dat (.bool (f (ds.any fun z => PyData.eqv z x))))) := by simp [sInT]
theorem r_sIxT : sIxT (.tuple ds) (.int i) Φ = ∃ d, atI ds i = some d ∧ Φ (.dat d) := by simp [sIxT]
theorem r_sIxL : sIxL (.list ds) (.int i) Φ = ∃ d, atI ds i = some d ∧ Φ (.dat d) := by simp [sIxL]
theorem r_sSlT {lo hi : Option Int} : sSlT (.tuple ds) lo hi Φ = Φ (.dat (.tuple (cutD ds lo hi))) := by simp [sSlT]
theorem r_sSlL {lo hi : Option Int} : sSlL (.list ds) lo hi Φ = Φ (.lst (cutD ds lo hi)) := by simp [sSlL]
theorem r_sCatL : sCatL (.list ds) (.list es) Φ = (ds.length + es.length ≤ 1000000 ∧ Φ (.lst (ds ++ es))) := by simp [sCatL]
theorem r_sCatT : sCatT (.tuple ds) (.tuple es) Φ = (ds.length + es.length ≤ 1000000 ∧ Φ (.dat (.tuple (ds ++ es)))) := by simp [sCatT]
theorem r_sLenT : sLen [.tuple ds] Φ = Φ (.dat (.int ((ds.length : Nat) : Int))) := by simp [sLen]
theorem r_sLenL : sLen [.list ds] Φ = Φ (.dat (.int ((ds.length : Nat) : Int))) := by simp [sLen]
theorem r_sMax2 : sMax2 [.int i, .int j] Φ = Φ (.dat (.int (max i j))) := by simp [sMax2, and_assoc]
theorem r_sMin2 : sMin2 [.int i, .int j] Φ = Φ (.dat (.int (min i j))) := by simp [sMin2, and_assoc]
theorem r_sListT : sListOf [.tuple ds] Φ = Φ (.lst ds) := by simp [sListOf]
theorem r_sListL : sListOf [.list ds] Φ = Φ (.lst ds) := by simp [sListOf]
theorem r_sTupL : sTupleOf [.list ds] Φ = Φ (.dat (.tuple ds)) := by simp [sTupleOf]
theorem r_sIntB {k : Bool} : sIntB [.bool k] Φ = Φ (.dat (.int (if k then 1 else 0))) := by simp [sIntB]
theorem r_isB {k : Bool} {Θ : Bool → Prop} : isB (.dat (.bool k)) Θ = Θ k := by simp [isB]
theorem r_rev : sRev (.list ds) Φ = Φ (.lst ds.reverse) := by simp [sRev]
theorem r_neg : sNeg (.int i) Φ = Φ (.dat (.int (-i))) := by simp [sNeg]
theorem r_part {w : WE} {ρ : Rho} {Θ : Option Int → Prop} {Ξ : Exn → Prop} : wPart w ρ Θ Ξ = w ρ (fun r => ∃ i, r = .dat (.int i) ∧ Θ (some i)) Ξ := rfl
theorem r_at0 : atI (x :: ds) 0 = some x := atI_nat (j := 0) rfl
theorem r_at1 : atI (x :: y :: ds) 1 = some y := atI_nat (j := 1) rfl
theorem r_at2 : atI (x :: y :: z :: ds) 2 = some z := atI_nat (j := 2) rfl
theorem r_at3 : atI (x :: y :: z :: u :: ds) 3 = some u := atI_nat (j := 3) rfl
theorem r_ex {p : PyData → Prop} : (∃ d, some x = some d ∧ p d) = p x := by simp
theorem r_exr {p : PyData → Prop} : (∃ d, some (Ent.dat x) = some (Ent.dat d) ∧ p d) = p x := by simp
theorem r_exl {p : List PyData → Prop} : (∃ d, some (Ent.ls ds) = some (Ent.ls d) ∧ p d) = p ds := by simp
theorem r_ext {p : List PyData → Prop} : (∃ d, PyData.tuple ds = PyData.tuple d ∧ p d) = p ds := by simp
theorem r_exL {p : List PyData → Prop} : (∃ d, PyData.list ds = PyData.list d ∧ p d) = p ds := by simp
theorem r_exi {p : Int → Prop} : (∃ k, Res.dat (PyData.int i) = Res.dat (PyData.int k) ∧ p k) = p i := by simp
theorem r_exI {p : Int → Prop} : (∃ k, ([PyData.int i] : List PyData) = [PyData.int k] ∧ p k) = p i := by simp
theorem r_exII {p : Int → Int → Prop} : (∃ k l, ([PyData.int i, PyData.int j] : List PyData) = [PyData.int k, PyData.int l] ∧ p k l) = p i j := by simp [and_assoc]
theorem r_fd : (Res.dat x).frz = x := rfl
theorem r_fl : (Res.lst ds).frz = .list ds := rfl
theorem r_ed : (Res.dat x).ent = .dat x := rfl
theorem r_el : (Res.lst ds).ent = .ls ds := rfl
theorem r_sEq : sEq x y Φ = (SeqAt.shaped x = true ∧ SeqAt.shaped y = true ∧ Φ (.dat (.bool (PyData.eqv x y)))) := rfl
theorem r_sNe : sNe x y Φ = (SeqAt.shaped x = true ∧ SeqAt.shaped y = true ∧ Φ (.dat (.bool (!PyData.eqv x y)))) := rfl
theorem n_none : isNone .none = true := rfl
theorem n_int : isNone (.int i) = false := rfl
theorem n_tuple : isNone (.tuple ds) = false := rfl
theorem n_list : isNone (.list ds) = false := rfl
theorem n_str {s : Str} : isNone (.str s) = false := rfl
theorem v_str {s t : Str} : PyData.eqv (.str s) (.str t) = (s == t) := by rw [PyData.eqv]
theorem v_int : PyData.eqv (.int i) (.int j) = (i == j) := by rw [PyData.eqv]
theorem v_noneint : PyData.eqv .none (.int j) = false := by rw [PyData.eqv]
theorem v_intnone : PyData.eqv (.int i) .none = false := by rw [PyData.eqv]
theorem v_none : PyData.eqv .none .none = true := by rw [PyData.eqv]
theorem h_int : SeqAt.shaped (.int i) = true := rfl
theorem h_none : SeqAt.shaped .none = true := rfl
theorem h_bool {k : Bool} : SeqAt.shaped (.bool k) = true := rfl
end
/-! ### comprehensions that filter and map -/
theorem lcR_fm {tgt : Tgt} {vs : List Nat} {wt : WT} {w : WE} {lo : Int} {n : Nat} {ρ : Rho} {Φ : Res → Prop} (p : Nat → Bool) (g : Nat → PyData) (hn : noRow ρ vs = true) (hz : n ≤ 50000)
    (h : ∀ (i : Nat), i < n → ∀ (A : PyData → Prop) (B : Prop), (p i = true → A (g i)) → (p i = false → B) → bindT tgt (.int (lo + (i : Nat))) (wipeE ρ vs) (fun ρ2 => wt ρ2 (fun k => if k = true then w ρ2 (fun r => A r.frz) (fun _ => False) else B) (fun _ => False)))
    (hΦ : Φ (.lst (((List.range n).filter p).map g))) : LcR tgt vs wt w lo n ρ Φ := by
  refine ⟨hn, fun i acc => acc = ((List.range i).filter p).map g, rfl, fun i hi acc ha => ⟨?_, ?_⟩, fun acc ha => by rw [ha]; exact hΦ⟩
  · have h1 := List.length_filter_le p (List.range i)
    rw [List.length_range] at h1
    rw [ha, List.length_map]
    omega
  · refine h i hi (fun z => acc ++ [z] = ((List.range (i + 1)).filter p).map g) (acc = ((List.range (i + 1)).filter p).map g) (fun hp => ?_) (fun hp => ?_)
    · show acc ++ [g i] = _
      rw [List.range_succ, List.filter_append, List.map_append, List.filter_cons, if_pos hp, ha]
      rfl
    · rw [List.range_succ, List.filter_append, List.map_append, List.filter_cons, if_neg (by rw [hp]; decide), ha]
      show _ = _ ++ []
      rw [List.append_nil]
theorem lcI_fm {tgt : Tgt} {vs : List Nat} {wt : WT} {w : WE} {ds : List PyData} {ρ : Rho} {Φ : Res → Prop} (p : PyData → Bool) (g : PyData → PyData) (hn : noRow ρ vs = true) (hz : ds.length ≤ 50000)
    (h : ∀ d, d ∈ ds → ∀ (A : PyData → Prop) (B : Prop), (p d = true → A (g d)) → (p d = false → B) → bindT tgt d (wipeE ρ vs) (fun ρ2 => wt ρ2 (fun k => if k = true then w ρ2 (fun r => A r.frz) (fun _ => False) else B) (fun _ => False)))
    (hΦ : Φ (.lst ((ds.filter p).map g))) : LcI tgt vs wt w ds ρ Φ := by
  refine ⟨hn, fun i acc => acc = ((ds.take i).filter p).map g, rfl, fun i d hd acc ha => ⟨?_, ?_⟩, fun acc ha => by rw [ha, List.take_length]; exact hΦ⟩
  · have h1 := List.length_filter_le p (ds.take i)
    have h2 := List.length_take_le i ds
    have h3 : i < ds.length := (List.getElem?_eq_some_iff.mp hd).1
    rw [List.length_take] at h1
    rw [ha, List.length_map]
    omega
  · refine h d (List.mem_of_getElem? hd) (fun z => acc ++ [z] = ((ds.take (i + 1)).filter p).map g) (acc = ((ds.take (i + 1)).filter p).map g) (fun hp => ?_) (fun hp => ?_)
    · show acc ++ [g d] = _
      rw [List.take_add_one, hd, List.filter_append, List.map_append, ha]
      show _ = _ ++ (List.filter p [d]).map g
      rw [List.filter_cons, if_pos hp]
      rfl
    · rw [List.take_add_one, hd, List.filter_append, List.map_append, ha]
      show _ = _ ++ (List.filter p [d]).map g
      rw [List.filter_cons, if_neg (by rw [hp]; decide)]
      show _ = _ ++ []
      rw [List.append_nil]
/-- a promise that tells a value; one that tells what holds of it -/
def mkT {α : Type} (enc : α → List PyData) (pre : α → Prop) (F : α → Res) : Tf := fun ds Φ _ => ∃ a : α, ds = enc a ∧ pre a ∧ Φ (F a)
def mkTR {α : Type} (enc : α → List PyData) (pre : α → Prop) (post : α → Res → Prop) : Tf := fun ds Φ _ => ∃ a : α, ds = enc a ∧ pre a ∧ ∀ r, post a r → Φ r
end SF

/-! ## Files as plain data, and what is done with them -/
namespace SF
open PySem PySem.Spec PyProof.Rows L2
abbrev Lk := Option Nat
inductive Cell where
  | row (n : Nat) | free (l : Lk)
  deriving DecidableEq
structure File where
  head : Lk
  cells : List Cell
  deriving DecidableEq
abbrev sRow : Str := Str.ofString "row"
abbrev sFree : Str := Str.ofString "free"
def dL : Lk → PyData
  | none => .none
  | some i => .int (i : Int)
def dC : Cell → PyData
  | .row n => .tuple [.str sRow, .int (n : Int)]
  | .free l => .tuple [.str sFree, dL l]
theorem dL_none : dL none = .none := rfl
theorem dL_some {i : Nat} : dL (some i) = .int (i : Int) := rfl
theorem dC_row {n : Nat} : dC (.row n) = .tuple [.str sRow, .int (n : Int)] := rfl
theorem dC_free {l : Lk} : dC (.free l) = .tuple [.str sFree, dL l] := rfl
def dF (f : File) : PyData := .tuple [dL f.head, .tuple (f.cells.map dC)]
def linkOk (n : Nat) : Lk → Bool
  | none => true
  | some i => decide (i < n)
def cellOk (n : Nat) : Cell → Bool
  | .row k => decide (k ≤ 999)
  | .free l => linkOk n l
/-- what need_file lets by -/
structure Fine (f : File) : Prop where
  head : linkOk f.cells.length f.head = true
  few : f.cells.length ≤ 12
  cells : ∀ c ∈ f.cells, cellOk f.cells.length c = true
def isRow : Cell → Bool
  | .row _ => true
  | .free _ => false
def dWhat : Cell → PyData
  | .row n => .int (n : Int)
  | .free l => dL l
def wordOf : Cell → Str
  | .row _ => sRow
  | .free _ => sFree
theorem dC_eq (c : Cell) : dC c = .tuple [.str (wordOf c), dWhat c] := by cases c <;> rfl
def dNat (n : Nat) : PyData := .int (n : Int)
def dNats (l : List Nat) : PyData := .list (l.map dNat)
/-- the places that hold a row, that are free -/
def rowAt (cs : List Cell) (i : Nat) : Bool := match cs[i]? with
  | some (.row _) => true
  | _ => false
def freeAt (cs : List Cell) (i : Nat) : Bool := match cs[i]? with
  | some (.free _) => true
  | _ => false
def numAt (cs : List Cell) (i : Nat) : Nat := match cs[i]? with
  | some (.row n) => n
  | _ => 0
def rowsL (cs : List Cell) : List Nat := (List.range cs.length).filter (rowAt cs)
def freeL (cs : List Cell) : List Nat := (List.range cs.length).filter (freeAt cs)
def dRow (cs : List Cell) (i : Nat) : PyData := .tuple [dNat i, dNat (numAt cs i)]
def dRows (cs : List Cell) : PyData := .list ((rowsL cs).map (dRow cs))
/-- along the chain: the places gone through, and where one stands -/
def walk (cs : List Cell) : Nat → List Nat → Lk → List Nat × Lk
  | 0, found, l => (found, l)
  | _ + 1, found, none => (found, none)
  | k + 1, found, some p => match cs[p]? with
    | some (.free l) => if found.contains p = true then (found, some p) else walk cs k (found ++ [p]) l
    | _ => (found, some p)
def gone (f : File) : List Nat × Lk := walk f.cells (f.cells.length + 1) [] f.head
def chain (f : File) : List Nat := (gone f).1
def stop (f : File) : Lk := (gone f).2
def endWord (f : File) : Str := match stop f with
  | none => Str.ofString "end"
  | some p => match f.cells[p]? with
    | some (.free _) => Str.ofString "ring"
    | _ => Str.ofString "row"
def looseL (f : File) : List Nat := (freeL f.cells).filter fun p => !(chain f).contains p
abbrev sWhole : Str := Str.ofString "whole"
def word (f : File) : Str := if stop f ≠ none then Str.ofString "broken" else if looseL f ≠ [] then Str.ofString "loose" else sWhole
def whole (f : File) : Bool := decide (stop f = none) && decide (looseL f = [])
theorem word_whole (f : File) : (word f == sWhole) = whole f := by
  unfold word whole
  by_cases h : stop f = none
  · rw [if_neg (fun q => q h), decide_eq_true h]
    by_cases h2 : looseL f = []
    · rw [if_neg (fun q => q h2), decide_eq_true h2]
      decide +kernel
    · rw [if_pos h2, decide_eq_false h2]
      decide +kernel
  · rw [if_pos h, decide_eq_false h, Bool.false_and]
    decide +kernel
def dChecked (f : File) : PyData := .tuple [.str (word f), dRows f.cells, dNats (chain f), dNats (looseL f)]
/-- a chain of some places, in order -/
def relink (cs : List Cell) : List Nat → List Cell
  | [] => cs
  | p :: ps => relink (cs.set p (.free ps.head?)) ps
def mendF (f : File) : File := if whole f = true then f else ⟨(freeL f.cells).head?, relink f.cells (freeL f.cells)⟩
inductive What where
  | link (l : Lk) | cell (c : Cell)
  deriving DecidableEq
abbrev Write := Lk × What
def dWh : What → PyData
  | .link l => dL l
  | .cell c => dC c
def dW (w : Write) : PyData := .tuple [dL w.1, dWh w.2]
def dWs (ws : List Write) : List PyData := ws.map dW
/-- the places where two lists of cells differ -/
def diffs (a b : List Cell) (n : Nat) : List Write := ((List.range n).filter fun i => decide (a[i]? ≠ b[i]?)).map fun i => (some i, .cell (a.getD i (.row 0)))
def mendsF (f : File) : List Write := if whole f = true then [] else [(none, .link none)] ++ diffs (mendF f).cells f.cells (mendF f).cells.length ++ [(none, .link (mendF f).head)]
/-! ### facts -/
theorem relink_len : ∀ (ps : List Nat) (cs : List Cell), (relink cs ps).length = cs.length
  | [], _ => rfl
  | p :: ps, cs => by rw [relink, relink_len ps, List.length_set]
theorem mendF_len (f : File) : (mendF f).cells.length = f.cells.length := by
  unfold mendF
  split
  · rfl
  · exact relink_len _ _
theorem freeL_lt {cs : List Cell} {i : Nat} (h : i ∈ freeL cs) : i < cs.length := List.mem_range.mp (List.mem_filter.mp h).1
theorem freeL_head {cs : List Cell} : linkOk cs.length (freeL cs).head? = true := by
  cases e : freeL cs with
  | nil => rfl
  | cons p ps =>
    show decide (p < cs.length) = true
    exact decide_eq_true (freeL_lt (by rw [e]; exact List.mem_cons_self))
theorem relink_ok {n : Nat} : ∀ (ps : List Nat) (cs : List Cell), (∀ p ∈ ps, p < n) → (∀ c ∈ cs, cellOk n c = true) → ∀ c ∈ relink cs ps, cellOk n c = true
  | [], cs, _, h => h
  | p :: ps, cs, hp, h => by
    rw [relink]
    refine relink_ok ps _ (fun q hq => hp q (List.mem_cons_of_mem _ hq)) fun c hc => ?_
    rcases List.mem_or_eq_of_mem_set hc with z | z
    · exact h c z
    · subst z
      show linkOk n ps.head? = true
      cases ps with
      | nil => rfl
      | cons q qs => exact decide_eq_true (hp q (List.mem_cons_of_mem _ List.mem_cons_self))
theorem mendF_fine {f : File} (h : Fine f) : Fine (mendF f) := by
  have hl := mendF_len f
  unfold mendF at hl ⊢
  split
  · exact h
  · rename_i hw
    rw [if_neg hw] at hl
    refine ⟨?_, ?_, ?_⟩
    · show linkOk (relink f.cells (freeL f.cells)).length (freeL f.cells).head? = true
      rw [relink_len]
      exact freeL_head
    · show (relink f.cells (freeL f.cells)).length ≤ 12
      rw [relink_len]
      exact h.few
    · show ∀ c ∈ relink f.cells (freeL f.cells), cellOk (relink f.cells (freeL f.cells)).length c = true
      rw [relink_len]
      exact relink_ok _ _ (fun p hp => freeL_lt hp) h.cells
/-! the walk along the chain -/
/-- places told so far: each once, each free -/
def Told (cs : List Cell) (found : List Nat) : Prop := found.Nodup ∧ ∀ p ∈ found, p < cs.length
theorem Told.len {cs : List Cell} {found : List Nat} (h : Told cs found) : found.length ≤ cs.length := by
  have h2 := List.Nodup.length_le_of_subset h.1 (l₂ := List.range cs.length) fun p hp => List.mem_range.mpr (h.2 p hp)
  rwa [List.length_range] at h2
/-! ### shapes -/
def Shp (n : Nat) (d : PyData) : Prop := d.canLay0 = true ∧ d.depth ≤ n
theorem Shp.shaped {n : Nat} {d : PyData} (h : Shp n d) (hn : n ≤ 64) : SeqAt.shaped d = true := by
  unfold SeqAt.shaped
  rw [h.1, decide_eq_true (Nat.le_trans h.2 hn)]
  rfl
theorem Shp.mono {n m : Nat} {d : PyData} (h : Shp n d) (hn : n ≤ m) : Shp m d := ⟨h.1, Nat.le_trans h.2 hn⟩
theorem canAll : ∀ {ds : List PyData}, (∀ d ∈ ds, d.canLay0 = true) → PyData.canLayAll0 ds = true
  | [], _ => by rw [PyData.canLayAll0]
  | d :: ds, h => by
    rw [PyData.canLayAll0, h d List.mem_cons_self, canAll fun e he => h e (List.mem_cons_of_mem _ he)]
    rfl
theorem depAll {n : Nat} : ∀ {ds : List PyData}, (∀ d ∈ ds, d.depth ≤ n) → PyData.depthAll ds ≤ n
  | [], _ => by rw [PyData.depthAll]; exact Nat.zero_le _
  | d :: ds, h => by
    rw [PyData.depthAll]
    exact Nat.max_le.mpr ⟨h d List.mem_cons_self, depAll fun e he => h e (List.mem_cons_of_mem _ he)⟩
theorem Shp.tuple {n : Nat} {ds : List PyData} (h : ∀ d ∈ ds, Shp n d) : Shp (n + 1) (.tuple ds) := by
  refine ⟨?_, ?_⟩
  · rw [PyData.canLay0]
    exact canAll fun d hd => (h d hd).1
  · rw [PyData.depth]
    exact Nat.succ_le_succ (depAll fun d hd => (h d hd).2)
theorem Shp.list {n : Nat} {ds : List PyData} (h : ∀ d ∈ ds, Shp n d) : Shp (n + 1) (.list ds) := by
  refine ⟨?_, ?_⟩
  · rw [PyData.canLay0]
    exact canAll fun d hd => (h d hd).1
  · rw [PyData.depth]
    exact Nat.succ_le_succ (depAll fun d hd => (h d hd).2)
theorem Shp.none {n : Nat} : Shp n .none := ⟨by rw [PyData.canLay0], by rw [PyData.depth]; exact Nat.zero_le _⟩
theorem Shp.int {n : Nat} {i : Int} : Shp n (.int i) := ⟨by rw [PyData.canLay0], by rw [PyData.depth]; exact Nat.zero_le _⟩
theorem Shp.bool {n : Nat} {i : Bool} : Shp n (.bool i) := ⟨by rw [PyData.canLay0], by rw [PyData.depth]; exact Nat.zero_le _⟩
theorem Shp.str {n : Nat} {x : Str} (h : PyData.strOk x = true) : Shp n (.str x) := ⟨by rw [PyData.canLay0]; exact h, by rw [PyData.depth]; exact Nat.zero_le _⟩
theorem Shp.tup2 {n : Nat} {a b : PyData} (ha : Shp n a) (hb : Shp n b) : Shp (n + 1) (.tuple [a, b]) := .tuple fun d hd => by
  rcases List.mem_cons.mp hd with e | e
  · rw [e]; exact ha
  · rw [List.mem_singleton.mp e]; exact hb
theorem shp_dL {n : Nat} {l : Lk} : Shp n (dL l) := by
  cases l with
  | none => exact .none
  | some i => exact .int
theorem shp_dC (c : Cell) : Shp 1 (dC c) := by
  cases c with
  | row n => exact .tup2 (.str (by decide +kernel)) .int
  | free l => exact .tup2 (.str (by decide +kernel)) shp_dL
theorem shp_cells (cs : List Cell) : Shp 2 (.tuple (cs.map dC)) := .tuple fun d hd => by
  obtain ⟨c, _, rfl⟩ := List.mem_map.mp hd
  exact shp_dC c
theorem shp_dF (f : File) : Shp 3 (dF f) := .tup2 (shp_dL.mono (Nat.zero_le _)) (shp_cells _)
theorem shp_ints (l : List Nat) : Shp 1 (dNats l) := .list fun d hd => by
  obtain ⟨c, _, rfl⟩ := List.mem_map.mp hd
  exact .int
theorem shp_dWh (w : What) : Shp 1 (dWh w) := by
  cases w with
  | link l => exact shp_dL
  | cell c => exact shp_dC c
theorem shp_dW (w : Write) : Shp 2 (dW w) := .tup2 (shp_dL.mono (Nat.zero_le _)) (shp_dWh _)
theorem h_str {x : Str} (h : PyData.strOk x = true) : SeqAt.shaped (.str x) = true := (Shp.str (n := 0) h).shaped (by decide)
theorem h_row : SeqAt.shaped (.str sRow) = true := h_str (by decide +kernel)
theorem h_free : SeqAt.shaped (.str sFree) = true := h_str (by decide +kernel)
theorem h_dL {l : Lk} : SeqAt.shaped (dL l) = true := (shp_dL (n := 0)).shaped (by decide)
theorem h_word (c : Cell) : SeqAt.shaped (.str (wordOf c)) = true := by cases c <;> first | exact h_row | exact h_free
theorem w_rr : (sRow == sRow) = true := by decide +kernel
theorem w_fr : (sFree == sRow) = false := by decide +kernel
theorem w_rf : (sRow == sFree) = false := by decide +kernel
theorem w_ff : (sFree == sFree) = true := by decide +kernel
theorem w_row (c : Cell) : (wordOf c == sRow) = isRow c := by
  cases c with
  | row n => exact w_rr
  | free l => exact w_fr
theorem w_free (c : Cell) : (wordOf c == sFree) = !isRow c := by
  cases c with
  | row n => exact w_rf
  | free l => exact w_ff
/-! ### items -/
theorem atC {cs : List Cell} {i : Nat} {c : Cell} (h : cs[i]? = some c) : atI (cs.map dC) ((i : Nat) : Int) = some (dC c) := atI_nat (by rw [List.getElem?_map, h]; rfl)
theorem atN {l : List Nat} {i : Nat} {c : Nat} (h : l[i]? = some c) : atI (l.map dNat) ((i : Nat) : Int) = some (dNat c) := atI_nat (by rw [List.getElem?_map, h]; rfl)
theorem Fine.at {f : File} (h : Fine f) {i : Nat} (hi : i < f.cells.length) : ∃ c, f.cells[i]? = some c ∧ cellOk f.cells.length c = true :=
  ⟨f.cells[i], List.getElem?_eq_getElem hi, h.cells _ (List.getElem_mem hi)⟩
theorem lt_cast {i n : Nat} : decide ((i : Int) < (n : Int)) = decide (i < n) := by
  rw [Bool.eq_iff_iff, decide_eq_true_iff, decide_eq_true_iff]
  omega
theorem le_cast {i n : Nat} : decide ((i : Int) ≤ (n : Int)) = decide (i ≤ n) := by
  rw [Bool.eq_iff_iff, decide_eq_true_iff, decide_eq_true_iff]
  omega
theorem nn {i : Nat} : decide ((0 : Int) ≤ (i : Int)) = true := decide_eq_true (by omega)
theorem eq_cast {i j : Nat} : ((i : Int) == (j : Int)) = decide (i = j) := by
  rw [Bool.eq_iff_iff, beq_iff_eq, decide_eq_true_iff]
  omega
theorem contains_dNat {l : List Nat} {p : Nat} : ((l.map dNat).any fun z => PyData.eqv z (.int (p : Int))) = l.contains p := by
  induction l with
  | nil => rfl
  | cons a r ih =>
    rw [List.map_cons, List.any_cons, ih, List.contains_cons]
    congr 1
    show PyData.eqv (.int (a : Int)) (.int (p : Int)) = _
    rw [PyData.eqv, eq_cast, Bool.eq_iff_iff, decide_eq_true_iff, beq_iff_eq]
    exact eq_comm
theorem ixN_of {n j : Nat} (h : j < n) : ixN n ((j : Nat) : Int) = some j := by
  unfold ixN
  rw [if_pos (by omega), if_pos (by omega), Int.toNat_natCast]
theorem v_nil {α : Type} {g : α → PyData} {l : List α} : PyData.eqv (.list (l.map g)) (.list []) = l.isEmpty := by
  cases l with
  | nil => rfl
  | cons a r => rfl
theorem h_nil : SeqAt.shaped (.list []) = true := rfl
theorem cast1 {i : Nat} : ((i : Int) + 1) = ((i + 1 : Nat) : Int) := by omega
theorem v_dL {a b : Lk} : PyData.eqv (dL a) (dL b) = decide (a = b) := by
  cases a <;> cases b
  · rfl
  · rfl
  · rfl
  · rename_i x y
    show PyData.eqv (.int (x : Int)) (.int (y : Int)) = _
    rw [PyData.eqv, eq_cast, Bool.eq_iff_iff, decide_eq_true_iff, decide_eq_true_iff]
    exact ⟨fun e => by rw [e], fun e => Option.some.inj e⟩
theorem v_dC {a b : Cell} : PyData.eqv (dC a) (dC b) = decide (a = b) := by
  cases a <;> cases b
  · rename_i x y
    show PyData.eqv (.tuple [.str sRow, .int (x : Int)]) (.tuple [.str sRow, .int (y : Int)]) = _
    simp only [PyData.eqv, PyData.eqvAll, w_rr, eq_cast, Bool.true_and, Bool.and_true]
    rw [Bool.eq_iff_iff, decide_eq_true_iff, decide_eq_true_iff]
    exact ⟨fun e => by rw [e], fun e => by cases e; rfl⟩
  · show PyData.eqv (.tuple [.str sRow, _]) (.tuple [.str sFree, _]) = _
    simp only [PyData.eqv, PyData.eqvAll, w_rf, Bool.false_and]
    exact (decide_eq_false (fun z => by cases z)).symm
  · show PyData.eqv (.tuple [.str sFree, _]) (.tuple [.str sRow, _]) = _
    simp only [PyData.eqv, PyData.eqvAll, w_fr, Bool.false_and]
    exact (decide_eq_false (fun z => by cases z)).symm
  · rename_i x y
    show PyData.eqv (.tuple [.str sFree, dL x]) (.tuple [.str sFree, dL y]) = _
    simp only [PyData.eqv, PyData.eqvAll, w_ff, v_dL, Bool.true_and, Bool.and_true]
    rw [Bool.eq_iff_iff, decide_eq_true_iff, decide_eq_true_iff]
    exact ⟨fun e => by rw [e], fun e => by cases e; rfl⟩
theorem v_mapD {α : Type} [DecidableEq α] {g : α → PyData} (h : ∀ a b, PyData.eqv (g a) (g b) = decide (a = b)) : ∀ {l m : List α}, PyData.eqvAll (l.map g) (m.map g) = decide (l = m)
  | [], [] => rfl
  | [], b :: m => by
    rw [decide_eq_false (fun z => by cases z)]
    rfl
  | a :: l, [] => by
    rw [decide_eq_false (fun z => by cases z)]
    rfl
  | a :: l, b :: m => by
    rw [List.map_cons, List.map_cons, PyData.eqvAll, h, v_mapD h, Bool.eq_iff_iff, Bool.and_eq_true, decide_eq_true_iff, decide_eq_true_iff, decide_eq_true_iff]
    exact ⟨fun ⟨x, y⟩ => by rw [x, y], fun z => by cases z; exact ⟨rfl, rfl⟩⟩
theorem v_dF {a b : File} : PyData.eqv (dF a) (dF b) = decide (a = b) := by
  unfold dF
  rw [PyData.eqv, PyData.eqvAll, PyData.eqvAll, PyData.eqvAll, v_dL, PyData.eqv, v_mapD (fun x y => v_dC), Bool.and_true, Bool.eq_iff_iff, Bool.and_eq_true, decide_eq_true_iff, decide_eq_true_iff, decide_eq_true_iff]
  cases a
  cases b
  exact ⟨fun ⟨x, y⟩ => by simp only at x y; rw [x, y], fun z => by cases z; exact ⟨rfl, rfl⟩⟩
theorem h_dC (c : Cell) : SeqAt.shaped (dC c) = true := (shp_dC c).shaped (by decide)
theorem h_dF (f : File) : SeqAt.shaped (dF f) = true := (shp_dF f).shaped (by decide)
theorem diffs_succ {a b : List Cell} {i : Nat} {c d : Cell} (ha : a[i]? = some c) (hb : b[i]? = some d) : diffs a b (i + 1) = diffs a b i ++ if c = d then [] else [(some i, .cell c)] := by
  unfold diffs
  rw [List.range_succ, List.filter_append, List.map_append]
  congr 1
  rw [List.filter_cons, ha, hb]
  by_cases e : c = d
  · subst e
    rw [if_pos rfl, if_neg (by simp)]
    rfl
  · rw [if_neg e, if_pos (by simpa using e)]
    have hi : i < a.length := (List.getElem?_eq_some_iff.mp ha).1
    show [(some i, What.cell (a.getD i (.row 0)))] = _
    rw [List.getD_eq_getElem?_getD, ha]
    rfl
theorem diffs_len {a b : List Cell} {n : Nat} : (diffs a b n).length ≤ n := by
  unfold diffs
  rw [List.length_map]
  have := List.length_filter_le (fun i => decide (a[i]? ≠ b[i]?)) (List.range n)
  rw [List.length_range] at this
  exact this
/-! ## Deeds -/
abbrev Rule := Bool × Bool
abbrev sHead : Str := Str.ofString "head"
abbrev sSlot : Str := Str.ofString "slot"
def dWd : Bool → PyData
  | true => .str sHead
  | false => .str sSlot
def dRule (r : Rule) : PyData := .tuple [dWd r.1, dWd r.2]
abbrev sTake : Str := Str.ofString "take"
abbrev sGive : Str := Str.ofString "give"
abbrev sMend : Str := Str.ofString "mend"
inductive Deed where
  | take (n : Int) | give (p : Int) | mend | other (w : Str) (n : Int)
  deriving DecidableEq
def dDeed : Deed → PyData
  | .take n => .tuple [.str sTake, .int n]
  | .give n => .tuple [.str sGive, .int n]
  | .mend => .tuple [.str sMend]
  | .other w n => .tuple [.str w, .int n]
def deedOk : Deed → Bool
  | .other w _ => PyData.strOk w && !(w == sTake) && !(w == sGive) && !(w == sMend)
  | _ => true
def inOrder (b : Bool) (h s : Write) : List Write := if b = true then [h, s] else [s, h]
def freeLk (cs : List Cell) (h : Nat) : Lk := match cs[h]? with
  | some (.free l) => l
  | _ => none
def takeW (f : File) (r : Rule) (room n : Nat) : Option (List Write) := match f.head with
  | none => if f.cells.length < room then some [(some f.cells.length, .cell (.row n))] else none
  | some h => some (inOrder r.1 (none, .link (freeLk f.cells h)) (some h, .cell (.row n)))
def writesF (f : File) (r : Rule) (room : Nat) : Deed → Option (List Write)
  | .mend => some (mendsF f)
  | .take n => if 0 ≤ n ∧ n ≤ 999 then takeW f r room n.toNat else none
  | .give p => if 0 ≤ p ∧ p < (f.cells.length : Int) ∧ rowAt f.cells p.toNat = true then some (inOrder r.2 (none, .link (some p.toNat)) (some p.toNat, .cell (.free f.head))) else none
  | .other _ _ => none
def optW : Option (List Write) → Res
  | none => .dat .none
  | some ws => .lst (ws.map dW)
def put (f : File) : Write → File
  | (none, .link l) => ⟨l, f.cells⟩
  | (some p, .cell c) => if p = f.cells.length then ⟨f.head, f.cells ++ [c]⟩ else ⟨f.head, f.cells.set p c⟩
  | _ => f
theorem put_cell {f : File} {p : Nat} {c : Cell} : put f (some p, .cell c) = if p = f.cells.length then ⟨f.head, f.cells ++ [c]⟩ else ⟨f.head, f.cells.set p c⟩ := rfl
theorem put_link {f : File} {l : Lk} : put f (none, .link l) = ⟨l, f.cells⟩ := rfl
/-- a write that can be done upon n cells -/
def wOk (n : Nat) : Write → Bool
  | (none, .link l) => linkOk n l
  | (some p, .cell c) => decide (p < n) && cellOk n c
  | _ => false
/-- .. or a row behind the last one -/
def wEnd (n : Nat) : Write → Bool
  | (some p, .cell (.row k)) => decide (p = n) && decide (n < 12) && decide (k ≤ 999)
  | _ => false
theorem linkOk_mono {n m : Nat} (h : n ≤ m) {l : Lk} (k : linkOk n l = true) : linkOk m l = true := by
  cases l with
  | none => rfl
  | some i => exact decide_eq_true (Nat.lt_of_lt_of_le (of_decide_eq_true k) h)
theorem cellOk_mono {n m : Nat} (h : n ≤ m) {c : Cell} (k : cellOk n c = true) : cellOk m c = true := by
  cases c with
  | row n => exact k
  | free l => exact linkOk_mono h k
theorem put_fine {f : File} {w : Write} (h : Fine f) (hw : wOk f.cells.length w = true) : Fine (put f w) ∧ (put f w).cells.length = f.cells.length := by
  obtain ⟨p, q⟩ := w
  cases p with
  | none =>
    cases q with
    | link l => exact ⟨⟨hw, h.few, h.cells⟩, rfl⟩
    | cell c => cases hw
  | some p =>
    cases q with
    | link l => cases hw
    | cell c =>
      have hw : (decide (p < f.cells.length) && cellOk f.cells.length c) = true := hw
      rw [Bool.and_eq_true, decide_eq_true_iff] at hw
      have e : put f (some p, .cell c) = ⟨f.head, f.cells.set p c⟩ := by
        rw [put_cell, if_neg (by omega)]
      rw [e]
      refine ⟨⟨?_, ?_, ?_⟩, ?_⟩
      · show linkOk (f.cells.set p c).length f.head = true
        rw [List.length_set]
        exact h.head
      · show (f.cells.set p c).length ≤ 12
        rw [List.length_set]
        exact h.few
      · show ∀ d ∈ f.cells.set p c, cellOk (f.cells.set p c).length d = true
        rw [List.length_set]
        intro d hd
        rcases List.mem_or_eq_of_mem_set hd with z | z
        · exact h.cells d z
        · rw [z]; exact hw.2
      · show (f.cells.set p c).length = _
        rw [List.length_set]
theorem putEnd_fine {f : File} {w : Write} (h : Fine f) (hw : wEnd f.cells.length w = true) : Fine (put f w) ∧ (put f w).cells.length = f.cells.length + 1 := by
  obtain ⟨p, q⟩ := w
  cases p with
  | none => cases q <;> cases hw
  | some p =>
    cases q with
    | link l => cases hw
    | cell c =>
      cases c with
      | free l => cases hw
      | row k =>
        have hw : (decide (p = f.cells.length) && decide (f.cells.length < 12) && decide (k ≤ 999)) = true := hw
        rw [Bool.and_eq_true, Bool.and_eq_true, decide_eq_true_iff, decide_eq_true_iff, decide_eq_true_iff] at hw
        obtain ⟨⟨e1, e2⟩, e3⟩ := hw
        have e : put f (some p, .cell (.row k)) = ⟨f.head, f.cells ++ [.row k]⟩ := by
          rw [put_cell, if_pos e1]
        rw [e]
        have el : (f.cells ++ [Cell.row k]).length = f.cells.length + 1 := by rw [List.length_append]; rfl
        refine ⟨⟨?_, ?_, ?_⟩, el⟩
        · show linkOk (f.cells ++ [Cell.row k]).length f.head = true
          rw [el]
          exact linkOk_mono (Nat.le_succ _) h.head
        · show (f.cells ++ [Cell.row k]).length ≤ 12
          omega
        · show ∀ d ∈ f.cells ++ [Cell.row k], cellOk (f.cells ++ [Cell.row k]).length d = true
          rw [el]
          intro d hd
          rcases List.mem_append.mp hd with z | z
          · exact cellOk_mono (Nat.le_succ _) (h.cells d z)
          · rw [List.mem_singleton.mp z]
            exact decide_eq_true e3
/-- the writes of a deed upon n cells -/
def wsOk (n : Nat) (ws : List Write) : Prop := (∀ w ∈ ws, wOk n w = true) ∨ ∃ w, ws = [w] ∧ wEnd n w = true
theorem diffs_ok {a b : List Cell} {n m : Nat} (hl : a.length ≤ m) (h : ∀ c ∈ a, cellOk m c = true) (hn : n ≤ a.length) : ∀ w ∈ diffs a b n, wOk m w = true := fun w hw => by
  unfold diffs at hw
  obtain ⟨i, hi, rfl⟩ := List.mem_map.mp hw
  have hin : i < n := List.mem_range.mp (List.mem_filter.mp hi).1
  show (decide (i < m) && cellOk m (a.getD i (.row 0))) = true
  rw [Bool.and_eq_true, decide_eq_true_iff]
  refine ⟨by omega, ?_⟩
  rw [List.getD_eq_getElem?_getD, List.getElem?_eq_getElem (by omega)]
  exact h _ (List.getElem_mem _)
theorem mendsF_ok {f : File} (h : Fine f) : ∀ w ∈ mendsF f, wOk f.cells.length w = true := by
  unfold mendsF
  split
  · intro w hw
    cases hw
  · intro w hw
    have hf2 := mendF_fine h
    have hl := mendF_len f
    rcases List.mem_append.mp hw with z | z
    · rcases List.mem_append.mp z with y | y
      · rw [List.mem_singleton.mp y]
        rfl
      · exact diffs_ok (by omega) (by rw [← hl]; exact hf2.cells) (Nat.le_refl _) w y
    · rw [List.mem_singleton.mp z]
      show linkOk f.cells.length (mendF f).head = true
      rw [← hl]
      exact hf2.head
theorem freeLk_ok {f : File} (h : Fine f) (p : Nat) : linkOk f.cells.length (freeLk f.cells p) = true := by
  unfold freeLk
  cases e : f.cells[p]? with
  | none => rfl
  | some c =>
    cases c with
    | row n => rfl
    | free l => exact h.cells _ (List.mem_of_getElem? e)
theorem inOrder_mem {b : Bool} {h s w : Write} (hw : w ∈ inOrder b h s) : w = h ∨ w = s := by
  unfold inOrder at hw
  cases b with
  | true =>
    rw [if_pos rfl] at hw
    rcases List.mem_cons.mp hw with z | z
    · exact .inl z
    · exact .inr (List.mem_singleton.mp z)
  | false =>
    rw [if_neg (by decide)] at hw
    rcases List.mem_cons.mp hw with z | z
    · exact .inr z
    · exact .inl (List.mem_singleton.mp z)
theorem writesF_ok {f : File} {r : Rule} {room : Nat} {d : Deed} {ws : List Write} (h : Fine f) (hr : room ≤ 12) (e : writesF f r room d = some ws) : wsOk f.cells.length ws := by
  cases d with
  | mend =>
    cases e
    exact .inl (mendsF_ok h)
  | other w n => cases e
  | give p =>
    have e : (if 0 ≤ p ∧ p < (f.cells.length : Int) ∧ rowAt f.cells p.toNat = true then some (inOrder r.2 (none, .link (some p.toNat)) (some p.toNat, .cell (.free f.head))) else none) = some ws := e
    split at e
    · rename_i hp
      cases e
      refine .inl fun w hw => ?_
      rcases inOrder_mem hw with z | z
      · rw [z]
        exact decide_eq_true (by omega)
      · rw [z]
        show (decide (p.toNat < f.cells.length) && linkOk f.cells.length f.head) = true
        rw [h.head, Bool.and_true]
        exact decide_eq_true (by omega)
    · cases e
  | take n =>
    have e : (if 0 ≤ n ∧ n ≤ 999 then takeW f r room n.toNat else none) = some ws := e
    split at e
    · rename_i hn
      unfold takeW at e
      cases hh : f.head with
      | none =>
        rw [hh] at e
        have e : (if f.cells.length < room then some [((some f.cells.length, .cell (.row n.toNat)) : Write)] else none) = some ws := e
        split at e
        · cases e
          refine .inr ⟨_, rfl, ?_⟩
          show (decide (f.cells.length = f.cells.length) && decide (f.cells.length < 12) && decide (n.toNat ≤ 999)) = true
          rw [decide_eq_true rfl, decide_eq_true (by omega), decide_eq_true (by omega)]
          rfl
        · cases e
      | some p =>
        rw [hh] at e
        have e : some (inOrder r.1 (none, .link (freeLk f.cells p)) (some p, .cell (.row n.toNat))) = some ws := e
        cases e
        refine .inl fun w hw => ?_
        rcases inOrder_mem hw with z | z
        · rw [z]
          exact freeLk_ok h p
        · rw [z]
          have hd := h.head
          rw [hh] at hd
          show (decide (p < f.cells.length) && decide (n.toNat ≤ 999)) = true
          rw [show decide (p < f.cells.length) = true from hd, decide_eq_true (by omega)]
          rfl
    · cases e
theorem foldPut_fine : ∀ {ws : List Write} {f : File}, Fine f → (∀ w ∈ ws, wOk f.cells.length w = true) → Fine (ws.foldl put f) ∧ (ws.foldl put f).cells.length = f.cells.length
  | [], f, h, _ => ⟨h, rfl⟩
  | w :: ws, f, h, hw => by
    obtain ⟨h1, h2⟩ := put_fine h (hw w List.mem_cons_self)
    obtain ⟨h3, h4⟩ := foldPut_fine (ws := ws) h1 fun v hv => by rw [h2]; exact hw v (List.mem_cons_of_mem _ hv)
    exact ⟨h3, by rw [List.foldl_cons, h4, h2]⟩
abbrev Many := Option Int
def dMany : Many → PyData
  | none => .none
  | some i => .int i
abbrev Step := Deed × Many
def dStep (s : Step) : PyData := .tuple [dDeed s.1, dMany s.2]
def isOther : Deed → Bool
  | .other _ _ => true
  | _ => false
def doneF (f : File) (ws : List Write) : Many → Option File
  | none => some (ws.foldl put f)
  | some k => if 0 ≤ k ∧ k ≤ (ws.length : Int) then some ((ws.take k.toNat).foldl put f) else none
def steppedF (f : File) (r : Rule) (room : Nat) (s : Step) : Option File := match writesF f r room s.1 with
  | none => none
  | some ws => doneF f ws s.2
def playedF (f : File) (r : Rule) (room : Nat) : List Step → Option (List File)
  | [] => some []
  | s :: ss => match steppedF f r room s with
    | none => none
    | some g => (playedF g r room ss).map (g :: ·)
theorem wsOk_fold {f : File} {ws : List Write} (h : Fine f) (hw : wsOk f.cells.length ws) : Fine (ws.foldl put f) := by
  rcases hw with hw | ⟨w, rfl, hw⟩
  · exact (foldPut_fine h hw).1
  · exact (putEnd_fine h hw).1
theorem wsOk_take {n k : Nat} {ws : List Write} (hw : wsOk n ws) : wsOk n (ws.take k) := by
  rcases hw with hw | ⟨w, rfl, hw⟩
  · exact .inl fun w h => hw w (List.mem_of_mem_take h)
  · cases k with
    | zero => exact .inl fun w h => by simp at h
    | succ k => exact .inr ⟨w, by simp, hw⟩
theorem doneF_fine {f g : File} {ws : List Write} {m : Many} (h : Fine f) (hw : wsOk f.cells.length ws) (e : doneF f ws m = some g) : Fine g := by
  cases m with
  | none =>
    cases e
    exact wsOk_fold h hw
  | some k =>
    have e : (if 0 ≤ k ∧ k ≤ (ws.length : Int) then some ((ws.take k.toNat).foldl put f) else none) = some g := e
    split at e
    · cases e
      exact wsOk_fold h (wsOk_take hw)
    · cases e
theorem steppedF_fine {f g : File} {r : Rule} {room : Nat} {s : Step} (h : Fine f) (hr : room ≤ 12) (e : steppedF f r room s = some g) : Fine g := by
  unfold steppedF at e
  cases hw : writesF f r room s.1 with
  | none => rw [hw] at e; cases e
  | some ws =>
    rw [hw] at e
    exact doneF_fine h (writesF_ok h hr hw) e
theorem hs_row : SeqAt.shaped (.str (Str.ofString "row")) = true := h_str (by decide +kernel)
theorem ws_row : (Str.ofString "row" == Str.ofString "row") = true := by decide +kernel
theorem hs_free : SeqAt.shaped (.str (Str.ofString "free")) = true := h_str (by decide +kernel)
theorem ws_free : (Str.ofString "free" == Str.ofString "free") = true := by decide +kernel
theorem hs_head : SeqAt.shaped (.str (Str.ofString "head")) = true := h_str (by decide +kernel)
theorem ws_head : (Str.ofString "head" == Str.ofString "head") = true := by decide +kernel
theorem hs_slot : SeqAt.shaped (.str (Str.ofString "slot")) = true := h_str (by decide +kernel)
theorem ws_slot : (Str.ofString "slot" == Str.ofString "slot") = true := by decide +kernel
theorem hs_take : SeqAt.shaped (.str (Str.ofString "take")) = true := h_str (by decide +kernel)
theorem ws_take : (Str.ofString "take" == Str.ofString "take") = true := by decide +kernel
theorem hs_give : SeqAt.shaped (.str (Str.ofString "give")) = true := h_str (by decide +kernel)
theorem ws_give : (Str.ofString "give" == Str.ofString "give") = true := by decide +kernel
theorem hs_mend : SeqAt.shaped (.str (Str.ofString "mend")) = true := h_str (by decide +kernel)
theorem ws_mend : (Str.ofString "mend" == Str.ofString "mend") = true := by decide +kernel
theorem hs_whole : SeqAt.shaped (.str (Str.ofString "whole")) = true := h_str (by decide +kernel)
theorem ws_whole : (Str.ofString "whole" == Str.ofString "whole") = true := by decide +kernel
theorem hs_broken : SeqAt.shaped (.str (Str.ofString "broken")) = true := h_str (by decide +kernel)
theorem ws_broken : (Str.ofString "broken" == Str.ofString "broken") = true := by decide +kernel
theorem hs_loose : SeqAt.shaped (.str (Str.ofString "loose")) = true := h_str (by decide +kernel)
theorem ws_loose : (Str.ofString "loose" == Str.ofString "loose") = true := by decide +kernel
theorem hs_end : SeqAt.shaped (.str (Str.ofString "end")) = true := h_str (by decide +kernel)
theorem ws_end : (Str.ofString "end" == Str.ofString "end") = true := by decide +kernel
theorem hs_ring : SeqAt.shaped (.str (Str.ofString "ring")) = true := h_str (by decide +kernel)
theorem ws_ring : (Str.ofString "ring" == Str.ofString "ring") = true := by decide +kernel
theorem we_take_give : (Str.ofString "take" == Str.ofString "give") = false := by decide +kernel
theorem we_give_take : (Str.ofString "give" == Str.ofString "take") = false := by decide +kernel
theorem we_take_mend : (Str.ofString "take" == Str.ofString "mend") = false := by decide +kernel
theorem we_mend_take : (Str.ofString "mend" == Str.ofString "take") = false := by decide +kernel
theorem we_give_mend : (Str.ofString "give" == Str.ofString "mend") = false := by decide +kernel
theorem we_mend_give : (Str.ofString "mend" == Str.ofString "give") = false := by decide +kernel
theorem we_head_slot : (Str.ofString "head" == Str.ofString "slot") = false := by decide +kernel
theorem we_slot_head : (Str.ofString "slot" == Str.ofString "head") = false := by decide +kernel
theorem we_whole_broken : (Str.ofString "whole" == Str.ofString "broken") = false := by decide +kernel
theorem we_broken_whole : (Str.ofString "broken" == Str.ofString "whole") = false := by decide +kernel
theorem we_whole_loose : (Str.ofString "whole" == Str.ofString "loose") = false := by decide +kernel
theorem we_loose_whole : (Str.ofString "loose" == Str.ofString "whole") = false := by decide +kernel
theorem h_dWd {b : Bool} : SeqAt.shaped (dWd b) = true := by cases b; exact hs_slot; exact hs_head
theorem v_dWdH {b : Bool} : PyData.eqv (dWd b) (.str (Str.ofString "head")) = b := by
  cases b
  · show PyData.eqv (.str (Str.ofString "slot")) _ = _
    rw [v_str, we_slot_head]
  · show PyData.eqv (.str (Str.ofString "head")) _ = _
    rw [v_str, ws_head]
theorem sc_dWd {b : Bool} : isSc (dWd b) = true := by cases b <;> rfl
theorem in_firsts {b : Bool} : ([PyData.str (Str.ofString "head"), .str (Str.ofString "slot")].any fun z => PyData.eqv z (dWd b)) = true := by
  cases b
  · show (PyData.eqv (.str (Str.ofString "head")) (.str (Str.ofString "slot")) || (PyData.eqv (.str (Str.ofString "slot")) (.str (Str.ofString "slot")) || false)) = true
    rw [v_str, v_str, ws_slot]
    simp
  · show (PyData.eqv (.str (Str.ofString "head")) (.str (Str.ofString "head")) || _) = true
    rw [v_str, ws_head]
    rfl
theorem set_split {α : Type} : ∀ {l : List α} {p : Nat} {c : α}, p < l.length → l.take p ++ [c] ++ l.drop (p + 1) = l.set p c
  | [], p, c, h => by simp at h
  | a :: l, 0, c, h => rfl
  | a :: l, p + 1, c, h => by
    have ih := set_split (l := l) (p := p) (c := c) (by simpa using h)
    show a :: (l.take p ++ [c] ++ l.drop (p + 1)) = a :: l.set p c
    rw [ih]
theorem cut_to {α : Type} {l : List α} {p : Nat} (h : p ≤ l.length) : cutD l none (some (p : Int)) = l.take p := by
  unfold cutD
  rw [HT.sIx_nat, HT.sIx_none, Nat.min_eq_left h]
  simp
theorem cut_from {α : Type} {l : List α} {p : Nat} (h : p ≤ l.length) : cutD l (some (p : Int)) none = l.drop p := by
  unfold cutD
  rw [HT.sIx_nat, HT.sIx_none, Nat.min_eq_left h]
  exact List.take_of_length_le (by rw [List.length_drop]; exact Nat.le_refl _)
end SF

/-! ## The law's own def: its row is made first -/
namespace SF
open PySem PySem.Spec PyProof.Rows L2
def spL (K : PySem.W.Frag) : Sp := fun vs H Q _ => ∃ (a : Addr) (ns : List Int), vs = [.ref a] ∧ Only H ∧ SqL K H a (ns.map V.int) ∧ ∀ H', Q (.bl true) H'
section
variable {P : Program} {w : World} {K : PySem.W.Frag} {mg : Str → Option Value} {base : Heap}
theorem law_slot {n : Nat} {i : Nat} {u : Ent} (h : (Ent.no :: .row :: List.replicate n .no)[i]? = some u) : u = .no ∨ (i = 1 ∧ u = .row) := by
  match i with
  | 0 => cases h; exact .inl rfl
  | 1 => cases h; exact .inr ⟨rfl, rfl⟩
  | i + 2 =>
    have h : (List.replicate n Ent.no)[i]? = some u := by simpa using h
    exact .inl (List.eq_of_mem_replicate (List.mem_of_getElem? h))
theorem sat_law {n : Nat} {H : Hp} {a p : Addr} {ns : List Int} (ho : Only H) (hS : SqL K H a (ns.map V.int)) (hp : H p = none) : Sat K ⟨none, H, H⟩ (.no :: .row :: List.replicate n .no) (some (.ref a) :: some (.ref p) :: List.replicate n none) H (upd H p (.lst [.ref a, .int 0, .int 0])) where
  ex1 := .refl _
  ex2 := .new hp
  keep := fun b o h _ _ => Ex.new hp b o h
  tbl := .new hp
  there := fun b h => by
    rw [upd_ne (show b ≠ p from fun e => h (e ▸ hp))]
    exact h
  avoid := fun _ h _ => h
  mrow := fun _ h => by cases h
  mhe := fun _ h => by cases h
  len := by simp
  slot := fun i u o h1 h2 => by
    rcases law_slot h1 with rfl | ⟨rfl, rfl⟩
    · trivial
    · cases h2
      exact ⟨p, rfl, hp, a, ns, 0, 0, upd_same, ScrAt.of hS ho, Int.le_refl _, Int.le_refl _, by decide⟩
  own := fun i u l h1 hm h2 => by
    rcases law_slot h1 with rfl | ⟨rfl, rfl⟩
    · cases hm
    · cases h2
      exact .inl hp
  ne := fun i j u f l hne h1 h2 m1 m2 h3 => by
    rcases law_slot h1 with rfl | ⟨rfl, rfl⟩
    · cases m1
    · rcases law_slot h2 with rfl | ⟨rfl, rfl⟩
      · cases m2
      · exact absurd rfl hne
/-- THE RULE for the law -/
theorem okLaw {x qual : Str} {st : Stmt} {f : Addr} {fd : FuncData} {N : List Str} {k n : Nat} (F : Fun K x qual st f fd) (S : FnScope N ["_law_script"] (defScope st)) (hn : N.length = n + 2)
    (hbody : ∀ (cdv : Value) (A : Around) (outer : List Env) (s : Shared) (H : Hp) (E : XK), Room k (A.deeper (envOfC qual (defScope st) s.heap.objs.size f cdv)) →
      ∃ (st1 : Stmt) (rest : List Stmt) (wS : WS), defBody st = st1 :: rest ∧ PS (cxOf CX0 P w K mg base N qual (defScope st) f cdv A outer s H E).nox st1 (tAsg (tLst (tCons (tVar 0) (tCons (tC (.int 0)) (tCons (tC (.int 0)) tNil)))) (gName 1)) ∧
        PSsI (cxOf CX0 P w K mg base N qual (defScope st) f cdv A outer s H E).nox ⟨XR0, E⟩ rest wS ∧ wS (.no :: .row :: List.replicate n .no) (endP (fun r => r = .dat (.bool true)) (fun _ => False))) : FnOk P w K mg base CX0 (k + 1) f fd ["_law_script"] (spL K) :=
  F.ok S (fun vs H Q E ⟨a, ns, e, _⟩ => by rw [e]; rfl) fun cdv A outer s H vs Q E hr ⟨a, ns, e, ho, hS, q⟩ => by
    obtain ⟨st1, rest, wS, e1, h1, h2, hw⟩ := hbody cdv A outer s H E hr
    subst e
    rw [e1]
    refine ⟨_, pss_cons h1 h2, ?_⟩
    rw [start_len (n := n + 1) (by rw [hn]; show n + 2 = 1 + (n + 1); omega)]
    refine ⟨.ref a, rfl, (by show 3 ≤ sizeLine; decide), fun p hp => ?_⟩
    refine ⟨⟨none, H, H⟩, _, H, _, sat_law ho hS hp, hw, post_end (fun v r G' H' _ o e => ?_) fun _ _ _ _ _ _ _ h => h.elim⟩
    subst e
    have o : Im K G' (.bool true) v := o
    rw [im_bool] at o
    subst o
    exact q H'
end
end SF

/-! ## Chains, mending: plain laws -/
namespace SF
open PySem PySem.Spec PyProof.Rows L2
/-- from l the places ps in order, then the end -/
def Links (cs : List Cell) : Lk → List Nat → Prop
  | l, [] => l = none
  | l, p :: ps => l = some p ∧ ∃ m, cs[p]? = some (.free m) ∧ Links cs m ps
theorem Links.mono {cs cs' : List Cell} : ∀ {ps : List Nat} {l : Lk}, Links cs l ps → (∀ i ∈ ps, cs'[i]? = cs[i]?) → Links cs' l ps
  | [], l, h, _ => h
  | p :: ps, l, ⟨e, m, hm, h⟩, q => ⟨e, m, by rw [q p List.mem_cons_self]; exact hm, h.mono fun i hi => q i (List.mem_cons_of_mem _ hi)⟩
theorem Links.walk {cs : List Cell} : ∀ {ps : List Nat} {l : Lk} {k : Nat} {found : List Nat}, Links cs l ps → (found ++ ps).Nodup → ps.length ≤ k → SF.walk cs k found l = (found ++ ps, none)
  | [], l, k, found, h, _, _ => by
    cases h
    rw [List.append_nil]
    cases k <;> rfl
  | p :: ps, l, 0, found, h, _, hk => by simp at hk
  | p :: ps, l, k + 1, found, ⟨e, m, hm, h⟩, nd, hk => by
    subst e
    rw [SF.walk, hm]
    have hp : found.contains p = false := by
      rw [Bool.eq_false_iff]
      intro z
      rw [List.contains_iff_mem] at z
      rw [List.nodup_append] at nd
      exact nd.2.2 p z p List.mem_cons_self rfl
    show (if found.contains p = true then _ else _) = _
    rw [if_neg (by rw [hp]; decide), Links.walk h (by rw [List.append_assoc]; exact nd) (by simpa using hk), List.append_assoc]
    rfl
theorem nodup_le {n : Nat} {ps : List Nat} (nd : ps.Nodup) (h : ∀ p ∈ ps, p < n) : ps.length ≤ n := by
  have h2 := List.Nodup.length_le_of_subset nd (l₂ := List.range n) fun p hp => List.mem_range.mpr (h p hp)
  rwa [List.length_range] at h2
theorem Links.lt {cs : List Cell} : ∀ {ps : List Nat} {l : Lk}, Links cs l ps → ∀ p ∈ ps, p < cs.length
  | p :: ps, l, ⟨e, m, hm, h⟩, q, hq => by
    rcases List.mem_cons.mp hq with z | z
    · rw [z]
      exact (List.getElem?_eq_some_iff.mp hm).1
    · exact h.lt q z
theorem Links.gone {f : File} {ps : List Nat} (h : Links f.cells f.head ps) (nd : ps.Nodup) : gone f = (ps, none) := by
  unfold SF.gone
  have hl := nodup_le nd h.lt
  rw [Links.walk h (by rw [List.nil_append]; exact nd) (by omega)]
  rfl
/-- and the other way -/
theorem walk_links {cs : List Cell} : ∀ {k : Nat} {found : List Nat} {l : Lk}, found.Nodup → (walk cs k found l).2 = none → ∃ ps, Links cs l ps ∧ (found ++ ps).Nodup ∧ (walk cs k found l).1 = found ++ ps
  | 0, found, l, nd, h => by
    cases h
    exact ⟨[], rfl, by rw [List.append_nil]; exact nd, by rw [List.append_nil]; rfl⟩
  | k + 1, found, none, nd, h => ⟨[], rfl, by rw [List.append_nil]; exact nd, by rw [List.append_nil]; rfl⟩
  | k + 1, found, some p, nd, h => by
    rw [walk] at h ⊢
    cases hc : cs[p]? with
    | none => rw [hc] at h; cases h
    | some c =>
      rw [hc] at h
      cases c with
      | row n => cases h
      | free l =>
        have h : (if found.contains p = true then (found, some p) else walk cs k (found ++ [p]) l).2 = none := h
        show ∃ ps, _ ∧ _ ∧ (if found.contains p = true then (found, some p) else walk cs k (found ++ [p]) l).1 = _
        by_cases q : found.contains p = true
        · rw [if_pos q] at h
          cases h
        · rw [if_neg q] at h ⊢
          have nd2 : (found ++ [p]).Nodup := by
            rw [List.nodup_append]
            refine ⟨nd, by simp, fun a ha b hb e => ?_⟩
            rw [List.mem_singleton] at hb
            subst hb
            subst e
            exact q (List.contains_iff_mem.mpr ha)
          obtain ⟨ps, h1, h2, h3⟩ := walk_links nd2 h
          exact ⟨p :: ps, ⟨rfl, l, hc, h1⟩, by rw [List.append_assoc] at h2; exact h2, by rw [h3, List.append_assoc]; rfl⟩
theorem stop_links {f : File} (h : stop f = none) : Links f.cells f.head (chain f) ∧ (chain f).Nodup := by
  obtain ⟨ps, h1, h2, h3⟩ := walk_links (cs := f.cells) (k := f.cells.length + 1) (found := []) (l := f.head) List.nodup_nil h
  have e : chain f = ps := h3
  rw [e]
  exact ⟨h1, h2⟩
/-! ### relinking -/
theorem relink_out : ∀ {ps : List Nat} {cs : List Cell} {i : Nat}, i ∉ ps → (relink cs ps)[i]? = cs[i]?
  | [], cs, i, _ => rfl
  | p :: ps, cs, i, h => by
    rw [List.mem_cons, not_or] at h
    rw [relink, relink_out h.2, List.getElem?_set_ne (Ne.symm h.1)]
theorem relink_links : ∀ {ps : List Nat} {cs : List Cell}, ps.Nodup → (∀ p ∈ ps, p < cs.length) → Links (relink cs ps) ps.head? ps
  | [], cs, _, _ => rfl
  | p :: ps, cs, nd, h => by
    rw [List.nodup_cons] at nd
    refine ⟨rfl, ps.head?, ?_, ?_⟩
    · rw [relink, relink_out nd.1, List.getElem?_set_self (h p List.mem_cons_self)]
    · rw [relink]
      exact relink_links nd.2 fun q hq => by rw [List.length_set]; exact h q (List.mem_cons_of_mem _ hq)
theorem relink_congr : ∀ {ps : List Nat} {cs cs' : List Cell}, cs.length = cs'.length → (∀ i, i ∉ ps → cs[i]? = cs'[i]?) → relink cs ps = relink cs' ps
  | [], cs, cs', hl, h => List.ext_getElem? fun i => h i (by simp)
  | p :: ps, cs, cs', hl, h => by
    rw [relink, relink]
    refine relink_congr (by rw [List.length_set, List.length_set, hl]) fun i hi => ?_
    rw [List.getElem?_set, List.getElem?_set, hl]
    by_cases q : p = i
    · rw [if_pos q, if_pos q]
    · rw [if_neg q, if_neg q]
      exact h i fun z => by
        rcases List.mem_cons.mp z with y | y
        · exact q y.symm
        · exact hi y
theorem freeL_nodup {cs : List Cell} : (freeL cs).Nodup := List.Pairwise.filter _ List.nodup_range
theorem mem_freeL {cs : List Cell} {i : Nat} : i ∈ freeL cs ↔ freeAt cs i = true := by
  unfold freeL
  rw [List.mem_filter, List.mem_range]
  refine ⟨fun h => h.2, fun h => ⟨?_, h⟩⟩
  unfold freeAt at h
  cases e : cs[i]? with
  | none => rw [e] at h; cases h
  | some c => exact (List.getElem?_eq_some_iff.mp e).1
/-- free where the other is free, else the same -/
structure Sim (cs b : List Cell) : Prop where
  len : cs.length = b.length
  out : ∀ i, i ∉ freeL b → cs[i]? = b[i]?
  inn : ∀ i, i ∈ freeL b → freeAt cs i = true
theorem Sim.refl (b : List Cell) : Sim b b := ⟨rfl, fun _ _ => rfl, fun _ h => mem_freeL.mp h⟩
theorem Sim.freeAt {cs b : List Cell} (h : Sim cs b) (i : Nat) : freeAt cs i = freeAt b i := by
  by_cases q : i ∈ freeL b
  · rw [h.inn i q, mem_freeL.mp q]
  · unfold SF.freeAt
    rw [h.out i q]
theorem Sim.freeL {cs b : List Cell} (h : Sim cs b) : freeL cs = freeL b := by
  unfold SF.freeL
  rw [h.len, show SF.freeAt cs = SF.freeAt b from funext h.freeAt]
theorem Sim.rowAt {cs b : List Cell} (h : Sim cs b) (i : Nat) : rowAt cs i = rowAt b i := by
  by_cases q : i ∈ SF.freeL b
  · have h1 := h.inn i q
    have h2 := mem_freeL.mp q
    unfold SF.freeAt at h1 h2
    unfold SF.rowAt
    cases e1 : cs[i]? with
    | none => rw [e1] at h1; cases h1
    | some c =>
      rw [e1] at h1
      cases e2 : b[i]? with
      | none => rw [e2] at h2; cases h2
      | some d =>
        rw [e2] at h2
        cases c with
        | row n => cases h1
        | free l =>
          cases d with
          | row n => cases h2
          | free m => rfl
  · unfold SF.rowAt
    rw [h.out i q]
theorem row_not_free {cs : List Cell} {i : Nat} (h : rowAt cs i = true) : i ∉ freeL cs := fun z => by
  have z := mem_freeL.mp z
  unfold freeAt at z
  unfold rowAt at h
  cases e : cs[i]? with
  | none => rw [e] at z; cases z
  | some c => rw [e] at z h; cases c with
    | row n => cases z
    | free l => cases h
theorem Sim.rows {cs b : List Cell} (h : Sim cs b) : dRows cs = dRows b := by
  have e : rowsL cs = rowsL b := by
    unfold rowsL
    rw [h.len, show SF.rowAt cs = SF.rowAt b from funext h.rowAt]
  unfold dRows
  rw [e]
  refine congrArg PyData.list (List.map_congr_left fun i hi => ?_)
  have hr : SF.rowAt b i = true := (List.mem_filter.mp hi).2
  unfold dRow numAt
  rw [h.out i (row_not_free hr)]
theorem Sim.relink {cs b : List Cell} (h : Sim cs b) : relink cs (SF.freeL cs) = SF.relink b (SF.freeL b) := by
  rw [h.freeL]
  exact relink_congr h.len h.out
theorem links_free {cs : List Cell} : ∀ {ps : List Nat} {l : Lk}, Links cs l ps → ∀ p ∈ ps, freeAt cs p = true
  | p :: ps, l, ⟨e, m, hm, h⟩, q, hq => by
    rcases List.mem_cons.mp hq with z | z
    · rw [z]
      unfold freeAt
      rw [hm]
    · exact links_free h q z
theorem sim_relink (b : List Cell) : Sim (relink b (freeL b)) b :=
  ⟨relink_len _ _, fun i h => relink_out h, fun i h => links_free (relink_links freeL_nodup fun p hp => freeL_lt hp) i h⟩
/-- writes that put cells of a into b -/
theorem sim_put {a b cs : List Cell} {l : Lk} {i : Nat} (h : Sim cs b) (ha : Sim a b) (hi : i < a.length) : ∃ cs', put ⟨l, cs⟩ (some i, .cell (a.getD i (.row 0))) = ⟨l, cs'⟩ ∧ Sim cs' b ∧ cs' = cs.set i (a.getD i (.row 0)) := by
  have hlen : i < cs.length := by rw [h.len, ← ha.len]; exact hi
  have hg : a[i]? = some (a.getD i (.row 0)) := by
    rw [List.getD_eq_getElem?_getD, List.getElem?_eq_getElem hi]
    rfl
  refine ⟨cs.set i (a.getD i (.row 0)), by rw [put_cell]; show (if i = cs.length then _ else _) = _; rw [if_neg (by omega)], ⟨by rw [List.length_set, h.len], fun j hj => ?_, fun j hj => ?_⟩, rfl⟩
  · rw [List.getElem?_set]
    by_cases q : i = j
    · rw [if_pos q, if_pos hlen, ← hg, q]
      exact ha.out j hj
    · rw [if_neg q]
      exact h.out j hj
  · unfold SF.freeAt
    rw [List.getElem?_set]
    by_cases q : i = j
    · rw [if_pos q, if_pos hlen, ← hg, q]
      exact ha.inn j hj
    · rw [if_neg q]
      exact h.inn j hj
theorem sim_fold {a b : List Cell} (ha : Sim a b) {l : Lk} : ∀ {js : List Nat} {cs : List Cell}, Sim cs b → (∀ i ∈ js, i < a.length) →
    ∃ cs', (js.map fun i => ((some i, .cell (a.getD i (.row 0))) : Write)).foldl put ⟨l, cs⟩ = ⟨l, cs'⟩ ∧ Sim cs' b ∧ ∀ i, cs'[i]? = if i ∈ js then a[i]? else cs[i]?
  | [], cs, h, _ => ⟨cs, rfl, h, fun i => by simp⟩
  | j :: js, cs, h, hj => by
    obtain ⟨c1, e1, h1, e2⟩ := sim_put (l := l) h ha (hj j List.mem_cons_self)
    obtain ⟨c2, e3, h2, e4⟩ := sim_fold ha (l := l) (js := js) h1 fun i hi => hj i (List.mem_cons_of_mem _ hi)
    refine ⟨c2, by rw [List.map_cons, List.foldl_cons, e1, e3], h2, fun i => ?_⟩
    rw [e4 i]
    by_cases q : i ∈ js
    · rw [if_pos q, if_pos (List.mem_cons_of_mem _ q)]
    · rw [if_neg q, e2, List.getElem?_set]
      by_cases q2 : j = i
      · subst q2
        have hja := hj j List.mem_cons_self
        rw [if_pos rfl, if_pos (by rw [h.len, ← ha.len]; exact hja), if_pos List.mem_cons_self, List.getD_eq_getElem?_getD, List.getElem?_eq_getElem hja]
        rfl
      · rw [if_neg q2, if_neg]
        exact fun z => by
          rcases List.mem_cons.mp z with y | y
          · exact q2 y.symm
          · exact q y
/-- what a mending leaves at any place of its writes -/
theorem mend_cases {f : File} (hw : whole f = false) {k : Nat} (hk : k ≤ (mendsF f).length) : ((mendsF f).take k).foldl put f = f ∧ k = 0 ∨ (∃ cs, ((mendsF f).take k).foldl put f = ⟨none, cs⟩ ∧ Sim cs f.cells ∧ 0 < k ∧ k < (mendsF f).length) ∨ ((mendsF f).take k).foldl put f = mendF f ∧ k = (mendsF f).length := by
  have em : mendsF f = (none, .link none) :: (diffs (mendF f).cells f.cells (mendF f).cells.length ++ [(none, .link (mendF f).head)]) := by
    unfold mendsF
    rw [if_neg (by rw [hw]; decide)]
    rfl
  have hc : (mendF f).cells = relink f.cells (freeL f.cells) := by
    unfold mendF
    rw [if_neg (by rw [hw]; decide)]
  have ha : Sim (mendF f).cells f.cells := by rw [hc]; exact sim_relink _
  have hlt : ∀ i ∈ (List.range (mendF f).cells.length).filter (fun i => decide ((mendF f).cells[i]? ≠ f.cells[i]?)), i < (mendF f).cells.length := fun i hi => List.mem_range.mp (List.mem_filter.mp hi).1
  rw [em] at hk ⊢
  cases k with
  | zero => exact .inl ⟨rfl, rfl⟩
  | succ k =>
    right
    rw [List.take_succ_cons, List.foldl_cons, put_link]
    generalize hD : diffs (mendF f).cells f.cells (mendF f).cells.length = D at hk ⊢
    unfold diffs at hD
    by_cases q : k ≤ D.length
    · left
      rw [List.take_append_of_le_length q, ← hD, ← List.map_take]
      obtain ⟨cs, e1, e2, _⟩ := sim_fold ha (l := none) (js := ((List.range (mendF f).cells.length).filter (fun i => decide ((mendF f).cells[i]? ≠ f.cells[i]?))).take k) (Sim.refl f.cells) fun i hi => hlt i (List.mem_of_mem_take hi)
      refine ⟨cs, e1, e2, Nat.succ_pos _, ?_⟩
      rw [hD, List.length_cons, List.length_append]
      show k + 1 < D.length + 1 + 1
      omega
    · right
      have ek : k = D.length + 1 := by
        rw [List.length_cons, List.length_append] at hk
        have hk : k + 1 ≤ D.length + 1 + 1 := hk
        omega
      rw [List.take_of_length_le (by rw [List.length_append, ek]; exact Nat.le_refl _), List.foldl_append, ← hD]
      obtain ⟨cs, e1, e2, e3⟩ := sim_fold ha (l := none) (js := ((List.range (mendF f).cells.length).filter (fun i => decide ((mendF f).cells[i]? ≠ f.cells[i]?)))) (Sim.refl f.cells) hlt
      refine ⟨?_, ?_⟩
      · rw [e1]
        show (⟨(mendF f).head, cs⟩ : File) = mendF f
        have ec : cs = (mendF f).cells := List.ext_getElem? fun i => by
          rw [e3 i]
          by_cases q1 : i < (mendF f).cells.length
          · by_cases q2 : (mendF f).cells[i]? = f.cells[i]?
            · rw [if_neg (show ¬ i ∈ _ from fun z => absurd q2 (of_decide_eq_true (p := (mendF f).cells[i]? ≠ f.cells[i]?) (List.mem_filter.mp z).2)), q2]
            · rw [if_pos (List.mem_filter.mpr ⟨List.mem_range.mpr q1, decide_eq_true q2⟩)]
          · rw [if_neg (fun z => q1 (List.mem_range.mp (List.mem_filter.mp z).1)), List.getElem?_eq_none (by rw [mendF_len] at q1; omega), List.getElem?_eq_none (by omega)]
        rw [ec]
      · rw [hD, ek, List.length_cons, List.length_append]
        rfl
theorem mendF_links {f : File} (hw : whole f = false) : Links (mendF f).cells (mendF f).head (freeL f.cells) := by
  unfold mendF
  rw [if_neg (by rw [hw]; decide)]
  exact relink_links freeL_nodup fun p hp => freeL_lt hp
theorem mendF_whole (f : File) : whole (mendF f) = true := by
  cases hw : whole f with
  | true =>
    unfold mendF
    rw [if_pos hw]
    exact hw
  | false =>
    have hl := mendF_links hw
    have hg := hl.gone freeL_nodup
    have hs : Sim (mendF f).cells f.cells := by
      unfold mendF
      rw [if_neg (by rw [hw]; decide)]
      exact sim_relink _
    unfold whole looseL stop chain
    rw [hg, hs.freeL, decide_eq_true rfl, Bool.true_and]
    refine decide_eq_true (List.filter_eq_nil_iff.mpr fun p hp => ?_)
    rw [show (freeL f.cells).contains p = true from List.contains_iff_mem.mpr hp]
    decide
theorem whole_stop {f : File} (h : whole f = true) : stop f = none := by
  unfold whole at h
  rw [Bool.and_eq_true] at h
  exact of_decide_eq_true h.1
theorem mendF_of {g : File} (h : whole g = true) : mendF g = g := by
  unfold mendF
  rw [if_pos h]
theorem mend_law {f : File} {k : Nat} (hk : k ≤ (mendsF f).length) : dRows (((mendsF f).take k).foldl put f).cells = dRows f.cells ∧ (0 < k → stop (((mendsF f).take k).foldl put f) = none) ∧
    mendF (((mendsF f).take k).foldl put f) = (if whole (((mendsF f).take k).foldl put f) = true then ((mendsF f).take k).foldl put f else mendF f) ∧ (k = (mendsF f).length → ((mendsF f).take k).foldl put f = mendF f) := by
  cases hw : whole f with
  | true =>
    have e : mendsF f = [] := by
      unfold mendsF
      rw [if_pos hw]
    have em : mendF f = f := by
      unfold mendF
      rw [if_pos hw]
    rw [e] at hk ⊢
    have hk : k ≤ 0 := hk
    have hk : k = 0 := by omega
    subst hk
    refine ⟨rfl, fun h => absurd h (by decide), ?_, fun _ => em.symm⟩
    show mendF f = if whole f = true then f else mendF f
    rw [if_pos hw, em]
  | false =>
    have hself : mendF (mendF f) = mendF f := by
      exact mendF_of (mendF_whole f)
    rcases mend_cases hw hk with ⟨e, e0⟩ | ⟨cs, e, hs, h0, hlt⟩ | ⟨e, e0⟩
    · rw [e]
      refine ⟨rfl, fun h => by omega, ?_, fun h => ?_⟩
      · rw [if_neg (by rw [hw]; decide)]
      · exfalso
        have hz : 0 < (mendsF f).length := by
          unfold mendsF
          rw [if_neg (by rw [hw]; decide)]
          simp
        omega
    · rw [e]
      refine ⟨hs.rows, fun _ => ?_, ?_, fun h => by omega⟩
      · unfold stop gone
        rfl
      · by_cases q : whole ⟨none, cs⟩ = true
        · rw [if_pos q]
          unfold mendF
          rw [if_pos q]
        · rw [if_neg q]
          unfold mendF
          rw [if_neg q, if_neg (by rw [hw]; decide)]
          show (⟨(freeL cs).head?, relink cs (freeL cs)⟩ : File) = _
          rw [hs.relink, hs.freeL]
    · rw [e]
      refine ⟨?_, fun _ => whole_stop (mendF_whole f), ?_, fun _ => rfl⟩
      · have hs : Sim (mendF f).cells f.cells := by
          unfold mendF
          rw [if_neg (by rw [hw]; decide)]
          exact sim_relink _
        exact hs.rows
      · rw [if_pos (mendF_whole f), hself]
theorem we_loose_broken : (Str.ofString "loose" == Str.ofString "broken") = false := by decide +kernel
theorem we_broken_loose : (Str.ofString "broken" == Str.ofString "loose") = false := by decide +kernel
theorem shp_ws (ws : List Write) : Shp 3 (.list (ws.map dW)) := .list fun d hd => by
  obtain ⟨c, _, rfl⟩ := List.mem_map.mp hd
  exact shp_dW c
theorem shp_rows (cs : List Cell) : Shp 2 (dRows cs) := .list fun d hd => by
  obtain ⟨c, _, rfl⟩ := List.mem_map.mp hd
  exact .tup2 .int .int
theorem mends_few {f : File} (h : Fine f) : (mendsF f).length ≤ 14 := by
  unfold mendsF
  split
  · simp
  · have h1 := diffs_len (a := (mendF f).cells) (b := f.cells) (n := (mendF f).cells.length)
    have h2 := mendF_len f
    have h3 := h.few
    rw [List.length_append, List.length_append]
    show 1 + _ + 1 ≤ 14
    omega
theorem word_broken {f : File} : (word f == Str.ofString "broken") = decide (stop f ≠ none) := by
  unfold word
  by_cases h : stop f = none
  · rw [if_neg (fun q => q h), decide_eq_false (fun q => q h)]
    split
    · exact we_loose_broken
    · exact we_whole_broken
  · rw [if_pos h, decide_eq_true h]
    exact ws_broken
theorem h_wordF {f : File} : SeqAt.shaped (.str (word f)) = true := by
  unfold word
  split
  · exact hs_broken
  · split
    · exact hs_loose
    · exact hs_whole
theorem eqv_ws {ws : List Write} : PyData.eqv (.list (ws.map dW)) (.list (ws.map dW)) = true := SeqAt.eqv_refl _ (shp_ws ws).1
theorem eqv_rows {cs : List Cell} : PyData.eqv (dRows cs) (dRows cs) = true := SeqAt.eqv_refl _ (shp_rows cs).1
theorem h_ws {ws : List Write} : SeqAt.shaped (.list (ws.map dW)) = true := (shp_ws ws).shaped (by decide)
theorem h_rows {cs : List Cell} : SeqAt.shaped (dRows cs) = true := (shp_rows cs).shaped (by decide)
theorem stepped_mend {f : File} {r : Rule} {n k : Nat} (hk : k ≤ (mendsF f).length) : playedF f r n [(.mend, some (k : Int))] = some [((mendsF f).take k).foldl put f] := by
  have e : steppedF f r n (.mend, some (k : Int)) = some (((mendsF f).take k).foldl put f) := by
    show (if 0 ≤ (k : Int) ∧ (k : Int) ≤ ((mendsF f).length : Int) then some (((mendsF f).take (k : Int).toNat).foldl put f) else none) = _
    rw [if_pos ⟨by omega, by omega⟩, Int.toNat_natCast]
  unfold playedF
  rw [e]
  rfl
end SF

/-! ## Deeds that are never stopped -/
namespace SF
open PySem PySem.Spec PyProof.Rows L2
theorem whole_links {f : File} (h : whole f = true) : Links f.cells f.head (chain f) ∧ (chain f).Nodup ∧ ∀ i, freeAt f.cells i = true → i ∈ chain f := by
  obtain ⟨h1, h2⟩ := stop_links (whole_stop h)
  refine ⟨h1, h2, fun i hi => ?_⟩
  unfold whole at h
  rw [Bool.and_eq_true] at h
  have h3 : looseL f = [] := of_decide_eq_true h.2
  have h4 := List.filter_eq_nil_iff.mp h3 i (mem_freeL.mpr hi)
  cases q : (chain f).contains i with
  | true => exact List.contains_iff_mem.mp q
  | false => rw [q] at h4; exact absurd rfl h4
theorem whole_of {f : File} {ps : List Nat} (h : Links f.cells f.head ps) (nd : ps.Nodup) (hf : ∀ i, freeAt f.cells i = true → i ∈ ps) : whole f = true := by
  unfold whole looseL stop chain
  rw [h.gone nd, decide_eq_true rfl, Bool.true_and]
  refine decide_eq_true (List.filter_eq_nil_iff.mpr fun p hp => ?_)
  rw [show ps.contains p = true from List.contains_iff_mem.mpr (hf p (mem_freeL.mp hp))]
  decide
theorem put_two {f : File} {b : Bool} {l : Lk} {p : Nat} {c : Cell} (hp : p < f.cells.length) : (inOrder b (none, .link l) (some p, .cell c)).foldl put f = ⟨l, f.cells.set p c⟩ := by
  unfold inOrder
  cases b with
  | true =>
    rw [if_pos rfl]
    show put (put f (none, .link l)) (some p, .cell c) = _
    rw [put_link, put_cell]
    show (if p = f.cells.length then _ else (⟨l, f.cells.set p c⟩ : File)) = _
    rw [if_neg (by omega)]
  | false =>
    rw [if_neg (by decide)]
    show put (put f (some p, .cell c)) (none, .link l) = _
    rw [put_cell, if_neg (by omega), put_link]
/-- what a whole deed leaves: no rule in it -/
theorem writes_rule {f : File} {r : Rule} {room : Nat} {d : Deed} {ws : List Write} (hf : Fine f) (h : writesF f r room d = some ws) (r' : Rule) : ∃ ws', writesF f r' room d = some ws' ∧ ws'.foldl put f = ws.foldl put f := by
  cases d with
  | mend => cases h; exact ⟨_, rfl, rfl⟩
  | other w n => cases h
  | give p =>
    have h : (if 0 ≤ p ∧ p < (f.cells.length : Int) ∧ rowAt f.cells p.toNat = true then some (inOrder r.2 (none, .link (some p.toNat)) (some p.toNat, .cell (.free f.head))) else none) = some ws := h
    split at h
    · rename_i hp
      cases h
      refine ⟨_, if_pos hp, ?_⟩
      rw [put_two (by omega), put_two (by omega)]
    · cases h
  | take n =>
    have h : (if 0 ≤ n ∧ n ≤ 999 then takeW f r room n.toNat else none) = some ws := h
    split at h
    · rename_i hn
      show ∃ ws', (if 0 ≤ n ∧ n ≤ 999 then takeW f r' room n.toNat else none) = some ws' ∧ _
      rw [if_pos hn]
      unfold takeW at h ⊢
      cases hh : f.head with
      | none =>
        rw [hh] at h
        exact ⟨ws, h, rfl⟩
      | some p =>
        rw [hh] at h
        have h : some (inOrder r.1 (none, .link (freeLk f.cells p)) (some p, .cell (.row n.toNat))) = some ws := h
        cases h
        have hp : p < f.cells.length := of_decide_eq_true (by have := hf.head; rw [hh] at this; exact this)
        exact ⟨_, rfl, by rw [put_two hp, put_two hp]⟩
    · cases h
theorem free_set {cs : List Cell} {p i : Nat} {c : Cell} (h : freeAt (cs.set p c) i = true) : i = p ∨ freeAt cs i = true := by
  by_cases q : p = i
  · exact .inl q.symm
  · right
    unfold freeAt at h ⊢
    rw [List.getElem?_set_ne q] at h
    exact h
theorem free_set_row {cs : List Cell} {p i n : Nat} (h : freeAt (cs.set p (.row n)) i = true) : i ≠ p ∧ freeAt cs i = true := by
  by_cases q : p = i
  · subst q
    unfold freeAt at h
    rw [List.getElem?_set] at h
    rw [if_pos rfl] at h
    by_cases k : p < cs.length
    · rw [if_pos k] at h; cases h
    · rw [if_neg k] at h; cases h
  · refine ⟨fun e => q e.symm, ?_⟩
    unfold freeAt at h ⊢
    rw [List.getElem?_set_ne q] at h
    exact h
/-- giving back a row -/
theorem give_links {f : File} {p : Nat} (hw : whole f = true) (hp : rowAt f.cells p = true) : Links (f.cells.set p (.free f.head)) (some p) (p :: chain f) ∧ (p :: chain f).Nodup ∧ ∀ i, freeAt (f.cells.set p (.free f.head)) i = true → i ∈ p :: chain f := by
  obtain ⟨h1, h2, h3⟩ := whole_links hw
  have hpl : p < f.cells.length := by
    unfold rowAt at hp
    cases e : f.cells[p]? with
    | none => rw [e] at hp; cases hp
    | some c => exact (List.getElem?_eq_some_iff.mp e).1
  have hpc : p ∉ chain f := fun z => row_not_free hp (mem_freeL.mpr (links_free h1 p z))
  refine ⟨⟨rfl, f.head, List.getElem?_set_self hpl, h1.mono fun i hi => List.getElem?_set_ne (show p ≠ i from fun e => hpc (by rw [e]; exact hi))⟩, List.nodup_cons.mpr ⟨hpc, h2⟩, fun i hi => ?_⟩
  rcases free_set hi with z | z
  · rw [z]; exact List.mem_cons_self
  · exact List.mem_cons_of_mem _ (h3 i z)
theorem whole_deed {f : File} {r : Rule} {room : Nat} {d : Deed} {ws : List Write} (hf : Fine f) (hw : whole f = true) (h : writesF f r room d = some ws) : whole (ws.foldl put f) = true := by
  cases d with
  | mend =>
    cases h
    have e : mendsF f = [] := by
      unfold mendsF
      rw [if_pos hw]
    rw [e]
    exact hw
  | other w n => cases h
  | give p =>
    have h : (if 0 ≤ p ∧ p < (f.cells.length : Int) ∧ rowAt f.cells p.toNat = true then some (inOrder r.2 (none, .link (some p.toNat)) (some p.toNat, .cell (.free f.head))) else none) = some ws := h
    split at h
    · rename_i hp
      cases h
      rw [put_two (by omega)]
      obtain ⟨h1, h2, h3⟩ := give_links hw hp.2.2
      exact whole_of h1 h2 h3
    · cases h
  | take n =>
    have h : (if 0 ≤ n ∧ n ≤ 999 then takeW f r room n.toNat else none) = some ws := h
    obtain ⟨h1, h2, h3⟩ := whole_links hw
    split at h
    · unfold takeW at h
      cases hh : f.head with
      | none =>
        rw [hh] at h h1
        have h : (if f.cells.length < room then some [((some f.cells.length, .cell (.row n.toNat)) : Write)] else none) = some ws := h
        split at h
        · cases h
          have ec : chain f = [] := by
            cases e : chain f with
            | nil => rfl
            | cons q qs => rw [e] at h1; cases h1.1
          have e : [((some f.cells.length, .cell (.row n.toNat)) : Write)].foldl put f = ⟨none, f.cells ++ [.row n.toNat]⟩ := by
            show put f (some f.cells.length, .cell (.row n.toNat)) = _
            rw [put_cell, if_pos rfl, hh]
          rw [e]
          refine whole_of (ps := []) rfl List.nodup_nil fun i hi => ?_
          rw [← ec]
          refine h3 i ?_
          have hi : freeAt (f.cells ++ [.row n.toNat]) i = true := hi
          unfold freeAt at hi ⊢
          by_cases q : i < f.cells.length
          · rw [List.getElem?_append_left q] at hi
            exact hi
          · by_cases q2 : i = f.cells.length
            · subst q2
              rw [List.getElem?_append_right (Nat.le_refl _), Nat.sub_self] at hi
              cases hi
            · rw [List.getElem?_eq_none (by rw [List.length_append]; show f.cells.length + 1 ≤ i; omega)] at hi
              cases hi
        · cases h
      | some p =>
        rw [hh] at h h1
        have h : some (inOrder r.1 (none, .link (freeLk f.cells p)) (some p, .cell (.row n.toNat))) = some ws := h
        cases h
        cases e : chain f with
        | nil => rw [e] at h1; cases h1
        | cons q qs =>
          rw [e] at h1 h2 h3
          obtain ⟨e1, m, hm, hl⟩ := h1
          cases e1
          have hp : p < f.cells.length := (List.getElem?_eq_some_iff.mp hm).1
          rw [List.nodup_cons] at h2
          have em : freeLk f.cells p = m := by
            unfold freeLk
            rw [hm]
          rw [put_two hp, em]
          refine whole_of (ps := qs) (hl.mono fun i hi => List.getElem?_set_ne (show p ≠ i from fun z => h2.1 (by rw [z]; exact hi))) h2.2 fun i hi => ?_
          obtain ⟨z1, z2⟩ := free_set_row hi
          rcases List.mem_cons.mp (h3 i z2) with y | y
          · exact absurd y z1
          · exact y
    · cases h
/-- deeds, each whole -/
def wholeS (ds : List Deed) : List Step := ds.map fun d => (d, none)
theorem stepped_none {f : File} {r : Rule} {room : Nat} {d : Deed} {ws : List Write} (h : writesF f r room d = some ws) : steppedF f r room (d, none) = some (ws.foldl put f) := by
  unfold steppedF
  rw [show writesF f r room (d, (none : Many)).1 = some ws from h]
  rfl
theorem stepped_rule {f g : File} {r : Rule} {room : Nat} {d : Deed} (hf : Fine f) (h : steppedF f r room (d, none) = some g) (r' : Rule) : steppedF f r' room (d, none) = some g := by
  unfold steppedF at h
  cases hw : writesF f r room d with
  | none => rw [show writesF f r room (d, (none : Many)).1 = none from hw] at h; cases h
  | some ws =>
    rw [show writesF f r room (d, (none : Many)).1 = some ws from hw] at h
    cases h
    obtain ⟨ws', h1, h2⟩ := writes_rule hf hw r'
    rw [stepped_none h1, h2]
theorem played_cons {f g : File} {r : Rule} {room : Nat} {s : Step} {ss : List Step} {fs : List File} (h : playedF f r room (s :: ss) = some fs) : ∃ g gs, steppedF f r room s = some g ∧ playedF g r room ss = some gs ∧ fs = g :: gs := by
  unfold playedF at h
  cases e : steppedF f r room s with
  | none => rw [e] at h; cases h
  | some g =>
    rw [e] at h
    have h : (playedF g r room ss).map (g :: ·) = some fs := h
    cases e2 : playedF g r room ss with
    | none => rw [e2] at h; cases h
    | some gs =>
      rw [e2] at h
      cases h
      exact ⟨g, gs, rfl, e2, rfl⟩
theorem played_mk {f g : File} {r : Rule} {room : Nat} {s : Step} {ss : List Step} {gs : List File} (h1 : steppedF f r room s = some g) (h2 : playedF g r room ss = some gs) : playedF f r room (s :: ss) = some (g :: gs) := by
  unfold playedF
  rw [h1]
  show (playedF g r room ss).map (g :: ·) = _
  rw [h2]
  rfl
theorem played_rule {r : Rule} {room : Nat} (hro : room ≤ 12) (r' : Rule) : ∀ {ds : List Deed} {f : File} {fs : List File}, Fine f → playedF f r room (wholeS ds) = some fs → playedF f r' room (wholeS ds) = some fs
  | [], f, fs, _, h => h
  | d :: ds, f, fs, hf, h => by
    obtain ⟨g, gs, h1, h2, e⟩ := played_cons (g := f) (s := (d, none)) (ss := wholeS ds) h
    subst e
    exact played_mk (s := (d, none)) (ss := wholeS ds) (stepped_rule hf h1 r') (played_rule hro r' (steppedF_fine hf hro h1) h2)
theorem stepped_ws {f g : File} {r : Rule} {room : Nat} {d : Deed} (h : steppedF f r room (d, none) = some g) : ∃ ws, writesF f r room d = some ws ∧ g = ws.foldl put f := by
  unfold steppedF at h
  cases hw : writesF f r room d with
  | none => rw [show writesF f r room (d, (none : Many)).1 = none from hw] at h; cases h
  | some ws =>
    rw [show writesF f r room (d, (none : Many)).1 = some ws from hw] at h
    cases h
    exact ⟨ws, rfl, rfl⟩
theorem played_whole {r : Rule} {room : Nat} (hro : room ≤ 12) : ∀ {ds : List Deed} {f : File} {fs : List File}, Fine f → whole f = true → playedF f r room (wholeS ds) = some fs → ∀ g ∈ fs, Fine g ∧ whole g = true
  | [], f, fs, _, _, h => by cases h; intro g hg; cases hg
  | d :: ds, f, fs, hf, hw, h => by
    obtain ⟨g, gs, h1, h2, e⟩ := played_cons (g := f) (s := (d, none)) (ss := wholeS ds) h
    subst e
    obtain ⟨ws, w1, w2⟩ := stepped_ws h1
    have hg : Fine g := steppedF_fine hf hro h1
    have hgw : whole g = true := by rw [w2]; exact whole_deed hf hw w1
    intro k hk
    rcases List.mem_cons.mp hk with z | z
    · rw [z]; exact ⟨hg, hgw⟩
    · exact played_whole hro hg hgw h2 k z
theorem played_snoc {r : Rule} {room : Nat} {s : Step} {g : File} : ∀ {ss : List Step} {f : File} {fs : List File}, playedF f r room ss = some fs → steppedF ((f :: fs).getLast (List.cons_ne_nil _ _)) r room s = some g → playedF f r room (ss ++ [s]) = some (fs ++ [g])
  | [], f, fs, h, h2 => by
    cases h
    exact played_mk h2 rfl
  | t :: ss, f, fs, h, h2 => by
    obtain ⟨k, gs, h1, h3, e⟩ := played_cons (g := f) h
    subst e
    refine played_mk h1 (played_snoc h3 ?_)
    rw [List.getLast_cons (List.cons_ne_nil _ _)] at h2
    exact h2
/-- given back, taken in, given back -/
theorem round_trip {f : File} {r : Rule} {room : Nat} {p n : Nat} (hf : Fine f) (hc : f.cells[p]? = some (.row n)) : playedF f r room [(.give (p : Int), none), (.take (n : Int), none), (.give (p : Int), none)] = some [⟨some p, f.cells.set p (.free f.head)⟩, f, ⟨some p, f.cells.set p (.free f.head)⟩] := by
  have hp : p < f.cells.length := (List.getElem?_eq_some_iff.mp hc).1
  have hr : rowAt f.cells p = true := by unfold rowAt; rw [hc]
  have hn : n ≤ 999 := of_decide_eq_true (hf.cells _ (List.mem_of_getElem? hc))
  have s1 : steppedF f r room (.give (p : Int), none) = some ⟨some p, f.cells.set p (.free f.head)⟩ := by
    have hw : writesF f r room (.give (p : Int)) = some (inOrder r.2 (none, .link (some p)) (some p, .cell (.free f.head))) := by
      show (if 0 ≤ (p : Int) ∧ (p : Int) < (f.cells.length : Int) ∧ rowAt f.cells (p : Int).toNat = true then some (inOrder r.2 (none, .link (some (p : Int).toNat)) (some (p : Int).toNat, .cell (.free f.head))) else none) = _
      rw [Int.toNat_natCast, if_pos ⟨by omega, by omega, hr⟩]
    rw [stepped_none hw, put_two hp]
  have s2 : steppedF ⟨some p, f.cells.set p (.free f.head)⟩ r room (.take (n : Int), none) = some f := by
    have hw : writesF ⟨some p, f.cells.set p (.free f.head)⟩ r room (.take (n : Int)) = some (inOrder r.1 (none, .link f.head) (some p, .cell (.row n))) := by
      show (if 0 ≤ (n : Int) ∧ (n : Int) ≤ 999 then takeW ⟨some p, f.cells.set p (.free f.head)⟩ r room (n : Int).toNat else none) = _
      rw [if_pos ⟨by omega, by omega⟩, Int.toNat_natCast]
      show some (inOrder r.1 (none, .link (freeLk (f.cells.set p (.free f.head)) p)) (some p, .cell (.row n))) = _
      unfold freeLk
      rw [List.getElem?_set_self hp]
    rw [stepped_none hw, put_two (by show p < (f.cells.set p (.free f.head)).length; rw [List.length_set]; exact hp)]
    show some (⟨f.head, (f.cells.set p (.free f.head)).set p (.row n)⟩ : File) = some f
    have e : f.cells.set p (.row n) = f.cells := List.ext_getElem? fun i => by
      rw [List.getElem?_set]
      by_cases q : p = i
      · subst q
        rw [if_pos rfl, if_pos hp, hc]
      · rw [if_neg q]
    rw [List.set_set, e]
  exact played_mk s1 (played_mk s2 (played_mk s1 rfl))
theorem deed_room {f : File} {r : Rule} {room : Nat} {d : Deed} {ws : List Write} (hf : Fine f) (hl : f.cells.length ≤ room) (h : writesF f r room d = some ws) : (ws.foldl put f).cells.length ≤ room := by
  cases d with
  | mend =>
    cases h
    rw [(foldPut_fine hf (mendsF_ok hf)).2]
    exact hl
  | other w n => cases h
  | give p =>
    have h : (if 0 ≤ p ∧ p < (f.cells.length : Int) ∧ rowAt f.cells p.toNat = true then some (inOrder r.2 (none, .link (some p.toNat)) (some p.toNat, .cell (.free f.head))) else none) = some ws := h
    split at h
    · cases h
      rw [put_two (by omega)]
      show (f.cells.set p.toNat (.free f.head)).length ≤ room
      rw [List.length_set]
      exact hl
    · cases h
  | take n =>
    have h : (if 0 ≤ n ∧ n ≤ 999 then takeW f r room n.toNat else none) = some ws := h
    split at h
    · unfold takeW at h
      cases hh : f.head with
      | none =>
        rw [hh] at h
        have h : (if f.cells.length < room then some [((some f.cells.length, .cell (.row n.toNat)) : Write)] else none) = some ws := h
        split at h
        · rename_i hlt
          cases h
          show (put f (some f.cells.length, .cell (.row n.toNat))).cells.length ≤ room
          rw [put_cell, if_pos rfl]
          show (f.cells ++ [Cell.row n.toNat]).length ≤ room
          rw [List.length_append]
          exact hlt
        · cases h
      | some p =>
        rw [hh] at h
        have h : some (inOrder r.1 (none, .link (freeLk f.cells p)) (some p, .cell (.row n.toNat))) = some ws := h
        cases h
        have hp : p < f.cells.length := of_decide_eq_true (by have := hf.head; rw [hh] at this; exact this)
        rw [put_two hp]
        show (f.cells.set p (.row n.toNat)).length ≤ room
        rw [List.length_set]
        exact hl
    · cases h
theorem played_room {r : Rule} {room : Nat} (hro : room ≤ 12) : ∀ {ds : List Deed} {f : File} {fs : List File}, Fine f → f.cells.length ≤ room → playedF f r room (wholeS ds) = some fs → ∀ g ∈ fs, g.cells.length ≤ room
  | [], f, fs, _, _, h => by cases h; intro g hg; cases hg
  | d :: ds, f, fs, hf, hw, h => by
    obtain ⟨g, gs, h1, h2, e⟩ := played_cons (g := f) (s := (d, none)) (ss := wholeS ds) h
    subst e
    obtain ⟨ws, w1, w2⟩ := stepped_ws h1
    have hg : Fine g := steppedF_fine hf hro h1
    have hgl : g.cells.length ≤ room := by rw [w2]; exact deed_room hf hw w1
    intro k hk
    rcases List.mem_cons.mp hk with z | z
    · rw [z]; exact hgl
    · exact played_room hro hg hgl h2 k z
theorem last_all {P : File → Prop} {f : File} {fs : List File} (h0 : P f) (h : ∀ g ∈ fs, P g) : P ((f :: fs).getLast (List.cons_ne_nil _ _)) := by
  rcases List.mem_cons.mp (List.getLast_mem (List.cons_ne_nil f fs)) with z | z
  · rw [z]; exact h0
  · exact h _ z
theorem last_snoc {f g : File} {fs : List File} : (f :: (fs ++ [g])).getLast (List.cons_ne_nil _ _) = g := by
  show ((f :: fs) ++ [g]).getLast _ = g
  exact List.getLast_concat
theorem at_last {f : File} {fs : List File} : atI ((f :: fs).map dF) (-1) = some (dF ((f :: fs).getLast (List.cons_ne_nil _ _))) := by
  have e : (f :: fs).map dF = ((f :: fs).dropLast.map dF) ++ [dF ((f :: fs).getLast (List.cons_ne_nil _ _))] := by
    rw [← List.map_singleton, ← List.map_append, List.dropLast_concat_getLast]
  rw [e]
  exact atI_last _ _
theorem nol_dL {l : Lk} : nol (dL l) = true := by cases l <;> rfl
theorem nol_dC {c : Cell} : nol (dC c) = true := by
  cases c with
  | row n => rfl
  | free l => cases l <;> rfl
theorem nol_dF {f : File} : nol (dF f) = true := by
  have e : ∀ cs : List Cell, nolL (cs.map dC) = true := fun cs => by
    rw [nolL_all, List.all_eq_true]
    intro d hd
    obtain ⟨c, _, rfl⟩ := List.mem_map.mp hd
    exact nol_dC
  show (nol (dL f.head) && (nolL (f.cells.map dC) && true)) = true
  rw [nol_dL, e]
  rfl
theorem shp_fs (fs : List File) : Shp 4 (.list (fs.map dF)) := .list fun d hd => by
  obtain ⟨c, _, rfl⟩ := List.mem_map.mp hd
  exact shp_dF c
theorem eqv_fs {fs : List File} : PyData.eqv (.list (fs.map dF)) (.list (fs.map dF)) = true := SeqAt.eqv_refl _ (shp_fs fs).1
theorem h_fs {fs : List File} : SeqAt.shaped (.list (fs.map dF)) = true := (shp_fs fs).shaped (by decide)
end SF

/-! ## isinstance; items of lists or tuples; defs by what they are handed -/
namespace SF
open PySem PySem.Spec PyProof.Rows L2
def tyName : PyData → String
  | .none => "NoneType"
  | .bool _ => "bool"
  | .int _ => "int"
  | .str _ => "str"
  | .list _ => "list"
  | .tuple _ => "tuple"
  | .dict _ => "dict"
theorem Im.ty {K : PySem.W.Frag} {G H : Hp} (e : Ex G H) {d : PyData} {v : V} (h : Im K G d v) : TyX K H v (.type (tyName d)) := by
  cases d with
  | none => rw [im_none] at h; subst h; exact .base .non
  | bool b => rw [im_bool] at h; subst h; exact .base (.bl _)
  | int i => rw [im_int] at h; subst h; exact .base (.int _)
  | str s => rw [im_str] at h; subst h; exact .base (.str _)
  | list ds =>
    rw [im_list] at h
    obtain ⟨a, xs, rfl, h1, _⟩ := h
    exact .base (.lst (e a _ h1))
  | tuple ds =>
    rw [im_tuple] at h
    obtain ⟨a, xs, rfl, h1, _⟩ := h
    rcases h1 with (h1 | ⟨o, h1⟩) | ⟨o, its, n, h1, h2, _⟩
    · exact .base (.tup (e a _ h1))
    · exact .fTuple (e a _ h1)
    · exact .kTuple h1 h2
  | dict _ => rw [im_dict] at h; exact h.elim
def sIs (T : String) : Sem1 := fun d Φ => ∃ k, kitB (tyName d) T = some k ∧ Φ (.dat (.bool k))
def isSeq : PyData → Bool
  | .list _ => true
  | .tuple _ => true
  | _ => false
def sIsTL : Sem1 := fun d Φ => (∀ es, d ≠ .dict es) ∧ Φ (.dat (.bool (isSeq d)))
section
variable {X : Cx} {b : Bs} {x y : Expr} {pos : Pos} {wx wy : WE}
theorem pei_isi {p p2 : Pos} {nm : Str} {T : String} (hm : X.mg "isinstance" = none) (hg : Gl X "isinstance") (hm2 : X.mg nm = none) (hg2 : Gl X nm) (hb : bootBuiltins nm = some (.type T)) (hx : PEI X b x wx)
    (hn1 : nm ≠ Str.ofString "__name__" := by decide) (hn2 : (nm == Str.ofString "__debug__") = false := by decide)
    (he : starEach [x, .Name nm p2] X.env = (false, eval x X.env) :: starEach [.Name nm p2] X.env := by rfl) (he2 : starEach [.Name nm p2] X.env = (false, eval (.Name nm p2) X.env) :: starEach [] X.env := by rfl)
    (hpl : ((backTo pos (starEach [.Name nm p2] X.env)).any fun z => z.1) = false := by rfl) : PEI X b (.Call (.Name "isinstance" p) [x, .Name nm p2] [] pos) (wUn (sIs T) wx) :=
  pei_un (r := fun v H Q => rIsi X.K [v, .ty T] H Q) (pe_callB call_isi hg hm (by rfl) (pa_cons hx (pa_cons (pe_bltn hg2 hm2 hb (v := .ty T) rfl hn1 hn2) pa_nil he2) he) (by decide) (by decide) he hpl) fun c ρ σ G H d v Φ Q S i hs p => by
    obtain ⟨k, hk, h⟩ := hs
    exact ⟨v, .ty T, .type (tyName d), .type T, k, rfl, .ty T, i.ty S.ex2, kit_ty hk, p _ (.dat (.bool k)) G H (.refl S) (by show Im _ _ _ _; rw [im_bool]) h⟩
theorem kit_seq {K : PySem.W.Frag} {d : PyData} (h : ∀ es, d ≠ .dict es) : PySem.W.kitAny K (.type (tyName d)) [.type "tuple", .type "list"] = some (isSeq d) := by
  have go : ∀ {r1 r2 : Bool}, kitB (tyName d) "tuple" = some r1 → kitB (tyName d) "list" = some r2 → PySem.W.kitAny K (.type (tyName d)) [.type "tuple", .type "list"] = some (r1 || r2) := fun {r1 r2} e1 e2 => by
    rw [PySem.W.kitAny.eq_2, kit_ty e1]
    cases r1 with
    | true => rfl
    | false =>
      show PySem.W.kitAny K (.type (tyName d)) [.type "list"] = _
      rw [PySem.W.kitAny.eq_2, kit_ty e2]
      cases r2 with
      | true => rfl
      | false =>
        show PySem.W.kitAny K (.type (tyName d)) [] = _
        rw [PySem.W.kitAny.eq_1]
        rfl
  cases d with
  | dict es => exact absurd rfl (h es)
  | none => exact go (r1 := false) (r2 := false) (by decide +kernel) (by decide +kernel)
  | bool b => exact go (r1 := false) (r2 := false) (by show kitB "bool" _ = _; decide +kernel) (by show kitB "bool" _ = _; decide +kernel)
  | int b => exact go (r1 := false) (r2 := false) (by show kitB "int" _ = _; decide +kernel) (by show kitB "int" _ = _; decide +kernel)
  | str b => exact go (r1 := false) (r2 := false) (by show kitB "str" _ = _; decide +kernel) (by show kitB "str" _ = _; decide +kernel)
  | list b => exact go (r1 := false) (r2 := true) (by show kitB "list" _ = _; decide +kernel) (by show kitB "list" _ = _; decide +kernel)
  | tuple b => exact go (r1 := true) (r2 := false) (by show kitB "tuple" _ = _; decide +kernel) (by show kitB "tuple" _ = _; decide +kernel)
theorem pei_isiTL {p p2 p3 p4 : Pos} {k0 : Nat} (hm : X.mg "isinstance" = none) (hg : Gl X "isinstance") (hm2 : X.mg "tuple" = none) (hg2 : Gl X "tuple") (hm3 : X.mg "list" = none) (hg3 : Gl X "list") (hx : PEI X b x wx)
    (he : starEach [x, .Tuple [.Name "tuple" p2, .Name "list" p3] k0 p4] X.env = (false, eval x X.env) :: starEach [.Tuple [.Name "tuple" p2, .Name "list" p3] k0 p4] X.env := by rfl)
    (he2 : starEach [.Tuple [.Name "tuple" p2, .Name "list" p3] k0 p4] X.env = (false, eval (.Tuple [.Name "tuple" p2, .Name "list" p3] k0 p4) X.env) :: starEach [] X.env := by rfl)
    (he3 : starEach [.Name "tuple" p2, .Name "list" p3] X.env = (false, eval (.Name "tuple" p2) X.env) :: starEach [.Name "list" p3] X.env := by rfl)
    (he4 : starEach [.Name "list" p3] X.env = (false, eval (.Name "list" p3) X.env) :: starEach [] X.env := by rfl)
    (hpl : ((backTo pos (starEach [.Tuple [.Name "tuple" p2, .Name "list" p3] k0 p4] X.env)).any fun z => z.1) = false := by rfl) : PEI X b (.Call (.Name "isinstance" p) [x, .Tuple [.Name "tuple" p2, .Name "list" p3] k0 p4] [] pos) (wUn sIsTL wx) :=
  pei_un (r := fun v H Q => 2 ≤ sizeLine ∧ ∀ q, H q = none → rIsiT X.K [v, .ref q] (upd H q (.tup [.ty "tuple", .ty "list"])) Q)
    (pe_callB call_isiT hg hm (by rfl) (pa_cons hx (pa_cons (pe_tup (pa_cons (pe_bltn hg2 hm2 (by rfl) (v := .ty "tuple") rfl) (pa_cons (pe_bltn hg3 hm3 (by rfl) (v := .ty "list") rfl) pa_nil he4) he3)) pa_nil he2) he) (by decide) (by decide) he hpl) fun c ρ σ G H d v Φ Q S i hs p => by
    refine ⟨by decide, fun q hq => ?_⟩
    obtain ⟨hd, h⟩ := hs
    exact ⟨v, q, _, .type (tyName d), _, isSeq d, rfl, upd_same, .cons (.ty _) (.cons (.ty _) .nil), i.ty (S.ex2.out (S.ex2.back hq)), kit_seq hd, p _ (.dat (.bool _)) G _ (.newH S hq) (by show Im _ _ _ _; rw [im_bool]) h⟩
/-! items of a list or a tuple -/
def sIxA : Sem2 := fun a i Φ => ∃ ds j d, (a = .list ds ∨ a = .tuple ds) ∧ i = .int j ∧ atI ds j = some d ∧ Φ (.dat d)
theorem op2_ixA : Op2 X (rIx X.K) sIxA := fun c ρ σ G H d1 d2 x y Φ Q S i1 i2 hs p => by
  obtain ⟨ds, j, d, h0, rfl, e, h⟩ := hs
  rcases h0 with rfl | rfl
  · exact .inl (op2_ixL c ρ σ G H _ _ x y Φ Q S i1 i2 ⟨ds, j, d, rfl, rfl, e, h⟩ p)
  · exact .inr (.inl (op2_ixT c ρ σ G H _ _ x y Φ Q S i1 i2 ⟨ds, j, d, rfl, rfl, e, h⟩ p))
theorem pei_ixA (hx : PEI X b x wx) (hy : PEI X b y wy) (hs : PlainIx y := by intro _ _; rfl) : PEI X b (.Subscript x y pos) (wOp sIxA wx wy) := pei_op (pe_ix ix_seq hx hy hs) op2_ixA
end
theorem r_sIs {d : PyData} {T : String} {k : Bool} {Φ : Res → Prop} (h : kitB (tyName d) T = some k) : sIs T d Φ = Φ (.dat (.bool k)) := by
  unfold sIs
  rw [h]
  simp
theorem is_none_tuple {Φ : Res → Prop} : sIs "tuple" (.none) Φ = Φ (.dat (.bool false)) := r_sIs (by show kitB "NoneType" "tuple" = some false; decide +kernel)
theorem is_none_list {Φ : Res → Prop} : sIs "list" (.none) Φ = Φ (.dat (.bool false)) := r_sIs (by show kitB "NoneType" "list" = some false; decide +kernel)
theorem is_none_bool {Φ : Res → Prop} : sIs "bool" (.none) Φ = Φ (.dat (.bool false)) := r_sIs (by show kitB "NoneType" "bool" = some false; decide +kernel)
theorem is_none_str {Φ : Res → Prop} : sIs "str" (.none) Φ = Φ (.dat (.bool false)) := r_sIs (by show kitB "NoneType" "str" = some false; decide +kernel)
theorem is_none_int {Φ : Res → Prop} : sIs "int" (.none) Φ = Φ (.dat (.bool false)) := r_sIs (by show kitB "NoneType" "int" = some false; decide +kernel)
theorem isTL_none {Φ : Res → Prop} : sIsTL (.none) Φ = Φ (.dat (.bool false)) := by simp [sIsTL, isSeq]
theorem is_bool_tuple {Φ : Res → Prop} {k : Bool} : sIs "tuple" (.bool k) Φ = Φ (.dat (.bool false)) := r_sIs (by show kitB "bool" "tuple" = some false; decide +kernel)
theorem is_bool_list {Φ : Res → Prop} {k : Bool} : sIs "list" (.bool k) Φ = Φ (.dat (.bool false)) := r_sIs (by show kitB "bool" "list" = some false; decide +kernel)
theorem is_bool_bool {Φ : Res → Prop} {k : Bool} : sIs "bool" (.bool k) Φ = Φ (.dat (.bool true)) := r_sIs (by show kitB "bool" "bool" = some true; decide +kernel)
theorem is_bool_str {Φ : Res → Prop} {k : Bool} : sIs "str" (.bool k) Φ = Φ (.dat (.bool false)) := r_sIs (by show kitB "bool" "str" = some false; decide +kernel)
theorem is_bool_int {Φ : Res → Prop} {k : Bool} : sIs "int" (.bool k) Φ = Φ (.dat (.bool true)) := r_sIs (by show kitB "bool" "int" = some true; decide +kernel)
theorem isTL_bool {Φ : Res → Prop} {k : Bool} : sIsTL (.bool k) Φ = Φ (.dat (.bool false)) := by simp [sIsTL, isSeq]
theorem is_int_tuple {Φ : Res → Prop} {i : Int} : sIs "tuple" (.int i) Φ = Φ (.dat (.bool false)) := r_sIs (by show kitB "int" "tuple" = some false; decide +kernel)
theorem is_int_list {Φ : Res → Prop} {i : Int} : sIs "list" (.int i) Φ = Φ (.dat (.bool false)) := r_sIs (by show kitB "int" "list" = some false; decide +kernel)
theorem is_int_bool {Φ : Res → Prop} {i : Int} : sIs "bool" (.int i) Φ = Φ (.dat (.bool false)) := r_sIs (by show kitB "int" "bool" = some false; decide +kernel)
theorem is_int_str {Φ : Res → Prop} {i : Int} : sIs "str" (.int i) Φ = Φ (.dat (.bool false)) := r_sIs (by show kitB "int" "str" = some false; decide +kernel)
theorem is_int_int {Φ : Res → Prop} {i : Int} : sIs "int" (.int i) Φ = Φ (.dat (.bool true)) := r_sIs (by show kitB "int" "int" = some true; decide +kernel)
theorem isTL_int {Φ : Res → Prop} {i : Int} : sIsTL (.int i) Φ = Φ (.dat (.bool false)) := by simp [sIsTL, isSeq]
theorem is_str_tuple {Φ : Res → Prop} {s : Str} : sIs "tuple" (.str s) Φ = Φ (.dat (.bool false)) := r_sIs (by show kitB "str" "tuple" = some false; decide +kernel)
theorem is_str_list {Φ : Res → Prop} {s : Str} : sIs "list" (.str s) Φ = Φ (.dat (.bool false)) := r_sIs (by show kitB "str" "list" = some false; decide +kernel)
theorem is_str_bool {Φ : Res → Prop} {s : Str} : sIs "bool" (.str s) Φ = Φ (.dat (.bool false)) := r_sIs (by show kitB "str" "bool" = some false; decide +kernel)
theorem is_str_str {Φ : Res → Prop} {s : Str} : sIs "str" (.str s) Φ = Φ (.dat (.bool true)) := r_sIs (by show kitB "str" "str" = some true; decide +kernel)
theorem is_str_int {Φ : Res → Prop} {s : Str} : sIs "int" (.str s) Φ = Φ (.dat (.bool false)) := r_sIs (by show kitB "str" "int" = some false; decide +kernel)
theorem isTL_str {Φ : Res → Prop} {s : Str} : sIsTL (.str s) Φ = Φ (.dat (.bool false)) := by simp [sIsTL, isSeq]
theorem is_list_tuple {Φ : Res → Prop} {ds : List PyData} : sIs "tuple" (.list ds) Φ = Φ (.dat (.bool false)) := r_sIs (by show kitB "list" "tuple" = some false; decide +kernel)
theorem is_list_list {Φ : Res → Prop} {ds : List PyData} : sIs "list" (.list ds) Φ = Φ (.dat (.bool true)) := r_sIs (by show kitB "list" "list" = some true; decide +kernel)
theorem is_list_bool {Φ : Res → Prop} {ds : List PyData} : sIs "bool" (.list ds) Φ = Φ (.dat (.bool false)) := r_sIs (by show kitB "list" "bool" = some false; decide +kernel)
theorem is_list_str {Φ : Res → Prop} {ds : List PyData} : sIs "str" (.list ds) Φ = Φ (.dat (.bool false)) := r_sIs (by show kitB "list" "str" = some false; decide +kernel)
theorem is_list_int {Φ : Res → Prop} {ds : List PyData} : sIs "int" (.list ds) Φ = Φ (.dat (.bool false)) := r_sIs (by show kitB "list" "int" = some false; decide +kernel)
theorem isTL_list {Φ : Res → Prop} {ds : List PyData} : sIsTL (.list ds) Φ = Φ (.dat (.bool true)) := by simp [sIsTL, isSeq]
theorem is_tuple_tuple {Φ : Res → Prop} {ds : List PyData} : sIs "tuple" (.tuple ds) Φ = Φ (.dat (.bool true)) := r_sIs (by show kitB "tuple" "tuple" = some true; decide +kernel)
theorem is_tuple_list {Φ : Res → Prop} {ds : List PyData} : sIs "list" (.tuple ds) Φ = Φ (.dat (.bool false)) := r_sIs (by show kitB "tuple" "list" = some false; decide +kernel)
theorem is_tuple_bool {Φ : Res → Prop} {ds : List PyData} : sIs "bool" (.tuple ds) Φ = Φ (.dat (.bool false)) := r_sIs (by show kitB "tuple" "bool" = some false; decide +kernel)
theorem is_tuple_str {Φ : Res → Prop} {ds : List PyData} : sIs "str" (.tuple ds) Φ = Φ (.dat (.bool false)) := r_sIs (by show kitB "tuple" "str" = some false; decide +kernel)
theorem is_tuple_int {Φ : Res → Prop} {ds : List PyData} : sIs "int" (.tuple ds) Φ = Φ (.dat (.bool false)) := r_sIs (by show kitB "tuple" "int" = some false; decide +kernel)
theorem isTL_tuple {Φ : Res → Prop} {ds : List PyData} : sIsTL (.tuple ds) Φ = Φ (.dat (.bool true)) := by simp [sIsTL, isSeq]
theorem v_bool {a b : Bool} : PyData.eqv (.bool a) (.bool b) = (a == b) := by cases a <;> cases b <;> rfl
theorem r_sIxAT {ds : List PyData} {i : Int} {Φ : Res → Prop} : sIxA (.tuple ds) (.int i) Φ = ∃ d, atI ds i = some d ∧ Φ (.dat d) := by simp [sIxA]
theorem r_sIxAL {ds : List PyData} {i : Int} {Φ : Res → Prop} : sIxA (.list ds) (.int i) Φ = ∃ d, atI ds i = some d ∧ Φ (.dat d) := by simp [sIxA]
end SF

/-! ## Texts -/
namespace SF
open PySem PySem.Spec PyProof.Rows L2
def dStr (s : Str) : PyData := .str s
theorem imL_strs {K : PySem.W.Frag} {G : Hp} {ss : List Str} : ImL K G (ss.map PyData.str) (ss.map V.str) := by
  refine .of_get (by simp) fun i d x h1 h2 => ?_
  rw [List.getElem?_map] at h1 h2
  cases e : ss[i]? with
  | none => rw [e] at h1; cases h1
  | some n =>
    rw [e] at h1 h2
    cases h1
    cases h2
    rw [im_str]
theorem imL_strs' {K : PySem.W.Frag} {G : Hp} : ∀ {ss : List Str} {xs : List V}, ImL K G (ss.map PyData.str) xs → xs = ss.map V.str
  | [], xs, h => by rw [List.map_nil, imL_nil] at h; exact h
  | s :: ss, xs, h => by
    rw [List.map_cons, imL_cons] at h
    obtain ⟨x, r, rfl, h1, h2⟩ := h
    rw [im_str] at h1
    rw [h1, imL_strs' h2]
    rfl
section
variable {X : Cx} {b : Bs} {x y e : Expr} {pos : Pos} {wx wy we : WE}
def sStrI : SemA := fun ds Φ => ∃ i, ds = [.int i] ∧ i.natAbs.log2 < 1920 ∧ Φ (.dat (.str (Str.ofString (toString i))))
theorem pei_strI {p : Pos} {wa : WA} (hm : X.mg "str" = none) (hg : Gl X "str") (h : PAI X b 1 [x] wa) (he : starEach [x] X.env = (false, eval x X.env) :: starEach [] X.env := by rfl) (hpl : ((backTo pos (starEach [] X.env)).any fun z => z.1) = false := by rfl) : PEI X b (.Call (.Name "str" p) [x] [] pos) (wCall sStrI wa) :=
  pei_cb (pe_callTy call_str_int hg hm (by rfl) h (by decide) (by decide) he hpl) fun c ρ σ G H ds xs Φ Q S il hs p => by
    obtain ⟨i, rfl, hz, h⟩ := hs
    obtain ⟨v, rfl, im⟩ := imL_1 il
    rw [im_int] at im
    subst im
    exact ⟨i, rfl, hz, p _ (.dat (.str _)) G H (.refl S) (by show Im _ _ _ _; rw [im_str]) h⟩
def sIntS : SemA := fun ds Φ => ∃ s n, ds = [.str s] ∧ intText? s = some n ∧ s.length ≤ 640 ∧ Φ (.dat (.int n))
theorem pei_intS {p : Pos} {wa : WA} (hm : X.mg "int" = none) (hg : Gl X "int") (h : PAI X b 1 [x] wa) (he : starEach [x] X.env = (false, eval x X.env) :: starEach [] X.env := by rfl) (hpl : ((backTo pos (starEach [] X.env)).any fun z => z.1) = false := by rfl) : PEI X b (.Call (.Name "int" p) [x] [] pos) (wCall sIntS wa) :=
  pei_cb (pe_callTy call_int_str hg hm (by rfl) h (by decide) (by decide) he hpl) fun c ρ σ G H ds xs Φ Q S il hs p => by
    obtain ⟨s, n, rfl, h1, h2, h⟩ := hs
    obtain ⟨v, rfl, im⟩ := imL_1 il
    rw [im_str] at im
    subst im
    exact ⟨s, n, rfl, h1, h2, p _ (.dat (.int _)) G H (.refl S) (by show Im _ _ _ _; rw [im_int]) h⟩
def sLenS : SemA := fun ds Φ => ∃ s, ds = [.str s] ∧ s.length ≤ 1000000 ∧ Φ (.dat (.int ((s.length : Nat) : Int)))
/-- a text's own method with one argument -/
def wOpS (sem : Str → PyData → (Res → Prop) → Prop) (w u : WE) : WE := fun ρ Φ Ξ => w ρ (fun r => ∃ s, r.frz = .str s ∧ u ρ (fun q => sem s q.frz Φ) Ξ) Ξ
def sSplit : Str → PyData → (Res → Prop) → Prop := fun s c Φ => ∃ t, c = .str t ∧ (t.length == 0) = false ∧ s.length ≤ 1000000 ∧ Φ (.lst ((Txt.split s t).map PyData.str))
theorem pei_split {apos : Pos} (hx : PEI X b x wx) (hy : PEI X b y wy) (h1 : starEach [y] X.env = [(false, eval y X.env)] := by rfl) (h2 : attributeBase x "split" X.env (eval x X.env) = eval x X.env := by rfl) (h3 : (apos.endLine == pos.line) = true := by rfl) :
    PEI X b (.Call (.Attribute x "split" apos) [y] [] pos) (wOpS sSplit wx wy) := pei_of (pe_split hx hy h1 h2 h3) fun c ρ σ G H Φ Ξ Q S hw p ex => by
  refine ⟨c, ρ, G, _, Ξ, S, hw, fun v1 r1 G1 H1 t1 o1 h1 => ?_, ex⟩
  obtain ⟨G1', t1', i1⟩ := freeze S t1 o1
  obtain ⟨s0, e0, h1⟩ := h1
  rw [e0, im_str] at i1
  subst i1
  refine ⟨⟨s0, rfl⟩, c, ρ, G1', _, Ξ, S.tr t1', h1, fun v2 r2 G2 H2 t2 o2 h2 => ?_, ex.tr t1'⟩
  obtain ⟨G2', t2', i2⟩ := freeze (S.tr t1') t2 o2
  obtain ⟨t, e2, hz, hl, h⟩ := h2
  rw [e2, im_str] at i2
  subst i2
  refine ⟨_, _, rfl, rfl, hz, ?_, fun q hq => ?_⟩
  · rw [sizeLine_eq]
    omega
  · have S2 := (S.tr t1').tr t2'
    exact p _ (.lst _) _ _ ((t1'.trans t2').trans (.newH S2 hq)) ⟨q, _, rfl, (t1'.trans t2').back hq, S2.ex2.back hq, upd_same, imL_strs⟩ h
def sJoin : Str → PyData → (Res → Prop) → Prop := fun s c Φ => ∃ ts, c = .list (ts.map PyData.str) ∧ (ts.map (·.length)).sum + ts.length * s.length ≤ 16777216 ∧ Φ (.dat (.str (Txt.join s ts)))
theorem pei_join {apos : Pos} (hx : PEI X b x wx) (hy : PEI X b y wy) (h1 : starEach [y] X.env = [(false, eval y X.env)] := by rfl) (h2 : attributeBase x "join" X.env (eval x X.env) = eval x X.env := by rfl) (h3 : (apos.endLine == pos.line) = true := by rfl) :
    PEI X b (.Call (.Attribute x "join" apos) [y] [] pos) (wOpS sJoin wx wy) := pei_of (pe_join hx hy h1 h2 h3) fun c ρ σ G H Φ Ξ Q S hw p ex => by
  refine ⟨c, ρ, G, _, Ξ, S, hw, fun v1 r1 G1 H1 t1 o1 h1 => ?_, ex⟩
  obtain ⟨G1', t1', i1⟩ := freeze S t1 o1
  obtain ⟨s0, e0, h1⟩ := h1
  rw [e0, im_str] at i1
  subst i1
  refine ⟨⟨s0, rfl⟩, c, ρ, G1', _, Ξ, S.tr t1', h1, fun v2 r2 G2 H2 t2 o2 h2 => ?_, ex.tr t1'⟩
  obtain ⟨G2', t2', i2⟩ := freeze (S.tr t1') t2 o2
  obtain ⟨ts, e2, hz, h⟩ := h2
  rw [e2, im_list] at i2
  obtain ⟨a, xs, rfl, ha, il⟩ := i2
  have S2 := (S.tr t1').tr t2'
  rw [imL_strs' il] at ha
  exact ⟨_, a, ts, rfl, rfl, .inl (sq_of (S2.ex2 a _ ha)), hz, p _ (.dat (.str _)) _ _ (t1'.trans t2') (by show Im _ _ _ _; rw [im_str]) h⟩
/-! a sign of a text -/
def sInS (f : Bool → Bool) : Sem2 := fun a c Φ => ∃ k z, a = .str ⟨#[k]⟩ ∧ c = .str z ∧ Φ (.dat (.bool (f (decide (k ∈ z.cps.toList)))))
theorem op2_inS : Op2 X (fun x y H Q => ∃ c z, x = V.str ⟨#[c]⟩ ∧ y = V.str z ∧ Q (V.bl (decide (c ∈ z.cps.toList))) H) (sInS fun k => k) := fun c ρ σ G H d1 d2 x y Φ Q S i1 i2 hs p => by
  obtain ⟨k, z, rfl, rfl, h⟩ := hs
  rw [im_str] at i1 i2
  exact ⟨k, z, i1, i2, p _ (.dat (.bool _)) G H (.refl S) (by show Im _ _ _ _; rw [im_bool]) h⟩
theorem op2_notInS : Op2 X (fun x y H Q => ∃ c z, x = V.str ⟨#[c]⟩ ∧ y = V.str z ∧ Q (V.bl (!decide (c ∈ z.cps.toList))) H) (sInS not) := fun c ρ σ G H d1 d2 x y Φ Q S i1 i2 hs p => by
  obtain ⟨k, z, rfl, rfl, h⟩ := hs
  rw [im_str] at i1 i2
  exact ⟨k, z, i1, i2, p _ (.dat (.bool _)) G H (.refl S) (by show Im _ _ _ _; rw [im_bool]) h⟩
theorem pei_lenS {p : Pos} {wa : WA} (hm : X.mg "len" = none) (hg : Gl X "len") (h : PAI X b 1 [x] wa) (he : starEach [x] X.env = (false, eval x X.env) :: starEach [] X.env := by rfl) (hpl : ((backTo pos (starEach [] X.env)).any fun z => z.1) = false := by rfl) : PEI X b (.Call (.Name "len" p) [x] [] pos) (wCall sLenS wa) :=
  pei_cb (pe_callB call_len_str hg hm PySem.boot_len h (by decide) (by decide) he hpl) fun c ρ σ G H ds xs Φ Q S il hs p => by
    obtain ⟨s, rfl, hz, h⟩ := hs
    obtain ⟨v, rfl, im⟩ := imL_1 il
    rw [im_str] at im
    subst im
    exact ⟨s, rfl, by rw [sizeLine_eq]; omega, p _ (.dat (.int _)) G H (.refl S) (by show Im _ _ _ _; rw [im_int]) h⟩
/-! x.extend(e) -/
def wExt (i : Nat) (w : WE) : WS := fun ρ Ψ => ∃ ds, ρ[i]? = some (.ls ds) ∧ w ρ (fun r => ∃ es, r.frz = .list es ∧ ds.length + es.length ≤ 1000000 ∧ Ψ.nx (ρ.set i (.ls (ds ++ es)))) Ψ.xc
theorem psi_ext (i : Nat) {nm : Str} {np apos cpos : Pos} (he : PEI X b e we) (hN : X.N[i]? = some nm := by rfl) (hv : Vis X.env.scope nm := by first | exact Or.inl rfl | exact Or.inr (Or.inl rfl) | exact Or.inr (Or.inr rfl)) (hd : (nm == ("__debug__" : Str)) = false := by decide)
    (hcd : (nm == ("__classdict__" : Str)) = false := by decide) (hb : attributeBase (.Name nm np) "extend" X.env (eval (.Name nm np) X.env) = eval (.Name nm np) X.env := by rfl)
    (hfew : ((backTo cpos (starEach [e] X.env)).all (fun x => !x.1) && (backToKw cpos (keywordEach [] X.env)).all (fun x => x.1.isSome) && decide ([e].length + ([] : List Keyword).length + (if ([] : List Keyword).isEmpty then 0 else 1) < 30)) = true := by rfl)
    (hline : (apos.endLine == cpos.line) = true := by rfl) (hse : starEach [e] X.env = (false, eval e X.env) :: starEach [] X.env := by rfl) (hpl : (backTo cpos (starEach [] X.env)).any (·.1) = false := by rfl)
    (hs : swapsWith (.Call (.Attribute (.Name nm np) "extend" apos) [e] [] cpos) none pos.line X.env = pure false := by rfl) :
    PSI X b (.Expr (.Call (.Attribute (.Name nm np) "extend" apos) [e] [] cpos) pos) (wExt i we) :=
  psi_of (ps_expr (pe_bm PySem.F.plainAttrs_list PySem.F.slot_list_extend PySem.F.type_list_extend mt_extend (pe_var hN hv hd hcd) (pa_cons he pa_nil hse) hb hfew hline hse hpl) hs) fun c ρ σ G H Ψ D S hw p => by
    obtain ⟨ds, h1, hw⟩ := hw
    obtain ⟨l, xs, h2, h3, h4, h5⟩ := S.mutAt h1
    refine ⟨.ref l, h2, .inl ⟨rfl, xs, sq_of h3⟩, c, ρ, G, _, Ψ.xc, S, hw, fun v r G1 H1 t1 o1 hn => ?_, p.exc S⟩
    obtain ⟨G2, t2, im⟩ := freeze S t1 o1
    obtain ⟨es, e0, hz, hn⟩ := hn
    rw [e0, im_list] at im
    obtain ⟨a, ys, rfl, ha, il⟩ := im
    have S2 := S.tr t2
    have k3 := t2.keep l _ h3 (S.neRow h1 h2) ntL
    refine ⟨l, a, xs, ys, rfl, rfl, k3, S2.ex2 a _ ha, ?_, ?_⟩
    · rw [← h5.len, ← il.len]
      exact Nat.le_trans hz (by decide)
    · exact p.nx _ _ G2 _ (S2.write h1 h2 ((h5.mono t2.eg).append il)) hn
end
/-! ### comprehensions over a text -/
theorem lc_str {x : Str} {g : TG} {tt : TT} {te : TE} {vs : List Nat} {σ : L2.St} {H1 : Hp} {D : Addr} {Qd : Hp → Prop} (Pv : Nat → Hp → Prop) (h0 : Pv 0 (upd H1 D (.lst [])))
    (hs : ∀ i k H, x.cps[i]? = some k → Pv i H → g (.str ⟨#[k]⟩) (wipe σ vs) H fun σ2 H2 => wipe σ2 vs = wipe σ vs ∧ tt σ2 H2 fun b H3 =>
      if b = true then te σ2 H3 fun y H4 => ∃ acc, H4 D = some (.lst acc) ∧ acc.length < sizeLine ∧ Pv (i + 1) (upd H4 D (.lst (acc ++ [y]))) else Pv (i + 1) H3) (hd : ∀ H, Pv x.cps.size H → Qd H) :
    ∃ W : Nat → Nat → Hp → Prop, (∃ m, W 0 m (upd H1 D (.lst []))) ∧ ∀ i m H, W i m H →
      ((Its x).stop i H ∧ Qd H) ∨ ((Its x).go i H ∧ ∃ Nx : Hp → Prop, (∀ H', Nx H' → ∃ m', m' < m ∧ W (i + 1) m' H') ∧ ∀ v H', (Its x).yld i H v H' → g v (wipe σ vs) H' fun σ2 H2 => wipe σ2 vs = wipe σ vs ∧ tt σ2 H2 fun b H3 =>
        if b = true then te σ2 H3 fun y H4 => ∃ acc, H4 D = some (.lst acc) ∧ acc.length < sizeLine ∧ Nx (upd H4 D (.lst (acc ++ [y]))) else Nx H3) := by
  refine ⟨fun i m H => m = x.cps.size - i ∧ i ≤ x.cps.size ∧ Pv i H, ⟨x.cps.size, by simp, Nat.zero_le _, h0⟩, ?_⟩
  rintro i m H ⟨rfl, hi, p⟩
  by_cases hlt : i < x.cps.size
  · refine .inr ⟨hlt, Pv (i + 1), fun H' p' => ⟨x.cps.size - (i + 1), by omega, rfl, hlt, p'⟩, fun v H' y => ?_⟩
    obtain ⟨e, k, hk, y⟩ := y
    subst e y
    exact hs i k _ hk p
  · have e : i = x.cps.size := by omega
    subst e
    exact .inl ⟨Nat.le_refl _, hd H p⟩
/-- the signs of a text, each as a text -/
def signs (s : Str) : List PyData := s.cps.toList.map fun k => PyData.str ⟨#[k]⟩
def wLcS (tgt : Tgt) (vs : List Nat) (wi : WE) (wt : WT) (w : WE) : WE := fun ρ Φ Ξ => wi ρ (fun r => ∃ s, r.frz = .str s ∧ LcI tgt vs wt w (signs s) ρ Φ) Ξ
section
variable {X : Cx} {b : Bs} {tgt : Tgt} {wt : WT} {w we : WE} {own : List (Str × Nat)} {scope : Scope} {tg e elt : Expr} {ifs : List Expr} {pos : Pos} {K : PySem.W.Frag}
theorem lcS_ok (hts : ∀ n ∈ tgt.slots, n ∈ own.map (·.2)) (σ : L2.St) (H : Hp) (Q : VK) (h : teOf K b (wLcS tgt (own.map (·.2)) we wt w) σ H Q) : tLc (iStr (teOf K b we)) (tgOf K tgt) (ttOf K b wt) (teOf K b w) (own.map (·.2)) σ H Q := by
  obtain ⟨c, ρ, G, Φ, Ξ, S, hw, p, ex⟩ := h
  refine ⟨c, ρ, G, _, Ξ, S, hw, fun v r G1 H1 t1 o1 h1 => ?_, ex⟩
  obtain ⟨G2, t2, im⟩ := freeze S t1 o1
  obtain ⟨s, e, hn, I, h0, hI, hd⟩ := h1
  rw [e, im_str] at im
  subst im
  have S2 := S.tr t2
  refine ⟨s, rfl, fun D hD => ?_⟩
  have hlen : (signs s).length = s.cps.size := by unfold signs; rw [List.length_map, Array.length_toList]
  refine lc_str (x := s) (PvLc K ρ σ G2 H1 D I) ⟨G2, [], [], Tr.newH S2 hD, upd_same, S2.ex2.back hD, .nil, h0⟩ (fun i k H' hk ⟨G', acc, ys, t, k1, k2, k3, k4⟩ => ?_) (fun H' ⟨G', acc, ys, t, k1, k2, k3, k4⟩ => ?_)
  · have hk2 : (signs s)[i]? = some (.str ⟨#[k]⟩) := by
      unfold signs
      rw [List.getElem?_map, Array.getElem?_toList, hk]
      rfl
    exact lc_turn (b := b) (Pv := PvLc K ρ σ G2 H1 D I) hts S2 hn t hD k1 k2 k3 k4 (by rw [im_str]) (hI i _ hk2) fun G' H' acc' xs' q1 q2 q3 q4 q5 => ⟨G', acc', xs', q1, q2, q3, q4, q5⟩
  · exact p _ (.lst acc) G' H' (t2.trans t) ⟨D, ys, rfl, t2.back hD, k2, k1, k3⟩ (hd acc (by rw [hlen]; exact k4))
theorem pei_lcS (hc : X.calm = true) (hN : X.N.Nodup) (hi : PEI X b e we) (B : Blk X b scope own tg ifs elt tgt wt w) (hs : ∀ x, foldedSetIterable e X.env x = pure x := by intro _; rfl) : PEI X b (.ListComp elt [⟨tg, e, ifs, 0⟩] scope pos) (wLcS tgt (own.map (·.2)) we wt w) :=
  pe_imp (pe_lc hc hN (pi_str hi) B.ok B.hg B.ht B.he hs) (lcS_ok B.sl)
/-! ### a table of the top, its keys texts -/
def sKdIn (g : Str → Bool) : Sem1 := fun d Φ => ∃ z, d = .str z ∧ Φ (.dat (.bool (g z)))
def sKdAt (g : Str → Option Str) : Sem1 := fun d Φ => ∃ z u, d = .str z ∧ g z = some u ∧ Φ (.dat (.str u))
/-- what the table tells of a text -/
def KdAs (K : PySem.W.Frag) (d : Addr) (g : Str → Option Str) : Prop := ∀ z, PySem.W.nsIn K d z = some none ∧ g z = none ∨ ∃ u t, PySem.W.nsIn K d z = some (some (.str u t)) ∧ g z = some u
variable {d : Addr} {es : Array DictEntry} {n : Nat} {x : Expr} {wx : WE} {nm : Str} {np : Pos}
theorem pei_notInKd {g : Str → Option Str} (D : KDict X.K X.w d es n) (hk : KdAs X.K d g) (hg : Gl X nm) (hm : X.mg nm = some (.ref d)) (hx : PEI X b x wx) (hn2 : (nm == Str.ofString "__debug__") = false := by decide) : PTI X b (.Compare x [.NotIn] [.Name nm np] pos) (wTest (wUn (sKdIn fun z => !(g z).isSome) wx)) :=
  pti_of (pt_cmpR (op_notIn_kd D) hx (pe_glob hg hm (v := .ref d) rfl hn2) (by rfl)) fun c ρ σ G H Φ Ξ Q S hw p ex => by
    refine ⟨c, ρ, G, _, Ξ, S, hw, fun v1 r1 G1 H1 t1 o1 h1 => ?_, ex⟩
    obtain ⟨G1', t1', i1⟩ := freeze S t1 o1
    obtain ⟨z, e0, k, e1, h⟩ := h1
    rw [e0, im_str] at i1
    cases e1
    have h : Φ (!(g z).isSome) := h
    rcases hk z with ⟨h1, h2⟩ | ⟨u, t, h1, h2⟩
    · exact ⟨z, none, i1, rfl, h1, _, rfl, p _ G1' H1 t1' (by rw [h2] at h; exact h)⟩
    · exact ⟨z, _, i1, rfl, h1, _, rfl, p _ G1' H1 t1' (by rw [h2] at h; exact h)⟩
theorem pei_ixKd {g : Str → Option Str} (D : KDict X.K X.w d es n) (hk : KdAs X.K d g) (hg : Gl X nm) (hm : X.mg nm = some (.ref d)) (hx : PEI X b x wx) (hn2 : (nm == Str.ofString "__debug__") = false := by decide) (hs : PlainIx x := by intro _ _; rfl) : PEI X b (.Subscript (.Name nm np) x pos) (wUn (sKdAt g) wx) :=
  pei_un (r := fun v H Q => rIxD X.K X.w (.ref d) v H Q) (pe_ix ix_kdict (pe_glob hg hm (v := .ref d) rfl hn2) hx hs) fun c ρ σ G H dd v Φ Q S i hs p => by
    obtain ⟨z, u, rfl, hz, h⟩ := hs
    rw [im_str] at i
    rcases hk z with ⟨h1, h2⟩ | ⟨u2, t, h1, h2⟩
    · rw [h2] at hz; cases hz
    · rw [h2] at hz
      cases hz
      exact ⟨d, z, .str u, rfl, i, ⟨es, n, _, D.at_, D.lit, h1, ⟨t, rfl⟩⟩, p _ (.dat (.str _)) G H (.refl S) (by show Im _ _ _ _; rw [im_str]) h⟩
end
/-! ### the signs of kinds of cells -/
def signsG (z : Str) : Option Str := if (Str.ofString "r" == z) = true then some (Str.ofString "row") else if (Str.ofString "f" == z) = true then some (Str.ofString "free") else none
theorem kd_signs {K : PySem.W.Frag} {a : Addr} {ha hb : Int} {ta tb tc td} {n : Nat} {oc : Value} {od : Option Addr} {sl : Array (Option Value)} (h : K.lookup a = some ⟨oc, od, .dict #[⟨ha, .str (Str.ofString "r") ta, .str (Str.ofString "row") tb⟩, ⟨hb, .str (Str.ofString "f") tc, .str (Str.ofString "free") td⟩] n, sl⟩) : KdAs K a signsG := fun z => by
  rw [PySem.W.nsIn, h]
  have e1 : (Value.str (Str.ofString "r") ta).isStr z = (Str.ofString "r" == z) := rfl
  have e2 : (Value.str (Str.ofString "f") tc).isStr z = (Str.ofString "f" == z) := rfl
  unfold signsG
  cases h1 : (Str.ofString "r" == z) with
  | true =>
    right
    refine ⟨_, tb, ?_, by rw [if_pos rfl]⟩
    show (match List.find? (fun x : DictEntry => x.key.isStr z) [⟨ha, .str (Str.ofString "r") ta, .str (Str.ofString "row") tb⟩, ⟨hb, .str (Str.ofString "f") tc, .str (Str.ofString "free") td⟩] with | some e => some (some e.val) | none => _) = _
    rw [List.find?_cons_of_pos (by rw [e1]; exact h1)]
  | false =>
    rw [if_neg (by decide)]
    cases h2 : (Str.ofString "f" == z) with
    | true =>
      right
      refine ⟨_, td, ?_, by rw [if_pos rfl]⟩
      show (match List.find? (fun x : DictEntry => x.key.isStr z) [⟨ha, .str (Str.ofString "r") ta, .str (Str.ofString "row") tb⟩, ⟨hb, .str (Str.ofString "f") tc, .str (Str.ofString "free") td⟩] with | some e => some (some e.val) | none => _) = _
      rw [List.find?_cons_of_neg (by rw [e1, h1]; decide), List.find?_cons_of_pos (by rw [e2]; exact h2)]
    | false =>
      left
      refine ⟨?_, by rw [if_neg (by decide)]⟩
      show (match List.find? (fun x : DictEntry => x.key.isStr z) [⟨ha, .str (Str.ofString "r") ta, .str (Str.ofString "row") tb⟩, ⟨hb, .str (Str.ofString "f") tc, .str (Str.ofString "free") td⟩] with | some e => some (some e.val) | none => if ([⟨ha, .str (Str.ofString "r") ta, .str (Str.ofString "row") tb⟩, ⟨hb, .str (Str.ofString "f") tc, .str (Str.ofString "free") td⟩] : List DictEntry).any (·.refKey) = true then none else some none) = _
      rw [List.find?_cons_of_neg (by rw [e1, h1]; decide), List.find?_cons_of_neg (by rw [e2, h2]; decide), List.find?_nil]
      rfl
/-! ### what texts tell of cells -/
def numS : Lk → Str
  | none => Str.ofString "-"
  | some n => Str.ofString (toString (n : Int))
def headS : Cell → Str
  | .row _ => Str.ofString "r"
  | .free _ => Str.ofString "f"
def whatL : Cell → Lk
  | .row n => some n
  | .free l => l
def cellS (c : Cell) : Str := headS c ++ numS (whatL c)
def wordsF (f : File) : List Str := numS f.head :: f.cells.map cellS
def textF (f : File) : Str := Txt.join (Str.ofString " ") (wordsF f)
/-- a number's text, looked through -/
def numOk (n : Nat) : Bool :=
  let s := Str.ofString (toString (n : Int))
  (intText? s == some (n : Int)) && decide (1 ≤ s.length) && decide (s.length ≤ 3) && (s.cps.toList.all fun k => decide (k ∈ (Str.ofString "0123456789").cps.toList)) && (!(s == Str.ofString "-")) && (match s.cps.toList with | k :: _ => !((⟨#[k]⟩ : Str) == Str.ofString "0") || (s == Str.ofString "0") | [] => false) && (s.cps.toList.all fun k => !(k == 32)) && PyData.strOk s && PyData.strOk (Str.ofString "r" ++ s) && !(Str.ofString "r" ++ s == Str.ofString "r-")
theorem numOk_all : ((List.range 1000).all numOk) = true := by decide +kernel
section
variable {Φ : Res → Prop} {s t z : Str} {i : Int} {k : Nat}
theorem r_sIxS : sIxS (.str s) (.int i) Φ = (s.length ≤ 1000000 ∧ ∃ k, atI s.cps.toList i = some k ∧ Φ (.dat (.str ⟨#[k]⟩))) := by simp [sIxS]
theorem r_sStrI : sStrI [.int i] Φ = (i.natAbs.log2 < 1920 ∧ Φ (.dat (.str (Str.ofString (toString i))))) := by simp [sStrI]
theorem r_sIntS : sIntS [.str s] Φ = ∃ n, intText? s = some n ∧ s.length ≤ 640 ∧ Φ (.dat (.int n)) := by simp [sIntS]
theorem r_sLenS : sLenS [.str s] Φ = (s.length ≤ 1000000 ∧ Φ (.dat (.int ((s.length : Nat) : Int)))) := by simp [sLenS]
theorem r_sInS {f : Bool → Bool} : sInS f (.str ⟨#[k]⟩) (.str z) Φ = Φ (.dat (.bool (f (decide (k ∈ z.cps.toList))))) := by simp [sInS]
theorem r_sCatS : sCatS (.str s) (.str t) Φ = (s.length + t.length ≤ 1000000 ∧ Φ (.dat (.str (s ++ t)))) := by simp [sCatS]
theorem r_sSlS {lo hi : Option Int} : sSlS (.str s) lo hi Φ = (s.length ≤ 1000000 ∧ Φ (.dat (.str (cutS s lo hi)))) := by simp [sSlS]
theorem r_exs {p : Str → Prop} : (∃ x, PyData.str s = PyData.str x ∧ p x) = p s := by simp
theorem r_sSplit : sSplit s (.str t) Φ = ((t.length == 0) = false ∧ s.length ≤ 1000000 ∧ Φ (.lst ((Txt.split s t).map PyData.str))) := by simp [sSplit]
theorem r_sKdIn {g : Str → Bool} : sKdIn g (.str z) Φ = Φ (.dat (.bool (g z))) := by simp [sKdIn]
theorem r_sKdAt {g : Str → Option Str} : sKdAt g (.str z) Φ = ∃ u, g z = some u ∧ Φ (.dat (.str u)) := by simp [sKdAt]
end
/-- what is known of a number's text -/
structure NumF (n : Nat) : Prop where
  val : intText? (numS (some n)) = some (n : Int)
  lo : 1 ≤ (numS (some n)).length
  hi : (numS (some n)).length ≤ 3
  fig : ∀ k ∈ (numS (some n)).cps.toList, k ∈ (Str.ofString "0123456789").cps.toList
  ne : (numS (some n) == Str.ofString "-") = false
  fst : ∃ k r, (numS (some n)).cps.toList = k :: r ∧ (((⟨#[k]⟩ : Str) == Str.ofString "0") && !(numS (some n) == Str.ofString "0")) = false
  sp : 32 ∉ (numS (some n)).cps.toList
  ok : PyData.strOk (numS (some n)) = true
  rok : PyData.strOk (Str.ofString "r" ++ numS (some n)) = true
  rne : (Str.ofString "r" ++ numS (some n) == Str.ofString "r-") = false
theorem numF {n : Nat} (h : n ≤ 999) : NumF n := by
  have h := List.all_eq_true.mp numOk_all n (List.mem_range.mpr (by omega))
  unfold numOk at h
  simp only [Bool.and_eq_true, decide_eq_true_eq, List.all_eq_true, beq_iff_eq, Bool.not_eq_true', beq_eq_false_iff_ne] at h
  obtain ⟨⟨⟨⟨⟨⟨⟨⟨⟨h1, h2⟩, h3⟩, h4⟩, h5⟩, h6⟩, h7⟩, h8⟩, h9⟩, h10⟩ := h
  refine ⟨h1, h2, h3, h4, ?_, ?_, fun z => h7 32 z rfl, h8, h9, ?_⟩
  · rw [Bool.eq_false_iff]
    intro z
    exact h5 (eq_of_beq z)
  · show ∃ k r, (Str.ofString (toString (n : Int))).cps.toList = k :: r ∧ _
    cases e : (Str.ofString (toString (n : Int))).cps.toList with
    | nil => rw [e] at h6; cases h6
    | cons k r =>
      rw [e] at h6
      refine ⟨k, r, rfl, ?_⟩
      have h6 : (!((⟨#[k]⟩ : Str) == Str.ofString "0") || (Str.ofString (toString (n : Int)) == Str.ofString "0")) = true := h6
      show (((⟨#[k]⟩ : Str) == Str.ofString "0") && !(Str.ofString (toString (n : Int)) == Str.ofString "0")) = false
      revert h6
      cases ((⟨#[k]⟩ : Str) == Str.ofString "0") <;> cases (Str.ofString (toString (n : Int)) == Str.ofString "0") <;> decide
  · rw [Bool.eq_false_iff]
    intro z
    exact h10 (eq_of_beq z)
end SF

/-! ## What is told is changed behind: old data, new data -/
namespace SF
open PySem PySem.Spec PyProof.Rows L2
/-- a heap's part without lists -/
def noLst (G : Hp) : Hp := fun a => match G a with
  | some (.lst _) => none
  | o => o
theorem noLst_ex {G : Hp} : Ex (noLst G) G := fun a o h => by
  unfold noLst at h
  cases e : G a with
  | none => rw [e] at h; cases h
  | some u =>
    rw [e] at h
    cases u <;> first | exact h | cases h
theorem noLst_t {G : Hp} : ExT G (noLst G) := fun a xs r => by
  rcases r with r | ⟨o, r⟩
  · refine .inl ?_
    unfold noLst
    rw [r]
  · refine .inr ⟨o, ?_⟩
    unfold noLst
    rw [r]
theorem noLst_l {G : Hp} {a : Addr} {xs : List V} : noLst G a ≠ some (.lst xs) := fun h => by
  unfold noLst at h
  cases e : G a with
  | none => rw [e] at h; cases h
  | some u =>
    rw [e] at h
    cases u <;> cases h
theorem noLst_none {G : Hp} {a : Addr} (h : G a = none) : noLst G a = none := by
  unfold noLst
  rw [h]
def uni (G G' : Hp) : Hp := fun a => match G a with
  | some o => some o
  | none => G' a
theorem uni_l {G G' : Hp} : Ex G (uni G G') := fun a o h => by
  unfold uni
  rw [h]
section
variable {K : PySem.W.Frag} {c : Cn} {ρ : Rho} {σ : L2.St} {G H G' H' : Hp}
/-- a call over what is no list: all lists of the answer are new -/
theorem call_new (S : Sat K c ρ σ G H) (f : Fin' K ⟨none, noLst G, H⟩ G' H') {r : Res} {v : V} (o : Out K H G' H' r v) :
    ∃ G2 Gn, Tr K ρ σ G H G2 H' ∧ Im K Gn r.frz v ∧ Ex Gn G2 ∧ ∀ a xs, Gn a = some (.lst xs) → H a = none := by
  obtain ⟨Gn, hn, im, hnH, hav, hEx⟩ : ∃ Gn, Ex G' Gn ∧ Im K Gn r.frz v ∧ Ex Gn H' ∧ (∀ a, noLst G a = none → H a ≠ none → Gn a = none) ∧ Ex (noLst G) Gn := by
    cases r with
    | dat d => exact ⟨G', .refl _, o, f.ex2, f.avoid, f.ex1⟩
    | lst ds =>
      obtain ⟨l, xs, rfl, o1, o2, o3, o4⟩ := o
      have hx : Ex G' (upd G' l (.lst xs)) := .new o2
      refine ⟨upd G' l (.lst xs), hx, ?_, fun a u h => ?_, fun a h h' => ?_, f.ex1.trans hx⟩
      · show Im K _ (.list ds) _
        rw [im_list]
        exact ⟨l, xs, rfl, upd_same, o4.mono hx⟩
      · by_cases q : a = l
        · subst q
          rw [upd_same] at h
          cases h
          exact o3
        · rw [upd_ne q] at h
          exact f.ex2 a u h
      · rw [upd_ne (show a ≠ l from fun e => h' (by rw [e]; exact o1))]
        exact f.avoid a h h'
  have hkeep : ∀ a o, G a = some o → H' a = some o := fun a o h => by
    by_cases q : ∃ xs, o = .lst xs
    · obtain ⟨xs, rfl⟩ := q
      exact f.keep a _ (S.ex2 a _ h) (by intro z; cases z) ntL
    · refine f.ex2 a o (f.ex1 a o ?_)
      show noLst G a = some o
      unfold noLst
      rw [h]
      cases o with
      | lst xs => exact absurd ⟨xs, rfl⟩ q
      | _ => rfl
  have new : ∀ a xs, Gn a = some (.lst xs) → H a = none := fun a xs h => by
    cases e : H a with
    | none => rfl
    | some u =>
      cases e2 : noLst G a with
      | none => rw [hav a e2 (by rw [e]; exact fun z => by cases z)] at h; cases h
      | some w =>
        rw [hEx a w e2] at h
        cases h
        exact absurd e2 noLst_l
  have same : ∀ a o o', Gn a = some o → G a = some o' → o' = o := fun a o o' h h' => by
    have h1 := hkeep a o' h'
    have h2 := hnH a o h
    rw [h1] at h2
    exact Option.some.inj h2
  refine ⟨uni G Gn, Gn, ⟨uni_l, fun a o h => ?_, fun a o h _ m => f.keep a o h (by intro z; cases z) m, f.tbl, fun a h h' => ?_, fun q hq => ?_⟩, im, fun a o h => ?_, new⟩
  · unfold uni at h
    cases e : G a with
    | some u =>
      rw [e] at h
      cases h
      exact hkeep a _ e
    | none =>
      rw [e] at h
      exact hnH a o h
  · unfold uni
    rw [h]
    exact hav a (noLst_none h) h'
  · have z := S.rowAt hq
    refine z.go uni_l ?_ fun o e => f.keep q _ e (by intro z; cases z) ntL
    unfold uni
    rw [z.1]
    exact hav q (noLst_none z.1) z.there
  · unfold uni
    cases e : G a with
    | none => exact h
    | some u => rw [same a o u h e]
/-- a slot's entry that tells less -/
theorem Sat.reent (S : Sat K c ρ σ G H) {i : Nat} {e' : Ent} (h : ∀ o, σ[i]? = some o → SlotOk K G H e' o) (hm : e'.isM = false) : Sat K c (ρ.set i e') σ G H := by
  have gt : ∀ {j : Nat} {e : Ent}, (ρ.set i e')[j]? = some e → e.isM = true → ρ[j]? = some e := fun {j e} h1 h2 => by
    by_cases q : i = j
    · subst q
      by_cases k : i < ρ.length
      · rw [List.getElem?_set_self k] at h1
        cases h1
        rw [hm] at h2
        cases h2
      · rw [List.getElem?_eq_none (by rw [List.length_set]; omega)] at h1
        cases h1
    · rw [List.getElem?_set_ne q] at h1
      exact h1
  refine ⟨S.ex1, S.ex2, S.keep, S.tbl, S.there, S.avoid, S.mrow, S.mhe, by rw [List.length_set, S.len], fun j e o h1 h2 => ?_, fun j e l h1 h2 h3 => S.own j e l (gt h1 h2) h2 h3, fun j k e f l hne h1 h2 m1 m2 h3 => S.ne j k e f l hne (gt h1 m1) (gt h2 m2) m1 m2 h3⟩
  by_cases q : i = j
  · subst q
    have k : i < ρ.length := by
      have := (List.getElem?_eq_some_iff.mp h1).1
      rwa [List.length_set] at this
    rw [List.getElem?_set_self k] at h1
    cases h1
    exact h o h2
  · rw [List.getElem?_set_ne q] at h1
    exact S.slot j e o h1 h2
end
end SF

/-! ## for s in x[1:]: s.append(0) -/
namespace SF
open PySem PySem.Spec PyProof.Rows L2
def tSpoil (K : PySem.W.Frag) (i s : Nat) : TS := fun D σ H => ∃ (t : Addr) (v0 : V) (ls : List Addr), σ[i]? = some (some (.ref t)) ∧ SqT K H t (v0 :: ls.map V.ref) ∧ (∀ l ∈ ls, ∃ xs, H l = some (.lst xs) ∧ xs.length ≤ 1000) ∧ ls.length ≤ 10 ∧ s < σ.length ∧
  ∀ (o : Option V) H', (∀ a u, a ∉ ls → H a = some u → H' a = some u) → (∀ a, H a ≠ none → H' a ≠ none) → D.nx (σ.set s o) H'
section
variable {X : Cx} {pos p1 p2 p3 pn ps pi p0 apos cpos epos : Pos} {ni ns : Str} {j1 j0 : Nat}
theorem ps_spoil (i s : Nat) (hp : PassesOwn (model X.prog X.w) X.A X.env X.xe) (hc : X.calm = true) (hN : X.N.Nodup) (hi : X.N[i]? = some ni := by rfl) (hsn : X.N[s]? = some ns := by rfl) (hvi : Vis X.env.scope ni := by first | exact Or.inl rfl | exact Or.inr (Or.inl rfl) | exact Or.inr (Or.inr rfl))
    (hvs : Vis X.env.scope ns := by first | exact Or.inl rfl | exact Or.inr (Or.inl rfl) | exact Or.inr (Or.inr rfl)) (hls : L2.Loc X.env.scope ns := by first | exact Or.inl rfl | exact Or.inr rfl)
    (d1 : (ni == ("__debug__" : Str)) = false := by decide) (d2 : (ni == ("__classdict__" : Str)) = false := by decide) (d3 : (ns == ("__debug__" : Str)) = false := by decide) (d4 : (ns == ("__classdict__" : Str)) = false := by decide)
    (hf : X.fn ns = true ∨ X.env.scope.names.lookup ns = some .local := by first | exact .inl rfl | exact .inr rfl)
    (hb : attributeBase (.Name ns pn) "append" X.env (eval (.Name ns pn) X.env) = eval (.Name ns pn) X.env := by rfl)
    (hfew : ((backTo cpos (starEach [.Constant (.int 0) j0 p0] X.env)).all (fun x => !x.1) && (backToKw cpos (keywordEach [] X.env)).all (fun x => x.1.isSome) && decide ([Expr.Constant (.int 0) j0 p0].length + ([] : List Keyword).length + (if ([] : List Keyword).isEmpty then 0 else 1) < 30)) = true := by rfl)
    (hline : (apos.endLine == cpos.line) = true := by rfl) (hse : starEach [.Constant (.int 0) j0 p0] X.env = (false, eval (.Constant (.int 0) j0 p0) X.env) :: starEach [] X.env := by rfl) (hpl : (backTo cpos (starEach [] X.env)).any (·.1) = false := by rfl)
    (hs : swapsWith (.Call (.Attribute (.Name ns pn) "append" apos) [.Constant (.int 0) j0 p0] [] cpos) none epos.line X.env = pure false := by rfl)
    (hfs : ∀ x, foldedSetIterable (.Subscript (.Name ni pi) (.Slice (some (.Constant (.int 1) j1 p1)) none none p2) p3) X.env x = pure x := by intro _; rfl) :
    PS X (.For (.Name ns ps) (.Subscript (.Name ni pi) (.Slice (some (.Constant (.int 1) j1 p1)) none none p2) p3) [.Expr (.Call (.Attribute (.Name ns pn) "append" apos) [.Constant (.int 0) j0 p0] [] cpos) epos] [] pos) (tSpoil X.K i s) :=
  ps_imp (ps_for hp hc (pi_tup (pe_slice sl_tupA (pe_var hi hvi d1 d2) (po_some pe_int) po_none)) (pg_name hN hsn hls hf) (pss_one (ps_expr (pe_bm PySem.F.plainAttrs_list PySem.F.slot_list_append PySem.F.type_list_append mt_append (pe_var hsn hvs d3 d4) (pa_cons pe_int pa_nil hse) hb hfew hline hse hpl) hs)) hfs) fun D σ H h => by
    obtain ⟨t, v0, ls, h1, h2, h3, h4, h5, q⟩ := h
    have ec : cutV (v0 :: ls.map V.ref) (some 1) none = ls.map V.ref := by
      unfold cutV
      rw [HT.sIx_none, show HT.sIx (v0 :: ls.map V.ref).length 0 (some 1) = min 1 (v0 :: ls.map V.ref).length from HT.sIx_nat _ _ 1]
      rw [show min 1 (v0 :: ls.map V.ref).length = 1 by rw [List.length_cons]; omega]
      show ((v0 :: ls.map V.ref).drop 1).take ((v0 :: ls.map V.ref).length - 1) = _
      rw [List.drop_succ_cons, List.drop_zero, List.length_cons, Nat.add_sub_cancel, List.take_length]
    refine ⟨.ref t, h1, 1, rfl, t, _, rfl, h2, fun z => ?_, fun _ p hpn => ?_⟩
    · exfalso
      have z1 := z.1
      rw [show HT.sIx (v0 :: ls.map V.ref).length 0 (some 1) = min 1 (v0 :: ls.map V.ref).length from HT.sIx_nat _ _ 1, List.length_cons] at z1
      omega
    · rw [ec]
      have hpl' : p ∉ ls := fun z => by
        obtain ⟨xs, hx, _⟩ := h3 p z
        rw [hpn] at hx
        cases hx
      refine ⟨p, rfl, ⟨_, st_of upd_same⟩, for_tup (xs := ls.map V.ref) (fun k σ' H' => ∃ o, σ' = σ.set s o ∧ H' p = some (.tup (ls.map V.ref)) ∧ (∀ a u, a ∉ ls → H a = some u → H' a = some u) ∧ (∀ a, H a ≠ none → H' a ≠ none) ∧ ∀ l ∈ ls, ∃ xs, H' l = some (.lst xs) ∧ xs.length ≤ 1000 + k) ?_ (fun k σ' H' _ ⟨o, _, e, _⟩ => st_of e) (fun k x σ' H' hx ⟨o, e1, e2, e3, e4, e5⟩ => ?_) (fun σ' H' ⟨o, e1, e2, e3, e4, e5⟩ => by rw [e1]; exact q o H' e3 e4)⟩
      · refine ⟨(σ[s]?).getD none, List.ext_getElem? fun n => ?_, upd_same, fun a u _ h => ?_, fun a h => ?_, fun l hl => ?_⟩
        · rw [List.getElem?_set]
          by_cases z : s = n
          · subst z
            rw [if_pos rfl]
            by_cases y : s < σ.length
            · rw [if_pos y, List.getElem?_eq_getElem y]
              rfl
            · rw [if_neg y, List.getElem?_eq_none (by omega)]
          · rw [if_neg z]
        · rw [upd_ne (ne_of_none h hpn)]
          exact h
        · rw [upd_ne (show a ≠ p from fun e => h (e ▸ hpn))]
          exact h
        · obtain ⟨xs, hx, hz⟩ := h3 l hl
          exact ⟨xs, by rw [upd_ne (ne_of_none hx hpn)]; exact hx, by omega⟩
      · rw [List.getElem?_map] at hx
        cases hk : ls[k]? with
        | none => rw [hk] at hx; cases hx
        | some l =>
          rw [hk] at hx
          cases hx
          have hlm : l ∈ ls := List.mem_of_getElem? hk
          have hkl : k < ls.length := (List.getElem?_eq_some_iff.mp hk).1
          obtain ⟨xs, hx, hz⟩ := e5 l hlm
          have hget : (σ'.set s (some (.ref l)))[s]? = some (some (.ref l)) ∨ σ.length ≤ s := by
            by_cases y : s < σ.length
            · left
              rw [e1, List.set_set, List.getElem?_set_self y]
            · exact .inr (by omega)
          rcases hget with hget | hbad
          · refine ⟨.ref l, hget, .inl ⟨rfl, xs, sq_of hx⟩, l, xs, .int 0, rfl, rfl, hx, Nat.lt_of_le_of_lt hz (by rw [sizeLine_eq]; omega), some (.ref l), by rw [e1, List.set_set], ?_, fun a u ha h => ?_, fun a h => ?_, fun m hm => ?_⟩
            · rw [upd_ne (show p ≠ l from fun e => hpl' (e ▸ hlm))]
              exact e2
            · rw [upd_ne (show a ≠ l from fun e => ha (e ▸ hlm))]
              exact e3 a u ha h
            · by_cases y : a = l
              · rw [y, upd_same]
                exact fun z => by cases z
              · rw [upd_ne y]
                exact e4 a h
            · by_cases y : m = l
              · subst y
                exact ⟨_, upd_same, by rw [List.length_append]; show xs.length + 1 ≤ _; omega⟩
              · obtain ⟨ys, hy, hz2⟩ := e5 m hm
                exact ⟨ys, by rw [upd_ne y]; exact hy, by omega⟩
          · exact absurd h5 (by omega)
end
end SF

/-! ## the state behind a change of what was told -/
namespace SF
open PySem PySem.Spec PyProof.Rows L2
def cutL (G : Hp) (ls : List Addr) : Hp := fun a => if a ∈ ls then none else G a
theorem cutL_in {G : Hp} {ls : List Addr} {a : Addr} (h : a ∈ ls) : cutL G ls a = none := if_pos h
theorem cutL_out {G : Hp} {ls : List Addr} {a : Addr} (h : a ∉ ls) : cutL G ls a = G a := if_neg h
section
variable {K : PySem.W.Frag} {c : Cn} {ρ : Rho} {σ : L2.St} {G1 H1 G4 H4 H5 : Hp}
theorem spoil_sat {ls : List Addr} {i k s : Nat} {d : PyData} {es : List PyData} {o1 o2 o : Option V} (S1 : Sat K c ρ σ G1 H1) (S4 : Sat K c ((ρ.set i (.dat d)).set k (.ls es)) ((σ.set i o1).set k o2) G4 H4) (e14 : Ex G1 G4)
    (k14 : ∀ a u, H1 a = some u → ¬ IsRow ρ σ a → NTbl u → H4 a = some u) (hnew : ∀ l ∈ ls, H1 l = none) (hG4 : ∀ l ∈ ls, ∃ xs, G4 l = some (.lst xs)) (hes : nolL es = true)
    (h45 : ∀ a u, a ∉ ls → H4 a = some u → H5 a = some u) (h45' : ∀ a, H4 a ≠ none → H5 a ≠ none) (t45 : TblK H4 H5) : Sat K c (((ρ.set i .no).set k (.ls es)).set s .no) (((σ.set i o1).set k o2).set s o) (cutL G4 ls) H5 := by
  have hHe : ∀ a, c.He a ≠ none → a ∉ ls := fun a h z => S1.there a h (hnew a z)
  have hG1 : ∀ a u, G1 a = some u → a ∉ ls := fun a u h z => by
    have := S1.ex2 a u h
    rw [hnew a z] at this
    cases this
  have e15 : Ex G1 (cutL G4 ls) := fun a u h => by
    rw [cutL_out (hG1 a u h)]
    exact e14 a u h
  have x45 : ExT G4 (cutL G4 ls) := fun a xs r => by
    have q : a ∉ ls := fun z => by
      obtain ⟨ys, hy⟩ := hG4 a z
      rcases r with r | ⟨o, r⟩ <;> rw [hy] at r <;> cases r
    rcases r with r | ⟨o, r⟩
    · exact .inl (by rw [cutL_out q]; exact r)
    · exact .inr ⟨o, by rw [cutL_out q]; exact r⟩
  have rowOk : ∀ r, RowAt K G4 H4 r → RowAt K (cutL G4 ls) H5 r := fun r z => by
    obtain ⟨z1, sc, ns, i, x, z2, z3, z4⟩ := z
    have q : r ∉ ls := fun y => by
      obtain ⟨ys, hy⟩ := hG4 r y
      rw [z1] at hy
      cases hy
    refine ⟨by rw [cutL_out q]; exact z1, sc, ns, i, x, h45 r _ q z2, ?_, z4⟩
    rcases z3 with ⟨oo, z3⟩ | z3
    · refine .inl ⟨oo, ?_⟩
      rw [cutL_out (fun y => by obtain ⟨ys, hy⟩ := hG4 sc y; rw [z3] at hy; cases hy)]
      exact z3
    · exact .inr z3
  have S5 : Sat K c ((ρ.set i .no).set k (.ls es)) ((σ.set i o1).set k o2) (cutL G4 ls) H5 := by
    have gt : ∀ {j : Nat} {e : Ent}, ((ρ.set i .no).set k (.ls es))[j]? = some e → e.isM = true → ((ρ.set i (.dat d)).set k (.ls es))[j]? = some e := fun {j e} h1 h2 => by
      by_cases q : k = j
      · subst q
        by_cases y : k < ρ.length
        · rw [List.getElem?_set_self (by rw [List.length_set]; exact y)] at h1 ⊢
          exact h1
        · rw [List.getElem?_eq_none (by rw [List.length_set, List.length_set]; omega)] at h1
          cases h1
      · rw [List.getElem?_set_ne q] at h1 ⊢
        by_cases q2 : i = j
        · subst q2
          by_cases y : i < ρ.length
          · rw [List.getElem?_set_self y] at h1
            cases h1
            cases h2
          · rw [List.getElem?_eq_none (by rw [List.length_set]; omega)] at h1
            cases h1
        · rw [List.getElem?_set_ne q2] at h1 ⊢
          exact h1
    refine ⟨fun a u h => e15 a u (S1.ex1 a u h), fun a u h => ?_, fun a u h hm m => h45 a u (hHe a (by rw [h]; exact fun z => by cases z)) (S4.keep a u h hm m), S4.tbl.trans t45, fun a h => h45' a (S4.there a h), fun a h h' => ?_, fun r h => rowOk r (S4.mrow r h), S4.mhe, ?_, fun j e u q1 q2 => ?_, fun j e l q1 q2 q3 => S4.own j e l (gt q1 q2) q2 q3, fun j m e f l hne q1 q2 m1 m2 q3 => S4.ne j m e f l hne (gt q1 m1) (gt q2 m2) m1 m2 q3⟩
    · by_cases q : a ∈ ls
      · rw [cutL_in q] at h
        cases h
      · rw [cutL_out q] at h
        exact h45 a u q (S4.ex2 a u h)
    · by_cases q : a ∈ ls
      · exact cutL_in q
      · rw [cutL_out q]
        exact S4.avoid a h h'
    · rw [List.length_set, List.length_set, List.length_set, List.length_set, S1.len]
    · by_cases q : k = j
      · subst q
        have hk : k < ρ.length := by
          have := (List.getElem?_eq_some_iff.mp q1).1
          rwa [List.length_set, List.length_set] at this
        rw [List.getElem?_set_self (by rw [List.length_set]; exact hk)] at q1
        cases q1
        obtain ⟨l, ys, e1, e2, e3, e4⟩ := S4.slot k (.ls es) u (by rw [List.getElem?_set_self (by rw [List.length_set]; exact hk)]) q2
        have hl : l ∉ ls := fun z => by
          obtain ⟨zs, hz⟩ := hG4 l z
          rw [e3] at hz
          cases hz
        exact ⟨l, ys, e1, h45 l _ hl e2, by rw [cutL_out hl]; exact e3, e4.monoT x45 hes⟩
      · by_cases q3 : i = j
        · subst q3
          have hi : i < ρ.length := by
            have := (List.getElem?_eq_some_iff.mp q1).1
            rwa [List.length_set, List.length_set] at this
          rw [List.getElem?_set_ne q, List.getElem?_set_self hi] at q1
          cases q1
          trivial
        · have q1' := q1
          have q2' := q2
          rw [List.getElem?_set_ne q, List.getElem?_set_ne q3] at q1 q2
          have z := S1.slot j e u q1 q2
          have z4 := S4.slot j e u (by rw [List.getElem?_set_ne q, List.getElem?_set_ne q3]; exact q1) q2'
          cases e with
          | no => trivial
          | dat d =>
            obtain ⟨v, e1, im⟩ := z
            exact ⟨v, e1, im.mono e15⟩
          | ls ds =>
            obtain ⟨l, xs, e1, e2, e3, e4⟩ := z
            subst e1
            have hl : l ∉ ls := fun y => by rw [hnew l y] at e2; cases e2
            obtain ⟨l', xs', f1, f2, f3, f4⟩ := z4
            cases f1
            exact ⟨l, xs, rfl, h45 l _ hl (k14 l _ e2 (S1.neRow q1 q2) ntL), by rw [cutL_out hl]; exact f3, e4.mono e15⟩
          | row =>
            obtain ⟨r, e1, e2⟩ := z4
            exact ⟨r, e1, rowOk r e2⟩
          | ob k2 =>
            obtain ⟨l, u2, e1, e2, e3, e4⟩ := z
            subst e1
            have hl : l ∉ ls := fun y => by rw [hnew l y] at e2; cases e2
            obtain ⟨l', u3, f1, f2, f3, f4⟩ := z4
            cases f1
            exact ⟨l, u2, rfl, h45 l _ hl (k14 l _ e2 (S1.neRowM q1 rfl (fun z => by cases z) q2) (k2.nt _ _ _ _ e4)), by rw [cutL_out hl]; exact f3, k2.mono _ _ _ _ _ e15 e4⟩
          | val k2 => exact ⟨z.1, k2.mono _ _ e15 z.2⟩
  exact S5.setNo
end
end SF

/-! ## x = f(..); y = g(..); if ..: return; for s in x[1:]: s.append(0) -/
namespace SF
open PySem PySem.Spec PyProof.Rows L2
theorem isRow_setD {ρ : Rho} {σ : L2.St} {i : Nat} {e : Ent} {o : Option V} (hm : e ≠ .row) {r : Addr} (h : IsRow (ρ.set i e) (σ.set i o) r) : IsRow ρ σ r := by
  obtain ⟨j, e1, e2⟩ := h
  by_cases q : i = j
  · subst q
    by_cases k : i < ρ.length
    · rw [List.getElem?_set_self k] at e1
      exact absurd (Option.some.inj e1) hm
    · rw [List.getElem?_eq_none (by rw [List.length_set]; omega)] at e1
      cases e1
  · rw [List.getElem?_set_ne q] at e1 e2
    exact ⟨j, e1, e2⟩
theorem imL_refs {K : PySem.W.Frag} {G : Hp} : ∀ {dss : List (List PyData)} {xs : List V}, ImL K G (dss.map PyData.list) xs → ∃ ls : List Addr, xs = ls.map V.ref ∧ ls.length = dss.length ∧ ∀ l ∈ ls, ∃ ys, G l = some (.lst ys) ∧ ∃ ds ∈ dss, ds.length = ys.length
  | [], xs, h => by
    rw [List.map_nil, imL_nil] at h
    subst h
    exact ⟨[], rfl, rfl, fun l hl => by cases hl⟩
  | ds :: dss, xs, h => by
    rw [List.map_cons, imL_cons] at h
    obtain ⟨x, r, rfl, h1, h2⟩ := h
    rw [im_list] at h1
    obtain ⟨a, ys, rfl, h3, h4⟩ := h1
    obtain ⟨ls, e1, e2, e3⟩ := imL_refs h2
    refine ⟨a :: ls, by rw [e1]; rfl, by rw [List.length_cons, List.length_cons, e2], fun l hl => ?_⟩
    rcases List.mem_cons.mp hl with z | z
    · rw [z]
      exact ⟨ys, h3, ds, List.mem_cons_self, h4.len⟩
    · obtain ⟨zs, q1, es, q2, q3⟩ := e3 l z
      exact ⟨zs, q1, es, List.mem_cons_of_mem _ q2, q3⟩
section
variable {X : Cx} {b : Bs} {st1 st2 st3 st4 : Stmt} {rest : List Stmt} {t1 t2 t3 : TS} {w2 : WE} {wt : WT} {wa : WA} {w5 : WS}
def wSpoil (i k s : Nat) (T : Tf) (wa : WA) (w2 : WE) (wt : WT) (w5 : WS) : WS := fun ρ Ψ => (i < ρ.length ∧ s < ρ.length) ∧ wa ρ (fun ds => nolL ds = true ∧ T ds (fun r1 => w2 (ρ.set i (.dat r1.frz)) (fun r2 => wt ((ρ.set i (.dat r1.frz)).set k r2.ent) (fun q => q = false ∧
  (∃ (d0 : PyData) (dss : List (List PyData)), r1.frz = .tuple (d0 :: dss.map PyData.list) ∧ dss.length ≤ 10 ∧ ∀ ds ∈ dss, ds.length ≤ 1000) ∧ (∃ es, r2 = .lst es ∧ nolL es = true) ∧ w5 (((ρ.set i .no).set k r2.ent).set s .no) Ψ) (fun _ => False)) (fun _ => False)) (fun _ => False)) Ψ.xc
theorem psis_spoil (i k s : Nat) {T : Tf} {n : Nat} (hik : i ≠ k)
    (h1 : PS X st1 t1) (H1 : ∀ D σ H, taOf X.K b n wa σ H (fun vs H1 => spP X.K b.XR T (vs ++ []) H1 (fun v H2 => D.nx (σ.set i (some v)) H2) b.E) → t1 D σ H)
    (h2 : PS X st2 t2) (H2 : ∀ D σ H, teOf X.K b w2 σ H (fun v H1 => D.nx (σ.set k (some v)) H1) → t2 D σ H)
    (h3 : PS X st3 t3) (H3 : ∀ D σ H, ttOf X.K b wt σ H (fun q H1 => q = false ∧ D.nx σ H1) → t3 D σ H)
    (h4 : PS X st4 (tSpoil X.K i s)) (h5 : PSsI X b rest w5) : PSsI X b (st1 :: st2 :: st3 :: st4 :: rest) (wSpoil i k s T wa w2 wt w5) :=
  pss_imp (pss_cons h1 (pss_cons h2 (pss_cons h3 (pss_cons h4 h5)))) fun D σ H ⟨c, ρ, G, Ψ, S, ⟨⟨hi, hsl⟩, hw⟩, p⟩ => by
    refine H1 _ _ _ ⟨c, ρ, G, _, Ψ.xc, S, hw, fun vs ds G1 H1' t1' il hl hh => ?_, p.exc S⟩
    have S1 := S.tr t1'
    obtain ⟨hnl, hT⟩ := hh
    show spP X.K b.XR T (vs ++ []) H1' _ b.E
    rw [List.append_nil]
    refine ⟨noLst G1, ds, _, _, noLst_ex.trans S1.ex2, il.monoT noLst_t hnl, hT, fun v1 r1 G' H' fi o hΦ => ?_, fun exn cls d G' H' fi xr hΞ => hΞ.elim⟩
    obtain ⟨G2, Gn, tr2, im, hx2, hnew⟩ := call_new S1 fi o
    have S2 := (S1.tr tr2).setDat (i := i) (im.mono hx2)
    refine H2 _ _ _ ⟨c, _, G2, _, _, S2, hΦ, fun v2 r2 G3 H3' tr3 o3 h3' => ?_, fun _ _ _ _ _ _ _ z => z.elim⟩
    have S3 := S2.setOut tr3 (i := k) o3
    refine H3 _ _ _ ⟨c, _, G3, _, _, S3, h3', fun q G4 H4 tr4 h4' => ?_, fun _ _ _ _ _ _ _ z => z.elim⟩
    obtain ⟨hq, ⟨d0, dss, er, hdl, hds⟩, ⟨es, e2, hnles⟩, hw5⟩ := h4'
    have S4 := S3.tr tr4
    refine ⟨hq, ?_⟩
    subst e2
    have x34 : Ex G2 G4 := tr3.eg.trans tr4.eg
    have xH : Ex Gn H4 := (hx2.trans x34).trans S4.ex2
    rw [er, im_tuple] at im
    obtain ⟨t, xs, ev, ht, il2⟩ := im
    rw [imL_cons] at il2
    obtain ⟨x0, r, rfl, _, il3⟩ := il2
    obtain ⟨ls, rfl, hll, hls⟩ := imL_refs il3
    have hlen := S.len
    have hiσ : i < σ.length := by omega
    show tSpoil X.K i s _ ((σ.set i (some v1)).set k (some v2)) H4
    refine ⟨t, x0, ls, ?_, ex_t xH ht, fun l hl => ?_, by omega, by rw [List.length_set, List.length_set]; omega, fun o H5 k1 k2 => ?_⟩
    · rw [List.getElem?_set_ne (Ne.symm hik), List.getElem?_set_self hiσ, ev]
    · obtain ⟨ys, q1, ds, q2, q3⟩ := hls l hl
      exact ⟨ys, xH l _ q1, by rw [← q3]; exact hds ds q2⟩
    · refine ⟨c, _, cutL G4 ls, Ψ, spoil_sat (d := r1.frz) S1 S4 (tr2.eg.trans x34) (fun a u h n m => ?_) (fun l hl => ?_) (fun l hl => ?_) hnles k1 k2 (.of fun a u h n => k1 a u (fun z => ?_) h), hw5, p⟩
      · have q1 := tr2.keep a u h n m
        have n2 : ¬ IsRow (ρ.set i (.dat r1.frz)) (σ.set i (some v1)) a := fun z => n (isRow_setD (by intro z; cases z) z)
        have q2 := tr3.keep a u q1 n2 m
        exact tr4.keep a u q2 (fun z => n2 (isRow_setD (by intro z; cases z) z)) m
      · obtain ⟨ys, q1, _⟩ := hls l hl
        exact hnew l ys q1
      · obtain ⟨ys, q1, _⟩ := hls l hl
        exact ⟨ys, x34 l _ (hx2 l _ q1)⟩
      · obtain ⟨ys, q1, _⟩ := hls a z
        have := xH a _ q1
        rw [h] at this
        exact n ys (Option.some.inj this)
theorem if_pass {K : PySem.W.Frag} {b : Bs} {wt : WT} {D : Ends} {σ : L2.St} {H : Hp} (h : ttOf K b wt σ H (fun q H1 => q = false ∧ D.nx σ H1)) {A : Hp → Prop} : ttOf K b wt σ H (fun q H1 => if q = true then A H1 else D.nx σ H1) := by
  obtain ⟨c, ρ, G, Φ, Ξ, S, hw, p, x⟩ := h
  refine ⟨c, ρ, G, Φ, Ξ, S, hw, fun k G' H' t h => ?_, x⟩
  obtain ⟨e, q⟩ := p k G' H' t h
  rw [e, if_neg (by decide)]
  exact q
end
end SF

/-! ## dicts of one's own, from ints to ints -/
namespace SF
open PySem PySem.Spec PyProof.Rows L2
abbrev DI := List (Int × Int)
def enc (kvs : DI) : List (Key × V) := kvs.map fun p => (Sum.inl p.1, V.int p.2)
def dkK (kvs : DI) : ObK := ⟨fun _ _ _ o => o = .dK (enc kvs), fun _ _ _ _ _ _ h => h, fun _ _ _ _ h ps z => by rw [h] at z; cases z⟩
/-- .. locked while it is walked -/
def dkF (od : Obj) (l : Addr) (kvs : DI) : ObK := ⟨fun _ a _ o => a = l ∧ o = .frz od (.dK (enc kvs)), fun _ _ _ _ _ _ h => h, fun _ _ _ _ h ps z => by rw [h.2] at z; cases z⟩
def lookD (kvs : DI) (k : Int) : Option Int := (kvs.find? fun p => decide (p.1 = k)).map (·.2)
def dropD (kvs : DI) (k : Int) : DI := kvs.filter fun p => decide (p.1 ≠ k)
def hasD (kvs : DI) (k : Int) : Bool := (lookD kvs k).isSome
theorem valV_enc (k : Int) : ∀ kvs : DI, valV (enc kvs) (Sum.inl k) = (lookD kvs k).map V.int
  | [] => rfl
  | p :: r => by
    show valV ((Sum.inl p.1, V.int p.2) :: enc r) (Sum.inl k) = _
    by_cases e : p.1 = k
    · rw [valV_pos (by rw [e])]
      unfold lookD
      rw [List.find?_cons_of_pos (by simpa using e)]
      rfl
    · rw [valV_neg (fun z => e (by injection z)), valV_enc k r]
      unfold lookD
      rw [List.find?_cons_of_neg (by simpa using e)]
theorem dropK_enc (k : Int) : ∀ kvs : DI, dropK (enc kvs) (Sum.inl k) = enc (dropD kvs k)
  | [] => rfl
  | p :: r => by
    have ih := dropK_enc k r
    unfold dropK at ih ⊢
    unfold dropD
    show List.filter _ ((Sum.inl p.1, V.int p.2) :: enc r) = _
    rw [List.filter_cons, List.filter_cons]
    by_cases e : p.1 = k
    · rw [if_neg (by simp [e]), if_neg (by simp [e])]
      exact ih
    · rw [if_pos (by exact decide_eq_true fun z => e (by injection z)), if_pos (by simpa using e)]
      show _ = (Sum.inl p.1, V.int p.2) :: enc _
      rw [ih]
      rfl
theorem mergeK_enc : ∀ (kvs acc : DI), ((acc ++ kvs).map (·.1)).Nodup → mergeK (enc acc) (enc kvs) = enc (acc ++ kvs)
  | [], acc, _ => by rw [List.append_nil]; rfl
  | p :: r, acc, h => by
    show mergeK (putK (enc acc) (Sum.inl p.1) (V.int p.2)) (enc r) = _
    have hn : valV (enc acc) (Sum.inl p.1) = none := by
      rw [valV_enc]
      unfold lookD
      rw [List.find?_eq_none.mpr fun q hq => ?_]
      · rfl
      · rw [List.map_append, List.nodup_append] at h
        have := h.2.2 q.1 (List.mem_map_of_mem hq) p.1 (by rw [List.map_cons]; exact List.mem_cons_self)
        simpa using this
    rw [putK_new _ hn]
    have e : enc acc ++ [(Sum.inl p.1, V.int p.2)] = enc (acc ++ [p]) := by
      unfold enc
      rw [List.map_append]
      rfl
    rw [e, mergeK_enc r (acc ++ [p]) (by rw [List.append_assoc]; exact h), List.append_assoc]
    rfl
theorem mergeK_enc0 {kvs : DI} (h : (kvs.map (·.1)).Nodup) : mergeK [] (enc kvs) = enc kvs := mergeK_enc kvs [] h
def pairD (p : Int × Int) : PyData := .tuple [.int p.1, .int p.2]
theorem pairs_im {K : PySem.W.Frag} {G : Hp} : ∀ {kvs : DI} {xs : List V}, ImL K G (kvs.map pairD) xs → ∃ ps : List Addr, xs = ps.map V.ref ∧ Paired (fun p kv => SqT K G p [kV kv.1, kv.2]) ps (enc kvs)
  | [], xs, h => by
    rw [List.map_nil, imL_nil] at h
    subst h
    exact ⟨[], rfl, .nil⟩
  | kv :: kvs, xs, h => by
    rw [List.map_cons, imL_cons] at h
    obtain ⟨x, r, rfl, h1, h2⟩ := h
    unfold pairD at h1
    rw [im_tuple] at h1
    obtain ⟨a, ys, rfl, h3, h4⟩ := h1
    obtain ⟨y, z, rfl, i1, i2⟩ := imL_2 h4
    rw [im_int] at i1 i2
    subst i1 i2
    obtain ⟨ps, e1, e2⟩ := pairs_im h2
    exact ⟨a :: ps, by rw [e1]; rfl, .cons h3 e2⟩
/-- an entry that may be read -/
def DkAt (ρ : Rho) (j : Nat) (kvs : DI) : Prop := ρ[j]? = some (.ob (dkK kvs)) ∨ ∃ od l, ρ[j]? = some (.ob (dkF od l kvs))
theorem Sat.dkAt {K : PySem.W.Frag} {c : Cn} {ρ : Rho} {σ : L2.St} {G H : Hp} (S : Sat K c ρ σ G H) {j : Nat} {kvs : DI} (h : DkAt ρ j kvs) : ∃ l, σ[j]? = some (some (.ref l)) ∧ Rd H l (.dK (enc kvs)) ∧ ∃ u, H l = some u ∧ NTbl u ∧ ¬ IsRow ρ σ l := by
  rcases h with h | ⟨od, l0, h⟩
  · obtain ⟨l, u, e1, e2, _, e4⟩ := S.obAt h
    have e5 : u = .dK (enc kvs) := e4
    subst e5
    exact ⟨l, e1, .inl e2, _, e2, (dkK kvs).nt K l G _ e4, S.neRowM h rfl (fun z => by cases z) e1⟩
  · obtain ⟨l, u, e1, e2, _, e4⟩ := S.obAt h
    have e5 : u = .frz od (.dK (enc kvs)) := e4.2
    subst e5
    exact ⟨l, e1, .inr ⟨od, e2⟩, _, e2, (dkF od l0 kvs).nt K l G _ e4, S.neRowM h rfl (fun z => by cases z) e1⟩
theorem rd_tr {K : PySem.W.Frag} {ρ : Rho} {σ : L2.St} {G H G' H' : Hp} (t : Tr K ρ σ G H G' H') {l : Addr} {u v : HO} (h : Rd H l v) (e : H l = some u) (n : NTbl u) (nr : ¬ IsRow ρ σ l) : Rd H' l v := by
  have k := t.keep l u e nr n
  rcases h with h | ⟨o, h⟩
  · rw [e] at h
    cases h
    exact .inl k
  · rw [e] at h
    cases h
    exact .inr ⟨o, k⟩
theorem dget_int {H : Hp} {l : Addr} {kvs : DI} {k : Int} (h : Rd H l (.dK (enc kvs))) : DGet H l (.int k) ((lookD kvs k).map V.int) := .inl ⟨enc kvs, Sum.inl k, h, rfl, (valV_enc k kvs).symm⟩
def optI : Option Int → PyData
  | none => .none
  | some i => .int i
section
variable {X : Cx} {b : Bs} {x e : Expr} {pos : Pos} {we w : WE} {wa : WA} {wt : WT}
/-! ### dict(pairs) -/
def wSetDict (i : Nat) (w : WA) : WS := fun ρ Ψ => w ρ (fun ds => ∃ kvs : DI, ds = [.list (kvs.map pairD)] ∧ (kvs.map (·.1)).Nodup ∧ Ψ.nx (ρ.set i (.ob (dkK kvs)))) Ψ.xc
theorem psi_setDict (i : Nat) {nm : Str} {np p cpos : Pos} (hc : X.calm = true) (hm : X.mg "dict" = none) (hg : Gl X "dict") (ha : PAI X b 1 [x] wa) (hN : X.N.Nodup) (hi : X.N[i]? = some nm := by rfl) (hx : L2.Loc X.env.scope nm := by first | exact Or.inl rfl | exact Or.inr rfl)
    (he : starEach [x] X.env = (false, eval x X.env) :: starEach [] X.env := by rfl) (hpl : (backTo cpos (starEach [] X.env)).any (·.1) = false := by rfl)
    (hs : swapsWithSole [Expr.Name nm np] (.Call (.Name "dict" p) [x] [] cpos) pos.line X.env = pure false := by rfl) (hw : swappedStores [Expr.Name nm np] (.Call (.Name "dict" p) [x] [] cpos) X.env = pure none := by rfl) (h1 : (assignEach [Expr.Name nm np] X.env).map (·.2) = [assign (Expr.Name nm np) X.env] := by rfl)
    (hf : X.fn nm = true ∨ X.env.scope.names.lookup nm = some .local := by first | exact .inl rfl | exact .inr rfl) : PSI X b (.Assign [.Name nm np] (.Call (.Name "dict" p) [x] [] cpos) pos) (wSetDict i wa) :=
  psi_of (ps_asg (pe_callTy (call_dictP hc) hg hm (by decide +kernel) ha (he := he) (hpl := hpl)) (pg_name hN hi hx hf) hs hw h1) fun c ρ σ G H Ψ D S hw p => by
    refine ⟨c, ρ, G, _, Ψ.xc, S, hw, fun vs ds G1 H1 t1 il hl hn => ?_, p.exc S⟩
    obtain ⟨kvs, rfl, nd, hn⟩ := hn
    obtain ⟨v, rfl, im⟩ := imL_1 il
    rw [im_list] at im
    obtain ⟨a, xs, rfl, ha, il2⟩ := im
    have S1 := S.tr t1
    obtain ⟨ps, rfl, hp⟩ := pairs_im il2
    refine ⟨a, ps, enc kvs, rfl, sq_of (S1.ex2 a _ ha), Paired.mapP hp fun _ _ z => ex_t S1.ex2 z, fun q hq => ?_⟩
    rw [mergeK_enc0 nd]
    exact p.nx _ _ G1 _ (S1.setOb (k := dkK kvs) hq rfl) hn
/-! ### d.pop(k), d.pop(k, e) -/
def wPopD (j : Nat) (w : WE) : WS := fun ρ Ψ => ∃ kvs : DI, ρ[j]? = some (.ob (dkK kvs)) ∧ w ρ (fun r => ∃ k, r = .dat (.int k) ∧ hasD kvs k = true ∧ Ψ.nx (ρ.set j (.ob (dkK (dropD kvs k))))) Ψ.xc
theorem psi_popD (j : Nat) {nm : Str} {np apos cpos : Pos} (he : PEI X b e we) (hN : X.N[j]? = some nm := by rfl) (hv : Vis X.env.scope nm := by first | exact Or.inl rfl | exact Or.inr (Or.inl rfl) | exact Or.inr (Or.inr rfl)) (hd : (nm == ("__debug__" : Str)) = false := by decide)
    (hcd : (nm == ("__classdict__" : Str)) = false := by decide) (hb : attributeBase (.Name nm np) "pop" X.env (eval (.Name nm np) X.env) = eval (.Name nm np) X.env := by rfl)
    (hfew : ((backTo cpos (starEach [e] X.env)).all (fun x => !x.1) && (backToKw cpos (keywordEach [] X.env)).all (fun x => x.1.isSome) && decide (([e] : List Expr).length + ([] : List Keyword).length + (if ([] : List Keyword).isEmpty then 0 else 1) < 30)) = true := by rfl)
    (hline : (apos.endLine == cpos.line) = true := by rfl) (htr : backTo cpos (starEach [e] X.env) = [(false, eval e X.env)] := by rfl)
    (hs : swapsWith (.Call (.Attribute (.Name nm np) "pop" apos) [e] [] cpos) none pos.line X.env = pure false := by rfl) : PSI X b (.Expr (.Call (.Attribute (.Name nm np) "pop" apos) [e] [] cpos) pos) (wPopD j we) :=
  psi_of (ps_expr (pe_dpop1 (pe_var hN hv hd hcd) he ⟨hb, hfew, hline, htr⟩) hs) fun c ρ σ G H Ψ D S hw p => by
    obtain ⟨kvs, h1, hw⟩ := hw
    obtain ⟨l, u, h2, h3, h4, h5⟩ := S.obAt h1
    have h5' : u = .dK (enc kvs) := h5
    subst h5'
    have nr := S.neRowM h1 rfl (fun z => by cases z) h2
    refine ⟨.ref l, h2, l, rfl, .inl ⟨_, .inl h3⟩, c, ρ, G, _, Ψ.xc, S, hw, fun v r G1 H1 t1 o1 hn => ?_, p.exc S⟩
    obtain ⟨k, rfl, hk, hn⟩ := hn
    have o1 : Im X.K G1 (.int k) v := o1
    rw [im_int] at o1
    subst o1
    have S1 := S.tr t1
    have k3 := t1.keep l _ h3 nr ((dkK kvs).nt X.K l G _ h5)
    have g3 := t1.avoid l h4 (by rw [h3]; exact fun z => by cases z)
    obtain ⟨z, hz⟩ := Option.isSome_iff_exists.mp hk
    refine ⟨enc kvs, Sum.inl k, .int z, k3, rfl, by rw [valV_enc, hz]; rfl, ?_⟩
    rw [dropK_enc]
    exact p.nx _ _ G1 _ (S1.writeOb (k' := dkK (dropD kvs k)) h1 h2 k3 g3 (fun q z => by cases z) h5 rfl) hn
def wPopDD (j : Nat) (w w2 : WE) : WS := fun ρ Ψ => ∃ kvs : DI, ρ[j]? = some (.ob (dkK kvs)) ∧ w ρ (fun r => ∃ k, r = .dat (.int k) ∧ w2 ρ (fun _ => Ψ.nx (ρ.set j (.ob (dkK (dropD kvs k))))) Ψ.xc) Ψ.xc
theorem dropD_none {kvs : DI} {k : Int} (h : lookD kvs k = none) : dropD kvs k = kvs := by
  unfold lookD at h
  rw [Option.map_eq_none_iff, List.find?_eq_none] at h
  unfold dropD
  rw [List.filter_eq_self.mpr fun p hp => by simpa using h p hp]
theorem set_self {ρ : Rho} {j : Nat} {e : Ent} (h : ρ[j]? = some e) : ρ.set j e = ρ := by
  apply List.ext_getElem?
  intro n
  rw [List.getElem?_set]
  by_cases q : j = n
  · subst q
    rw [if_pos rfl, if_pos (List.getElem?_eq_some_iff.mp h).1, h]
  · rw [if_neg q]
theorem psi_popDD (j : Nat) {f : Expr} {w2 : WE} {nm : Str} {np apos cpos : Pos} (he : PEI X b e we) (hf : PEI X b f w2) (hN : X.N[j]? = some nm := by rfl) (hv : Vis X.env.scope nm := by first | exact Or.inl rfl | exact Or.inr (Or.inl rfl) | exact Or.inr (Or.inr rfl)) (hd : (nm == ("__debug__" : Str)) = false := by decide)
    (hcd : (nm == ("__classdict__" : Str)) = false := by decide) (hb : attributeBase (.Name nm np) "pop" X.env (eval (.Name nm np) X.env) = eval (.Name nm np) X.env := by rfl)
    (hfew : ((backTo cpos (starEach [e, f] X.env)).all (fun x => !x.1) && (backToKw cpos (keywordEach [] X.env)).all (fun x => x.1.isSome) && decide (([e, f] : List Expr).length + ([] : List Keyword).length + (if ([] : List Keyword).isEmpty then 0 else 1) < 30)) = true := by rfl)
    (hline : (apos.endLine == cpos.line) = true := by rfl) (htr : backTo cpos (starEach [e, f] X.env) = [(false, eval e X.env), (false, eval f X.env)] := by rfl)
    (hs : swapsWith (.Call (.Attribute (.Name nm np) "pop" apos) [e, f] [] cpos) none pos.line X.env = pure false := by rfl) : PSI X b (.Expr (.Call (.Attribute (.Name nm np) "pop" apos) [e, f] [] cpos) pos) (wPopDD j we w2) :=
  psi_of (ps_expr (pe_dpop2 (pe_var hN hv hd hcd) he hf ⟨hb, hfew, hline, htr⟩) hs) fun c ρ σ G H Ψ D S hw p => by
    obtain ⟨kvs, h1, hw⟩ := hw
    obtain ⟨l, u, h2, h3, h4, h5⟩ := S.obAt h1
    have h5' : u = .dK (enc kvs) := h5
    subst h5'
    have nr := S.neRowM h1 rfl (fun z => by cases z) h2
    refine ⟨.ref l, h2, l, rfl, .inl ⟨_, .inl h3⟩, c, ρ, G, _, Ψ.xc, S, hw, fun v r G1 H1 t1 o1 hn => ?_, p.exc S⟩
    obtain ⟨k, rfl, hn⟩ := hn
    have o1 : Im X.K G1 (.int k) v := o1
    rw [im_int] at o1
    subst o1
    have S1 := S.tr t1
    refine ⟨c, ρ, G1, _, Ψ.xc, S1, hn, fun v2 r2 G2 H2 t2 o2 hn => ?_, (p.exc S).tr t1⟩
    have S2 := S1.tr t2
    have k3 := (t1.trans t2).keep l _ h3 nr ((dkK kvs).nt X.K l G _ h5)
    have g3 := (t1.trans t2).avoid l h4 (by rw [h3]; exact fun z => by cases z)
    refine ⟨enc kvs, Sum.inl k, k3, rfl, fun v hv => ?_, fun hv => ?_⟩
    · rw [dropK_enc]
      exact p.nx _ _ G2 _ (S2.writeOb (k' := dkK (dropD kvs k)) h1 h2 k3 g3 (fun q z => by cases z) h5 rfl) hn
    · rw [valV_enc, Option.map_eq_none_iff] at hv
      rw [dropD_none hv, set_self h1] at hn
      exact p.nx _ _ G2 _ S2 hn
/-! ### reads -/
def wGetD (j : Nat) (w : WE) : WE := fun ρ Φ Ξ => ∃ kvs : DI, DkAt ρ j kvs ∧ w ρ (fun r => ∃ k, r = .dat (.int k) ∧ Φ (.dat (optI (lookD kvs k)))) Ξ
theorem pei_getD (j : Nat) {nm : Str} {np apos cpos : Pos} (hu : X.A.units + 1 < cLine) (he : PEI X b e we) (hN : X.N[j]? = some nm := by rfl) (hv : Vis X.env.scope nm := by first | exact Or.inl rfl | exact Or.inr (Or.inl rfl) | exact Or.inr (Or.inr rfl)) (hd : (nm == ("__debug__" : Str)) = false := by decide)
    (hcd : (nm == ("__classdict__" : Str)) = false := by decide) (hb : attributeBase (.Name nm np) "get" X.env (eval (.Name nm np) X.env) = eval (.Name nm np) X.env := by rfl)
    (hfew : ((backTo cpos (starEach [e] X.env)).all (fun x => !x.1) && (backToKw cpos (keywordEach [] X.env)).all (fun x => x.1.isSome) && decide (([e] : List Expr).length + ([] : List Keyword).length + (if ([] : List Keyword).isEmpty then 0 else 1) < 30)) = true := by rfl)
    (hline : (apos.endLine == cpos.line) = true := by rfl) (htr : backTo cpos (starEach [e] X.env) = [(false, eval e X.env)] := by rfl) : PEI X b (.Call (.Attribute (.Name nm np) "get" apos) [e] [] cpos) (wGetD j we) :=
  pei_of (pe_dget1 hu (pe_var hN hv hd hcd) he ⟨hb, hfew, hline, htr⟩) fun c ρ σ G H Φ Ξ Q S hw p ex => by
    obtain ⟨kvs, h1, hw⟩ := hw
    obtain ⟨l, h2, h3, u, h4, h5, h6⟩ := S.dkAt h1
    refine ⟨.ref l, h2, l, rfl, .inl ⟨_, h3⟩, c, ρ, G, _, Ξ, S, hw, fun v r G1 H1 t1 o1 hn => ?_, ex⟩
    obtain ⟨k, rfl, hn⟩ := hn
    have o1 : Im X.K G1 (.int k) v := o1
    rw [im_int] at o1
    subst o1
    refine ⟨_, dget_int (rd_tr t1 h3 h4 h5 h6), p _ (.dat (optI (lookD kvs k))) G1 H1 t1 ?_ hn⟩
    show Im _ _ _ _
    cases lookD kvs k with
    | none => show Im _ _ .none _; rw [im_none]; rfl
    | some z => show Im _ _ (.int z) _; rw [im_int]; rfl
def wIxD (j : Nat) (w : WE) : WE := fun ρ Φ Ξ => ∃ kvs : DI, DkAt ρ j kvs ∧ w ρ (fun r => ∃ k z, r = .dat (.int k) ∧ lookD kvs k = some z ∧ Φ (.dat (.int z))) Ξ
theorem pei_ixD (j : Nat) {nm : Str} {np : Pos} (hu : X.A.units + 1 < cLine) (he : PEI X b e we) (hN : X.N[j]? = some nm := by rfl) (hv : Vis X.env.scope nm := by first | exact Or.inl rfl | exact Or.inr (Or.inl rfl) | exact Or.inr (Or.inr rfl)) (hd : (nm == ("__debug__" : Str)) = false := by decide)
    (hcd : (nm == ("__classdict__" : Str)) = false := by decide) (hs : NoSl e := by intro _ _; rfl) : PEI X b (.Subscript (.Name nm np) e pos) (wIxD j we) :=
  pei_of (pe_dget hu (pe_var hN hv hd hcd) he hs) fun c ρ σ G H Φ Ξ Q S hw p ex => by
    obtain ⟨kvs, h1, hw⟩ := hw
    obtain ⟨l, h2, h3, u, h4, h5, h6⟩ := S.dkAt h1
    refine ⟨.ref l, h2, c, ρ, G, _, Ξ, S, hw, fun v r G1 H1 t1 o1 hn => ?_, ex⟩
    obtain ⟨k, z, rfl, hz, hn⟩ := hn
    have o1 : Im X.K G1 (.int k) v := o1
    rw [im_int] at o1
    subst o1
    refine ⟨l, .int z, rfl, ?_, p _ (.dat (.int z)) G1 H1 t1 (by show Im _ _ _ _; rw [im_int]) hn⟩
    have := dget_int (k := k) (rd_tr t1 h3 h4 h5 h6)
    rw [hz] at this
    exact this
def wNotInD (j : Nat) (w : WE) : WT := fun ρ Φ Ξ => ∃ kvs : DI, DkAt ρ j kvs ∧ w ρ (fun r => ∃ k, r = .dat (.int k) ∧ Φ (!hasD kvs k)) Ξ
theorem pti_notInD (j : Nat) {nm : Str} {np : Pos} (hu : X.A.units + 1 < cLine) (he : PEI X b e we) (hN : X.N[j]? = some nm := by rfl) (hv : Vis X.env.scope nm := by first | exact Or.inl rfl | exact Or.inr (Or.inl rfl) | exact Or.inr (Or.inr rfl)) (hd : (nm == ("__debug__" : Str)) = false := by decide)
    (hcd : (nm == ("__classdict__" : Str)) = false := by decide) (hm : behindInMarks .NotIn (.Name nm np) = false := by rfl) : PTI X b (.Compare e [.NotIn] [.Name nm np] pos) (wNotInD j we) :=
  pti_of (pt_cmp (pc_dnotin hu he (pe_var hN hv hd hcd)) hm) fun c ρ σ G H Φ Ξ Q S hw p ex => by
    obtain ⟨kvs, h1, hw⟩ := hw
    obtain ⟨l, h2, h3, u, h4, h5, h6⟩ := S.dkAt h1
    refine ⟨c, ρ, G, _, Ξ, S, hw, fun v r G1 H1 t1 o1 hn => ?_, ex⟩
    obtain ⟨k, rfl, hn⟩ := hn
    have o1 : Im X.K G1 (.int k) v := o1
    rw [im_int] at o1
    subst o1
    refine ⟨.ref l, h2, l, _, rfl, dget_int (rd_tr t1 h3 h4 h5 h6), _, rfl, ?_⟩
    have e : ((lookD kvs k).map V.int).isSome = hasD kvs k := by unfold hasD; rw [Option.isSome_map]
    rw [e]
    exact p _ G1 H1 t1 hn
/-! ### for k in d -/
def wForD (tgt : Tgt) (j : Nat) (wb : WS) : WS := fun ρ Ψ => ∃ kvs : DI, ρ[j]? = some (.ob (dkK kvs)) ∧ ∀ (od : Obj) (l : Addr), ∃ I : Nat → Rho → Prop, I 0 (ρ.set j (.ob (dkF od l kvs))) ∧
  (∀ (i : Nat) p ρ', kvs[i]? = some p → I i ρ' → bindT tgt (.int p.1) ρ' (fun ρ2 => wb ρ2 { nx := I (i + 1), rt := fun _ => False, xc := fun _ => False, ct := I (i + 1) })) ∧
  (∀ i ρ', I i ρ' → ρ'[j]? = some (.ob (dkF od l kvs))) ∧ ∀ ρ', I kvs.length ρ' → Ψ.nx (ρ'.set j (.ob (dkK kvs)))
theorem psi_forD (tgt : Tgt) (j : Nat) {tg : Expr} {nm : Str} {np : Pos} {body : List Stmt} {w : WS} (hp : PassesOwn (model X.prog X.w) X.A X.env X.xe) (hc : X.calm = true) (hg : PG X tg (tgOf X.K tgt)) (hb : PSsI X b body w) (hj : j ∉ tgt.slots) (hN : X.N[j]? = some nm := by rfl) (hv : Vis X.env.scope nm := by first | exact Or.inl rfl | exact Or.inr (Or.inl rfl) | exact Or.inr (Or.inr rfl)) (hd : (nm == ("__debug__" : Str)) = false := by decide)
    (hcd : (nm == ("__classdict__" : Str)) = false := by decide) (hs : ∀ x, foldedSetIterable (.Name nm np) X.env x = pure x := by intro _; rfl) : PSI X b (.For tg (.Name nm np) body [] pos) (wForD tgt j w) :=
  psi_of (ps_lock (ps_for hp hc (pi_keys (pe_var hN hv hd hcd)) hg hb hs)) fun c ρ σ G H Ψ D S hw p => by
    obtain ⟨kvs, h1, hw⟩ := hw
    obtain ⟨l, u, h2, h3, h4, h5⟩ := S.obAt h1
    have h5' : u = .dK (enc kvs) := h5
    subst h5'
    refine ⟨l, _, h3, True.intro, fun od => ?_⟩
    obtain ⟨I, h0, hI, hk, hE⟩ := hw od l
    have S1 : Sat X.K c (ρ.set j (.ob (dkF od l kvs))) σ G (upd H l (.frz od (.dK (enc kvs)))) := S.writeOb h1 h2 h3 h4 (fun q z => by cases z) h5 ⟨rfl, rfl⟩
    have back : ∀ {i ρ' σ' G' H'}, Sat X.K c ρ' σ' G' H' → I i ρ' → H' l = some (.frz od (.dK (enc kvs))) ∧ Sat X.K c (ρ'.set j (.ob (dkK kvs))) σ' G' (upd H' l (.dK (enc kvs))) := fun {i ρ' σ' G' H'} S' hi => by
      have e := hk i ρ' hi
      obtain ⟨l', u', e2, e3, e4, e5⟩ := S'.obAt e
      have e5' : l' = l ∧ u' = .frz od (.dK (enc kvs)) := e5
      obtain ⟨rfl, rfl⟩ := e5'
      exact ⟨e3, S'.writeOb e e2 e3 e4 (fun q z => by cases z) e5 rfl⟩
    refine ⟨.ref l, h2, l, od, rfl, .inl ⟨enc kvs, upd_same, ?_⟩⟩
    have hlen : (enc kvs).length = kvs.length := List.length_map _
    have hW := walk_keys (d := l) (o := od) (kvs := enc kvs)
    rw [hlen] at hW
    refine for_it hW (fun i σ' H' => ∃ ρ' G', Sat X.K c ρ' σ' G' H' ∧ I i ρ') ⟨_, G, S1, h0⟩ (fun i σ' H' _ ⟨ρ', G', S', hi⟩ => (back S' hi).1) (fun i x σ' H' H2 hi ⟨ρ', G', S', hI'⟩ hy => ?_) (fun σ' H' ⟨ρ', G', S', hi⟩ => ⟨(back S' hi).1, p.nx _ _ G' _ (back S' hi).2 (hE ρ' hi)⟩)
    obtain ⟨rfl, k, v, hkv, rfl⟩ := hy
    have hkv' : kvs[i]? = some kvs[i] := List.getElem?_eq_getElem hi
    have ek : k = Sum.inl kvs[i].1 := by
      unfold enc at hkv
      rw [List.getElem?_map, hkv'] at hkv
      have := Option.some.inj hkv
      exact (congrArg Prod.fst this).symm
    subst ek
    exact tgt_ok S' (by show Im X.K G' (.int kvs[i].1) (V.int kvs[i].1); rw [im_int]) (hI i _ ρ' hkv' hI') fun ρ2 σ2 S2 h2' hs2 => ⟨c, ρ2, G', _, S2, h2', ⟨fun ρ3 σ3 G3 H3 S3 h3' => ⟨ρ3, G3, S3, h3'⟩, fun _ _ _ _ _ _ z => z.elim, fun _ _ _ _ _ z => z.elim, fun ρ3 σ3 G3 H3 S3 h3' => ⟨ρ3, G3, S3, h3'⟩, fun _ _ _ _ _ _ _ z => z.elim⟩⟩
/-! ### y = [e for k in d if ..] -/
def wSetLcD (i j : Nat) (tgt : Tgt) (vs : List Nat) (wt : WT) (w : WE) : WS := fun ρ Ψ => i ≠ j ∧ ∃ kvs : DI, ρ[j]? = some (.ob (dkK kvs)) ∧ ∀ (od : Obj) (l : Addr), LcI tgt vs wt w (kvs.map fun p => .int p.1) (ρ.set j (.ob (dkF od l kvs))) (fun r => Ψ.nx (ρ.set i (.dat r.frz)))
theorem psi_setLcD (i j : Nat) {tgt : Tgt} {own : List (Str × Nat)} {scope : Scope} {tg elt : Expr} {ifs : List Expr} {nm yn : Str} {np yp spos : Pos} (hc : X.calm = true) (hN : X.N.Nodup) (B : Blk X b scope own tg ifs elt tgt wt w) (hN2 : X.N[j]? = some nm := by rfl) (hv : Vis X.env.scope nm := by first | exact Or.inl rfl | exact Or.inr (Or.inl rfl) | exact Or.inr (Or.inr rfl)) (hd : (nm == ("__debug__" : Str)) = false := by decide)
    (hcd : (nm == ("__classdict__" : Str)) = false := by decide) (hsw : swapsWith (.ListComp elt [⟨tg, .Name nm np, ifs, 0⟩] scope pos) (some (.Name yn yp)) spos.line X.env = pure true) (hy : X.N[i]? = some yn := by rfl) (hyl : X.env.scope.names.lookup yn = some .local := by rfl)
    (hs : ∀ x, foldedSetIterable (.Name nm np) X.env x = pure x := by intro _; rfl) : PSI X b (.Assign [.Name yn yp] (.ListComp elt [⟨tg, .Name nm np, ifs, 0⟩] scope pos) spos) (wSetLcD i j tgt (own.map (·.2)) wt w) :=
  psi_of (ps_lock (ps_setLc hc hN hy hyl hsw (pi_keys (pe_var hN2 hv hd hcd)) B.ok B.hg B.ht B.he hs)) fun c ρ σ G H Ψ D S hw p => by
    obtain ⟨hij, kvs, h1, hw⟩ := hw
    obtain ⟨l, u, h2, h3, h4, h5⟩ := S.obAt h1
    have h5' : u = .dK (enc kvs) := h5
    subst h5'
    refine ⟨l, _, h3, True.intro, fun od => ?_⟩
    obtain ⟨hn, I, h0, hI, hE⟩ := hw od l
    have S1 : Sat X.K c (ρ.set j (.ob (dkF od l kvs))) σ G (upd H l (.frz od (.dK (enc kvs)))) := S.writeOb h1 h2 h3 h4 (fun q z => by cases z) h5 ⟨rfl, rfl⟩
    have hj : (ρ.set j (.ob (dkF od l kvs)))[j]? = some (.ob (dkF od l kvs)) := List.getElem?_set_self (List.getElem?_eq_some_iff.mp h1).1
    refine ⟨.ref l, h2, l, od, rfl, .inl ⟨enc kvs, upd_same, fun D hD => ?_⟩⟩
    have hlen : (enc kvs).length = kvs.length := List.length_map _
    have hW := walk_keys (d := l) (o := od) (kvs := enc kvs)
    rw [hlen] at hW
    have lk : ∀ {G' H'}, Tr X.K (ρ.set j (.ob (dkF od l kvs))) σ G (upd H l (.frz od (.dK (enc kvs)))) G' H' → H' l = some (.frz od (.dK (enc kvs))) := fun t => t.keep l _ upd_same (S1.neRowM hj rfl (fun z => by cases z) h2) (fun ps z => by cases z)
    refine lc_it hW (PvLc X.K (ρ.set j (.ob (dkF od l kvs))) σ G (upd H l (.frz od (.dK (enc kvs)))) D I) ⟨G, [], [], Tr.newH S1 hD, upd_same, S1.ex2.back hD, .nil, h0⟩ (fun i H' _ ⟨G', acc, ys, t, _⟩ => lk t) (fun i x H' H2 hi ⟨G', acc, ys, t, k1, k2, k3, k4⟩ hy => ?_) (fun H' ⟨G', acc, ys, t, k1, k2, k3, k4⟩ => ?_)
    · obtain ⟨rfl, k, v, hkv, rfl⟩ := hy
      have hkv' : kvs[i]? = some kvs[i] := List.getElem?_eq_getElem hi
      have ek : k = Sum.inl kvs[i].1 := by
        unfold enc at hkv
        rw [List.getElem?_map, hkv'] at hkv
        have := Option.some.inj hkv
        exact (congrArg Prod.fst this).symm
      subst ek
      exact lc_turn (b := b) (Pv := PvLc X.K (ρ.set j (.ob (dkF od l kvs))) σ G (upd H l (.frz od (.dK (enc kvs)))) D I) B.sl S1 hn t hD k1 k2 k3 k4 (by show Im X.K G' (.int kvs[i].1) (V.int kvs[i].1); rw [im_int]) (hI i (.int kvs[i].1) (by rw [List.getElem?_map, hkv']; rfl)) fun G' H' acc' xs' q1 q2 q3 q4 q5 => ⟨G', acc', xs', q1, q2, q3, q4, q5⟩
    · refine ⟨lk t, ?_⟩
      have S2 := S1.tr t
      obtain ⟨G2, t2, im⟩ := freeze (r := .lst acc) S1 t ⟨D, ys, rfl, hD, k2, k1, k3⟩
      have S3 := (S1.tr t2).writeOb (k' := dkK kvs) (u' := .dK (enc kvs)) hj h2 (lk t2) (t2.avoid l h4 (by rw [upd_same]; exact fun z => by cases z)) (fun q z => by cases z) ⟨rfl, rfl⟩ rfl
      rw [List.set_set, set_self h1] at S3
      exact p.nx _ _ G2 _ (S3.setDat im) (hE acc (by rw [List.length_map]; exact k4))
end
end SF

namespace SF
open PySem PySem.Spec PyProof.Rows L2
local macro_rules | `(tactic| walk_at "sf") => `(tactic| simp only [wPopD, wPopDD, wGetD, wIxD, wNotInD, wSetDict, wRet, wOr, wAnd, wNot, wOp, wUn, wVar, wC, wChain, wCall, wCons, wNil, wTup, wLst, wIf, wTest, wNotT, wAndT, wOrT, wDef, wDefR, wSl, wNoP, wPart, wPeek, wPeekT, wLstRg, wSeq, wSkip, wSet, wSetF, wUnpack, wRetM, wDrop, wIfS, wFrz, wApp, wStore, wPopAt, wForL, wForT, wForR1, wForR2, wLcL, wLcT, wLcR1, wYes, endP, startE, bindT, setsE, wipeE, nolR, nol, nolL,
  r_sII, r_sIIc, r_sIsN, r_sNotN, r_sInL, r_sInT, r_sIxT, r_sIxL, r_sSlT, r_sSlL, r_sCatL, r_sCatT, r_sLenT, r_sLenL, r_sMax2, r_sMin2, r_sListT, r_sListL, r_sTupL, r_sIntB, r_sIxS, r_sStrI, r_sIntS, r_sLenS, r_sInS, r_sCatS, r_sSlS, r_exs, r_sSplit, r_sKdIn, r_sKdAt, wOpS, wLcS, wExt, is_none_tuple, is_none_list, is_none_bool, is_none_str, is_none_int, isTL_none, is_bool_tuple, is_bool_list, is_bool_bool, is_bool_str, is_bool_int, isTL_bool, is_int_tuple, is_int_list, is_int_bool, is_int_str, is_int_int, isTL_int, is_str_tuple, is_str_list, is_str_bool, is_str_str, is_str_int, isTL_str, is_list_tuple, is_list_list, is_list_bool, is_list_str, is_list_int, isTL_list, is_tuple_tuple, is_tuple_list, is_tuple_bool, is_tuple_str, is_tuple_int, isTL_tuple, v_bool, r_sIxAT, r_sIxAL, r_isB, r_rev, r_neg, r_at0, r_at1, r_at2, r_at3, r_ex, r_exr, r_exl, r_ext, r_exL, r_exi, r_exI, r_exII,
  nn, lt_cast, le_cast, h_row, h_free, h_dL, wNever, h_dWd, v_dWdH, hs_row, ws_row, hs_free, ws_free, hs_head, ws_head, hs_slot, ws_slot, hs_take, ws_take, hs_give, ws_give, hs_mend, ws_mend, hs_whole, ws_whole, hs_broken, ws_broken, hs_loose, ws_loose, hs_end, ws_end, hs_ring, ws_ring, we_take_give, we_give_take, we_take_mend, we_mend_take, we_give_mend, we_mend_give, we_head_slot, we_slot_head, we_whole_broken, we_broken_whole, we_whole_loose, we_loose_whole, Nat.reduceAdd, Int.cast_ofNat_Int, beq_self_eq_true, v_dC, v_dL, h_dC, h_nil, v_nil, Int.zero_add, Int.toNat_natCast, n_none, n_int, n_tuple, n_list, n_str, v_str, v_int, v_noneint, v_intnone, v_none, h_int, h_none, h_bool, r_fd, r_fl, r_ed, r_el, r_sEq, r_sNe, dL_none, dL_some, dC_row, dC_free, w_rr, w_rf, w_fr, w_ff, List.map_cons, List.map_nil, List.cons_append, List.nil_append, List.append_nil, List.replicate_zero, List.replicate_succ, List.getElem?_cons_zero, List.getElem?_cons_succ, List.set_cons_zero, List.set_cons_succ, List.length_cons, List.length_nil, List.length_map,
  Bool.not_true, Bool.not_false, if_true, if_false, ite_true, ite_false, true_and, and_true, Bool.false_eq_true, Nat.zero_add, reduceCtorEq])
def topS (i : Nat) : Stmt := PySem.Challenge.pw_slotfile_k06_whole_the_safe_order.main.body.getD i (.Pass ⟨0, 0, 0, 0⟩)
abbrev s_is_link : Stmt := topS 11
abbrev n_is_link : List Str := ["cells", "place"]
theorem sc_is_link : FnScope n_is_link ["cells", "place"] (defScope s_is_link) := ⟨rfl, rfl, rfl, by decide +kernel, rfl, by decide +kernel, by decide +kernel⟩
abbrev s_is_cell : Stmt := topS 12
abbrev n_is_cell : List Str := ["cells", "cell"]
theorem sc_is_cell : FnScope n_is_cell ["cells", "cell"] (defScope s_is_cell) := ⟨rfl, rfl, rfl, by decide +kernel, rfl, by decide +kernel, by decide +kernel⟩
abbrev s_need_file : Stmt := topS 13
abbrev n_need_file : List Str := ["file", "head", "cells", "place"]
theorem sc_need_file : FnScope n_need_file ["file"] (defScope s_need_file) := ⟨rfl, rfl, rfl, by decide +kernel, rfl, by decide +kernel, by decide +kernel⟩
abbrev s_chain_of : Stmt := topS 14
abbrev n_chain_of : List Str := ["file", "place", "cells", "found"]
theorem sc_chain_of : FnScope n_chain_of ["file"] (defScope s_chain_of) := ⟨rfl, rfl, rfl, by decide +kernel, rfl, by decide +kernel, by decide +kernel⟩
abbrev s_rows_of : Stmt := topS 15
abbrev n_rows_of : List Str := ["file", "place"]
theorem sc_rows_of : FnScope n_rows_of ["file"] (defScope s_rows_of) := ⟨rfl, rfl, rfl, by decide +kernel, rfl, by decide +kernel, by decide +kernel⟩
abbrev s_looked_over : Stmt := topS 16
abbrev n_looked_over : List Str := ["file", "chain", "end", "free", "loose", "word", "place"]
theorem sc_looked_over : FnScope n_looked_over ["file"] (defScope s_looked_over) := ⟨rfl, rfl, rfl, by decide +kernel, rfl, by decide +kernel, by decide +kernel⟩
abbrev s_checked : Stmt := topS 17
abbrev n_checked : List Str := ["file"]
theorem sc_checked : FnScope n_checked ["file"] (defScope s_checked) := ⟨rfl, rfl, rfl, by decide +kernel, rfl, by decide +kernel, by decide +kernel⟩
abbrev s_chained : Stmt := topS 18
abbrev n_chained : List Str := ["cells", "places", "found", "k"]
theorem sc_chained : FnScope n_chained ["cells", "places"] (defScope s_chained) := ⟨rfl, rfl, rfl, by decide +kernel, rfl, by decide +kernel, by decide +kernel⟩
abbrev s_mended_of : Stmt := topS 19
abbrev n_mended_of : List Str := ["file", "place"]
theorem sc_mended_of : FnScope n_mended_of ["file"] (defScope s_mended_of) := ⟨rfl, rfl, rfl, by decide +kernel, rfl, by decide +kernel, by decide +kernel⟩
abbrev s_mended : Stmt := topS 20
abbrev n_mended : List Str := ["file"]
theorem sc_mended : FnScope n_mended ["file"] (defScope s_mended) := ⟨rfl, rfl, rfl, by decide +kernel, rfl, by decide +kernel, by decide +kernel⟩
abbrev s_mends_of : Stmt := topS 21
abbrev n_mends_of : List Str := ["file", "head", "cells", "found", "place"]
theorem sc_mends_of : FnScope n_mends_of ["file"] (defScope s_mends_of) := ⟨rfl, rfl, rfl, by decide +kernel, rfl, by decide +kernel, by decide +kernel⟩
abbrev s_need_rule : Stmt := topS 24
abbrev n_need_rule : List Str := ["rule", "one"]
theorem sc_need_rule : FnScope n_need_rule ["rule"] (defScope s_need_rule) := ⟨rfl, rfl, rfl, by decide +kernel, rfl, by decide +kernel, by decide +kernel⟩
abbrev s_need_room : Stmt := topS 25
abbrev n_need_room : List Str := ["file", "room"]
theorem sc_need_room : FnScope n_need_room ["file", "room"] (defScope s_need_room) := ⟨rfl, rfl, rfl, by decide +kernel, rfl, by decide +kernel, by decide +kernel⟩
abbrev s_in_order : Stmt := topS 26
abbrev n_in_order : List Str := ["first", "head", "slot"]
theorem sc_in_order : FnScope n_in_order ["first", "head", "slot"] (defScope s_in_order) := ⟨rfl, rfl, rfl, by decide +kernel, rfl, by decide +kernel, by decide +kernel⟩
abbrev s_take_writes : Stmt := topS 27
abbrev n_take_writes : List Str := ["file", "rule", "room", "number", "head", "cells", "word", "follows"]
theorem sc_take_writes : FnScope n_take_writes ["file", "rule", "room", "number"] (defScope s_take_writes) := ⟨rfl, rfl, rfl, by decide +kernel, rfl, by decide +kernel, by decide +kernel⟩
abbrev s_writes_of : Stmt := topS 28
abbrev n_writes_of : List Str := ["file", "rule", "room", "deed", "place"]
theorem sc_writes_of : FnScope n_writes_of ["file", "rule", "room", "deed"] (defScope s_writes_of) := ⟨rfl, rfl, rfl, by decide +kernel, rfl, by decide +kernel, by decide +kernel⟩
abbrev s_written_in : Stmt := topS 29
abbrev n_written_in : List Str := ["file", "write", "place", "what"]
theorem sc_written_in : FnScope n_written_in ["file", "write"] (defScope s_written_in) := ⟨rfl, rfl, rfl, by decide +kernel, rfl, by decide +kernel, by decide +kernel⟩
abbrev s_stepped : Stmt := topS 30
abbrev n_stepped : List Str := ["file", "rule", "room", "step", "deed", "many", "writes", "write"]
theorem sc_stepped : FnScope n_stepped ["file", "rule", "room", "step"] (defScope s_stepped) := ⟨rfl, rfl, rfl, by decide +kernel, rfl, by decide +kernel, by decide +kernel⟩
abbrev s_played : Stmt := topS 31
abbrev n_played : List Str := ["file", "rule", "room", "steps", "found", "number"]
theorem sc_played : FnScope n_played ["file", "rule", "room", "steps"] (defScope s_played) := ⟨rfl, rfl, rfl, by decide +kernel, rfl, by decide +kernel, by decide +kernel⟩
abbrev s__law_taken : Stmt := topS 33
abbrev n__law_taken : List Str := ["_law_row", "_law_many", "_law_cell"]
theorem sc__law_taken : FnScope n__law_taken ["_law_row", "_law_many"] (defScope s__law_taken) := ⟨rfl, rfl, rfl, by decide +kernel, rfl, by decide +kernel, by decide +kernel⟩
abbrev s__law_whole : Stmt := topS 34
abbrev n__law_whole : List Str := ["_law_row", "_law_most", "_law_many", "_law_left", "_law_cells", "_law_head", "_law_place"]
theorem sc__law_whole : FnScope n__law_whole ["_law_row", "_law_most"] (defScope s__law_whole) := ⟨rfl, rfl, rfl, by decide +kernel, rfl, by decide +kernel, by decide +kernel⟩
abbrev s__law_checked : Stmt := topS 35
abbrev n__law_checked : List Str := ["_law_file", "_law_head", "_law_cells", "_law_rows", "_law_chain", "_law_here", "_law_loose", "_law_word", "_law_place"]
theorem sc__law_checked : FnScope n__law_checked ["_law_file"] (defScope s__law_checked) := ⟨rfl, rfl, rfl, by decide +kernel, rfl, by decide +kernel, by decide +kernel⟩
abbrev s__law_mends : Stmt := topS 36
abbrev n__law_mends : List Str := ["_law_file", "_law_free", "_law_found", "_law_k", "_law_due", "_law_place"]
theorem sc__law_mends : FnScope n__law_mends ["_law_file"] (defScope s__law_mends) := ⟨rfl, rfl, rfl, by decide +kernel, rfl, by decide +kernel, by decide +kernel⟩
abbrev s__law_writes : Stmt := topS 37
abbrev n__law_writes : List Str := ["_law_file", "_law_rule", "_law_room", "_law_deed_here", "_law_head", "_law_cells", "_law_follows", "_law_both"]
theorem sc__law_writes : FnScope n__law_writes ["_law_file", "_law_rule", "_law_room", "_law_deed_here"] (defScope s__law_writes) := ⟨rfl, rfl, rfl, by decide +kernel, rfl, by decide +kernel, by decide +kernel⟩
abbrev s__law_behind : Stmt := topS 38
abbrev n__law_behind : List Str := ["_law_file", "_law_rule", "_law_room", "_law_step_here", "_law_every", "_law_head", "_law_cells", "_law_place", "_law_what"]
theorem sc__law_behind : FnScope n__law_behind ["_law_file", "_law_rule", "_law_room", "_law_step_here"] (defScope s__law_behind) := ⟨rfl, rfl, rfl, by decide +kernel, rfl, by decide +kernel, by decide +kernel⟩
abbrev s__law_deed : Stmt := topS 39
abbrev n__law_deed : List Str := ["_law_row", "_law_file", "_law_rule", "_law_room", "_law_rows", "_law_deed_here", "_law_way", "_law_place"]
theorem sc__law_deed : FnScope n__law_deed ["_law_row", "_law_file", "_law_rule", "_law_room"] (defScope s__law_deed) := ⟨rfl, rfl, rfl, by decide +kernel, rfl, by decide +kernel, by decide +kernel⟩
abbrev s__law_step : Stmt := topS 40
abbrev n__law_step : List Str := ["_law_row", "_law_file", "_law_rule", "_law_room", "_law_whole_here", "_law_deed_here", "_law_many"]
theorem sc__law_step : FnScope n__law_step ["_law_row", "_law_file", "_law_rule", "_law_room", "_law_whole_here"] (defScope s__law_step) := ⟨rfl, rfl, rfl, by decide +kernel, rfl, by decide +kernel, by decide +kernel⟩
abbrev s__law_played : Stmt := topS 41
abbrev n__law_played : List Str := ["_law_row", "_law_file", "_law_rule", "_law_room", "_law_most", "_law_steps", "_law_files", "_law_turn"]
theorem sc__law_played : FnScope n__law_played ["_law_row", "_law_file", "_law_rule", "_law_room", "_law_most"] (defScope s__law_played) := ⟨rfl, rfl, rfl, by decide +kernel, rfl, by decide +kernel, by decide +kernel⟩
abbrev s__law_kept : Stmt := topS 42
abbrev n__law_kept : List Str := ["_law_before", "_law_after", "_law_step_here", "_law_held", "_law_now", "_law_deed_here", "_law_many", "_law_place", "_law_more"]
theorem sc__law_kept : FnScope n__law_kept ["_law_before", "_law_after", "_law_step_here"] (defScope s__law_kept) := ⟨rfl, rfl, rfl, by decide +kernel, rfl, by decide +kernel, by decide +kernel⟩
abbrev s_law : Stmt := topS 43
abbrev n_law : List Str := ["_law_script", "_law_row", "_law_turn", "_law_file", "_law_rule", "_law_room", "_law_steps", "_law_files", "_law_kept_here", "_law_here", "_law_step_here", "_law_some", "_law_other", "_law_word", "_law_rows", "_law_chain", "_law_loose", "_law_pair"]
theorem sc_law : FnScope n_law ["_law_script"] (defScope s_law) := ⟨rfl, rfl, rfl, by decide +kernel, rfl, by decide +kernel, by decide +kernel⟩
structure Txt (K : PySem.W.Frag) (mg : Str → Option Value) where
  f_is_link : Addr
  fd_is_link : FuncData
  F_is_link : Fun K "is_link" "is_link" s_is_link f_is_link fd_is_link
  b_is_link : Binds K fd_is_link ["cells", "place"] []
  g_is_link : mg "is_link" = some (.ref f_is_link)
  f_is_cell : Addr
  fd_is_cell : FuncData
  F_is_cell : Fun K "is_cell" "is_cell" s_is_cell f_is_cell fd_is_cell
  b_is_cell : Binds K fd_is_cell ["cells", "cell"] []
  g_is_cell : mg "is_cell" = some (.ref f_is_cell)
  f_need_file : Addr
  fd_need_file : FuncData
  F_need_file : Fun K "need_file" "need_file" s_need_file f_need_file fd_need_file
  b_need_file : Binds K fd_need_file ["file"] []
  g_need_file : mg "need_file" = some (.ref f_need_file)
  f_chain_of : Addr
  fd_chain_of : FuncData
  F_chain_of : Fun K "chain_of" "chain_of" s_chain_of f_chain_of fd_chain_of
  b_chain_of : Binds K fd_chain_of ["file"] []
  g_chain_of : mg "chain_of" = some (.ref f_chain_of)
  f_rows_of : Addr
  fd_rows_of : FuncData
  F_rows_of : Fun K "rows_of" "rows_of" s_rows_of f_rows_of fd_rows_of
  b_rows_of : Binds K fd_rows_of ["file"] []
  g_rows_of : mg "rows_of" = some (.ref f_rows_of)
  f_looked_over : Addr
  fd_looked_over : FuncData
  F_looked_over : Fun K "looked_over" "looked_over" s_looked_over f_looked_over fd_looked_over
  b_looked_over : Binds K fd_looked_over ["file"] []
  g_looked_over : mg "looked_over" = some (.ref f_looked_over)
  f_checked : Addr
  fd_checked : FuncData
  F_checked : Fun K "checked" "checked" s_checked f_checked fd_checked
  b_checked : Binds K fd_checked ["file"] []
  g_checked : mg "checked" = some (.ref f_checked)
  f_chained : Addr
  fd_chained : FuncData
  F_chained : Fun K "chained" "chained" s_chained f_chained fd_chained
  b_chained : Binds K fd_chained ["cells", "places"] []
  g_chained : mg "chained" = some (.ref f_chained)
  f_mended_of : Addr
  fd_mended_of : FuncData
  F_mended_of : Fun K "mended_of" "mended_of" s_mended_of f_mended_of fd_mended_of
  b_mended_of : Binds K fd_mended_of ["file"] []
  g_mended_of : mg "mended_of" = some (.ref f_mended_of)
  f_mended : Addr
  fd_mended : FuncData
  F_mended : Fun K "mended" "mended" s_mended f_mended fd_mended
  b_mended : Binds K fd_mended ["file"] []
  g_mended : mg "mended" = some (.ref f_mended)
  f_mends_of : Addr
  fd_mends_of : FuncData
  F_mends_of : Fun K "mends_of" "mends_of" s_mends_of f_mends_of fd_mends_of
  b_mends_of : Binds K fd_mends_of ["file"] []
  g_mends_of : mg "mends_of" = some (.ref f_mends_of)
  f_need_rule : Addr
  fd_need_rule : FuncData
  F_need_rule : Fun K "need_rule" "need_rule" s_need_rule f_need_rule fd_need_rule
  b_need_rule : Binds K fd_need_rule ["rule"] []
  g_need_rule : mg "need_rule" = some (.ref f_need_rule)
  f_need_room : Addr
  fd_need_room : FuncData
  F_need_room : Fun K "need_room" "need_room" s_need_room f_need_room fd_need_room
  b_need_room : Binds K fd_need_room ["file", "room"] []
  g_need_room : mg "need_room" = some (.ref f_need_room)
  f_in_order : Addr
  fd_in_order : FuncData
  F_in_order : Fun K "in_order" "in_order" s_in_order f_in_order fd_in_order
  b_in_order : Binds K fd_in_order ["first", "head", "slot"] []
  g_in_order : mg "in_order" = some (.ref f_in_order)
  f_take_writes : Addr
  fd_take_writes : FuncData
  F_take_writes : Fun K "take_writes" "take_writes" s_take_writes f_take_writes fd_take_writes
  b_take_writes : Binds K fd_take_writes ["file", "rule", "room", "number"] []
  g_take_writes : mg "take_writes" = some (.ref f_take_writes)
  f_writes_of : Addr
  fd_writes_of : FuncData
  F_writes_of : Fun K "writes_of" "writes_of" s_writes_of f_writes_of fd_writes_of
  b_writes_of : Binds K fd_writes_of ["file", "rule", "room", "deed"] []
  g_writes_of : mg "writes_of" = some (.ref f_writes_of)
  f_written_in : Addr
  fd_written_in : FuncData
  F_written_in : Fun K "written_in" "written_in" s_written_in f_written_in fd_written_in
  b_written_in : Binds K fd_written_in ["file", "write"] []
  g_written_in : mg "written_in" = some (.ref f_written_in)
  f_stepped : Addr
  fd_stepped : FuncData
  F_stepped : Fun K "stepped" "stepped" s_stepped f_stepped fd_stepped
  b_stepped : Binds K fd_stepped ["file", "rule", "room", "step"] []
  g_stepped : mg "stepped" = some (.ref f_stepped)
  f_played : Addr
  fd_played : FuncData
  F_played : Fun K "played" "played" s_played f_played fd_played
  b_played : Binds K fd_played ["file", "rule", "room", "steps"] []
  g_played : mg "played" = some (.ref f_played)
  f__law_taken : Addr
  fd__law_taken : FuncData
  F__law_taken : Fun K "_law_taken" "_law_taken" s__law_taken f__law_taken fd__law_taken
  b__law_taken : Binds K fd__law_taken ["_law_row", "_law_many"] []
  g__law_taken : mg "_law_taken" = some (.ref f__law_taken)
  f__law_whole : Addr
  fd__law_whole : FuncData
  F__law_whole : Fun K "_law_whole" "_law_whole" s__law_whole f__law_whole fd__law_whole
  b__law_whole : Binds K fd__law_whole ["_law_row", "_law_most"] []
  g__law_whole : mg "_law_whole" = some (.ref f__law_whole)
  f__law_checked : Addr
  fd__law_checked : FuncData
  F__law_checked : Fun K "_law_checked" "_law_checked" s__law_checked f__law_checked fd__law_checked
  b__law_checked : Binds K fd__law_checked ["_law_file"] []
  g__law_checked : mg "_law_checked" = some (.ref f__law_checked)
  f__law_mends : Addr
  fd__law_mends : FuncData
  F__law_mends : Fun K "_law_mends" "_law_mends" s__law_mends f__law_mends fd__law_mends
  b__law_mends : Binds K fd__law_mends ["_law_file"] []
  g__law_mends : mg "_law_mends" = some (.ref f__law_mends)
  f__law_writes : Addr
  fd__law_writes : FuncData
  F__law_writes : Fun K "_law_writes" "_law_writes" s__law_writes f__law_writes fd__law_writes
  b__law_writes : Binds K fd__law_writes ["_law_file", "_law_rule", "_law_room", "_law_deed_here"] []
  g__law_writes : mg "_law_writes" = some (.ref f__law_writes)
  f__law_behind : Addr
  fd__law_behind : FuncData
  F__law_behind : Fun K "_law_behind" "_law_behind" s__law_behind f__law_behind fd__law_behind
  b__law_behind : Binds K fd__law_behind ["_law_file", "_law_rule", "_law_room", "_law_step_here"] []
  g__law_behind : mg "_law_behind" = some (.ref f__law_behind)
  f__law_deed : Addr
  fd__law_deed : FuncData
  F__law_deed : Fun K "_law_deed" "_law_deed" s__law_deed f__law_deed fd__law_deed
  b__law_deed : Binds K fd__law_deed ["_law_row", "_law_file", "_law_rule", "_law_room"] []
  g__law_deed : mg "_law_deed" = some (.ref f__law_deed)
  f__law_step : Addr
  fd__law_step : FuncData
  F__law_step : Fun K "_law_step" "_law_step" s__law_step f__law_step fd__law_step
  b__law_step : Binds K fd__law_step ["_law_row", "_law_file", "_law_rule", "_law_room", "_law_whole_here"] []
  g__law_step : mg "_law_step" = some (.ref f__law_step)
  f__law_played : Addr
  fd__law_played : FuncData
  F__law_played : Fun K "_law_played" "_law_played" s__law_played f__law_played fd__law_played
  b__law_played : Binds K fd__law_played ["_law_row", "_law_file", "_law_rule", "_law_room", "_law_most"] []
  g__law_played : mg "_law_played" = some (.ref f__law_played)
  f__law_kept : Addr
  fd__law_kept : FuncData
  F__law_kept : Fun K "_law_kept" "_law_kept" s__law_kept f__law_kept fd__law_kept
  b__law_kept : Binds K fd__law_kept ["_law_before", "_law_after", "_law_step_here"] []
  g__law_kept : mg "_law_kept" = some (.ref f__law_kept)
  f_law : Addr
  fd_law : FuncData
  F_law : Fun K "law" "law" s_law f_law fd_law
  b_law : Binds K fd_law ["_law_script"] []
  g_law : mg "law" = some (.ref f_law)
  m_len : mg "len" = none
  m_range : mg "range" = none
  m_list : mg "list" = none
  m_tuple : mg "tuple" = none
  m_max : mg "max" = none
  m_int : mg "int" = none
  m_dict : mg "dict" = none
  m_min : mg "min" = none
  c_MOST_SLOTS : ∃ t, mg "MOST_SLOTS" = some (.int 12 t)
  c_MOST_NUMBER : ∃ t, mg "MOST_NUMBER" = some (.int 999 t)
  c_ROW : ∃ t, mg "ROW" = some (.str (Str.ofString "row") t)
  c_FREE : ∃ t, mg "FREE" = some (.str (Str.ofString "free") t)
  a_FIRSTS : Addr
  c_FIRSTS : mg "FIRSTS" = some (.ref a_FIRSTS)
  i_FIRSTS : ∀ G, Im K G (.tuple [.str (Str.ofString "head"), .str (Str.ofString "slot")]) (.ref a_FIRSTS)
def tf_is_link : Tf := mkT (α := List PyData × Lk) (fun a => [.tuple a.1, dL a.2]) (fun _ => True) (fun a => .dat (.bool (linkOk a.1.length a.2)))
section
variable {P : Program} {w : World} {K : PySem.W.Frag} {mg : Str → Option Value} {base : Heap}
theorem ok_is_link (T : Txt K mg) : FnOk P w K mg base CX0 1 T.f_is_link T.fd_is_link ["cells", "place"] (spP K XR0 tf_is_link) := by
  refine okP (n := 0) T.F_is_link sc_is_link rfl (fun ds Φ Ξ ⟨_, e, _⟩ => by rw [e]; rfl) fun cdv A outer s H E hr => ⟨_, psis_one (psi_ret (pei_or (pei_cmp op_isN op2_isN (nomark _) (pei_var 1) pei_non) (pei_one _ (pei_chain op_le op_lt op2_le op2_lt pei_int (pei_var 1) (pei_len T.m_len rfl (pai_cons (pei_var 0) pai_nil)))))), fun ds Φ Ξ hT => ?_⟩
  obtain ⟨⟨cs, l⟩, rfl, _, h⟩ := hT
  cases l with
  | none =>
    walk_at "sf"
    exact h
  | some i =>
    walk_at "sf"
    exact h
end
def tf_is_cell : Tf := mkT (α := List PyData × Cell) (fun a => [.tuple a.1, dC a.2]) (fun _ => True) (fun a => .dat (.bool (cellOk a.1.length a.2)))
section
variable {P : Program} {w : World} {K : PySem.W.Frag} {mg : Str → Option Value} {base : Heap}
theorem ok_is_cell (T : Txt K mg) : FnOk P w K mg base CX0 2 T.f_is_cell T.fd_is_cell ["cells", "cell"] (spP K XR0 tf_is_cell) := by
  refine okP (n := 0) T.F_is_cell sc_is_cell rfl (fun ds Φ Ξ ⟨_, e, _⟩ => by rw [e]; rfl) fun cdv A outer s H E hr => ⟨_, psis_cons (psi_if (pti_cmp (op_eqD (hu64 hr)) op2_eq (nomark _) (pei_ixT (pei_var 1) pei_int) (pei_gstr rfl T.c_ROW))
      (psis_one (psi_ret (pei_chain op_le op_le op2_le op2_le pei_int (pei_ixT (pei_var 1) pei_int) (pei_gint rfl T.c_MOST_NUMBER))))
      (psis_nil))
    (psis_one (psi_ret (pei_and (pei_cmp (op_eqD (hu64 hr)) op2_eq (nomark _) (pei_ixT (pei_var 1) pei_int) (pei_gstr rfl T.c_FREE)) (pei_one _ (pei_def (ok_is_link T) (hr.mono (by decide)) T.g_is_link T.F_is_link.kp T.b_is_link passE (pai_cons (pei_var 0) (pai_cons (pei_ixT (pei_var 1) pei_int) pai_nil)) rfl))))), fun ds Φ Ξ hT => ?_⟩
  obtain ⟨⟨cs, c⟩, rfl, _, h⟩ := hT
  cases c with
  | row n =>
    walk_at "sf"
    have e : decide ((n : Int) ≤ 999) = decide (n ≤ 999) := by
      rw [Bool.eq_iff_iff, decide_eq_true_iff, decide_eq_true_iff]
      omega
    rw [e]
    exact h
  | free l =>
    walk_at "sf"
    exact ⟨(cs, l), rfl, trivial, h⟩
end
def tf_need_file : Tf := mkT (α := File) (fun f => [dF f]) Fine (fun _ => .dat .none)
section
variable {P : Program} {w : World} {K : PySem.W.Frag} {mg : Str → Option Value} {base : Heap}
theorem ok_need_file (T : Txt K mg) : FnOk P w K mg base CX0 3 T.f_need_file T.fd_need_file ["file"] (spP K XR0 tf_need_file) := by
  refine okP (n := 3) T.F_need_file sc_need_file rfl (fun ds Φ Ξ ⟨_, e, _⟩ => by rw [e]; rfl) fun cdv A outer s H E hr => ⟨_, psis_cons (psi_unpack [1, 2] (pei_var 0) (by exact (pg_tup rfl (pgs_cons (pg_name (i := 1) sc_need_file.nd rfl (by first | exact Or.inl rfl | exact Or.inr rfl)) (pgs_cons (pg_name (i := 2) sc_need_file.nd rfl (by first | exact Or.inl rfl | exact Or.inr rfl)) pgs_nil)))))
    (psis_cons (psi_if (pti_not (pti_val (pei_def (ok_is_link T) (hr.mono (by decide)) T.g_is_link T.F_is_link.kp T.b_is_link passE (pai_cons (pei_var 2) (pai_cons (pei_var 1) pai_nil)) rfl)))
      (psis_one (psi_never))
      (psis_nil))
    (psis_one (psi_forR1 (.nm 3) PassesOwn.never rfl T.m_range rfl (pai_cons (pei_len T.m_len rfl (pai_cons (pei_var 2) pai_nil)) pai_nil) (by exact (pg_name (i := 3) sc_need_file.nd rfl (by first | exact Or.inl rfl | exact Or.inr rfl)))
      (psis_one (psi_if (pti_bool (pwi_or (pti_cmp op_ge op2_ge (nomark _) (pei_var 3) (pei_gint rfl T.c_MOST_SLOTS)) (pwi_one (pti_not (pti_val (pei_def (ok_is_cell T) (hr.mono (by decide)) T.g_is_cell T.F_is_cell.kp T.b_is_cell passE (pai_cons (pei_var 2) (pai_cons (pei_ixT (pei_var 2) (pei_var 3)) pai_nil)) rfl))))))
        (psis_one (psi_never))
        (psis_nil)))))), fun ds Φ Ξ hT => ?_⟩
  obtain ⟨f, rfl, hf, h⟩ := hT
  unfold dF
  walk_at "sf"
  refine ⟨(f.cells.map dC, f.head), rfl, trivial, ?_⟩
  walk_at "sf"
  rw [hf.head]
  have hl := hf.few
  walk_at "sf"
  refine ⟨by omega, by omega, fun _ ρ => ∃ e, ρ = [.dat (dF f), .dat (dL f.head), .dat (.tuple (f.cells.map dC)), e], ⟨_, rfl⟩, fun i ρ' hi hρ => ?_, fun ρ' hρ => h⟩
  obtain ⟨e, rfl⟩ := hρ
  obtain ⟨c, hc, hok⟩ := hf.at hi
  have e12 : decide ((12 : Int) ≤ (i : Int)) = false := decide_eq_false (by omega)
  walk_at "sf"
  rw [e12, atC hc]
  walk_at "sf"
  refine ⟨(f.cells.map dC, c), rfl, trivial, ?_⟩
  walk_at "sf"
  rw [hok]
  walk_at "sf"
  exact ⟨_, rfl⟩
end
def tf_chain_of : Tf := mkT (α := File) (fun f => [dF f]) Fine (fun f => .dat (.tuple [dNats (chain f), .str (endWord f)]))
/-- the loop: what is left of the walk tells the whole walk's end -/
def ChInv (f : File) (m : Nat) (ρ : Rho) : Prop := ∃ (found : List Nat) (l : Lk), ρ = [.dat (dF f), .dat (dL l), .dat (.tuple (f.cells.map dC)), .ls (found.map dNat)] ∧ Told f.cells found ∧ linkOk f.cells.length l = true ∧ m + found.length = f.cells.length + 1 ∧ gone f = walk f.cells m found l
theorem told_snoc {cs : List Cell} {found : List Nat} {p : Nat} (h : Told cs found) (hp : p < cs.length) (hn : found.contains p = false) : Told cs (found ++ [p]) := by
  refine ⟨?_, fun q hq => ?_⟩
  · rw [List.nodup_append]
    refine ⟨h.1, by simp, fun a ha b hb e => ?_⟩
    rw [List.mem_singleton] at hb
    subst hb
    subst e
    have z : found.contains a = true := List.contains_iff_mem.mpr ha
    rw [hn] at z
    cases z
  · rcases List.mem_append.mp hq with z | z
    · exact h.2 q z
    · rw [List.mem_singleton.mp z]; exact hp
section
variable {P : Program} {w : World} {K : PySem.W.Frag} {mg : Str → Option Value} {base : Heap}
theorem ok_chain_of (T : Txt K mg) : FnOk P w K mg base CX0 1 T.f_chain_of T.fd_chain_of ["file"] (spP K XR0 tf_chain_of) := by
  refine okP (n := 3) T.F_chain_of sc_chain_of rfl (fun ds Φ Ξ ⟨_, e, _⟩ => by rw [e]; rfl) fun cdv A outer s H E hr => ⟨_, psis_cons (psi_unpack [1, 2] (pei_var 0) (by exact (pg_tup rfl (pgs_cons (pg_name (i := 1) sc_chain_of.nd rfl (by first | exact Or.inl rfl | exact Or.inr rfl)) (pgs_cons (pg_name (i := 2) sc_chain_of.nd rfl (by first | exact Or.inl rfl | exact Or.inr rfl)) pgs_nil)))))
    (psis_cons (psi_set 3 (pei_lst pai_nil) sc_chain_of.nd)
    (psis_cons (psi_while PassesOwn.never (pti_cmp op_notN op2_notN (nomark _) (pei_var 1) pei_non)
      (psis_cons (psi_if (pti_cmp (op_eqD (hu64 hr)) op2_eq (nomark _) (pei_ixT (pei_ixT (pei_var 2) (pei_var 1)) pei_int) (pei_gstr rfl T.c_ROW))
        (psis_one (psi_frz 3 (psi_ret (pei_tup (pai_cons (pei_var 3) (pai_cons pei_str pai_nil))))))
        (psis_nil))
      (psis_cons (psi_if (pti_peek 3 (pti_cmp (op_inD (hu65 hr)) op2_inL (by rfl) (pei_var 1) (pei_var 3)))
        (psis_one (psi_frz 3 (psi_ret (pei_tup (pai_cons (pei_var 3) (pai_cons pei_str pai_nil))))))
        (psis_nil))
      (psis_cons (psi_app 3 (pei_var 1))
      (psis_one (psi_setF 1 (pei_ixT (pei_ixT (pei_var 2) (pei_var 1)) pei_int) sc_chain_of.nd))))))
    (psis_one (psi_frz 3 (psi_ret (pei_tup (pai_cons (pei_var 3) (pai_cons pei_str pai_nil)))))))), fun ds Φ Ξ hT => ?_⟩
  obtain ⟨f, rfl, hf, h⟩ := hT
  have hl := hf.few
  unfold dF
  walk_at "sf"
  refine ⟨ChInv f, ⟨f.cells.length + 1, [], f.head, rfl, ⟨List.nodup_nil, fun _ z => by simp at z⟩, hf.head, rfl, rfl⟩, fun m ρ' hρ => ?_⟩
  obtain ⟨found, l, rfl, ht, hlk, hm, hg⟩ := hρ
  have htl := ht.len
  obtain ⟨m, rfl⟩ : ∃ k, m = k + 1 := ⟨m - 1, by omega⟩
  cases l with
  | none =>
    walk_at "sf"
    have e1 : chain f = found := by unfold chain; rw [hg]; rfl
    have e2 : endWord f = Str.ofString "end" := by unfold endWord stop; rw [hg]; rfl
    have h : Φ (.dat (.tuple [dNats (chain f), .str (endWord f)])) := h
    rw [e1, e2] at h
    exact h
  | some p =>
    have hp : p < f.cells.length := of_decide_eq_true hlk
    obtain ⟨c, hc, hok⟩ := hf.at hp
    walk_at "sf"
    rw [atC hc]
    cases c with
    | row n =>
      walk_at "sf"
      have hg2 : gone f = (found, some p) := by
        rw [hg, walk, hc]
      have e1 : chain f = found := by unfold chain; rw [hg2]
      have e2 : endWord f = Str.ofString "row" := by unfold endWord stop; rw [hg2]; show (match f.cells[p]? with | some (.free _) => _ | _ => _) = _; rw [hc]
      have h : Φ (.dat (.tuple [dNats (chain f), .str (endWord f)])) := h
      rw [e1, e2] at h
      exact h
    | free l2 =>
      walk_at "sf"
      refine ⟨(shp_ints found).shaped (by decide), ?_⟩
      rw [contains_dNat]
      cases hcn : found.contains p with
      | true =>
        walk_at "sf"
        have hg2 : gone f = (found, some p) := by
          rw [hg, walk, hc]
          show (if found.contains p = true then _ else _) = _
          rw [if_pos hcn]
        have e1 : chain f = found := by unfold chain; rw [hg2]
        have e2 : endWord f = Str.ofString "ring" := by unfold endWord stop; rw [hg2]; show (match f.cells[p]? with | some (.free _) => _ | _ => _) = _; rw [hc]
        have h : Φ (.dat (.tuple [dNats (chain f), .str (endWord f)])) := h
        rw [e1, e2] at h
        exact h
      | false =>
        walk_at "sf"
        refine ⟨by omega, m, Nat.lt_succ_self _, found ++ [p], l2, ?_, told_snoc ht hp hcn, hok, by rw [List.length_append]; simp only [List.length_cons, List.length_nil]; omega, ?_⟩
        · rw [List.map_append]
          rfl
        · rw [hg, walk, hc]
          show (if found.contains p = true then _ else _) = _
          rw [if_neg (by rw [hcn]; decide)]
end
def tf_rows_of : Tf := mkT (α := File) (fun f => [dF f]) Fine (fun f => .lst ((rowsL f.cells).map (dRow f.cells)))
section
variable {P : Program} {w : World} {K : PySem.W.Frag} {mg : Str → Option Value} {base : Heap}
theorem ok_rows_of (T : Txt K mg) : FnOk P w K mg base CX0 1 T.f_rows_of T.fd_rows_of ["file"] (spP K XR0 tf_rows_of) := by
  refine okP (n := 1) T.F_rows_of sc_rows_of rfl (fun ds Φ Ξ ⟨_, e, _⟩ => by rw [e]; rfl) fun cdv A outer s H E hr => ⟨_, psis_one (psi_ret (pei_lcR rfl sc_rows_of.nd T.m_range rfl (pai_cons (pei_len T.m_len rfl (pai_cons (pei_ixT (pei_var 0) pei_int) pai_nil)) pai_nil) (Blk.mk (own := [("place", 1)]) (tgt := (.nm 1)) (blkOk_by (N := n_rows_of) (sc := defScope s_rows_of) (by decide +kernel)) (by decide) (fun _ _ _ _ _ => by exact (pg_name (i := 1) sc_rows_of.nd rfl (by first | exact Or.inl rfl | exact Or.inr rfl))) (fun _ _ _ _ _ => (ptsi_one (pti_cmp (op_eqD (hu64 hr)) op2_eq (nomark _) (pei_ixT (pei_ixT (pei_ixT (pei_var 0) pei_int) (pei_var 1)) pei_int) (pei_gstr rfl T.c_ROW)))) (fun _ _ _ _ _ => (pei_tup (pai_cons (pei_var 1) (pai_cons (pei_ixT (pei_ixT (pei_ixT (pei_var 0) pei_int) (pei_var 1)) pei_int) pai_nil))))))), fun ds Φ Ξ hT => ?_⟩
  obtain ⟨f, rfl, hf, h⟩ := hT
  have hl := hf.few
  unfold dF
  walk_at "sf"
  refine ⟨by omega, by omega, ?_⟩
  refine lcR_fm (rowAt f.cells) (dRow f.cells) rfl (by omega) (fun i hi A B hA hB => ?_) h
  obtain ⟨c, hc, hok⟩ := hf.at hi
  walk_at "sf"
  rw [atC hc]
  cases c with
  | row n =>
    have e1 : rowAt f.cells i = true := by unfold rowAt; rw [hc]
    have e2 : numAt f.cells i = n := by unfold numAt; rw [hc]
    walk_at "sf"
    have z := hA e1
    unfold dRow at z
    rw [e2] at z
    exact z
  | free l =>
    have e1 : rowAt f.cells i = false := by unfold rowAt; rw [hc]
    walk_at "sf"
    exact hB e1
end
def tf_looked_over : Tf := mkT (α := File) (fun f => [dF f]) Fine (fun f => .dat (dChecked f))
theorem w_ee : (Str.ofString "end" == Str.ofString "end") = true := by decide +kernel
theorem w_re : (Str.ofString "ring" == Str.ofString "end") = false := by decide +kernel
theorem w_oe : (Str.ofString "row" == Str.ofString "end") = false := by decide +kernel
theorem endWord_end (f : File) : (endWord f == Str.ofString "end") = decide (stop f = none) := by
  unfold endWord
  cases stop f with
  | none => exact w_ee
  | some p =>
    show ((match f.cells[p]? with | some (.free _) => Str.ofString "ring" | _ => Str.ofString "row") == Str.ofString "end") = _
    rw [decide_eq_false (show ¬ some p = none from fun z => by cases z)]
    split
    · exact w_re
    · exact w_oe
theorem endWord_ok (f : File) : PyData.strOk (endWord f) = true := by
  unfold endWord
  split
  · decide +kernel
  · split
    · decide +kernel
    · decide +kernel
theorem wordOf_eq (f : File) : word f = (if (!decide (stop f = none)) = true then Str.ofString "broken" else if (!(looseL f).isEmpty) = true then Str.ofString "loose" else sWhole) := by
  unfold word
  by_cases h : stop f = none
  · rw [decide_eq_true h, if_neg (fun q => q h)]
    cases looseL f with
    | nil => rfl
    | cons a r => rfl
  · rw [decide_eq_false h, if_pos h]
    rfl
theorem filter_dNat {l : List Nat} {q : List Nat} : ((l.map dNat).filter (fun z => !((q.map dNat).any fun y => PyData.eqv y z))) = (l.filter fun p => !q.contains p).map dNat := by
  rw [List.filter_map]
  congr 1
  refine List.filter_congr fun p _ => ?_
  show (!((q.map dNat).any fun y => PyData.eqv y (dNat p))) = _
  rw [show ((q.map dNat).any fun y => PyData.eqv y (dNat p)) = q.contains p from contains_dNat]
section
variable {P : Program} {w : World} {K : PySem.W.Frag} {mg : Str → Option Value} {base : Heap}
theorem ok_looked_over (T : Txt K mg) : FnOk P w K mg base CX0 2 T.f_looked_over T.fd_looked_over ["file"] (spP K XR0 tf_looked_over) := by
  refine okP (n := 6) T.F_looked_over sc_looked_over rfl (fun ds Φ Ξ ⟨_, e, _⟩ => by rw [e]; rfl) fun cdv A outer s H E hr => ⟨_, psis_cons (psi_unpack [1, 2] (pei_def (ok_chain_of T) (hr.mono (by decide)) T.g_chain_of T.F_chain_of.kp T.b_chain_of passE (pai_cons (pei_var 0) pai_nil) rfl) (by exact (pg_tup rfl (pgs_cons (pg_name (i := 1) sc_looked_over.nd rfl (by first | exact Or.inl rfl | exact Or.inr rfl)) (pgs_cons (pg_name (i := 2) sc_looked_over.nd rfl (by first | exact Or.inl rfl | exact Or.inr rfl)) pgs_nil)))))
    (psis_cons (psi_setFLcR 3 rfl sc_looked_over.nd T.m_range rfl (pai_cons (pei_len T.m_len rfl (pai_cons (pei_ixT (pei_var 0) pei_int) pai_nil)) pai_nil) (Blk.mk (own := [("place", 6)]) (tgt := (.nm 6)) (blkOk_by (N := n_looked_over) (sc := defScope s_looked_over) (by decide +kernel)) (by decide) (fun _ _ _ _ _ => by exact (pg_name (i := 6) sc_looked_over.nd rfl (by first | exact Or.inl rfl | exact Or.inr rfl))) (fun _ _ _ _ _ => (ptsi_one (pti_cmp (op_eqD (hu64 hr)) op2_eq (nomark _) (pei_ixT (pei_ixT (pei_ixT (pei_var 0) pei_int) (pei_var 6)) pei_int) (pei_gstr rfl T.c_FREE)))) (fun _ _ _ _ _ => (pei_var 6))) (sw_true rfl rfl rfl (by decide +kernel)))
    (psis_cons (psi_setFLcL 4 rfl sc_looked_over.nd (pei_var 3) (Blk.mk (own := [("place", 6)]) (tgt := (.nm 6)) (blkOk_by (N := n_looked_over) (sc := defScope s_looked_over) (by decide +kernel)) (by decide) (fun _ _ _ _ _ => by exact (pg_name (i := 6) sc_looked_over.nd rfl (by first | exact Or.inl rfl | exact Or.inr rfl))) (fun _ _ _ _ _ => (ptsi_one (pti_cmp (op_notInD (hu65 hr)) op2_notInL (by rfl) (pei_var 6) (pei_var 1)))) (fun _ _ _ _ _ => (pei_var 6))) (sw_true rfl rfl rfl (by decide +kernel)))
    (psis_cons (psi_setF 5 (pei_if (pti_cmp (op_neD (hu64 hr)) op2_ne (nomark _) (pei_var 2) pei_str) pei_str (pei_if (pti_cmp (op_neD (hu64 hr)) op2_ne (nomark _) (pei_var 4) (pei_lst pai_nil)) pei_str pei_str)) sc_looked_over.nd)
    (psis_one (psi_ret (pei_tup (pai_cons (pei_var 5) (pai_cons (pei_def (ok_rows_of T) (hr.mono (by decide)) T.g_rows_of T.F_rows_of.kp T.b_rows_of passE (pai_cons (pei_var 0) pai_nil) rfl) (pai_cons (pei_var 1) (pai_cons (pei_var 4) pai_nil)))))))))), fun ds Φ Ξ hT => ?_⟩
  obtain ⟨f, rfl, hf, h⟩ := hT
  have hl := hf.few
  have hew : SeqAt.shaped (.str (endWord f)) = true := h_str (endWord_ok f)
  have hee : SeqAt.shaped (.str (Str.ofString "end")) = true := h_str (by decide +kernel)
  have hlo : SeqAt.shaped (.list ((looseL f).map dNat)) = true := (shp_ints (looseL f)).shaped (by decide)
  walk_at "sf"
  refine ⟨f, rfl, hf, ?_⟩
  unfold dF
  walk_at "sf"
  refine ⟨by omega, by omega, lcR_fm (freeAt f.cells) dNat rfl (by omega) (fun i hi A B hA hB => ?_) ?_⟩
  · obtain ⟨c, hc, hok⟩ := hf.at hi
    walk_at "sf"
    rw [atC hc]
    cases c with
    | row n =>
      have e1 : freeAt f.cells i = false := by unfold freeAt; rw [hc]
      walk_at "sf"
      exact hB e1
    | free l =>
      have e1 : freeAt f.cells i = true := by unfold freeAt; rw [hc]
      walk_at "sf"
      exact hA e1
  · walk_at "sf"
    refine lcI_fm (fun z => !(((chain f).map dNat).any fun y => PyData.eqv y z)) (fun z => z) rfl ?_ (fun d hd A B hA hB => ?_) ?_
    · have := List.length_filter_le (freeAt f.cells) (List.range f.cells.length)
      rw [List.length_range] at this
      rw [List.length_map]
      omega
    · obtain ⟨p, _, rfl⟩ := List.mem_map.mp hd
      unfold dNats
      walk_at "sf"
      refine ⟨rfl, (shp_ints (chain f)).shaped (by decide), ?_⟩
      cases hk : (!(((chain f).map dNat).any fun y => PyData.eqv y (dNat p))) with
      | true => exact hA hk
      | false => exact hB hk
    · rw [List.map_id', filter_dNat]
      have hr : ∀ Φ : Res → Prop, Φ (.lst ((rowsL f.cells).map (dRow f.cells))) → tf_rows_of [.tuple [dL f.head, .tuple (f.cells.map dC)]] Φ Ξ := fun Φ q => ⟨f, rfl, hf, q⟩
      have h : Φ (.dat (dChecked f)) := h
      unfold dChecked at h
      rw [wordOf_eq] at h
      walk_at "sf"
      refine ⟨hew, ?_⟩
      rw [endWord_end]
      cases hs : decide (stop f = none) with
      | false =>
        rw [hs] at h
        refine hr _ ?_
        exact h
      | true =>
        rw [hs] at h
        refine ⟨hlo, ?_⟩
        show if (!(looseL f).isEmpty) = true then _ else _
        cases hs2 : (looseL f).isEmpty with
        | false =>
          rw [hs2] at h
          refine hr _ ?_
          exact h
        | true =>
          rw [hs2] at h
          refine hr _ ?_
          exact h
end
def tf_checked : Tf := mkT (α := File) (fun f => [dF f]) Fine (fun f => .dat (dChecked f))
section
variable {P : Program} {w : World} {K : PySem.W.Frag} {mg : Str → Option Value} {base : Heap}
theorem ok_checked (T : Txt K mg) : FnOk P w K mg base CX0 4 T.f_checked T.fd_checked ["file"] (spP K XR0 tf_checked) := by
  refine okP (n := 0) T.F_checked sc_checked rfl (fun ds Φ Ξ ⟨_, e, _⟩ => by rw [e]; rfl) fun cdv A outer s H E hr => ⟨_, psis_cons (psi_expr (pei_def (ok_need_file T) (hr.mono (by decide)) T.g_need_file T.F_need_file.kp T.b_need_file passE (pai_cons (pei_var 0) pai_nil) rfl))
    (psis_one (psi_ret (pei_def (ok_looked_over T) (hr.mono (by decide)) T.g_looked_over T.F_looked_over.kp T.b_looked_over passE (pai_cons (pei_var 0) pai_nil) rfl))), fun ds Φ Ξ hT => ?_⟩
  obtain ⟨f, rfl, hf, h⟩ := hT
  walk_at "sf"
  refine ⟨f, rfl, hf, ?_⟩
  walk_at "sf"
  exact ⟨f, rfl, hf, h⟩
end
def tf_chained : Tf := mkT (α := List Cell × List Nat) (fun a => [.tuple (a.1.map dC), dNats a.2]) (fun a => a.1.length ≤ 12 ∧ a.2.length ≤ 12 ∧ ∀ p ∈ a.2, p < a.1.length) (fun a => .dat (dF ⟨a.2.head?, relink a.1 a.2⟩))
section
variable {P : Program} {w : World} {K : PySem.W.Frag} {mg : Str → Option Value} {base : Heap}
theorem ok_chained (T : Txt K mg) : FnOk P w K mg base CX0 1 T.f_chained T.fd_chained ["cells", "places"] (spP K XR0 tf_chained) := by
  refine okP (n := 2) T.F_chained sc_chained rfl (fun ds Φ Ξ ⟨_, e, _⟩ => by rw [e]; rfl) fun cdv A outer s H E hr => ⟨_, psis_cons (psi_set 2 (pei_list T.m_list rfl (pai_cons (pei_var 0) pai_nil)) sc_chained.nd)
    (psis_cons (psi_forR1 (.nm 3) PassesOwn.never rfl T.m_range rfl (pai_cons (pei_len T.m_len rfl (pai_cons (pei_var 1) pai_nil)) pai_nil) (by exact (pg_name (i := 3) sc_chained.nd rfl (by first | exact Or.inl rfl | exact Or.inr rfl)))
      (psis_one (psi_store 2 (pei_tup (pai_cons (pei_gstr rfl T.c_FREE) (pai_cons (pei_if (pti_cmp op_lt op2_lt (nomark _) (pei_add (pei_var 3) pei_int) (pei_len T.m_len rfl (pai_cons (pei_var 1) pai_nil))) (pei_ixL (pei_var 1) (pei_add (pei_var 3) pei_int)) pei_non) pai_nil))) (by exact (pg_sub (pv 2) (pei_ixL (pei_var 1) (pei_var 3)) set_list)))))
    (psis_one (psi_frz 2 (psi_ret (pei_tup (pai_cons (pei_if (pti_cmp (op_neD (hu64 hr)) op2_ne (nomark _) (pei_var 1) (pei_lst pai_nil)) (pei_ixL (pei_var 1) pei_int) pei_non) (pai_cons (pei_tuple T.m_tuple rfl (pai_cons (pei_var 2) pai_nil)) pai_nil))))))), fun ds Φ Ξ hT => ?_⟩
  obtain ⟨⟨cs, ps⟩, rfl, ⟨hl, hl2, hp⟩, h⟩ := hT
  have hl : cs.length ≤ 12 := hl
  have hl2 : ps.length ≤ 12 := hl2
  have hp : ∀ p ∈ ps, p < cs.length := hp
  have hsh : SeqAt.shaped (.list (ps.map dNat)) = true := (shp_ints ps).shaped (by decide)
  unfold dNats
  walk_at "sf"
  refine ⟨by omega, by omega, fun i ρ => ∃ cur e, ρ = [.dat (.tuple (cs.map dC)), .dat (.list (ps.map dNat)), .ls (cur.map dC), e] ∧ cur.length = cs.length ∧ relink cur (ps.drop i) = relink cs ps, ⟨cs, _, rfl, rfl, rfl⟩, fun i ρ' hi hρ => ?_, fun ρ' hρ => ?_⟩
  · obtain ⟨cur, e, rfl, hcl, hr⟩ := hρ
    have hpi : ps[i]? = some ps[i] := List.getElem?_eq_getElem hi
    have hlt : ps[i] < cur.length := by rw [hcl]; exact hp _ (List.getElem_mem hi)
    walk_at "sf"
    rw [cast1, lt_cast, atN hpi]
    by_cases h1 : i + 1 < ps.length
    · have hp1 : ps[i + 1]? = some ps[i + 1] := List.getElem?_eq_getElem h1
      rw [decide_eq_true h1, atN hp1]
      walk_at "sf"
      refine ⟨_, _, rfl, ixN_of hlt, cur.set ps[i] (.free (some ps[i + 1])), _, by rw [List.map_set]; rfl, by rw [List.length_set, hcl], ?_⟩
      rw [← hr, List.drop_eq_getElem_cons hi, relink, List.head?_drop, hp1]
    · have hp1 : ps[i + 1]? = none := List.getElem?_eq_none (by omega)
      rw [decide_eq_false h1]
      walk_at "sf"
      refine ⟨_, _, rfl, ixN_of hlt, cur.set ps[i] (.free none), _, by rw [List.map_set]; rfl, by rw [List.length_set, hcl], ?_⟩
      rw [← hr, List.drop_eq_getElem_cons hi, relink, List.head?_drop, hp1]
  · obtain ⟨cur, e, rfl, hcl, hr⟩ := hρ
    rw [List.drop_length, relink] at hr
    walk_at "sf"
    refine ⟨hsh, ?_⟩
    subst hr
    cases ps with
    | nil => exact h
    | cons p r =>
      walk_at "sf"
      exact h
end
def tf_mended_of : Tf := mkT (α := File) (fun f => [dF f]) Fine (fun f => .dat (dF (mendF f)))
theorem word_ok (f : File) : PyData.strOk (word f) = true := by
  unfold word
  split
  · decide +kernel
  · split
    · decide +kernel
    · decide +kernel
theorem h_wd (f : File) : SeqAt.shaped (.str (word f)) = true := h_str (word_ok f)
theorem h_whole : SeqAt.shaped (.str sWhole) = true := h_str (by decide +kernel)
theorem freeL_len {cs : List Cell} : (freeL cs).length ≤ cs.length := by
  have := List.length_filter_le (freeAt cs) (List.range cs.length)
  rw [List.length_range] at this
  exact this
section
variable {P : Program} {w : World} {K : PySem.W.Frag} {mg : Str → Option Value} {base : Heap}
theorem ok_mended_of (T : Txt K mg) : FnOk P w K mg base CX0 3 T.f_mended_of T.fd_mended_of ["file"] (spP K XR0 tf_mended_of) := by
  refine okP (n := 1) T.F_mended_of sc_mended_of rfl (fun ds Φ Ξ ⟨_, e, _⟩ => by rw [e]; rfl) fun cdv A outer s H E hr => ⟨_, psis_cons (psi_if (pti_cmp (op_eqD (hu64 hr)) op2_eq (nomark _) (pei_ixT (pei_def (ok_looked_over T) (hr.mono (by decide)) T.g_looked_over T.F_looked_over.kp T.b_looked_over passE (pai_cons (pei_var 0) pai_nil) rfl) pei_int) pei_str)
      (psis_one (psi_ret (pei_var 0)))
      (psis_nil))
    (psis_one (psi_ret (pei_def (ok_chained T) (hr.mono (by decide)) T.g_chained T.F_chained.kp T.b_chained passE (pai_cons (pei_ixT (pei_var 0) pei_int) (pai_cons (pei_lcR rfl sc_mended_of.nd T.m_range rfl (pai_cons (pei_len T.m_len rfl (pai_cons (pei_ixT (pei_var 0) pei_int) pai_nil)) pai_nil) (Blk.mk (own := [("place", 1)]) (tgt := (.nm 1)) (blkOk_by (N := n_mended_of) (sc := defScope s_mended_of) (by decide +kernel)) (by decide) (fun _ _ _ _ _ => by exact (pg_name (i := 1) sc_mended_of.nd rfl (by first | exact Or.inl rfl | exact Or.inr rfl))) (fun _ _ _ _ _ => (ptsi_one (pti_cmp (op_eqD (hu64 hr)) op2_eq (nomark _) (pei_ixT (pei_ixT (pei_ixT (pei_var 0) pei_int) (pei_var 1)) pei_int) (pei_gstr rfl T.c_FREE)))) (fun _ _ _ _ _ => (pei_var 1)))) pai_nil)) rfl))), fun ds Φ Ξ hT => ?_⟩
  obtain ⟨f, rfl, hf, h⟩ := hT
  have hl := hf.few
  have hw := h_wd f
  walk_at "sf"
  refine ⟨f, rfl, hf, ?_⟩
  unfold dChecked
  walk_at "sf"
  refine ⟨hw, ?_⟩
  rw [word_whole]
  have h : Φ (.dat (dF (mendF f))) := h
  unfold mendF at h
  cases hk : whole f with
  | true =>
    rw [hk] at h
    exact h
  | false =>
    rw [hk] at h
    unfold dF
    walk_at "sf"
    refine ⟨by omega, by omega, lcR_fm (freeAt f.cells) dNat rfl (by omega) (fun i hi A B hA hB => ?_) ?_⟩
    · obtain ⟨c, hc, hok⟩ := hf.at hi
      walk_at "sf"
      rw [atC hc]
      cases c with
      | row n =>
        have e1 : freeAt f.cells i = false := by unfold freeAt; rw [hc]
        walk_at "sf"
        exact hB e1
      | free l =>
        have e1 : freeAt f.cells i = true := by unfold freeAt; rw [hc]
        walk_at "sf"
        exact hA e1
    · refine ⟨(f.cells, freeL f.cells), rfl, ⟨hl, Nat.le_trans freeL_len hl, fun p hp => freeL_lt hp⟩, h⟩
end
def tf_mended : Tf := mkT (α := File) (fun f => [dF f]) Fine (fun f => .dat (dF (mendF f)))
section
variable {P : Program} {w : World} {K : PySem.W.Frag} {mg : Str → Option Value} {base : Heap}
theorem ok_mended (T : Txt K mg) : FnOk P w K mg base CX0 4 T.f_mended T.fd_mended ["file"] (spP K XR0 tf_mended) := by
  refine okP (n := 0) T.F_mended sc_mended rfl (fun ds Φ Ξ ⟨_, e, _⟩ => by rw [e]; rfl) fun cdv A outer s H E hr => ⟨_, psis_cons (psi_expr (pei_def (ok_need_file T) (hr.mono (by decide)) T.g_need_file T.F_need_file.kp T.b_need_file passE (pai_cons (pei_var 0) pai_nil) rfl))
    (psis_one (psi_ret (pei_def (ok_mended_of T) (hr.mono (by decide)) T.g_mended_of T.F_mended_of.kp T.b_mended_of passE (pai_cons (pei_var 0) pai_nil) rfl))), fun ds Φ Ξ hT => ?_⟩
  obtain ⟨f, rfl, hf, h⟩ := hT
  walk_at "sf"
  refine ⟨f, rfl, hf, ?_⟩
  walk_at "sf"
  exact ⟨f, rfl, hf, h⟩
end
def tf_mends_of : Tf := mkT (α := File) (fun f => [dF f]) Fine (fun f => .lst ((mendsF f).map dW))
section
variable {P : Program} {w : World} {K : PySem.W.Frag} {mg : Str → Option Value} {base : Heap}
theorem ok_mends_of (T : Txt K mg) : FnOk P w K mg base CX0 4 T.f_mends_of T.fd_mends_of ["file"] (spP K XR0 tf_mends_of) := by
  refine okP (n := 4) T.F_mends_of sc_mends_of rfl (fun ds Φ Ξ ⟨_, e, _⟩ => by rw [e]; rfl) fun cdv A outer s H E hr => ⟨_, psis_cons (psi_if (pti_cmp (op_eqD (hu64 hr)) op2_eq (nomark _) (pei_ixT (pei_def (ok_looked_over T) (hr.mono (by decide)) T.g_looked_over T.F_looked_over.kp T.b_looked_over passE (pai_cons (pei_var 0) pai_nil) rfl) pei_int) pei_str)
      (psis_one (psi_ret (pei_lst pai_nil)))
      (psis_nil))
    (psis_cons (psi_unpack [1, 2] (pei_def (ok_mended_of T) (hr.mono (by decide)) T.g_mended_of T.F_mended_of.kp T.b_mended_of passE (pai_cons (pei_var 0) pai_nil) rfl) (by exact (pg_tup rfl (pgs_cons (pg_name (i := 1) sc_mends_of.nd rfl (by first | exact Or.inl rfl | exact Or.inr rfl)) (pgs_cons (pg_name (i := 2) sc_mends_of.nd rfl (by first | exact Or.inl rfl | exact Or.inr rfl)) pgs_nil)))))
    (psis_cons (psi_set 3 (pei_lst (pai_cons (pei_tup (pai_cons pei_non (pai_cons pei_non pai_nil))) pai_nil)) sc_mends_of.nd)
    (psis_cons (psi_forR1 (.nm 4) PassesOwn.never rfl T.m_range rfl (pai_cons (pei_len T.m_len rfl (pai_cons (pei_var 2) pai_nil)) pai_nil) (by exact (pg_name (i := 4) sc_mends_of.nd rfl (by first | exact Or.inl rfl | exact Or.inr rfl)))
      (psis_one (psi_if (pti_cmp (op_neD (hu64 hr)) op2_ne (nomark _) (pei_ixT (pei_var 2) (pei_var 4)) (pei_ixT (pei_ixT (pei_var 0) pei_int) (pei_var 4)))
        (psis_one (psi_app 3 (pei_tup (pai_cons (pei_var 4) (pai_cons (pei_ixT (pei_var 2) (pei_var 4)) pai_nil)))))
        (psis_nil))))
    (psis_one (psi_frz 3 (psi_ret (pei_catL (pei_var 3) (pei_lst (pai_cons (pei_tup (pai_cons pei_non (pai_cons (pei_var 1) pai_nil))) pai_nil))))))))), fun ds Φ Ξ hT => ?_⟩
  obtain ⟨f, rfl, hf, h⟩ := hT
  have hl := hf.few
  have hw := h_wd f
  have hml := mendF_len f
  walk_at "sf"
  refine ⟨f, rfl, hf, ?_⟩
  unfold dChecked
  walk_at "sf"
  refine ⟨hw, ?_⟩
  rw [word_whole]
  have h : Φ (.lst ((mendsF f).map dW)) := h
  unfold mendsF at h
  cases hk : whole f with
  | true =>
    rw [hk] at h
    exact h
  | false =>
    rw [hk] at h
    walk_at "sf"
    refine ⟨f, rfl, hf, ?_⟩
    unfold dF
    walk_at "sf"
    have hf2 := mendF_fine hf
    refine ⟨by omega, by omega, fun i ρ => ∃ e, ρ = [.dat (dF f), .dat (dL (mendF f).head), .dat (.tuple ((mendF f).cells.map dC)), .ls ((((none, .link none) : Write) :: diffs (mendF f).cells f.cells i).map dW), e], ⟨_, rfl⟩, fun i ρ' hi hρ => ?_, fun ρ' hρ => ?_⟩
    · obtain ⟨e, rfl⟩ := hρ
      obtain ⟨c, hc, _⟩ := hf2.at hi
      obtain ⟨d, hd, _⟩ := hf.at (show i < f.cells.length by omega)
      have hdl := diffs_len (a := (mendF f).cells) (b := f.cells) (n := i)
      have hds := diffs_succ hc hd
      unfold dF
      walk_at "sf"
      rw [atC hc, atC hd]
      walk_at "sf"
      by_cases he : c = d
      · rw [decide_eq_true he]
        rw [if_pos he, List.append_nil] at hds
        walk_at "sf"
        exact ⟨_, by rw [hds]⟩
      · rw [decide_eq_false he]
        rw [if_neg he] at hds
        walk_at "sf"
        refine ⟨by omega, .dat (.int (i : Int)), ?_⟩
        rw [hds, List.map_append]
        rfl
    · obtain ⟨e, rfl⟩ := hρ
      have hdl := diffs_len (a := (mendF f).cells) (b := f.cells) (n := (mendF f).cells.length)
      walk_at "sf"
      refine ⟨by omega, ?_⟩
      rw [if_neg (by decide), List.map_append, List.map_append] at h
      exact h
end
def tf_need_rule : Tf := mkT (α := Rule) (fun r => [dRule r]) (fun _ => True) (fun _ => .dat .none)
section
variable {P : Program} {w : World} {K : PySem.W.Frag} {mg : Str → Option Value} {base : Heap}
theorem ok_need_rule (T : Txt K mg) : FnOk P w K mg base CX0 1 T.f_need_rule T.fd_need_rule ["rule"] (spP K XR0 tf_need_rule) := by
  refine okP (n := 1) T.F_need_rule sc_need_rule rfl (fun ds Φ Ξ ⟨_, e, _⟩ => by rw [e]; rfl) fun cdv A outer s H E hr => ⟨_, psis_one (psi_if (pti_bool (pwi_or (pti_cmp (op_neD (hu64 hr)) op2_ne (nomark _) (pei_len T.m_len rfl (pai_cons (pei_var 0) pai_nil)) pei_int) (pwi_one (pti_cmp (op_neD (hu64 hr)) op2_ne (nomark _) (pei_lcT rfl sc_need_rule.nd (pei_var 0) (Blk.mk (own := [("one", 1)]) (tgt := (.nm 1)) (blkOk_by (N := n_need_rule) (sc := defScope s_need_rule) (by decide +kernel)) (by decide) (fun _ _ _ _ _ => by exact (pg_name (i := 1) sc_need_rule.nd rfl (by first | exact Or.inl rfl | exact Or.inr rfl))) (fun _ _ _ _ _ => (ptsi_one (pti_cmp op_notIn_seq op2_notInT (by rfl) (pei_var 1) (pei_gref rfl T.c_FIRSTS T.i_FIRSTS)))) (fun _ _ _ _ _ => (pei_var 1)))) (pei_lst pai_nil)))))
      (psis_one (psi_never))
      (psis_nil)), fun ds Φ Ξ hT => ?_⟩
  obtain ⟨⟨a, b⟩, rfl, _, h⟩ := hT
  unfold dRule
  walk_at "sf"
  refine lcI_fm (fun _ => false) (fun z => z) rfl (show 2 ≤ 50000 by decide) (fun d hd A B hA hB => ?_) ?_
  · have e : ∃ c, d = dWd c := by
      rcases List.mem_cons.mp hd with z | z
      · exact ⟨a, z⟩
      · exact ⟨b, List.mem_singleton.mp z⟩
    obtain ⟨c, rfl⟩ := e
    walk_at "sf"
    refine ⟨sc_dWd, rfl, ?_⟩
    rw [in_firsts]
    exact hB rfl
  · rw [List.filter_eq_nil_iff.mpr (fun _ _ z => by cases z)]
    exact ⟨rfl, h⟩
end
def tf_need_room : Tf := mkT (α := File × Nat) (fun a => [dF a.1, .int (a.2 : Int)]) (fun a => 1 ≤ a.2 ∧ a.1.cells.length ≤ a.2 ∧ a.2 ≤ 12) (fun _ => .dat .none)
section
variable {P : Program} {w : World} {K : PySem.W.Frag} {mg : Str → Option Value} {base : Heap}
theorem ok_need_room (T : Txt K mg) : FnOk P w K mg base CX0 1 T.f_need_room T.fd_need_room ["file", "room"] (spP K XR0 tf_need_room) := by
  refine okP (n := 0) T.F_need_room sc_need_room rfl (fun ds Φ Ξ ⟨_, e, _⟩ => by rw [e]; rfl) fun cdv A outer s H E hr => ⟨_, psis_one (psi_if (pti_not (pti_chain op_le op_le op2_le op2_le (pei_max2 T.m_max rfl rfl (pai_cons pei_int (pai_cons (pei_len T.m_len rfl (pai_cons (pei_ixT (pei_var 0) pei_int) pai_nil)) pai_nil))) (pei_var 1) (pei_gint rfl T.c_MOST_SLOTS)))
      (psis_one (psi_never))
      (psis_nil)), fun ds Φ Ξ hT => ?_⟩
  obtain ⟨⟨f, r⟩, rfl, ⟨h1, h2, h3⟩, h⟩ := hT
  have h1 : 1 ≤ r := h1
  have h2 : f.cells.length ≤ r := h2
  have h3 : r ≤ 12 := h3
  unfold dF
  walk_at "sf"
  rw [decide_eq_true (show max 1 (f.cells.length : Int) ≤ (r : Int) by omega), decide_eq_true (show (r : Int) ≤ 12 by omega)]
  exact h
end
def tf_in_order : Tf := mkT (α := Bool × Write × Write) (fun a => [dWd a.1, dW a.2.1, dW a.2.2]) (fun _ => True) (fun a => .lst ((inOrder a.1 a.2.1 a.2.2).map dW))
section
variable {P : Program} {w : World} {K : PySem.W.Frag} {mg : Str → Option Value} {base : Heap}
theorem ok_in_order (T : Txt K mg) : FnOk P w K mg base CX0 1 T.f_in_order T.fd_in_order ["first", "head", "slot"] (spP K XR0 tf_in_order) := by
  refine okP (n := 0) T.F_in_order sc_in_order rfl (fun ds Φ Ξ ⟨_, e, _⟩ => by rw [e]; rfl) fun cdv A outer s H E hr => ⟨_, psis_one (psi_ret (pei_if (pti_cmp (op_eqD (hu64 hr)) op2_eq (nomark _) (pei_var 0) pei_str) (pei_lst (pai_cons (pei_var 1) (pai_cons (pei_var 2) pai_nil))) (pei_lst (pai_cons (pei_var 2) (pai_cons (pei_var 1) pai_nil))))), fun ds Φ Ξ hT => ?_⟩
  obtain ⟨⟨b, x, y⟩, rfl, _, h⟩ := hT
  walk_at "sf"
  cases b with
  | true => exact h
  | false => exact h
end
def tf_take_writes : Tf := mkT (α := File × Rule × Nat × Nat) (fun a => [dF a.1, dRule a.2.1, .int (a.2.2.1 : Int), .int (a.2.2.2 : Int)]) (fun a => Fine a.1) (fun a => optW (takeW a.1 a.2.1 a.2.2.1 a.2.2.2))
section
variable {P : Program} {w : World} {K : PySem.W.Frag} {mg : Str → Option Value} {base : Heap}
theorem ok_take_writes (T : Txt K mg) : FnOk P w K mg base CX0 2 T.f_take_writes T.fd_take_writes ["file", "rule", "room", "number"] (spP K XR0 tf_take_writes) := by
  refine okP (n := 4) T.F_take_writes sc_take_writes rfl (fun ds Φ Ξ ⟨_, e, _⟩ => by rw [e]; rfl) fun cdv A outer s H E hr => ⟨_, psis_cons (psi_unpack [4, 5] (pei_var 0) (by exact (pg_tup rfl (pgs_cons (pg_name (i := 4) sc_take_writes.nd rfl (by first | exact Or.inl rfl | exact Or.inr rfl)) (pgs_cons (pg_name (i := 5) sc_take_writes.nd rfl (by first | exact Or.inl rfl | exact Or.inr rfl)) pgs_nil)))))
    (psis_cons (psi_if (pti_cmp op_isN op2_isN (nomark _) (pei_var 4) pei_non)
      (psis_one (psi_ret (pei_if (pti_cmp op_lt op2_lt (nomark _) (pei_len T.m_len rfl (pai_cons (pei_var 5) pai_nil)) (pei_var 2)) (pei_lst (pai_cons (pei_tup (pai_cons (pei_len T.m_len rfl (pai_cons (pei_var 5) pai_nil)) (pai_cons (pei_tup (pai_cons (pei_gstr rfl T.c_ROW) (pai_cons (pei_var 3) pai_nil))) pai_nil))) pai_nil)) pei_non)))
      (psis_nil))
    (psis_cons (psi_unpack [6, 7] (pei_ixT (pei_var 5) (pei_var 4)) (by exact (pg_tup rfl (pgs_cons (pg_name (i := 6) sc_take_writes.nd rfl (by first | exact Or.inl rfl | exact Or.inr rfl)) (pgs_cons (pg_name (i := 7) sc_take_writes.nd rfl (by first | exact Or.inl rfl | exact Or.inr rfl)) pgs_nil)))))
    (psis_one (psi_ret (pei_def (ok_in_order T) (hr.mono (by decide)) T.g_in_order T.F_in_order.kp T.b_in_order passE (pai_cons (pei_ixT (pei_var 1) pei_int) (pai_cons (pei_tup (pai_cons pei_non (pai_cons (pei_if (pti_cmp (op_eqD (hu64 hr)) op2_eq (nomark _) (pei_var 6) (pei_gstr rfl T.c_FREE)) (pei_var 7) pei_non) pai_nil))) (pai_cons (pei_tup (pai_cons (pei_var 4) (pai_cons (pei_tup (pai_cons (pei_gstr rfl T.c_ROW) (pai_cons (pei_var 3) pai_nil))) pai_nil))) pai_nil))) rfl))))), fun ds Φ Ξ hT => ?_⟩
  obtain ⟨⟨f, r, room, n⟩, rfl, hf, h⟩ := hT
  have hf : Fine f := hf
  have h : Φ (optW (takeW f r room n)) := h
  unfold takeW at h
  unfold dF dRule
  cases hh : f.head with
  | none =>
    rw [hh] at h
    have h : Φ (optW (if f.cells.length < room then some [((some f.cells.length, .cell (.row n)) : Write)] else none)) := h
    walk_at "sf"
    rw [hh]
    walk_at "sf"
    by_cases hr : f.cells.length < room
    · rw [if_pos hr] at h
      rw [decide_eq_true hr]
      exact h
    · rw [if_neg hr] at h
      rw [decide_eq_false hr]
      exact h
  | some p =>
    rw [hh] at h
    have h : Φ (.lst ((inOrder r.1 (none, .link (freeLk f.cells p)) (some p, .cell (.row n))).map dW)) := h
    have hp : p < f.cells.length := by
      have := hf.head
      rw [hh] at this
      exact of_decide_eq_true this
    obtain ⟨c, hc, _⟩ := hf.at hp
    walk_at "sf"
    rw [hh]
    walk_at "sf"
    rw [atC hc]
    unfold freeLk at h
    rw [hc] at h
    cases c with
    | row k =>
      walk_at "sf"
      exact ⟨(r.1, (none, .link none), (some p, .cell (.row n))), rfl, trivial, h⟩
    | free l =>
      walk_at "sf"
      exact ⟨(r.1, (none, .link l), (some p, .cell (.row n))), rfl, trivial, h⟩
end
def tf_writes_of : Tf := mkT (α := File × Rule × Nat × Deed) (fun a => [dF a.1, dRule a.2.1, .int (a.2.2.1 : Int), dDeed a.2.2.2]) (fun a => Fine a.1 ∧ isOther a.2.2.2 = false) (fun a => optW (writesF a.1 a.2.1 a.2.2.1 a.2.2.2))
section
variable {P : Program} {w : World} {K : PySem.W.Frag} {mg : Str → Option Value} {base : Heap}
theorem ok_writes_of (T : Txt K mg) : FnOk P w K mg base CX0 5 T.f_writes_of T.fd_writes_of ["file", "rule", "room", "deed"] (spP K XR0 tf_writes_of) := by
  refine okP (n := 1) T.F_writes_of sc_writes_of rfl (fun ds Φ Ξ ⟨_, e, _⟩ => by rw [e]; rfl) fun cdv A outer s H E hr => ⟨_, psis_cons (psi_if (pti_cmp (op_eqD (hu64 hr)) op2_eq (nomark _) (pei_ixT (pei_var 3) pei_int) pei_str)
      (psis_one (psi_ret (pei_def (ok_mends_of T) (hr.mono (by decide)) T.g_mends_of T.F_mends_of.kp T.b_mends_of passE (pai_cons (pei_var 0) pai_nil) rfl)))
      (psis_nil))
    (psis_cons (psi_if (pti_cmp (op_eqD (hu64 hr)) op2_eq (nomark _) (pei_ixT (pei_var 3) pei_int) pei_str)
      (psis_one (psi_ret (pei_if (pti_chain op_le op_le op2_le op2_le pei_int (pei_ixT (pei_var 3) pei_int) (pei_gint rfl T.c_MOST_NUMBER)) (pei_def (ok_take_writes T) (hr.mono (by decide)) T.g_take_writes T.F_take_writes.kp T.b_take_writes passE (pai_cons (pei_var 0) (pai_cons (pei_var 1) (pai_cons (pei_var 2) (pai_cons (pei_ixT (pei_var 3) pei_int) pai_nil)))) rfl) pei_non)))
      (psis_nil))
    (psis_cons (psi_setF 4 (pei_ixT (pei_var 3) pei_int) sc_writes_of.nd)
    (psis_cons (psi_if (pti_bool (pwi_or (pti_not (pti_chain op_le op_lt op2_le op2_lt pei_int (pei_var 4) (pei_len T.m_len rfl (pai_cons (pei_ixT (pei_var 0) pei_int) pai_nil)))) (pwi_one (pti_cmp (op_neD (hu64 hr)) op2_ne (nomark _) (pei_ixT (pei_ixT (pei_ixT (pei_var 0) pei_int) (pei_var 4)) pei_int) (pei_gstr rfl T.c_ROW)))))
      (psis_one (psi_ret pei_non))
      (psis_nil))
    (psis_one (psi_ret (pei_def (ok_in_order T) (hr.mono (by decide)) T.g_in_order T.F_in_order.kp T.b_in_order passE (pai_cons (pei_ixT (pei_var 1) pei_int) (pai_cons (pei_tup (pai_cons pei_non (pai_cons (pei_var 4) pai_nil))) (pai_cons (pei_tup (pai_cons (pei_var 4) (pai_cons (pei_tup (pai_cons (pei_gstr rfl T.c_FREE) (pai_cons (pei_ixT (pei_var 0) pei_int) pai_nil))) pai_nil))) pai_nil))) rfl)))))), fun ds Φ Ξ hT => ?_⟩
  obtain ⟨⟨f, r, room, d⟩, rfl, ⟨hf, hd⟩, h⟩ := hT
  have hf : Fine f := hf
  cases d with
  | other w n => cases hd
  | mend =>
    unfold dDeed
    walk_at "sf"
    exact ⟨f, rfl, hf, h⟩
  | take n =>
    have h : Φ (optW (if 0 ≤ n ∧ n ≤ 999 then takeW f r room n.toNat else none)) := h
    unfold dDeed
    walk_at "sf"
    by_cases h1 : 0 ≤ n
    · rw [decide_eq_true h1]
      by_cases h2 : n ≤ 999
      · rw [decide_eq_true h2]
        rw [if_pos ⟨h1, h2⟩] at h
        walk_at "sf"
        refine ⟨(f, r, room, n.toNat), ?_, hf, h⟩
        show _ = [dF f, dRule r, .int (room : Int), .int ((n.toNat : Nat) : Int)]
        rw [Int.toNat_of_nonneg h1]
      · rw [decide_eq_false h2]
        rw [if_neg (fun z => h2 z.2)] at h
        exact h
    · rw [decide_eq_false h1]
      rw [if_neg (fun z => h1 z.1)] at h
      exact h
  | give p =>
    have h : Φ (optW (if 0 ≤ p ∧ p < (f.cells.length : Int) ∧ rowAt f.cells p.toNat = true then some (inOrder r.2 (none, .link (some p.toNat)) (some p.toNat, .cell (.free f.head))) else none)) := h
    unfold dDeed dF dRule
    walk_at "sf"
    by_cases h1 : 0 ≤ p
    · rw [decide_eq_true h1]
      by_cases h2 : p < (f.cells.length : Int)
      · rw [decide_eq_true h2]
        obtain ⟨k, rfl⟩ : ∃ k : Nat, p = (k : Int) := ⟨p.toNat, by omega⟩
        obtain ⟨c, hc, _⟩ := hf.at (show k < f.cells.length by omega)
        rw [Int.toNat_natCast] at h
        walk_at "sf"
        rw [atC hc]
        unfold rowAt at h
        rw [hc] at h
        cases c with
        | row n =>
          rw [if_pos ⟨h1, h2, rfl⟩] at h
          walk_at "sf"
          exact ⟨(r.2, (none, .link (some k)), (some k, .cell (.free f.head))), rfl, trivial, h⟩
        | free l =>
          rw [if_neg (fun z => by cases z.2.2)] at h
          walk_at "sf"
          exact h
      · rw [decide_eq_false h2]
        rw [if_neg (fun z => h2 z.2.1)] at h
        exact h
    · rw [decide_eq_false h1]
      rw [if_neg (fun z => h1 z.1)] at h
      exact h
end
def tf_written_in : Tf := mkT (α := File × Write) (fun a => [dF a.1, dW a.2]) (fun a => Fine a.1 ∧ (wOk a.1.cells.length a.2 = true ∨ wEnd a.1.cells.length a.2 = true)) (fun a => .dat (dF (put a.1 a.2)))
theorem writeOk_cases {n : Nat} {p : Lk} {q : What} (hw : wOk n (p, q) = true ∨ wEnd n (p, q) = true) : (∃ l, p = none ∧ q = .link l) ∨ ∃ i c, p = some i ∧ q = .cell c ∧ i ≤ n := by
  cases p with
  | none =>
    cases q with
    | link l => exact .inl ⟨l, rfl, rfl⟩
    | cell c => rcases hw with z | z <;> cases z
  | some i =>
    cases q with
    | link l => rcases hw with z | z <;> cases z
    | cell c =>
      refine .inr ⟨i, c, rfl, rfl, ?_⟩
      rcases hw with z | z
      · have z : (decide (i < n) && cellOk n c) = true := z
        rw [Bool.and_eq_true, decide_eq_true_iff] at z
        omega
      · cases c with
        | free l => cases z
        | row k =>
          have z : (decide (i = n) && decide (n < 12) && decide (k ≤ 999)) = true := z
          rw [Bool.and_eq_true, Bool.and_eq_true, decide_eq_true_iff] at z
          omega
section
variable {P : Program} {w : World} {K : PySem.W.Frag} {mg : Str → Option Value} {base : Heap}
theorem ok_written_in (T : Txt K mg) : FnOk P w K mg base CX0 1 T.f_written_in T.fd_written_in ["file", "write"] (spP K XR0 tf_written_in) := by
  refine okP (n := 2) T.F_written_in sc_written_in rfl (fun ds Φ Ξ ⟨_, e, _⟩ => by rw [e]; rfl) fun cdv A outer s H E hr => ⟨_, psis_cons (psi_unpack [2, 3] (pei_var 1) (by exact (pg_tup rfl (pgs_cons (pg_name (i := 2) sc_written_in.nd rfl (by first | exact Or.inl rfl | exact Or.inr rfl)) (pgs_cons (pg_name (i := 3) sc_written_in.nd rfl (by first | exact Or.inl rfl | exact Or.inr rfl)) pgs_nil)))))
    (psis_cons (psi_if (pti_cmp op_isN op2_isN (nomark _) (pei_var 2) pei_non)
      (psis_one (psi_ret (pei_tup (pai_cons (pei_var 3) (pai_cons (pei_ixT (pei_var 0) pei_int) pai_nil)))))
      (psis_nil))
    (psis_cons (psi_if (pti_cmp (op_eqD (hu64 hr)) op2_eq (nomark _) (pei_var 2) (pei_len T.m_len rfl (pai_cons (pei_ixT (pei_var 0) pei_int) pai_nil)))
      (psis_one (psi_ret (pei_tup (pai_cons (pei_ixT (pei_var 0) pei_int) (pai_cons (pei_catT (pei_ixT (pei_var 0) pei_int) (pei_tup (pai_cons (pei_var 3) pai_nil))) pai_nil)))))
      (psis_nil))
    (psis_one (psi_ret (pei_tup (pai_cons (pei_ixT (pei_var 0) pei_int) (pai_cons (pei_catT (pei_catT (pei_slT (pei_ixT (pei_var 0) pei_int) poi_none (poi_some (pei_var 2))) (pei_tup (pai_cons (pei_var 3) pai_nil))) (pei_slT (pei_ixT (pei_var 0) pei_int) (poi_some (pei_add (pei_var 2) pei_int)) poi_none)) pai_nil))))))), fun ds Φ Ξ hT => ?_⟩
  obtain ⟨⟨f, p, q⟩, rfl, ⟨hf, hw⟩, h⟩ := hT
  have hl := hf.few
  have hl : f.cells.length ≤ 12 := hl
  have h : Φ (.dat (dF (put f (p, q)))) := h
  rcases writeOk_cases hw with ⟨l, rfl, rfl⟩ | ⟨i, c, rfl, rfl, hi⟩
  · rw [put_link] at h
    unfold dF dW dWh
    walk_at "sf"
    exact h
  · have hi : i ≤ f.cells.length := hi
    rw [put_cell] at h
    unfold dF dW dWh
    walk_at "sf"
    rw [eq_cast]
    by_cases hx : i = f.cells.length
    · rw [if_pos hx] at h
      rw [decide_eq_true hx]
      unfold dF at h
      rw [List.map_append] at h
      walk_at "sf"
      exact ⟨by omega, h⟩
    · rw [if_neg hx] at h
      rw [decide_eq_false hx, cast1, cut_to (by rw [List.length_map]; exact hi), cut_from (by rw [List.length_map]; omega)]
      have h : Φ (.dat (.tuple [dL f.head, .tuple ((f.cells.set i c).map dC)])) := h
      rw [List.map_set, ← set_split (l := f.cells.map dC) (by rw [List.length_map]; omega)] at h
      walk_at "sf"
      refine ⟨?_, ?_, h⟩
      · rw [List.length_take, List.length_map]
        omega
      · rw [List.length_append, List.length_take, List.length_drop, List.length_map]
        simp only [List.length_cons, List.length_nil]
        omega
end
def resF : Option File → Res
  | none => .dat .none
  | some g => .dat (dF g)
def tf_stepped : Tf := mkT (α := File × Rule × Nat × Step) (fun a => [dF a.1, dRule a.2.1, .int (a.2.2.1 : Int), dStep a.2.2.2]) (fun a => Fine a.1 ∧ a.2.2.1 ≤ 12 ∧ deedOk a.2.2.2.1 = true) (fun a => resF (steppedF a.1 a.2.1 a.2.2.1 a.2.2.2))
theorem wsOk_at {f : File} {ws : List Write} (h : Fine f) (hw : wsOk f.cells.length ws) {i : Nat} {w : Write} (hi : ws[i]? = some w) : Fine ((ws.take i).foldl put f) ∧ (wOk ((ws.take i).foldl put f).cells.length w = true ∨ wEnd ((ws.take i).foldl put f).cells.length w = true) := by
  rcases hw with hw | ⟨v, rfl, hw⟩
  · obtain ⟨h1, h2⟩ := foldPut_fine (ws := ws.take i) h fun w hw' => hw w (List.mem_of_mem_take hw')
    exact ⟨h1, .inl (by rw [h2]; exact hw w (List.mem_of_getElem? hi))⟩
  · cases i with
    | zero =>
      cases hi
      exact ⟨h, .inr hw⟩
    | succ i => simp at hi
theorem step_loop {f : File} {ws : List Write} {Φ : Res → Prop} {Ξ : Exn → Prop} {a b c d e g : Ent} (h : Fine f) (hw : wsOk f.cells.length ws) (q : Φ (.dat (dF (ws.foldl put f)))) :
    ForI (.nm 7) (wSetF 0 (wDef tf_written_in (wCons (wVar 0) (wCons (wVar 7) wNil)))) (ws.map dW) [.dat (dF f), a, b, c, d, e, g, .no] { nx := fun ρ' => ∃ d, ρ'[0]? = some (.dat d) ∧ Φ (.dat d), rt := Φ, xc := Ξ } := by
  refine ⟨fun i ρ => ∃ z, ρ = [.dat (dF ((ws.take i).foldl put f)), a, b, c, d, e, g, z], ⟨_, rfl⟩, fun i d' ρ' hd hρ => ?_, fun ρ' hρ => ?_⟩
  · obtain ⟨z, rfl⟩ := hρ
    rw [List.getElem?_map] at hd
    cases hwi : ws[i]? with
    | none => rw [hwi] at hd; cases hd
    | some w =>
      rw [hwi] at hd
      cases hd
      obtain ⟨h1, h2⟩ := wsOk_at h hw hwi
      walk_at "sf"
      refine ⟨((ws.take i).foldl put f, w), rfl, ⟨h1, h2⟩, ?_⟩
      walk_at "sf"
      refine ⟨.dat (dW w), ?_⟩
      rw [List.take_add_one, hwi, List.foldl_append]
      rfl
  · obtain ⟨z, rfl⟩ := hρ
    rw [List.length_map, List.take_length]
    exact ⟨_, rfl, q⟩
theorem in_deeds {w : Str} : ([PyData.str (Str.ofString "take"), PyData.str (Str.ofString "give"), PyData.str (Str.ofString "mend")].any fun z => z.eqv (.str w)) = ((w == sTake) || (w == sGive) || (w == sMend)) := by
  show (PyData.eqv _ _ || (PyData.eqv _ _ || (PyData.eqv _ _ || false))) = _
  rw [v_str, v_str, v_str, Bool.or_false, Bool.or_assoc]
  congr 1
  · exact BEq.comm
  · congr 1
    · exact BEq.comm
    · exact BEq.comm
def dwd : Deed → Str
  | .take _ => sTake
  | .give _ => sGive
  | .mend => sMend
  | .other w _ => w
def drest : Deed → List PyData
  | .take n => [.int n]
  | .give n => [.int n]
  | .mend => []
  | .other _ n => [.int n]
theorem dDeed_eq (d : Deed) : dDeed d = .tuple (.str (dwd d) :: drest d) := by cases d <;> rfl
theorem dwd_in {d : Deed} (h : deedOk d = true) : ((dwd d == sTake) || (dwd d == sGive) || (dwd d == sMend)) = !isOther d := by
  cases d with
  | take n => show ((sTake == sTake) || _ || _) = true; rw [ws_take]; rfl
  | give n => show (_ || (sGive == sGive) || _) = true; rw [ws_give, Bool.or_true]; rfl
  | mend => show (_ || _ || (sMend == sMend)) = true; rw [ws_mend, Bool.or_true]
  | other w n =>
    have h : (PyData.strOk w && !(w == sTake) && !(w == sGive) && !(w == sMend)) = true := h
    show ((w == sTake) || (w == sGive) || (w == sMend)) = false
    revert h
    cases (w == sTake) <;> cases (w == sGive) <;> cases (w == sMend) <;> cases (PyData.strOk w) <;> decide
section
variable {P : Program} {w : World} {K : PySem.W.Frag} {mg : Str → Option Value} {base : Heap}
theorem ok_stepped (T : Txt K mg) : FnOk P w K mg base CX0 6 T.f_stepped T.fd_stepped ["file", "rule", "room", "step"] (spP K XR0 tf_stepped) := by
  refine okP (n := 4) T.F_stepped sc_stepped rfl (fun ds Φ Ξ ⟨_, e, _⟩ => by rw [e]; rfl) fun cdv A outer s H E hr => ⟨_, psis_cons (psi_unpack [4, 5] (pei_var 3) (by exact (pg_tup rfl (pgs_cons (pg_name (i := 4) sc_stepped.nd rfl (by first | exact Or.inl rfl | exact Or.inr rfl)) (pgs_cons (pg_name (i := 5) sc_stepped.nd rfl (by first | exact Or.inl rfl | exact Or.inr rfl)) pgs_nil)))))
    (psis_cons (psi_if (pti_cmp op_notIn_seq op2_notInT (by rfl) (pei_ixT (pei_var 4) pei_int) (pei_tup (pai_cons pei_str (pai_cons pei_str (pai_cons pei_str pai_nil)))))
      (psis_one (psi_ret pei_non))
      (psis_nil))
    (psis_cons (psi_setF 6 (pei_def (ok_writes_of T) (hr.mono (by decide)) T.g_writes_of T.F_writes_of.kp T.b_writes_of passE (pai_cons (pei_var 0) (pai_cons (pei_var 1) (pai_cons (pei_var 2) (pai_cons (pei_var 4) pai_nil)))) rfl) sc_stepped.nd)
    (psis_cons (psi_if (pti_bool (pwi_or (pti_cmp op_isN op2_isN (nomark _) (pei_var 6) pei_non) (pwi_one (pti_bool (pwi_and (pti_cmp op_notN op2_notN (nomark _) (pei_var 5) pei_non) (pwi_one (pti_not (pti_chain op_le op_le op2_le op2_le pei_int (pei_var 5) (pei_len T.m_len rfl (pai_cons (pei_var 6) pai_nil))))))))))
      (psis_one (psi_ret pei_non))
      (psis_nil))
    (psis_cons (psi_forL (.nm 7) PassesOwn.never rfl (pei_if (pti_cmp op_isN op2_isN (nomark _) (pei_var 5) pei_non) (pei_var 6) (pei_slL (pei_var 6) poi_none (poi_some (pei_var 5)))) (by exact (pg_name (i := 7) sc_stepped.nd rfl (by first | exact Or.inl rfl | exact Or.inr rfl)))
      (psis_one (psi_setF 0 (pei_def (ok_written_in T) (hr.mono (by decide)) T.g_written_in T.F_written_in.kp T.b_written_in passE (pai_cons (pei_var 0) (pai_cons (pei_var 7) pai_nil)) rfl) sc_stepped.nd)))
    (psis_one (psi_ret (pei_var 0))))))), fun ds Φ Ξ hT => ?_⟩
  obtain ⟨⟨f, r, room, d, m⟩, rfl, ⟨hf, hro, hd⟩, h⟩ := hT
  have hf : Fine f := hf
  have hro : room ≤ 12 := hro
  have hd : deedOk d = true := hd
  have h : Φ (resF (steppedF f r room (d, m))) := h
  unfold dStep
  walk_at "sf"
  rw [dDeed_eq]
  walk_at "sf"
  refine ⟨rfl, rfl, ?_⟩
  simp only [in_deeds, dwd_in hd]
  unfold steppedF at h
  cases ho : isOther d with
  | true =>
    have e : writesF f r room d = none := by
      cases d with
      | other w n => rfl
      | _ => cases ho
    rw [show writesF f r room (d, m).1 = none from e] at h
    exact h
  | false =>
    walk_at "sf"
    refine ⟨(f, r, room, d), by rw [← dDeed_eq], ⟨hf, ho⟩, ?_⟩
    have hwo : ∀ ws, writesF f r room d = some ws → wsOk f.cells.length ws := fun ws e => writesF_ok hf hro e
    have h : Φ (resF (match writesF f r room d with | none => none | some ws => doneF f ws m)) := h
    cases hw : writesF f r room d with
    | none =>
      rw [hw] at h
      show (if isNone (optW (writesF f r room d)).frz = true then Φ (.dat .none) else _)
      rw [hw]
      exact h
    | some ws =>
      rw [hw] at h
      have hwo := hwo ws hw
      have e1 : optW (writesF f r room d) = .lst (ws.map dW) := by rw [hw]; rfl
      show _
      rw [show (fun a : File × Rule × Nat × Deed => optW (writesF a.1 a.2.1 a.2.2.1 a.2.2.2)) (f, r, room, d) = .lst (ws.map dW) from e1]
      cases m with
      | none =>
        show _
        have h : Φ (.dat (dF (ws.foldl put f))) := h
        unfold dMany
        walk_at "sf"
        exact step_loop hf hwo h
      | some k =>
        have h : Φ (resF (if 0 ≤ k ∧ k ≤ (ws.length : Int) then some ((ws.take k.toNat).foldl put f) else none)) := h
        unfold dMany
        walk_at "sf"
        by_cases h1 : 0 ≤ k
        · rw [decide_eq_true h1]
          by_cases h2 : k ≤ (ws.length : Int)
          · rw [decide_eq_true h2]
            rw [if_pos ⟨h1, h2⟩] at h
            obtain ⟨j, rfl⟩ : ∃ j : Nat, k = (j : Int) := ⟨k.toNat, by omega⟩
            rw [Int.toNat_natCast] at h
            walk_at "sf"
            rw [cut_to (by rw [List.length_map]; omega), ← List.map_take]
            exact step_loop hf (wsOk_take hwo) h
          · rw [decide_eq_false h2]
            rw [if_neg (fun z => h2 z.2)] at h
            exact h
        · rw [decide_eq_false h1]
          rw [if_neg (fun z => h1 z.1)] at h
          exact h
end
def tf_played : Tf := mkT (α := File × Rule × Nat × List Step × List File) (fun a => [dF a.1, dRule a.2.1, .int (a.2.2.1 : Int), .list (a.2.2.2.1.map dStep)]) (fun a => Fine a.1 ∧ (1 ≤ a.2.2.1 ∧ a.1.cells.length ≤ a.2.2.1 ∧ a.2.2.1 ≤ 12) ∧ (∀ s ∈ a.2.2.2.1, deedOk s.1 = true) ∧ a.2.2.2.1.length ≤ 1000 ∧ playedF a.1 a.2.1 a.2.2.1 a.2.2.2.1 = some a.2.2.2.2) (fun a => .lst (a.2.2.2.2.map dF))
section
variable {P : Program} {w : World} {K : PySem.W.Frag} {mg : Str → Option Value} {base : Heap}
theorem ok_played (T : Txt K mg) : FnOk P w K mg base CX0 7 T.f_played T.fd_played ["file", "rule", "room", "steps"] (spP K XR0 tf_played) := by
  refine okP (n := 2) T.F_played sc_played rfl (fun ds Φ Ξ ⟨_, e, _⟩ => by rw [e]; rfl) fun cdv A outer s H E hr => ⟨_, psis_cons (psi_expr (pei_def (ok_need_file T) (hr.mono (by decide)) T.g_need_file T.F_need_file.kp T.b_need_file passE (pai_cons (pei_var 0) pai_nil) rfl))
    (psis_cons (psi_expr (pei_def (ok_need_rule T) (hr.mono (by decide)) T.g_need_rule T.F_need_rule.kp T.b_need_rule passE (pai_cons (pei_var 1) pai_nil) rfl))
    (psis_cons (psi_expr (pei_def (ok_need_room T) (hr.mono (by decide)) T.g_need_room T.F_need_room.kp T.b_need_room passE (pai_cons (pei_var 0) (pai_cons (pei_var 2) pai_nil)) rfl))
    (psis_cons (psi_set 4 (pei_lst pai_nil) sc_played.nd)
    (psis_cons (psi_forR1 (.nm 5) PassesOwn.never rfl T.m_range rfl (pai_cons (pei_len T.m_len rfl (pai_cons (pei_var 3) pai_nil)) pai_nil) (by exact (pg_name (i := 5) sc_played.nd rfl (by first | exact Or.inl rfl | exact Or.inr rfl)))
      (psis_cons (psi_setF 0 (pei_def (ok_stepped T) (hr.mono (by decide)) T.g_stepped T.F_stepped.kp T.b_stepped passE (pai_cons (pei_var 0) (pai_cons (pei_var 1) (pai_cons (pei_var 2) (pai_cons (pei_ixL (pei_var 3) (pei_var 5)) pai_nil)))) rfl) sc_played.nd)
      (psis_cons (psi_if (pti_cmp op_isN op2_isN (nomark _) (pei_var 0) pei_non)
        (psis_one (psi_never))
        (psis_nil))
      (psis_one (psi_app 4 (pei_var 0))))))
    (psis_one (psi_retM 4)))))), fun ds Φ Ξ hT => ?_⟩
  obtain ⟨⟨f, r, room, ss, fs⟩, rfl, ⟨hf, hro, hd, hz, hp⟩, h⟩ := hT
  have hf : Fine f := hf
  have hro : 1 ≤ room ∧ f.cells.length ≤ room ∧ room ≤ 12 := hro
  have hd : ∀ s ∈ ss, deedOk s.1 = true := hd
  have hz : ss.length ≤ 1000 := hz
  have hp : playedF f r room ss = some fs := hp
  walk_at "sf"
  refine ⟨f, rfl, hf, r, rfl, trivial, (f, room), rfl, hro, by omega, by omega, ?_⟩
  refine ⟨fun i ρ => ∃ g done rest e, ρ = [.dat (dF g), .dat (dRule r), .dat (.int (room : Int)), .dat (.list (ss.map dStep)), .ls (done.map dF), e] ∧ Fine g ∧ done.length = i ∧ playedF g r room (ss.drop i) = some rest ∧ fs = done ++ rest, ⟨f, [], fs, _, rfl, hf, rfl, hp, rfl⟩, fun i ρ' hi hρ => ?_, fun ρ' hρ => ?_⟩
  · obtain ⟨g, done, rest, e, rfl, hg, hdl, hpl, hfs⟩ := hρ
    have hsi : ss[i]? = some ss[i] := List.getElem?_eq_getElem hi
    have e2 : atI (ss.map dStep) ((i : Nat) : Int) = some (dStep ss[i]) := atI_nat (by rw [List.getElem?_map, hsi]; rfl)
    rw [List.drop_eq_getElem_cons hi] at hpl
    cases hst : steppedF g r room ss[i] with
    | none =>
      unfold playedF at hpl
      rw [hst] at hpl
      cases hpl
    | some k =>
      unfold playedF at hpl
      rw [hst] at hpl
      have hpl : (playedF k r room (ss.drop (i + 1))).map (k :: ·) = some rest := hpl
      cases hrest : playedF k r room (ss.drop (i + 1)) with
      | none => rw [hrest] at hpl; cases hpl
      | some rest2 =>
        rw [hrest] at hpl
        cases hpl
        walk_at "sf"
        rw [e2]
        walk_at "sf"
        refine ⟨(g, r, room, ss[i]), rfl, ⟨hg, hro.2.2, hd _ (List.getElem_mem hi)⟩, ?_⟩
        rw [show (fun a : File × Rule × Nat × Step => resF (steppedF a.1 a.2.1 a.2.2.1 a.2.2.2)) (g, r, room, ss[i]) = .dat (dF k) from by show resF (steppedF g r room ss[i]) = _; rw [hst]; rfl]
        unfold dF
        walk_at "sf"
        refine ⟨by omega, k, done ++ [k], rest2, .dat (.int (i : Int)), ?_, steppedF_fine hg hro.2.2 hst, by rw [List.length_append, hdl]; rfl, hrest, by rw [List.append_assoc]; exact hfs⟩
        rw [List.map_append]
        rfl
  · obtain ⟨g, done, rest, e, rfl, hg, hdl, hpl, hfs⟩ := hρ
    rw [List.drop_length] at hpl
    have hpl : some [] = some rest := hpl
    cases hpl
    rw [List.append_nil] at hfs
    subst hfs
    exact ⟨_, rfl, h⟩
end
def tf__law_taken : Tf := mkTR (α := Nat) (fun n => [.int (n : Int)]) (fun n => 1 ≤ n ∧ n ≤ 1000000) (fun n r => ∃ v : Nat, v < n ∧ r = .dat (.int (v : Int)))
theorem taken {n : Int} {Φ : Res → Prop} {Ξ : Exn → Prop} (k : Nat) (e : n = (k : Int)) (h1 : 1 ≤ k ∧ k ≤ 1000000) (h : ∀ v : Nat, v < k → Φ (.dat (.int (v : Int)))) : tf__law_taken [.int n] Φ Ξ := ⟨k, by rw [e], h1, fun r ⟨v, hv, er⟩ => by rw [er]; exact h v hv⟩
theorem mod_lt {a n : Int} (h : 0 < n) : ∃ v : Nat, (v : Int) < n ∧ a % n = (v : Int) := ⟨(a % n).toNat, by have := Int.emod_nonneg a (show n ≠ 0 by omega); have := Int.emod_lt_of_pos a h; omega, by have := Int.emod_nonneg a (show n ≠ 0 by omega); omega⟩
section
variable {P : Program} {w : World} {K : PySem.W.Frag} {mg : Str → Option Value} {base : Heap}
theorem ok__law_taken (T : Txt K mg) : FnOk P w K mg base CX0 1 T.f__law_taken T.fd__law_taken ["_law_row", "_law_many"] (spR K XR0 tf__law_taken) := by
  refine T.F__law_taken.ok sc__law_taken (fun vs H Q E ⟨r, us, G, ds, Φ, Ξ, ev, e, hr, il, ⟨n, hT, _⟩, _⟩ => by rw [ev, List.length_cons, ← il.len, hT]; rfl) fun cdv A outer s0 H vs Q E hr ⟨r, us, G, ds, Φ, Ξ, ev, e, hrow, il, ⟨n, hT, hn, hΦ⟩, q, ex⟩ => ?_
  have hn : 1 ≤ n ∧ n ≤ 1000000 := hn
  subst ev
  subst hT
  obtain ⟨v, rfl, im⟩ := imL_1 il
  rw [im_int] at im
  subst im
  obtain ⟨hG, s, ns, i, x, hH, scr, hi, hx, hx2⟩ := hrow
  refine ⟨_, pss_cons (ps_asg (pe_op op_add (pe_ix ix_list (pv 0) pe_int (fun _ _ => rfl)) pe_int) (pg_sub (pv 0) pe_int set_list))
    (pss_cons (ps_if (pt_cmpR op_gt (pe_ix ix_list (pv 0) pe_int (fun _ _ => rfl)) (pe_callB call_len_seq (by rfl) T.m_len PySem.boot_len (pa_cons (pe_ix ix_list (pv 0) pe_int (fun _ _ => rfl)) pa_nil)) (nomark _))
      (pss_cons (ps_asg (pe_op op_mod (pe_op op_add (pe_op op_mul (pe_ix ix_list (pv 0) pe_int (fun _ _ => rfl)) pe_int) pe_int) pe_int) (pg_sub (pv 0) pe_int set_list))
        (pss_one (ps_ret (pe_op op_mod (pe_op op_fdiv (pe_ix ix_list (pv 0) pe_int (fun _ _ => rfl)) pe_int) (pv 1)))))
      pss_nil)
    (pss_cons (ps_set (i := 2) sc__law_taken.nd rfl (.inl rfl) (pe_ix ix_list (pe_ix ix_list (pv 0) pe_int (fun _ _ => rfl)) (pe_op op_sub (pe_ix ix_list (pv 0) pe_int (fun _ _ => rfl)) pe_int) (fun _ _ => rfl)))
    (pss_cons (ps_asg (pe_op op_mod (pe_op op_add (pe_op op_add (pe_op op_mul (pe_ix ix_list (pv 0) pe_int (fun _ _ => rfl)) pe_int) (pv 2)) pe_int) pe_int) (pg_sub (pv 0) pe_int set_list))
    (pss_one (ps_ret (pe_op op_mod (pv 2) (pv 1))))))), ?_⟩
  have sqH : SqL K H r [.ref s, .int i, .int x] := sq_of hH
  refine ⟨.ref r, rfl, r, _, 1, _, rfl, rfl, sqH, atI_nat (j := 1) rfl, i, 1, rfl, rfl, .ref r, rfl, r, _, 1, 1, rfl, rfl, hH, rfl, ?_⟩
  have e1 : Ex G (upd H r (.lst [.ref s, .int (i + 1), .int x])) := e.out hG
  have h1 : (upd H r (.lst [.ref s, .int (i + 1), .int x])) r = some (.lst [.ref s, .int (i + 1), .int x]) := upd_same
  have hk1 : ∀ a, a ≠ r → (upd H r (.lst [.ref s, .int (i + 1), .int x])) a = H a := fun a ha => upd_ne ha
  have sq1 : SqL K (upd H r (.lst [.ref s, .int (i + 1), .int x])) r [.ref s, .int (i + 1), .int x] := sq_of h1
  have sqs : SqL K (upd H r (.lst [.ref s, .int (i + 1), .int x])) s (ns.map V.int) := scr.sql e1
  have fin : ∀ x2 : Int, 0 ≤ x2 → x2 < 2147483647 → Fin' K ⟨some r, G, H⟩ G (upd (upd H r (.lst [.ref s, .int (i + 1), .int x])) r (.lst [.ref s, .int (i + 1), .int x2])) := fun x2 a1 a2 => by
    refine ⟨.refl _, e1.out hG, fun a o h hne _ => ?_, (TblK.lst hH).trans (.lst h1), fun a h => ?_, fun a h _ => h, fun r' hr' => ?_⟩
    · have ha : a ≠ r := fun z => hne (by rw [z])
      rw [upd_ne ha, hk1 a ha]
      exact h
    · by_cases ha : a = r
      · subst ha
        rw [upd_same]
        exact fun z => by cases z
      · rw [upd_ne ha, hk1 a ha]
        exact h
    · cases hr'
      exact ⟨hG, s, ns, i + 1, x2, upd_same, scr, by omega, a1, a2⟩
  refine ⟨.ref r, rfl, r, _, 1, _, rfl, rfl, sq1, atI_nat (j := 1) rfl, .ref r, rfl, r, _, 0, _, rfl, rfl, sq1, atI_nat (j := 0) rfl, s, _, rfl, .inl sqs, i + 1, _, rfl, rfl, _, rfl, ite2 (fun hlt => ?_) (fun hlt => ?_)⟩
  · refine ⟨.ref r, rfl, r, _, 2, _, rfl, rfl, sq1, atI_nat (j := 2) rfl, x, _, rfl, rfl, .inl ⟨by omega, by omega⟩, _, _, rfl, rfl, _, _, rfl, rfl, (by show (0 : Int) < 2147483647; decide), .ref r, rfl, r, _, 2, 2, rfl, rfl, upd_same, rfl, ?_⟩
    obtain ⟨y, y1, y2⟩ := mod_lt (a := x * 48271 + 11) (n := 2147483647) (by decide)
    obtain ⟨v, v1, v2⟩ := mod_lt (a := (x * 48271 + 11) % 2147483647 / 7) (n := (n : Int)) (by omega)
    refine ⟨.ref r, rfl, r, _, 2, _, rfl, rfl, sq_of upd_same, atI_nat (j := 2) rfl, _, _, rfl, rfl, ⟨by decide, by decide⟩, .int n, rfl, _, _, rfl, rfl, (by show (0 : Int) < n; omega), ?_⟩
    refine q _ (.dat (.int ((v : Nat) : Int))) G _ (fin ((x * 48271 + 11) % 2147483647) (by omega) (by omega)) ?_ (hΦ _ ⟨v, by omega, rfl⟩)
    show Im _ _ _ _
    rw [im_int, ← v2]
  · have hil : i < (ns.length : Int) := by
      have h := of_decide_eq_false (Bool.eq_false_iff.mpr hlt)
      rw [List.length_map] at h
      omega
    have gi : (ns.map V.int)[i.toNat]? = some (.int ns[i.toNat]) := by
      rw [List.getElem?_map, List.getElem?_eq_getElem (by omega)]
      rfl
    have ga : atI (ns.map V.int) (i + 1 - 1) = some (.int ns[i.toNat]) := by
      rw [show i + 1 - 1 = ((i.toNat : Nat) : Int) by omega]
      exact atI_nat gi
    generalize ns[i.toNat] = m at ga
    refine ⟨.ref r, rfl, r, _, 0, _, rfl, rfl, sq1, atI_nat (j := 0) rfl, .ref r, rfl, r, _, 1, _, rfl, rfl, sq1, atI_nat (j := 1) rfl, i + 1, _, rfl, rfl, s, _, _, _, rfl, rfl, sqs, ga, ?_⟩
    refine ⟨.ref r, rfl, r, _, 2, _, rfl, rfl, sq1, atI_nat (j := 2) rfl, x, _, rfl, rfl, .inl ⟨by omega, by omega⟩, .int m, rfl, _, _, rfl, rfl, _, _, rfl, rfl, _, _, rfl, rfl, (by show (0 : Int) < 2147483647; decide), .ref r, rfl, r, _, 2, 2, rfl, rfl, upd_same, rfl, ?_⟩
    obtain ⟨y, y1, y2⟩ := mod_lt (a := x * 48271 + m + 11) (n := 2147483647) (by decide)
    obtain ⟨v, v1, v2⟩ := mod_lt (a := m) (n := (n : Int)) (by omega)
    refine ⟨.int m, rfl, .int n, rfl, _, _, rfl, rfl, (by show (0 : Int) < n; omega), ?_⟩
    refine q _ (.dat (.int ((v : Nat) : Int))) G _ (fin ((x * 48271 + m + 11) % 2147483647) (by omega) (by omega)) ?_ (hΦ _ ⟨v, by omega, rfl⟩)
    show Im _ _ _ _
    rw [im_int, ← v2]
end
def tf__law_whole : Tf := mkTR (α := Nat) (fun m => [.int (m : Int)]) (fun m => m ≤ 12) (fun m r => ∃ f : File, Fine f ∧ whole f = true ∧ f.cells.length ≤ m ∧ r = .dat (dF f))
structure WInv (n : Nat) (cs : List Cell) (l dn : List Nat) (h : Lk) : Prop where
  len : cs.length = n
  lk : Links cs h dn
  nd : dn.Nodup
  inl : ∀ i ∈ l, i < n ∧ i ∉ dn
  ndl : l.Nodup
  fr : ∀ i, freeAt cs i = true → i ∈ dn
  ok : ∀ c ∈ cs, cellOk n c = true
theorem WInv.step {n : Nat} {cs : List Cell} {l dn : List Nat} {h : Lk} {k p : Nat} (W : WInv n cs l dn h) (hp : l[k]? = some p) : WInv n (cs.set p (.free h)) (l.eraseIdx k) (p :: dn) (some p) := by
  have hpl : p ∈ l := List.mem_of_getElem? hp
  obtain ⟨hpn, hpd⟩ := W.inl p hpl
  have hk : k < l.length := (List.getElem?_eq_some_iff.mp hp).1
  have ek : l[k] = p := (List.getElem?_eq_some_iff.mp hp).2
  refine ⟨by rw [List.length_set, W.len], ⟨rfl, h, ?_, W.lk.mono fun i hi => ?_⟩, List.nodup_cons.mpr ⟨hpd, W.nd⟩, fun i hi => ?_, W.ndl.sublist (List.eraseIdx_sublist _ _), fun i hi => ?_, fun c hc => ?_⟩
  · rw [List.getElem?_set_self (by rw [W.len]; exact hpn)]
  · rw [List.getElem?_set_ne (show p ≠ i from fun e => hpd (e ▸ hi))]
  · obtain ⟨j, hj, hjk, ej⟩ := List.mem_eraseIdx_iff_getElem.mp hi
    have hil : i ∈ l := ej ▸ List.getElem_mem _
    refine ⟨(W.inl i hil).1, fun z => ?_⟩
    rcases List.mem_cons.mp z with y | y
    · rw [y, ← ek] at ej
      exact hjk ((List.getElem_inj W.ndl).mp ej)
    · exact (W.inl i hil).2 y
  · by_cases q : p = i
    · rw [q]; exact List.mem_cons_self
    · refine List.mem_cons_of_mem _ (W.fr i ?_)
      unfold freeAt at hi ⊢
      rw [List.getElem?_set_ne q] at hi
      exact hi
  · rcases List.mem_or_eq_of_mem_set hc with z | z
    · exact W.ok c z
    · rw [z]
      show linkOk n h = true
      cases dn with
      | nil =>
        have e : h = none := W.lk
        rw [e]
        rfl
      | cons q qs =>
        obtain ⟨e, _⟩ := W.lk
        rw [e]
        have := W.lk.lt q List.mem_cons_self
        exact decide_eq_true (by rw [W.len] at this; exact this)
theorem WInv.fine {n : Nat} {cs : List Cell} {dn : List Nat} {h : Lk} (W : WInv n cs [] dn h) (hn : n ≤ 12) : Fine ⟨h, cs⟩ ∧ whole ⟨h, cs⟩ = true := by
  have hlk : linkOk n h = true := by
    cases dn with
    | nil =>
      have e : h = none := W.lk
      rw [e]
      rfl
    | cons q qs =>
      obtain ⟨e, _⟩ := W.lk
      rw [e]
      have := W.lk.lt q List.mem_cons_self
      exact decide_eq_true (by rw [W.len] at this; exact this)
  refine ⟨⟨?_, ?_, ?_⟩, whole_of W.lk W.nd W.fr⟩
  · show linkOk cs.length h = true
    rw [W.len]
    exact hlk
  · show cs.length ≤ 12
    rw [W.len]
    exact hn
  · show ∀ c ∈ cs, cellOk cs.length c = true
    rw [W.len]
    exact W.ok
section
variable {P : Program} {w : World} {K : PySem.W.Frag} {mg : Str → Option Value} {base : Heap}
theorem ok__law_whole (T : Txt K mg) : FnOk P w K mg base CX0 2 T.f__law_whole T.fd__law_whole ["_law_row", "_law_most"] (spR K XR0 tf__law_whole) := by
  refine okR (n := 5) T.F__law_whole sc__law_whole rfl (fun ds Φ Ξ ⟨_, e, _⟩ => by rw [e]; rfl) fun cdv A outer s H E hr => ⟨_, psis_cons (psi_setF 2 (pei_defR 0 (ok__law_taken T) (hr.mono (by decide)) T.g__law_taken T.F__law_taken.kp T.b__law_taken passE (pai_cons (pei_add (pei_var 1) pei_int) pai_nil) rfl) sc__law_whole.nd)
    (psis_cons (psi_setLcR 3 rfl sc__law_whole.nd T.m_range rfl (pai_cons (pei_var 2) pai_nil) (Blk.mk (own := [("_law_place", 6)]) (tgt := (.nm 6)) (blkOk_by (N := n__law_whole) (sc := defScope s__law_whole) (by decide +kernel)) (by decide) (fun _ _ _ _ _ => by exact (pg_name (i := 6) sc__law_whole.nd rfl (by first | exact Or.inl rfl | exact Or.inr rfl))) (fun _ _ _ _ _ => (ptsi_one (pti_cmp (op_eqD (hu64 hr)) op2_eq (nomark _) (pei_defR 0 (ok__law_taken T) (hr.mono (by decide)) T.g__law_taken T.F__law_taken.kp T.b__law_taken passE (pai_cons pei_int pai_nil) rfl) pei_int))) (fun _ _ _ _ _ => (pei_var 6))) (sw_true rfl rfl rfl (by decide +kernel)))
    (psis_cons (psi_setLcR 4 rfl sc__law_whole.nd T.m_range rfl (pai_cons (pei_var 2) pai_nil) (Blk.mk (own := [("_law_place", 6)]) (tgt := (.nm 6)) (blkOk_by (N := n__law_whole) (sc := defScope s__law_whole) (by decide +kernel)) (by decide) (fun _ _ _ _ _ => by exact (pg_name (i := 6) sc__law_whole.nd rfl (by first | exact Or.inl rfl | exact Or.inr rfl))) (fun _ _ _ _ _ => ptsi_nil) (fun _ _ _ _ _ => (pei_tup (pai_cons pei_str (pai_cons (pei_defR 0 (ok__law_taken T) (hr.mono (by decide)) T.g__law_taken T.F__law_taken.kp T.b__law_taken passE (pai_cons pei_int pai_nil) rfl) pai_nil))))) (sw_true rfl rfl rfl (by decide +kernel)))
    (psis_cons (psi_setF 5 pei_non sc__law_whole.nd)
    (psis_cons (psi_while PassesOwn.never (pti_peek 3 (pti_cmp (op_neD (hu64 hr)) op2_ne (nomark _) (pei_var 3) (pei_lst pai_nil)))
      (psis_cons (psi_popAt 6 3 (pei_peek 3 (pei_defR 0 (ok__law_taken T) (hr.mono (by decide)) T.g__law_taken T.F__law_taken.kp T.b__law_taken passE (pai_cons (pei_len T.m_len rfl (pai_cons (pei_var 3) pai_nil)) pai_nil) rfl)) (hN2 := sc__law_whole.nd))
      (psis_cons (psi_store 4 (pei_tup (pai_cons pei_str (pai_cons (pei_var 5) pai_nil))) (by exact (pg_sub (pv 4) (pei_var 6) set_list)))
      (psis_one (psi_setF 5 (pei_var 6) sc__law_whole.nd)))))
    (psis_one (psi_frz 4 (psi_ret (pei_tup (pai_cons (pei_var 5) (pai_cons (pei_tuple T.m_tuple rfl (pai_cons (pei_var 4) pai_nil)) pai_nil)))))))))), fun ds Φ Ξ hT => ?_⟩
  obtain ⟨m, rfl, hm, h⟩ := hT
  have hm : m ≤ 12 := hm
  walk_at "sf"
  refine taken (m + 1) (by omega) (by omega) fun n hn => ?_
  walk_at "sf"
  refine ⟨by omega, by omega, rfl, fun i acc => ∃ l : List Nat, acc = l.map dNat ∧ l.Nodup ∧ ∀ x ∈ l, x < i, ⟨[], rfl, List.nodup_nil, fun x hx => by cases hx⟩, fun i hi acc hacc => ?_, fun acc hacc => ?_⟩
  · obtain ⟨l, rfl, nd, hlt⟩ := hacc
    have hll := nodup_le nd hlt
    refine ⟨by rw [List.length_map]; omega, ?_⟩
    walk_at "sf"
    refine taken 2 rfl (by omega) fun v hv => ?_
    walk_at "sf"
    cases (((v : Nat) : Int) == 1) with
    | true =>
      walk_at "sf"
      refine ⟨l ++ [i], by rw [List.map_append]; rfl, ?_, fun x hx => ?_⟩
      · rw [List.nodup_append]
        refine ⟨nd, by simp, fun a ha b hb e => ?_⟩
        rw [List.mem_singleton.mp hb] at e
        have := hlt a ha
        omega
      · rcases List.mem_append.mp hx with z | z
        · have := hlt x z
          omega
        · rw [List.mem_singleton.mp z]
          omega
    | false =>
      walk_at "sf"
      exact ⟨l, rfl, nd, fun x hx => by have := hlt x hx; omega⟩
  · obtain ⟨l, rfl, ndl, hlt⟩ := hacc
    walk_at "sf"
    refine ⟨by omega, by omega, rfl, fun i acc => ∃ cs : List Cell, acc = cs.map dC ∧ cs.length = i ∧ ∀ c ∈ cs, ∃ k, k ≤ 999 ∧ c = .row k, ⟨[], rfl, rfl, fun x hx => by cases hx⟩, fun i hi acc hacc => ?_, fun acc hacc => ?_⟩
    · obtain ⟨cs, rfl, hcl, hcs⟩ := hacc
      refine ⟨by rw [List.length_map]; omega, ?_⟩
      walk_at "sf"
      refine taken 1000 rfl (by omega) fun v hv => ?_
      walk_at "sf"
      refine ⟨cs ++ [.row v], by rw [List.map_append]; rfl, by rw [List.length_append, hcl]; rfl, fun c hc => ?_⟩
      rcases List.mem_append.mp hc with z | z
      · exact hcs c z
      · exact ⟨v, by omega, List.mem_singleton.mp z⟩
    · obtain ⟨cs, rfl, hcl, hcs⟩ := hacc
      have hfr : ∀ i, freeAt cs i = true → i ∈ ([] : List Nat) := fun i hi => by
        unfold freeAt at hi
        cases e : cs[i]? with
        | none => rw [e] at hi; cases hi
        | some c =>
          rw [e] at hi
          obtain ⟨k, _, rfl⟩ := hcs c (List.mem_of_getElem? e)
          cases hi
      have hok : ∀ c ∈ cs, cellOk n c = true := fun c hc => by
        obtain ⟨k, hk, rfl⟩ := hcs c hc
        exact decide_eq_true hk
      have W0 : WInv n cs l [] none := ⟨hcl, rfl, List.nodup_nil, fun i hi => ⟨hlt i hi, by simp⟩, ndl, hfr, hok⟩
      walk_at "sf"
      refine ⟨fun j ρ => ∃ (cs : List Cell) (l dn : List Nat) (hh : Lk) (z : Ent), ρ = [.row, .dat (.int (m : Int)), .dat (.int (n : Int)), .ls (l.map dNat), .ls (cs.map dC), .dat (dL hh), z] ∧ l.length = j ∧ WInv n cs l dn hh, ⟨l.length, cs, l, [], none, _, rfl, rfl, W0⟩, fun j ρ' hρ => ?_⟩
      obtain ⟨cs, l, dn, hh, z, rfl, hj, W⟩ := hρ
      walk_at "sf"
      refine ⟨(shp_ints l).shaped (by decide), ?_⟩
      cases l with
      | nil =>
        walk_at "sf"
        obtain ⟨w1, w2⟩ := W.fine (by omega)
        exact h _ ⟨_, w1, w2, by show cs.length ≤ m; rw [W.len]; omega, rfl⟩
      | cons x xs =>
        walk_at "sf"
        rw [if_pos (show (!(x :: xs).isEmpty) = true from rfl)]
        have hll := nodup_le W.ndl fun i hi => (W.inl i hi).1
        rw [List.length_cons] at hll hj
        refine taken (xs.length + 1) rfl (by omega) fun v hv => ?_
        have hp : (x :: xs)[v]? = some (x :: xs)[v] := List.getElem?_eq_getElem (by rw [List.length_cons]; exact hv)
        generalize (x :: xs)[v] = p at hp
        have hpn := (W.inl p (List.mem_of_getElem? hp)).1
        refine ⟨rfl, v, dNat p, rfl, by omega, ?_, (p : Int), p, rfl, ixN_of (by rw [W.len]; exact hpn), j - 1, by omega, cs.set p (.free hh), (x :: xs).eraseIdx v, p :: dn, some p, .dat (dNat p), ?_, ?_, W.step hp⟩
        · show ((x :: xs).map dNat)[v]? = _
          rw [List.getElem?_map, hp]
          rfl
        · have e1 : (dNat x :: xs.map dNat).eraseIdx v = ((x :: xs).eraseIdx v).map dNat := by
            show ((x :: xs).map dNat).eraseIdx v = _
            rw [List.eraseIdx_eq_take_drop_succ, List.eraseIdx_eq_take_drop_succ, List.map_append, List.map_take, List.map_drop]
          rw [e1, List.map_set]
          rfl
        · rw [List.length_eraseIdx, if_pos (by rw [List.length_cons]; exact hv), List.length_cons]
          omega
end
def tf__law_checked : Tf := mkT (α := File) (fun f => [dF f]) Fine (fun f => .dat (dChecked f))
def ChInv2 (f : File) (m : Nat) (ρ : Rho) : Prop := ∃ (found : List Nat) (l : Lk), ρ = [.dat (dF f), .dat (dL f.head), .dat (.tuple (f.cells.map dC)), .dat (dRows f.cells), .ls (found.map dNat), .dat (dL l), .no, .no, .no] ∧ Told f.cells found ∧ linkOk f.cells.length l = true ∧ m + found.length = f.cells.length + 1 ∧ gone f = walk f.cells m found l
theorem looseL_eq (f : File) : looseL f = (List.range f.cells.length).filter fun i => freeAt f.cells i && !(chain f).contains i := by
  unfold looseL freeL
  rw [List.filter_filter]
  exact List.filter_congr fun i _ => Bool.and_comm _ _
section
variable {P : Program} {w : World} {K : PySem.W.Frag} {mg : Str → Option Value} {base : Heap}
theorem ok__law_checked (T : Txt K mg) : FnOk P w K mg base CX0 1 T.f__law_checked T.fd__law_checked ["_law_file"] (spP K XR0 tf__law_checked) := by
  refine okP (n := 8) T.F__law_checked sc__law_checked rfl (fun ds Φ Ξ ⟨_, e, _⟩ => by rw [e]; rfl) fun cdv A outer s H E hr => ⟨_, psis_cons (psi_unpack [1, 2] (pei_var 0) (by exact (pg_tup rfl (pgs_cons (pg_name (i := 1) sc__law_checked.nd rfl (by first | exact Or.inl rfl | exact Or.inr rfl)) (pgs_cons (pg_name (i := 2) sc__law_checked.nd rfl (by first | exact Or.inl rfl | exact Or.inr rfl)) pgs_nil)))))
    (psis_cons (psi_setFLcR 3 rfl sc__law_checked.nd T.m_range rfl (pai_cons (pei_len T.m_len rfl (pai_cons (pei_var 2) pai_nil)) pai_nil) (Blk.mk (own := [("_law_place", 8)]) (tgt := (.nm 8)) (blkOk_by (N := n__law_checked) (sc := defScope s__law_checked) (by decide +kernel)) (by decide) (fun _ _ _ _ _ => by exact (pg_name (i := 8) sc__law_checked.nd rfl (by first | exact Or.inl rfl | exact Or.inr rfl))) (fun _ _ _ _ _ => (ptsi_one (pti_cmp (op_eqD (hu64 hr)) op2_eq (nomark _) (pei_ixT (pei_ixT (pei_var 2) (pei_var 8)) pei_int) pei_str))) (fun _ _ _ _ _ => (pei_tup (pai_cons (pei_var 8) (pai_cons (pei_ixT (pei_ixT (pei_var 2) (pei_var 8)) pei_int) pai_nil))))) (sw_true rfl rfl rfl (by decide +kernel)))
    (psis_cons (psi_set 4 (pei_lst pai_nil) sc__law_checked.nd)
    (psis_cons (psi_setF 5 (pei_var 1) sc__law_checked.nd)
    (psis_cons (psi_while PassesOwn.never (pti_peek 4 (pti_bool (pwi_and (pti_cmp op_notN op2_notN (nomark _) (pei_var 5) pei_non) (pwi_and (pti_cmp (op_notInD (hu65 hr)) op2_notInL (by rfl) (pei_var 5) (pei_var 4)) (pwi_one (pti_cmp (op_eqD (hu64 hr)) op2_eq (nomark _) (pei_ixT (pei_ixT (pei_var 2) (pei_var 5)) pei_int) pei_str))))))
      (psis_cons (psi_app 4 (pei_var 5))
      (psis_one (psi_setF 5 (pei_ixT (pei_ixT (pei_var 2) (pei_var 5)) pei_int) sc__law_checked.nd))))
    (psis_cons (psi_frz 4 (psi_setFLcR 6 rfl sc__law_checked.nd T.m_range rfl (pai_cons (pei_len T.m_len rfl (pai_cons (pei_var 2) pai_nil)) pai_nil) (Blk.mk (own := [("_law_place", 8)]) (tgt := (.nm 8)) (blkOk_by (N := n__law_checked) (sc := defScope s__law_checked) (by decide +kernel)) (by decide) (fun _ _ _ _ _ => by exact (pg_name (i := 8) sc__law_checked.nd rfl (by first | exact Or.inl rfl | exact Or.inr rfl))) (fun _ _ _ _ _ => (ptsi_one (pti_bool (pwi_and (pti_cmp (op_eqD (hu64 hr)) op2_eq (nomark _) (pei_ixT (pei_ixT (pei_var 2) (pei_var 8)) pei_int) pei_str) (pwi_one (pti_cmp (op_notInD (hu65 hr)) op2_notInL (by rfl) (pei_var 8) (pei_var 4))))))) (fun _ _ _ _ _ => (pei_var 8))) (sw_true rfl rfl rfl (by decide +kernel))))
    (psis_cons (psi_setF 7 (pei_if (pti_cmp op_notN op2_notN (nomark _) (pei_var 5) pei_non) pei_str (pei_ixL (pei_lst (pai_cons pei_str (pai_cons pei_str pai_nil))) (pei_intB T.m_int rfl (pai_cons (pei_cmp (op_eqD (hu64 hr)) op2_eq (nomark _) (pei_var 6) (pei_lst pai_nil)) pai_nil)))) sc__law_checked.nd)
    (psis_one (psi_ret (pei_tup (pai_cons (pei_var 7) (pai_cons (pei_var 3) (pai_cons (pei_var 4) (pai_cons (pei_var 6) pai_nil))))))))))))), fun ds Φ Ξ hT => ?_⟩
  obtain ⟨f, rfl, hf, h⟩ := hT
  have hl := hf.few
  unfold dF
  walk_at "sf"
  refine ⟨by omega, by omega, lcR_fm (rowAt f.cells) (dRow f.cells) rfl (by omega) (fun i hi A B hA hB => ?_) ?_⟩
  · obtain ⟨c, hc, hok⟩ := hf.at hi
    walk_at "sf"
    rw [atC hc]
    cases c with
    | row n =>
      have e1 : rowAt f.cells i = true := by unfold rowAt; rw [hc]
      have e2 : numAt f.cells i = n := by unfold numAt; rw [hc]
      walk_at "sf"
      have z := hA e1
      unfold dRow at z
      rw [e2] at z
      exact z
    | free l =>
      have e1 : rowAt f.cells i = false := by unfold rowAt; rw [hc]
      walk_at "sf"
      exact hB e1
  · walk_at "sf"
    refine ⟨ChInv2 f, ⟨f.cells.length + 1, [], f.head, rfl, ⟨List.nodup_nil, fun _ z => by simp at z⟩, hf.head, rfl, rfl⟩, fun m ρ' hρ => ?_⟩
    obtain ⟨found, l, rfl, ht, hlk, hm, hg⟩ := hρ
    have htl := ht.len
    obtain ⟨m, rfl⟩ : ∃ k, m = k + 1 := ⟨m - 1, by omega⟩
    cases l with
    | none =>
      have e1 : chain f = found := by unfold chain; rw [hg]; rfl
      have e2 : stop f = none := by unfold stop; rw [hg]; rfl
      walk_at "sf"
      refine ⟨by omega, by omega, lcR_fm (fun i => freeAt f.cells i && !found.contains i) dNat rfl (by omega) (fun i hi A B hA hB => ?_) ?_⟩
      · obtain ⟨c, hc, hok⟩ := hf.at hi
        walk_at "sf"
        rw [atC hc]
        cases c with
        | row n =>
          have e1 : freeAt f.cells i = false := by unfold freeAt; rw [hc]
          walk_at "sf"
          exact hB (by show (freeAt f.cells i && _) = false; rw [e1]; rfl)
        | free l =>
          have e1 : freeAt f.cells i = true := by unfold freeAt; rw [hc]
          walk_at "sf"
          refine ⟨(shp_ints found).shaped (by decide), ?_⟩
          simp only [contains_dNat]
          cases hk : found.contains i with
          | true =>
            walk_at "sf"
            exact hB (by show (freeAt f.cells i && !found.contains i) = false; rw [e1, hk]; rfl)
          | false =>
            walk_at "sf"
            exact hA (by show (freeAt f.cells i && !found.contains i) = true; rw [e1, hk]; rfl)
      · have el := looseL_eq f
        rw [e1] at el
        rw [← el]
        have h : Φ (.dat (.tuple [.str (word f), dRows f.cells, dNats (chain f), dNats (looseL f)])) := h
        rw [e1] at h
        walk_at "sf"
        refine ⟨(shp_ints (looseL f)).shaped (by decide), ?_⟩
        cases hs : (looseL f).isEmpty with
        | true =>
          have ew : word f = Str.ofString "whole" := by rw [wordOf_eq, e2, hs]; rfl
          rw [ew] at h
          walk_at "sf"
          exact h
        | false =>
          have ew : word f = Str.ofString "loose" := by rw [wordOf_eq, e2, hs]; rfl
          rw [ew] at h
          walk_at "sf"
          exact h
    | some p =>
      have hp : p < f.cells.length := of_decide_eq_true hlk
      obtain ⟨c, hc, hok⟩ := hf.at hp
      walk_at "sf"
      refine ⟨(shp_ints found).shaped (by decide), ?_⟩
      simp only [contains_dNat]
      cases hcn : found.contains p with
      | true =>
        have hg2 : gone f = (found, some p) := by
          rw [hg, walk, hc]
          cases c with
          | row n => rfl
          | free l2 =>
            show (if found.contains p = true then _ else _) = _
            rw [if_pos hcn]
        have e1 : chain f = found := by unfold chain; rw [hg2]
        have e2 : stop f = some p := by unfold stop; rw [hg2]
        walk_at "sf"
        refine ⟨by omega, by omega, lcR_fm (fun i => freeAt f.cells i && !found.contains i) dNat rfl (by omega) (fun i hi A B hA hB => ?_) ?_⟩
        · obtain ⟨c, hc, hok⟩ := hf.at hi
          walk_at "sf"
          rw [atC hc]
          cases c with
          | row n =>
            have e1 : freeAt f.cells i = false := by unfold freeAt; rw [hc]
            walk_at "sf"
            exact hB (by show (freeAt f.cells i && _) = false; rw [e1]; rfl)
          | free l =>
            have e1 : freeAt f.cells i = true := by unfold freeAt; rw [hc]
            walk_at "sf"
            refine ⟨(shp_ints found).shaped (by decide), ?_⟩
            simp only [contains_dNat]
            cases hk : found.contains i with
            | true =>
              walk_at "sf"
              exact hB (by show (freeAt f.cells i && !found.contains i) = false; rw [e1, hk]; rfl)
            | false =>
              walk_at "sf"
              exact hA (by show (freeAt f.cells i && !found.contains i) = true; rw [e1, hk]; rfl)
        · have el := looseL_eq f
          rw [e1] at el
          rw [← el]
          have h : Φ (.dat (.tuple [.str (word f), dRows f.cells, dNats (chain f), dNats (looseL f)])) := h
          rw [e1] at h
          have ew : word f = Str.ofString "broken" := by rw [wordOf_eq, e2]; rfl
          rw [ew] at h
          walk_at "sf"
          exact h
      | false =>
        walk_at "sf"
        rw [atC hc]
        cases c with
        | row n =>
          have hg2 : gone f = (found, some p) := by rw [hg, walk, hc]
          have e1 : chain f = found := by unfold chain; rw [hg2]
          have e2 : stop f = some p := by unfold stop; rw [hg2]
          walk_at "sf"
          refine ⟨by omega, by omega, lcR_fm (fun i => freeAt f.cells i && !found.contains i) dNat rfl (by omega) (fun i hi A B hA hB => ?_) ?_⟩
          · obtain ⟨c, hc, hok⟩ := hf.at hi
            walk_at "sf"
            rw [atC hc]
            cases c with
            | row n =>
              have e1 : freeAt f.cells i = false := by unfold freeAt; rw [hc]
              walk_at "sf"
              exact hB (by show (freeAt f.cells i && _) = false; rw [e1]; rfl)
            | free l =>
              have e1 : freeAt f.cells i = true := by unfold freeAt; rw [hc]
              walk_at "sf"
              refine ⟨(shp_ints found).shaped (by decide), ?_⟩
              simp only [contains_dNat]
              cases hk : found.contains i with
              | true =>
                walk_at "sf"
                exact hB (by show (freeAt f.cells i && !found.contains i) = false; rw [e1, hk]; rfl)
              | false =>
                walk_at "sf"
                exact hA (by show (freeAt f.cells i && !found.contains i) = true; rw [e1, hk]; rfl)
          · have el := looseL_eq f
            rw [e1] at el
            rw [← el]
            have h : Φ (.dat (.tuple [.str (word f), dRows f.cells, dNats (chain f), dNats (looseL f)])) := h
            rw [e1] at h
            have ew : word f = Str.ofString "broken" := by rw [wordOf_eq, e2]; rfl
            rw [ew] at h
            walk_at "sf"
            exact h
        | free l2 =>
          walk_at "sf"
          refine ⟨by omega, m, Nat.lt_succ_self _, found ++ [p], l2, ?_, told_snoc ht hp hcn, hok, by rw [List.length_append]; simp only [List.length_cons, List.length_nil]; omega, ?_⟩
          · rw [List.map_append]
            rfl
          · rw [hg, walk, hc]
            show (if found.contains p = true then _ else _) = _
            rw [if_neg (by rw [hcn]; decide)]
end
def tf__law_mends : Tf := mkT (α := File) (fun f => [dF f]) Fine (fun f => .lst ((mendsF f).map dW))
theorem Links.head {cs : List Cell} {ps : List Nat} {l : Lk} (h : Links cs l ps) : l = ps.head? := by
  cases ps with
  | nil => exact h
  | cons p ps => exact h.1
theorem Links.at : ∀ {ps : List Nat} {cs : List Cell} {l : Lk} {k p : Nat}, Links cs l ps → ps[k]? = some p → cs[p]? = some (.free ps[k + 1]?)
  | p :: ps, cs, l, 0, q, ⟨e, m, hm, h⟩, hk => by
    cases hk
    rw [hm, h.head]
    cases ps <;> rfl
  | p :: ps, cs, l, k + 1, q, ⟨e, m, hm, h⟩, hk => h.at (k := k) (by simpa using hk)
theorem next_at {l : List Nat} {k : Nat} (h : k ≤ l.length) : atI (l.map dNat ++ [.none]) ((k : Nat) : Int) = some (dL l[k]?) := by
  refine atI_nat ?_
  by_cases q : k < l.length
  · rw [List.getElem?_append_left (by rw [List.length_map]; exact q), List.getElem?_map, List.getElem?_eq_getElem q]
    rfl
  · have e : k = l.length := by omega
    subst e
    rw [List.getElem?_append_right (by rw [List.length_map]; exact Nat.le_refl _), List.length_map, Nat.sub_self, List.getElem?_eq_none (Nat.le_refl _)]
    rfl
theorem diffs_free {f : File} (hw : whole f = false) : diffs (mendF f).cells f.cells (mendF f).cells.length = ((freeL f.cells).filter fun i => decide ((mendF f).cells[i]? ≠ f.cells[i]?)).map fun i => (some i, .cell ((mendF f).cells.getD i (.row 0))) := by
  unfold diffs
  congr 1
  unfold freeL
  rw [List.filter_filter, mendF_len]
  refine List.filter_congr fun i hi => ?_
  have hs : Sim (mendF f).cells f.cells := by
    unfold mendF
    rw [if_neg (by rw [hw]; decide)]
    exact sim_relink _
  cases q : freeAt f.cells i with
  | true => rw [Bool.and_true]
  | false =>
    rw [Bool.and_false]
    exact decide_eq_false fun z => z (hs.out i fun y => by rw [mem_freeL.mp y] at q; cases q)
section
variable {P : Program} {w : World} {K : PySem.W.Frag} {mg : Str → Option Value} {base : Heap}
theorem ok__law_mends (T : Txt K mg) : FnOk P w K mg base CX0 2 T.f__law_mends T.fd__law_mends ["_law_file"] (spP K XR0 tf__law_mends) := by
  refine okP (n := 5) T.F__law_mends sc__law_mends rfl (fun ds Φ Ξ ⟨_, e, _⟩ => by rw [e]; rfl) fun cdv A outer s H E hr => ⟨_, psis_cons (psi_if (pti_cmp (op_eqD (hu64 hr)) op2_eq (nomark _) (pei_ixT (pei_def (ok__law_checked T) (hr.mono (by decide)) T.g__law_checked T.F__law_checked.kp T.b__law_checked passE (pai_cons (pei_var 0) pai_nil) rfl) pei_int) pei_str)
      (psis_one (psi_ret (pei_lst pai_nil)))
      (psis_nil))
    (psis_cons (psi_setFLcR 1 rfl sc__law_mends.nd T.m_range rfl (pai_cons (pei_len T.m_len rfl (pai_cons (pei_ixT (pei_var 0) pei_int) pai_nil)) pai_nil) (Blk.mk (own := [("_law_place", 5)]) (tgt := (.nm 5)) (blkOk_by (N := n__law_mends) (sc := defScope s__law_mends) (by decide +kernel)) (by decide) (fun _ _ _ _ _ => by exact (pg_name (i := 5) sc__law_mends.nd rfl (by first | exact Or.inl rfl | exact Or.inr rfl))) (fun _ _ _ _ _ => (ptsi_one (pti_cmp (op_eqD (hu64 hr)) op2_eq (nomark _) (pei_ixT (pei_ixT (pei_ixT (pei_var 0) pei_int) (pei_var 5)) pei_int) pei_str))) (fun _ _ _ _ _ => (pei_var 5))) (sw_true rfl rfl rfl (by decide +kernel)))
    (psis_cons (psi_set 2 (pei_lst (pai_cons (pei_tup (pai_cons pei_non (pai_cons pei_non pai_nil))) pai_nil)) sc__law_mends.nd)
    (psis_cons (psi_forR1 (.nm 3) PassesOwn.never rfl T.m_range rfl (pai_cons (pei_len T.m_len rfl (pai_cons (pei_var 1) pai_nil)) pai_nil) (by exact (pg_name (i := 3) sc__law_mends.nd rfl (by first | exact Or.inl rfl | exact Or.inr rfl)))
      (psis_cons (psi_setF 4 (pei_tup (pai_cons pei_str (pai_cons (pei_ixL (pei_catL (pei_var 1) (pei_lst (pai_cons pei_non pai_nil))) (pei_add (pei_var 3) pei_int)) pai_nil))) sc__law_mends.nd)
      (psis_one (psi_if (pti_cmp (op_neD (hu64 hr)) op2_ne (nomark _) (pei_ixT (pei_ixT (pei_var 0) pei_int) (pei_ixL (pei_var 1) (pei_var 3))) (pei_var 4))
        (psis_one (psi_app 2 (pei_tup (pai_cons (pei_ixL (pei_var 1) (pei_var 3)) (pai_cons (pei_var 4) pai_nil)))))
        (psis_nil)))))
    (psis_one (psi_frz 2 (psi_ret (pei_catL (pei_var 2) (pei_lst (pai_cons (pei_tup (pai_cons pei_non (pai_cons (pei_ixL (pei_catL (pei_var 1) (pei_lst (pai_cons pei_non pai_nil))) pei_int) pai_nil))) pai_nil))))))))), fun ds Φ Ξ hT => ?_⟩
  obtain ⟨f, rfl, hf, h⟩ := hT
  have hl := hf.few
  have h : Φ (.lst ((mendsF f).map dW)) := h
  walk_at "sf"
  refine ⟨f, rfl, hf, ?_⟩
  unfold dChecked
  walk_at "sf"
  refine ⟨h_wordF, ?_⟩
  simp only [word_whole]
  cases hw : whole f with
  | true =>
    have e : mendsF f = [] := by
      unfold mendsF
      rw [if_pos hw]
    rw [e] at h
    walk_at "sf"
    exact h
  | false =>
    unfold dF
    walk_at "sf"
    refine ⟨by omega, by omega, lcR_fm (freeAt f.cells) dNat rfl (by omega) (fun i hi A B hA hB => ?_) ?_⟩
    · obtain ⟨c, hc, hok⟩ := hf.at hi
      walk_at "sf"
      rw [atC hc]
      cases c with
      | row n =>
        have e1 : freeAt f.cells i = false := by unfold freeAt; rw [hc]
        walk_at "sf"
        exact hB e1
      | free l =>
        have e1 : freeAt f.cells i = true := by unfold freeAt; rw [hc]
        walk_at "sf"
        exact hA e1
    · rw [show (List.range f.cells.length).filter (freeAt f.cells) = freeL f.cells from rfl]
      have hfl : (freeL f.cells).length ≤ 12 := Nat.le_trans (nodup_le freeL_nodup fun p hp => freeL_lt hp) hl
      walk_at "sf"
      refine ⟨by omega, by omega, fun i ρ => ∃ (y z : Ent), ρ = [.dat (.tuple [dL f.head, .tuple (f.cells.map dC)]), .dat (.list ((freeL f.cells).map dNat)), .ls (.tuple [.none, .none] :: (((freeL f.cells).take i).filter fun i => decide ((mendF f).cells[i]? ≠ f.cells[i]?)).map fun i => dW (some i, .cell ((mendF f).cells.getD i (.row 0)))), y, z, .no], ⟨_, _, rfl⟩, fun i ρ' hi hρ => ?_, fun ρ' hρ => ?_⟩
      · obtain ⟨y, z, rfl⟩ := hρ
        walk_at "sf"
        have hp : (freeL f.cells)[i]? = some (freeL f.cells)[i] := List.getElem?_eq_getElem hi
        generalize (freeL f.cells)[i] = p at hp
        have hm := (mendF_links hw).at hp
        have hpl : p < f.cells.length := freeL_lt (List.mem_of_getElem? hp)
        obtain ⟨c, hc, hok⟩ := hf.at hpl
        rw [show ((i : Int) + 1) = ((i + 1 : Nat) : Int) by omega, next_at (by omega), atN hp]
        unfold dNat
        walk_at "sf"
        rw [atC hc]
        have hD : (((freeL f.cells).take (i + 1)).filter fun i => decide ((mendF f).cells[i]? ≠ f.cells[i]?)) = (((freeL f.cells).take i).filter fun i => decide ((mendF f).cells[i]? ≠ f.cells[i]?)) ++ (if decide ((mendF f).cells[p]? ≠ f.cells[p]?) = true then [p] else []) := by
          rw [List.take_add_one, hp, List.filter_append]
          congr 1
          show List.filter _ [p] = _
          rw [List.filter_cons]
          rfl
        have hlen : (((freeL f.cells).take i).filter fun i => decide ((mendF f).cells[i]? ≠ f.cells[i]?)).length ≤ 12 := by
          have h1 := List.length_filter_le (fun i => decide ((mendF f).cells[i]? ≠ f.cells[i]?)) ((freeL f.cells).take i)
          have h2 := List.length_take_le i (freeL f.cells)
          omega
        have hg : (mendF f).cells.getD p (.row 0) = .free (freeL f.cells)[i + 1]? := by
          rw [List.getD_eq_getElem?_getD, hm]
          rfl
        rw [hD]
        walk_at "sf"
        simp only [← dC_free]
        refine ⟨by omega, h_dC _, ?_⟩
        simp only [v_dC]
        by_cases q : c = .free (freeL f.cells)[i + 1]?
        · have e : decide ((mendF f).cells[p]? ≠ f.cells[p]?) = false := decide_eq_false fun z => z (by rw [hm, hc, q])
          simp only [e, decide_eq_true q]
          walk_at "sf"
          exact ⟨_, _, rfl⟩
        · have e : decide ((mendF f).cells[p]? ≠ f.cells[p]?) = true := decide_eq_true fun z => q (by rw [hm, hc] at z; cases z; rfl)
          simp only [e, decide_eq_false q]
          walk_at "sf"
          simp only [List.map_append, List.map_cons, List.map_nil, hg]
          exact ⟨by omega, _, _, rfl⟩
      · obtain ⟨y, z, rfl⟩ := hρ
        rw [List.take_length]
        have e0 : atI ((freeL f.cells).map dNat ++ [.none]) 0 = some (dL (freeL f.cells)[0]?) := next_at (k := 0) (by omega)
        have hlen : ((freeL f.cells).filter fun i => decide ((mendF f).cells[i]? ≠ f.cells[i]?)).length ≤ 12 := by
          have h1 := List.length_filter_le (fun i => decide ((mendF f).cells[i]? ≠ f.cells[i]?)) (freeL f.cells)
          omega
        walk_at "sf"
        rw [e0]
        walk_at "sf"
        refine ⟨by omega, by omega, ?_⟩
        have e : mendsF f = [(none, .link none)] ++ diffs (mendF f).cells f.cells (mendF f).cells.length ++ [(none, .link (mendF f).head)] := by
          unfold mendsF
          rw [if_neg (by rw [hw]; decide)]
        have eh : (mendF f).head = (freeL f.cells)[0]? := by
          rw [(mendF_links hw).head]
          cases freeL f.cells <;> rfl
        rw [e, eh, diffs_free hw, List.map_append, List.map_append, List.map_map] at h
        exact h
end
def tf__law_writes : Tf := mkTR (α := File × Rule × Nat × Deed) (fun a => [dF a.1, dRule a.2.1, .int (a.2.2.1 : Int), dDeed a.2.2.2]) (fun a => Fine a.1 ∧ deedOk a.2.2.2 = true) (fun a r => r.frz = (optW (writesF a.1 a.2.1 a.2.2.1 a.2.2.2)).frz)
theorem word_is {d : Deed} (h : deedOk d = true) : (dwd d == sMend) = (match d with | .mend => true | _ => false) ∧ (dwd d == sTake) = (match d with | .take _ => true | _ => false) ∧ (dwd d == sGive) = (match d with | .give _ => true | _ => false) := by
  cases d with
  | take n => exact ⟨we_take_mend, ws_take, we_take_give⟩
  | give n => exact ⟨we_give_mend, we_give_take, ws_give⟩
  | mend => exact ⟨ws_mend, we_mend_take, we_mend_give⟩
  | other w n =>
    have h : (PyData.strOk w && !(w == sTake) && !(w == sGive) && !(w == sMend)) = true := h
    show (w == sMend) = false ∧ (w == sTake) = false ∧ (w == sGive) = false
    revert h
    cases (w == sTake) <;> cases (w == sGive) <;> cases (w == sMend) <;> cases (PyData.strOk w) <;> decide
theorem h_dwd {d : Deed} (h : deedOk d = true) : SeqAt.shaped (.str (dwd d)) = true := by
  cases d with
  | take n => exact hs_take
  | give n => exact hs_give
  | mend => exact hs_mend
  | other w n =>
    have h : (PyData.strOk w && !(w == sTake) && !(w == sGive) && !(w == sMend)) = true := h
    refine h_str (x := w) ?_
    revert h
    cases (w == sTake) <;> cases (w == sGive) <;> cases (w == sMend) <;> cases (PyData.strOk w) <;> decide
section
variable {P : Program} {w : World} {K : PySem.W.Frag} {mg : Str → Option Value} {base : Heap}
theorem ok__law_writes (T : Txt K mg) : FnOk P w K mg base CX0 3 T.f__law_writes T.fd__law_writes ["_law_file", "_law_rule", "_law_room", "_law_deed_here"] (spP K XR0 tf__law_writes) := by
  refine okP (n := 4) T.F__law_writes sc__law_writes rfl (fun ds Φ Ξ ⟨_, e, _⟩ => by rw [e]; rfl) fun cdv A outer s H E hr => ⟨_, psis_cons (psi_unpack [4, 5] (pei_var 0) (by exact (pg_tup rfl (pgs_cons (pg_name (i := 4) sc__law_writes.nd rfl (by first | exact Or.inl rfl | exact Or.inr rfl)) (pgs_cons (pg_name (i := 5) sc__law_writes.nd rfl (by first | exact Or.inl rfl | exact Or.inr rfl)) pgs_nil)))))
    (psis_cons (psi_if (pti_cmp (op_eqD (hu64 hr)) op2_eq (nomark _) (pei_ixT (pei_var 3) pei_int) pei_str)
      (psis_one (psi_ret (pei_def (ok__law_mends T) (hr.mono (by decide)) T.g__law_mends T.F__law_mends.kp T.b__law_mends passE (pai_cons (pei_var 0) pai_nil) rfl)))
      (psis_nil))
    (psis_cons (psi_if (pti_cmp (op_eqD (hu64 hr)) op2_eq (nomark _) (pei_ixT (pei_var 3) pei_int) pei_str)
      (psis_cons (psi_if (pti_bool (pwi_or (pti_not (pti_chain op_le op_le op2_le op2_le pei_int (pei_ixT (pei_var 3) pei_int) pei_int)) (pwi_one (pti_bool (pwi_and (pti_cmp op_isN op2_isN (nomark _) (pei_var 4) pei_non) (pwi_one (pti_cmp op_ge op2_ge (nomark _) (pei_len T.m_len rfl (pai_cons (pei_var 5) pai_nil)) (pei_var 2))))))))
        (psis_one (psi_ret pei_non))
        (psis_nil))
      (psis_cons (psi_if (pti_cmp op_isN op2_isN (nomark _) (pei_var 4) pei_non)
        (psis_one (psi_ret (pei_lst (pai_cons (pei_tup (pai_cons (pei_len T.m_len rfl (pai_cons (pei_var 5) pai_nil)) (pai_cons (pei_tup (pai_cons pei_str (pai_cons (pei_ixT (pei_var 3) pei_int) pai_nil))) pai_nil))) pai_nil))))
        (psis_nil))
      (psis_cons (psi_setF 6 (pei_if (pti_cmp (op_eqD (hu64 hr)) op2_eq (nomark _) (pei_ixT (pei_ixT (pei_var 5) (pei_var 4)) pei_int) pei_str) (pei_ixT (pei_ixT (pei_var 5) (pei_var 4)) pei_int) pei_non) sc__law_writes.nd)
      (psis_cons (psi_setF 7 (pei_lst (pai_cons (pei_tup (pai_cons pei_non (pai_cons (pei_var 6) pai_nil))) (pai_cons (pei_tup (pai_cons (pei_var 4) (pai_cons (pei_tup (pai_cons pei_str (pai_cons (pei_ixT (pei_var 3) pei_int) pai_nil))) pai_nil))) pai_nil))) sc__law_writes.nd)
      (psis_one (psi_ret (pei_if (pti_cmp (op_eqD (hu64 hr)) op2_eq (nomark _) (pei_ixT (pei_var 1) pei_int) pei_str) (pei_var 7) (pei_rev (pei_var 7)))))))))
      (psis_nil))
    (psis_cons (psi_if (pti_bool (pwi_or (pti_cmp (op_neD (hu64 hr)) op2_ne (nomark _) (pei_ixT (pei_var 3) pei_int) pei_str) (pwi_or (pti_not (pti_chain op_le op_lt op2_le op2_lt pei_int (pei_ixT (pei_var 3) pei_int) (pei_len T.m_len rfl (pai_cons (pei_var 5) pai_nil)))) (pwi_one (pti_cmp (op_neD (hu64 hr)) op2_ne (nomark _) (pei_ixT (pei_ixT (pei_var 5) (pei_ixT (pei_var 3) pei_int)) pei_int) pei_str)))))
      (psis_one (psi_ret pei_non))
      (psis_nil))
    (psis_cons (psi_setF 7 (pei_lst (pai_cons (pei_tup (pai_cons pei_non (pai_cons (pei_ixT (pei_var 3) pei_int) pai_nil))) (pai_cons (pei_tup (pai_cons (pei_ixT (pei_var 3) pei_int) (pai_cons (pei_tup (pai_cons pei_str (pai_cons (pei_var 4) pai_nil))) pai_nil))) pai_nil))) sc__law_writes.nd)
    (psis_one (psi_ret (pei_if (pti_cmp (op_eqD (hu64 hr)) op2_eq (nomark _) (pei_ixT (pei_var 1) pei_int) pei_str) (pei_var 7) (pei_rev (pei_var 7))))))))), fun ds Φ Ξ hT => ?_⟩
  obtain ⟨⟨f, r, room, d⟩, rfl, ⟨hf, hd⟩, h⟩ := hT
  have hf : Fine f := hf
  have hd : deedOk d = true := hd
  have h : ∀ q : Res, q.frz = (optW (writesF f r room d)).frz → Φ q := h
  unfold dF dRule
  cases d with
  | mend =>
    unfold dDeed
    walk_at "sf"
    exact ⟨f, rfl, hf, h _ rfl⟩
  | other w n =>
    have e1 : (w == sMend) = false := (word_is hd).1
    have e2 : (w == sTake) = false := (word_is hd).2.1
    have e3 : (w == sGive) = false := (word_is hd).2.2
    have hs : SeqAt.shaped (.str w) = true := h_dwd hd
    unfold dDeed
    walk_at "sf"
    refine ⟨hs, ?_⟩
    simp only [e1]
    walk_at "sf"
    refine ⟨hs, ?_⟩
    simp only [e2]
    walk_at "sf"
    refine ⟨hs, ?_⟩
    simp only [e3]
    exact h _ rfl
  | take n =>
    have h : ∀ q : Res, q.frz = (optW (if 0 ≤ n ∧ n ≤ 999 then takeW f r room n.toNat else none)).frz → Φ q := h
    unfold dDeed
    walk_at "sf"
    by_cases h1 : 0 ≤ n
    · rw [decide_eq_true h1]
      by_cases h2 : n ≤ 999
      · rw [decide_eq_true h2]
        rw [if_pos ⟨h1, h2⟩] at h
        unfold takeW at h
        have en : PyData.int n = .int ((n.toNat : Nat) : Int) := by rw [Int.toNat_of_nonneg h1]
        cases hh : f.head with
        | none =>
          rw [hh] at h
          walk_at "sf"
          by_cases h3 : f.cells.length < room
          · rw [decide_eq_false (show ¬ room ≤ f.cells.length by omega)]
            have h : ∀ q : Res, q.frz = (optW (if f.cells.length < room then some [((some f.cells.length, .cell (.row n.toNat)) : Write)] else none)).frz → Φ q := h
            rw [if_pos h3] at h
            walk_at "sf"
            refine h _ ?_
            rw [en]
            rfl
          · rw [decide_eq_true (show room ≤ f.cells.length by omega)]
            have h : ∀ q : Res, q.frz = (optW (if f.cells.length < room then some [((some f.cells.length, .cell (.row n.toNat)) : Write)] else none)).frz → Φ q := h
            rw [if_neg h3] at h
            exact h _ rfl
        | some p =>
          rw [hh] at h
          have h : ∀ q : Res, q.frz = (optW (some (inOrder r.1 (none, .link (freeLk f.cells p)) (some p, .cell (.row n.toNat))))).frz → Φ q := h
          have hp : p < f.cells.length := of_decide_eq_true (by have := hf.head; rw [hh] at this; exact this)
          obtain ⟨c, hc, _⟩ := hf.at hp
          walk_at "sf"
          rw [atC hc]
          unfold freeLk at h
          rw [hc] at h
          unfold inOrder at h
          cases c with
          | row m =>
            walk_at "sf"
            cases hr1 : r.1 with
            | true =>
              rw [hr1] at h
              refine h _ ?_
              rw [en]
              rfl
            | false =>
              rw [hr1] at h
              refine h _ ?_
              rw [en]
              rfl
          | free l =>
            walk_at "sf"
            cases hr1 : r.1 with
            | true =>
              rw [hr1] at h
              refine h _ ?_
              rw [en]
              rfl
            | false =>
              rw [hr1] at h
              refine h _ ?_
              rw [en]
              rfl
      · rw [decide_eq_false h2]
        rw [if_neg (fun z => h2 z.2)] at h
        exact h _ rfl
    · rw [decide_eq_false h1]
      rw [if_neg (fun z => h1 z.1)] at h
      exact h _ rfl
  | give n =>
    have h : ∀ q : Res, q.frz = (optW (if 0 ≤ n ∧ n < (f.cells.length : Int) ∧ rowAt f.cells n.toNat = true then some (inOrder r.2 (none, .link (some n.toNat)) (some n.toNat, .cell (.free f.head))) else none)).frz → Φ q := h
    unfold dDeed
    walk_at "sf"
    by_cases h1 : 0 ≤ n
    · rw [decide_eq_true h1]
      by_cases h2 : n < (f.cells.length : Int)
      · rw [decide_eq_true h2]
        obtain ⟨k, rfl⟩ : ∃ k : Nat, n = (k : Int) := ⟨n.toNat, by omega⟩
        obtain ⟨c, hc, _⟩ := hf.at (show k < f.cells.length by omega)
        rw [Int.toNat_natCast] at h
        walk_at "sf"
        rw [atC hc]
        unfold rowAt at h
        rw [hc] at h
        cases c with
        | row m =>
          rw [if_pos ⟨h1, h2, rfl⟩] at h
          unfold inOrder at h
          walk_at "sf"
          cases hr2 : r.2 with
          | true =>
            rw [hr2] at h
            exact h _ rfl
          | false =>
            rw [hr2] at h
            exact h _ rfl
        | free l =>
          rw [if_neg (fun z => by cases z.2.2)] at h
          walk_at "sf"
          exact h _ rfl
      · rw [decide_eq_false h2]
        rw [if_neg (fun z => h2 z.2.1)] at h
        exact h _ rfl
    · rw [decide_eq_false h1]
      rw [if_neg (fun z => h1 z.1)] at h
      exact h _ rfl
end
def tf__law_behind : Tf := mkT (α := File × Rule × Nat × Step × File) (fun a => [dF a.1, dRule a.2.1, .int (a.2.2.1 : Int), dStep a.2.2.2.1]) (fun a => Fine a.1 ∧ a.2.2.1 ≤ 12 ∧ deedOk a.2.2.2.1.1 = true ∧ steppedF a.1 a.2.1 a.2.2.1 a.2.2.2.1 = some a.2.2.2.2) (fun a => .dat (dF a.2.2.2.2))
theorem behind_loop {f : File} {ws : List Write} {Φ : Res → Prop} {Ξ : Exn → Prop} {a b c d : Ent} {ws0 : PyData} {Nx : Rho → Prop} {wb : WS} (hb : wb = wIfS (wTest (wOp sIsN (wVar 7) (wC PyData.none))) (wSetF 5 (wVar 8)) (wIfS (wPeekT 6 (wTest (wOp sLt (wVar 7) (wCall sLen (wCons (wVar 6) wNil))))) (wStore 6 (wVar 8) (wVar 7)) (wApp 6 (wVar 8)))) (hf : Fine f) (hw : wsOk f.cells.length ws)
    (q : ∀ y z, Nx [a, b, c, d, .dat ws0, .dat (dL (ws.foldl put f).head), .ls ((ws.foldl put f).cells.map dC), y, z]) :
    ForI (.tp [7, 8]) wb (ws.map dW) [a, b, c, d, .dat ws0, .dat (dL f.head), .ls (f.cells.map dC), .no, .no] { nx := Nx, rt := Φ, xc := Ξ } := by
  subst hb
  refine ⟨fun i ρ => ∃ y z, ρ = [a, b, c, d, .dat ws0, .dat (dL ((ws.take i).foldl put f).head), .ls (((ws.take i).foldl put f).cells.map dC), y, z], ⟨_, _, rfl⟩, fun i d' ρ' hd hρ => ?_, fun ρ' hρ => ?_⟩
  · obtain ⟨y, z, rfl⟩ := hρ
    rw [List.getElem?_map] at hd
    cases hwi : ws[i]? with
    | none => rw [hwi] at hd; cases hd
    | some w =>
      rw [hwi] at hd
      cases hd
      obtain ⟨h1, h2⟩ := wsOk_at hf hw hwi
      have e1 : (ws.take (i + 1)).foldl put f = put ((ws.take i).foldl put f) w := by
        rw [List.take_add_one, hwi, List.foldl_append]
        rfl
      simp only [e1]
      generalize (ws.take i).foldl put f = g at h1 h2
      obtain ⟨p, v⟩ := w
      refine ⟨_, rfl, rfl, ?_⟩
      unfold setsE setsE setsE
      cases p with
      | none =>
        cases v with
        | cell c => rcases h2 with h2 | h2 <;> cases h2
        | link l =>
          walk_at "sf"
          exact ⟨_, _, rfl⟩
      | some p =>
        cases v with
        | link l => rcases h2 with h2 | h2 <;> cases h2
        | cell k =>
          walk_at "sf"
          by_cases hp : p < g.cells.length
          · have ep : put g (some p, .cell k) = ⟨g.head, g.cells.set p k⟩ := by rw [put_cell, if_neg (by omega)]
            rw [decide_eq_true hp, if_pos rfl]
            simp only [ep, List.map_set]
            exact ⟨_, p, rfl, ixN_of hp, _, _, rfl⟩
          · have hpe : p = g.cells.length := by
              rcases h2 with h2 | h2
              · have h2 : (decide (p < g.cells.length) && cellOk g.cells.length k) = true := h2
                rw [decide_eq_false hp] at h2
                cases h2
              · cases k with
                | free l => cases h2
                | row j =>
                  have h2 : (decide (p = g.cells.length) && decide (g.cells.length < 12) && decide (j ≤ 999)) = true := h2
                  rw [Bool.and_eq_true, Bool.and_eq_true] at h2
                  exact of_decide_eq_true h2.1.1
            have ep : put g (some p, .cell k) = ⟨g.head, g.cells ++ [k]⟩ := by rw [put_cell, if_pos hpe]
            have hfew := h1.few
            rw [decide_eq_false hp, if_neg (by decide)]
            simp only [ep, List.map_append, List.map_cons, List.map_nil]
            exact ⟨by omega, _, _, rfl⟩
  · obtain ⟨y, z, rfl⟩ := hρ
    rw [List.length_map, List.take_length]
    exact q y z
section
variable {P : Program} {w : World} {K : PySem.W.Frag} {mg : Str → Option Value} {base : Heap}
theorem ok__law_behind (T : Txt K mg) : FnOk P w K mg base CX0 4 T.f__law_behind T.fd__law_behind ["_law_file", "_law_rule", "_law_room", "_law_step_here"] (spP K XR0 tf__law_behind) := by
  refine okP (n := 5) T.F__law_behind sc__law_behind rfl (fun ds Φ Ξ ⟨_, e, _⟩ => by rw [e]; rfl) fun cdv A outer s H E hr => ⟨_, psis_cons (psi_setF 4 (pei_def (ok__law_writes T) (hr.mono (by decide)) T.g__law_writes T.F__law_writes.kp T.b__law_writes passE (pai_cons (pei_var 0) (pai_cons (pei_var 1) (pai_cons (pei_var 2) (pai_cons (pei_ixT (pei_var 3) pei_int) pai_nil)))) rfl) sc__law_behind.nd)
    (psis_cons (psi_setF 5 (pei_ixT (pei_var 0) pei_int) sc__law_behind.nd)
    (psis_cons (psi_set 6 (pei_list T.m_list rfl (pai_cons (pei_ixT (pei_var 0) pei_int) pai_nil)) sc__law_behind.nd)
    (psis_cons (psi_forL (.tp [7, 8]) PassesOwn.never rfl (pei_slL (pei_var 4) poi_none (poi_some (pei_if (pti_cmp op_isN op2_isN (nomark _) (pei_ixT (pei_var 3) pei_int) pei_non) (pei_len T.m_len rfl (pai_cons (pei_var 4) pai_nil)) (pei_ixT (pei_var 3) pei_int)))) (by exact (pg_tup rfl (pgs_cons (pg_name (i := 7) sc__law_behind.nd rfl (by first | exact Or.inl rfl | exact Or.inr rfl)) (pgs_cons (pg_name (i := 8) sc__law_behind.nd rfl (by first | exact Or.inl rfl | exact Or.inr rfl)) pgs_nil))))
      (psis_one (psi_if (pti_cmp op_isN op2_isN (nomark _) (pei_var 7) pei_non)
        (psis_one (psi_setF 5 (pei_var 8) sc__law_behind.nd))
        (psis_one (psi_if (pti_peek 6 (pti_cmp op_lt op2_lt (nomark _) (pei_var 7) (pei_len T.m_len rfl (pai_cons (pei_var 6) pai_nil))))
          (psis_one (psi_store 6 (pei_var 8) (by exact (pg_sub (pv 6) (pei_var 7) set_list))))
          (psis_one (psi_app 6 (pei_var 8))))))))
    (psis_one (psi_frz 6 (psi_ret (pei_tup (pai_cons (pei_var 5) (pai_cons (pei_tuple T.m_tuple rfl (pai_cons (pei_var 6) pai_nil)) pai_nil))))))))), fun ds Φ Ξ hT => ?_⟩
  obtain ⟨⟨f, r, room, ⟨d, m⟩, g⟩, rfl, ⟨hf, hro, hd, hs⟩, h⟩ := hT
  have hf : Fine f := hf
  have hro : room ≤ 12 := hro
  have hd : deedOk d = true := hd
  have hs : steppedF f r room (d, m) = some g := hs
  have h : Φ (.dat (dF g)) := h
  unfold steppedF at hs
  have hs : (match writesF f r room d with | none => none | some ws => doneF f ws m) = some g := hs
  cases hw : writesF f r room d with
  | none => rw [hw] at hs; cases hs
  | some ws =>
    rw [hw] at hs
    have hwo := writesF_ok hf hro hw
    unfold dStep
    walk_at "sf"
    refine ⟨(f, r, room, d), rfl, ⟨hf, hd⟩, fun q hq => ?_⟩
    have hq : q.frz = .list (ws.map dW) := by
      rw [hq]
      show (optW (writesF f r room d)).frz = _
      rw [hw]
      rfl
    simp only [hq]
    unfold dF
    walk_at "sf"
    cases m with
    | none =>
      have hs : some (ws.foldl put f) = some g := hs
      cases hs
      unfold dMany
      walk_at "sf"
      rw [cut_to (by rw [List.length_map]; exact Nat.le_refl _), List.take_of_length_le (by rw [List.length_map]; exact Nat.le_refl _)]
      refine behind_loop rfl hf hwo fun y z => ?_
      walk_at "sf"
      exact h
    | some k =>
      have hs : (if 0 ≤ k ∧ k ≤ (ws.length : Int) then some ((ws.take k.toNat).foldl put f) else none) = some g := hs
      split at hs
      · rename_i hk
        cases hs
        obtain ⟨j, rfl⟩ : ∃ j : Nat, k = (j : Int) := ⟨k.toNat, by omega⟩
        rw [Int.toNat_natCast] at h
        unfold dMany
        walk_at "sf"
        rw [cut_to (by rw [List.length_map]; omega), ← List.map_take]
        refine behind_loop rfl hf (wsOk_take hwo) fun y z => ?_
        walk_at "sf"
        exact h
      · cases hs
end
def tf__law_deed : Tf := mkTR (α := File × Rule × Nat) (fun a => [dF a.1, dRule a.2.1, .int (a.2.2 : Int)]) (fun a => Fine a.1) (fun a r => ∃ d ws, r = .dat (dDeed d) ∧ deedOk d = true ∧ isOther d = false ∧ writesF a.1 a.2.1 a.2.2 d = some ws)
theorem isNone_optW {o : Option (List Write)} : isNone (optW o).frz = o.isNone := by cases o <;> rfl
theorem take_at {a b v : Nat} (h : v < 2) (ha : a < 4) (hb : b < 1000) : ∃ k : Nat, k < 1000 ∧ atI [PyData.int (a : Int), .int (b : Int)] ((v : Nat) : Int) = some (.int (k : Int)) := by
  cases v with
  | zero => exact ⟨a, by omega, atI_nat (j := 0) rfl⟩
  | succ k =>
    cases k with
    | zero => exact ⟨b, hb, atI_nat (j := 1) rfl⟩
    | succ k => omega
theorem give_some {f : File} {r : Rule} {n p : Nat} (hp : p ∈ rowsL f.cells) : ∃ ws, writesF f r n (.give (p : Int)) = some ws := by
  have h1 := List.mem_filter.mp hp
  have h2 := List.mem_range.mp h1.1
  refine ⟨_, if_pos ⟨by omega, by omega, ?_⟩⟩
  rw [Int.toNat_natCast]
  exact h1.2
section
variable {P : Program} {w : World} {K : PySem.W.Frag} {mg : Str → Option Value} {base : Heap}
theorem ok__law_deed (T : Txt K mg) : FnOk P w K mg base CX0 4 T.f__law_deed T.fd__law_deed ["_law_row", "_law_file", "_law_rule", "_law_room"] (spR K XR0 tf__law_deed) := by
  refine okR (n := 4) T.F__law_deed sc__law_deed rfl (fun ds Φ Ξ ⟨_, e, _⟩ => by rw [e]; rfl) fun cdv A outer s H E hr => ⟨_, psis_cons (psi_setFLcR 4 rfl sc__law_deed.nd T.m_range rfl (pai_cons (pei_len T.m_len rfl (pai_cons (pei_ixT (pei_var 1) pei_int) pai_nil)) pai_nil) (Blk.mk (own := [("_law_place", 7)]) (tgt := (.nm 7)) (blkOk_by (N := n__law_deed) (sc := defScope s__law_deed) (by decide +kernel)) (by decide) (fun _ _ _ _ _ => by exact (pg_name (i := 7) sc__law_deed.nd rfl (by first | exact Or.inl rfl | exact Or.inr rfl))) (fun _ _ _ _ _ => (ptsi_one (pti_cmp (op_eqD (hu64 hr)) op2_eq (nomark _) (pei_ixT (pei_ixT (pei_ixT (pei_var 1) pei_int) (pei_var 7)) pei_int) pei_str))) (fun _ _ _ _ _ => (pei_var 7))) (sw_true rfl rfl rfl (by decide +kernel)))
    (psis_cons (psi_setF 5 (pei_tup (pai_cons pei_str (pai_cons (pei_ixL (pei_lst (pai_cons (pei_defR 0 (ok__law_taken T) (hr.mono (by decide)) T.g__law_taken T.F__law_taken.kp T.b__law_taken passE (pai_cons pei_int pai_nil) rfl) (pai_cons (pei_defR 0 (ok__law_taken T) (hr.mono (by decide)) T.g__law_taken T.F__law_taken.kp T.b__law_taken passE (pai_cons pei_int pai_nil) rfl) pai_nil))) (pei_defR 0 (ok__law_taken T) (hr.mono (by decide)) T.g__law_taken T.F__law_taken.kp T.b__law_taken passE (pai_cons pei_int pai_nil) rfl)) pai_nil))) sc__law_deed.nd)
    (psis_cons (psi_setF 6 (pei_defR 0 (ok__law_taken T) (hr.mono (by decide)) T.g__law_taken T.F__law_taken.kp T.b__law_taken passE (pai_cons pei_int pai_nil) rfl) sc__law_deed.nd)
    (psis_cons (psi_if (pti_cmp (op_eqD (hu64 hr)) op2_eq (nomark _) (pei_var 6) pei_int)
      (psis_one (psi_ret (pei_tup (pai_cons pei_str pai_nil))))
      (psis_nil))
    (psis_cons (psi_if (pti_bool (pwi_and (pti_cmp (op_neD (hu64 hr)) op2_ne (nomark _) (pei_var 4) (pei_lst pai_nil)) (pwi_one (pti_bool (pwi_or (pti_cmp op_lt op2_lt (nomark _) (pei_var 6) pei_int) (pwi_one (pti_cmp op_isN op2_isN (nomark _) (pei_def (ok__law_writes T) (hr.mono (by decide)) T.g__law_writes T.F__law_writes.kp T.b__law_writes passE (pai_cons (pei_var 1) (pai_cons (pei_var 2) (pai_cons (pei_var 3) (pai_cons (pei_var 5) pai_nil)))) rfl) pei_non)))))))
      (psis_one (psi_ret (pei_tup (pai_cons pei_str (pai_cons (pei_ixL (pei_var 4) (pei_defR 0 (ok__law_taken T) (hr.mono (by decide)) T.g__law_taken T.F__law_taken.kp T.b__law_taken passE (pai_cons (pei_len T.m_len rfl (pai_cons (pei_var 4) pai_nil)) pai_nil) rfl)) pai_nil)))))
      (psis_nil))
    (psis_one (psi_ret (pei_if (pti_cmp op_notN op2_notN (nomark _) (pei_def (ok__law_writes T) (hr.mono (by decide)) T.g__law_writes T.F__law_writes.kp T.b__law_writes passE (pai_cons (pei_var 1) (pai_cons (pei_var 2) (pai_cons (pei_var 3) (pai_cons (pei_var 5) pai_nil)))) rfl) pei_non) (pei_var 5) (pei_tup (pai_cons pei_str pai_nil))))))))), fun ds Φ Ξ hT => ?_⟩
  obtain ⟨⟨f, r, room⟩, rfl, hf, h⟩ := hT
  have hf : Fine f := hf
  have hl := hf.few
  have h : ∀ d ws, deedOk d = true → isOther d = false → writesF f r room d = some ws → Φ (.dat (dDeed d)) := fun d ws h1 h2 h3 => h _ ⟨d, ws, rfl, h1, h2, h3⟩
  unfold dF
  walk_at "sf"
  refine ⟨by omega, by omega, lcR_fm (rowAt f.cells) dNat rfl (by omega) (fun i hi A B hA hB => ?_) ?_⟩
  · obtain ⟨c, hc, hok⟩ := hf.at hi
    walk_at "sf"
    rw [atC hc]
    cases c with
    | row n =>
      have e1 : rowAt f.cells i = true := by unfold rowAt; rw [hc]
      walk_at "sf"
      exact hA e1
    | free l =>
      have e1 : rowAt f.cells i = false := by unfold rowAt; rw [hc]
      walk_at "sf"
      exact hB e1
  · rw [show (List.range f.cells.length).filter (rowAt f.cells) = rowsL f.cells from rfl]
    walk_at "sf"
    refine taken 4 rfl (by omega) fun a ha => taken 1000 rfl (by omega) fun b hb => taken 2 rfl (by omega) fun v hv => ?_
    obtain ⟨k, hk, e⟩ := take_at hv ha hb
    walk_at "sf"
    rw [e]
    walk_at "sf"
    refine taken 8 rfl (by omega) fun u hu => ?_
    walk_at "sf"
    have hmend : Φ (.dat (.tuple [.str (Str.ofString "mend")])) := h .mend _ rfl rfl rfl
    have hgive : (rowsL f.cells).isEmpty = false → tf__law_taken [.int ((rowsL f.cells).length : Int)] (fun y => sIxL (.list ((rowsL f.cells).map dNat)) y.frz fun r => Φ (.dat (.tuple [.str (Str.ofString "give"), r.frz]))) Ξ := fun hne => by
      have hz : 1 ≤ (rowsL f.cells).length := by
        cases hq : rowsL f.cells with
        | nil => rw [hq] at hne; cases hne
        | cons x xs => rw [List.length_cons]; omega
      have hz2 := List.length_filter_le (rowAt f.cells) (List.range f.cells.length)
      rw [List.length_range] at hz2
      have hz2 : (rowsL f.cells).length ≤ f.cells.length := hz2
      refine taken _ rfl ⟨hz, by omega⟩ fun j hj => ?_
      have hp : (rowsL f.cells)[j]? = some (rowsL f.cells)[j] := List.getElem?_eq_getElem hj
      generalize (rowsL f.cells)[j] = p at hp
      obtain ⟨ws, hws⟩ := give_some (f := f) (r := r) (n := room) (List.mem_of_getElem? hp)
      walk_at "sf"
      rw [atN hp]
      walk_at "sf"
      exact h (.give (p : Int)) ws rfl rfl hws
    have hlast : tf__law_writes [.tuple [dL f.head, .tuple (f.cells.map dC)], dRule r, .int (room : Int), .tuple [.str (Str.ofString "take"), .int (k : Int)]] (fun x => if (!isNone x.frz) = true then Φ (.dat (.tuple [.str (Str.ofString "take"), .int (k : Int)])) else Φ (.dat (.tuple [.str (Str.ofString "mend")]))) Ξ := by
      refine ⟨(f, r, room, .take (k : Int)), rfl, ⟨hf, rfl⟩, fun q hq => ?_⟩
      have hq : q.frz = (optW (writesF f r room (.take (k : Int)))).frz := hq
      simp only [hq, isNone_optW]
      cases hw : writesF f r room (.take (k : Int)) with
      | none => exact hmend
      | some ws => exact h (.take (k : Int)) ws rfl rfl hw
    cases ((u : Int) == 0) with
    | true => exact hmend
    | false =>
      walk_at "sf"
      refine ⟨(shp_ints (rowsL f.cells)).shaped (by decide), ?_⟩
      cases hne : (rowsL f.cells).isEmpty with
      | true => exact hlast
      | false =>
        walk_at "sf"
        cases decide ((u : Int) < 4) with
        | true => exact hgive hne
        | false =>
          walk_at "sf"
          refine ⟨(f, r, room, .take (k : Int)), rfl, ⟨hf, rfl⟩, fun q hq => ?_⟩
          show if isNone q.frz = true then _ else _
          cases isNone q.frz with
          | true => exact hgive hne
          | false => exact hlast
end
def tf__law_step : Tf := mkTR (α := File × Rule × Nat × Bool) (fun a => [dF a.1, dRule a.2.1, .int (a.2.2.1 : Int), .bool a.2.2.2]) (fun a => Fine a.1 ∧ a.2.2.1 ≤ 12) (fun a r => ∃ s g ws, r = .dat (dStep s) ∧ deedOk s.1 = true ∧ isOther s.1 = false ∧ writesF a.1 a.2.1 a.2.2.1 s.1 = some ws ∧ doneF a.1 ws s.2 = some g ∧ (a.2.2.2 = true → g = ws.foldl put a.1))
theorem none_or_at {v n : Nat} (h : v < 2) : atI [PyData.none, .int (n : Int)] ((v : Nat) : Int) = some (dMany (if v = 0 then none else some (n : Int))) := by
  cases v with
  | zero => exact atI_nat (j := 0) rfl
  | succ k =>
    cases k with
    | zero => exact atI_nat (j := 1) rfl
    | succ k => omega
theorem wsOk_len {n : Nat} {ws : List Write} {f : File} {r : Rule} {room : Nat} {d : Deed} (h : Fine f) (e : writesF f r room d = some ws) : ws.length ≤ 14 := by
  cases d with
  | mend =>
    cases e
    exact mends_few h
  | other w n => cases e
  | give p =>
    have e : (if 0 ≤ p ∧ p < (f.cells.length : Int) ∧ rowAt f.cells p.toNat = true then some (inOrder r.2 (none, .link (some p.toNat)) (some p.toNat, .cell (.free f.head))) else none) = some ws := e
    split at e
    · cases e
      unfold inOrder
      split <;> simp
    · cases e
  | take n =>
    have e : (if 0 ≤ n ∧ n ≤ 999 then takeW f r room n.toNat else none) = some ws := e
    split at e
    · unfold takeW at e
      split at e
      · split at e
        · cases e; simp
        · cases e
      · cases e
        unfold inOrder
        split <;> simp
    · cases e
section
variable {P : Program} {w : World} {K : PySem.W.Frag} {mg : Str → Option Value} {base : Heap}
theorem ok__law_step (T : Txt K mg) : FnOk P w K mg base CX0 5 T.f__law_step T.fd__law_step ["_law_row", "_law_file", "_law_rule", "_law_room", "_law_whole_here"] (spR K XR0 tf__law_step) := by
  refine okR (n := 2) T.F__law_step sc__law_step rfl (fun ds Φ Ξ ⟨_, e, _⟩ => by rw [e]; rfl) fun cdv A outer s H E hr => ⟨_, psis_cons (psi_setF 5 (pei_defR 0 (ok__law_deed T) (hr.mono (by decide)) T.g__law_deed T.F__law_deed.kp T.b__law_deed passE (pai_cons (pei_var 1) (pai_cons (pei_var 2) (pai_cons (pei_var 3) pai_nil))) rfl) sc__law_step.nd)
    (psis_cons (psi_setF 6 (pei_len T.m_len rfl (pai_cons (pei_def (ok__law_writes T) (hr.mono (by decide)) T.g__law_writes T.F__law_writes.kp T.b__law_writes passE (pai_cons (pei_var 1) (pai_cons (pei_var 2) (pai_cons (pei_var 3) (pai_cons (pei_var 5) pai_nil)))) rfl) pai_nil)) sc__law_step.nd)
    (psis_cons (psi_if (pti_bool (pwi_or (pti_val (pei_var 4)) (pwi_one (pti_cmp (op_eqD (hu64 hr)) op2_eq (nomark _) (pei_defR 0 (ok__law_taken T) (hr.mono (by decide)) T.g__law_taken T.F__law_taken.kp T.b__law_taken passE (pai_cons pei_int pai_nil) rfl) pei_int))))
      (psis_one (psi_ret (pei_tup (pai_cons (pei_var 5) (pai_cons (pei_ixL (pei_lst (pai_cons pei_non (pai_cons (pei_var 6) pai_nil))) (pei_defR 0 (ok__law_taken T) (hr.mono (by decide)) T.g__law_taken T.F__law_taken.kp T.b__law_taken passE (pai_cons pei_int pai_nil) rfl)) pai_nil)))))
      (psis_nil))
    (psis_one (psi_ret (pei_tup (pai_cons (pei_var 5) (pai_cons (pei_defR 0 (ok__law_taken T) (hr.mono (by decide)) T.g__law_taken T.F__law_taken.kp T.b__law_taken passE (pai_cons (pei_add (pei_var 6) pei_int) pai_nil) rfl) pai_nil))))))), fun ds Φ Ξ hT => ?_⟩
  obtain ⟨⟨f, r, room, b⟩, rfl, ⟨hf, hro⟩, h⟩ := hT
  have hf : Fine f := hf
  have hro : room ≤ 12 := hro
  have h : ∀ s g ws, deedOk s.1 = true → isOther s.1 = false → writesF f r room s.1 = some ws → doneF f ws s.2 = some g → (b = true → g = ws.foldl put f) → Φ (.dat (dStep s)) := fun s g ws h1 h2 h3 h4 h5 => h _ ⟨s, g, ws, rfl, h1, h2, h3, h4, h5⟩
  walk_at "sf"
  refine ⟨(f, r, room), rfl, hf, fun q ⟨d, ws, eq, hd, ho, hw⟩ => ?_⟩
  subst eq
  have hw : writesF f r room d = some ws := hw
  have hlen := wsOk_len (n := 0) hf hw
  walk_at "sf"
  refine ⟨(f, r, room, d), rfl, ⟨hf, hd⟩, fun q hq => ?_⟩
  have hq : q.frz = .list (ws.map dW) := by
    rw [hq]
    show (optW (writesF f r room d)).frz = _
    rw [hw]
    rfl
  simp only [hq]
  walk_at "sf"
  have hA : tf__law_taken [.int 2] (fun y => sIxL (.list [.none, .int (ws.length : Int)]) y.frz fun r => Φ (.dat (.tuple [dDeed d, r.frz]))) Ξ := taken 2 rfl (by omega) fun v hv => ⟨_, _, _, rfl, rfl, none_or_at hv, by
    by_cases q : v = 0
    · rw [if_pos q]
      exact h (d, none) _ ws hd ho hw rfl fun _ => rfl
    · rw [if_neg q]
      refine h (d, some (ws.length : Int)) (ws.foldl put f) ws hd ho hw ?_ fun _ => rfl
      show (if 0 ≤ (ws.length : Int) ∧ (ws.length : Int) ≤ (ws.length : Int) then some ((ws.take (ws.length : Int).toNat).foldl put f) else none) = _
      rw [if_pos ⟨by omega, Int.le_refl _⟩, Int.toNat_natCast, List.take_length]⟩
  cases b with
  | true => exact hA
  | false =>
    refine taken 2 rfl (by omega) fun v hv => ?_
    walk_at "sf"
    cases ((v : Int) == 1) with
    | true => exact hA
    | false =>
      refine taken (ws.length + 1) (by omega) (by omega) fun k hk => ?_
      refine h (d, some (k : Int)) ((ws.take k).foldl put f) ws hd ho hw ?_ fun z => by cases z
      show (if 0 ≤ (k : Int) ∧ (k : Int) ≤ (ws.length : Int) then some ((ws.take (k : Int).toNat).foldl put f) else none) = _
      rw [if_pos ⟨by omega, by omega⟩, Int.toNat_natCast]
end
def tf__law_played : Tf := mkTR (α := File × Rule × Nat × Nat) (fun a => [dF a.1, dRule a.2.1, .int (a.2.2.1 : Int), .int (a.2.2.2 : Int)]) (fun a => Fine a.1 ∧ a.2.2.1 ≤ 12 ∧ a.2.2.2 ≤ 200) (fun a r => ∃ ss fs, r = .dat (.tuple [.list (ss.map dStep), .list (fs.map dF)]) ∧ (∀ s ∈ ss, deedOk s.1 = true ∧ isOther s.1 = false) ∧ ss.length ≤ a.2.2.2 ∧ playedF a.1 a.2.1 a.2.2.1 ss = some fs)
theorem played_len2 {r : Rule} {room : Nat} : ∀ {ss : List Step} {f : File} {fs : List File}, playedF f r room ss = some fs → fs.length = ss.length
  | [], f, fs, h => by cases h; rfl
  | s :: ss, f, fs, h => by
    obtain ⟨g, gs, h1, h2, e⟩ := played_cons (g := f) h
    rw [e, List.length_cons, List.length_cons, played_len2 h2]
theorem played_fine {r : Rule} {room : Nat} (hro : room ≤ 12) : ∀ {ss : List Step} {f : File} {fs : List File}, Fine f → playedF f r room ss = some fs → ∀ g ∈ fs, Fine g
  | [], f, fs, _, h => by cases h; intro g hg; cases hg
  | s :: ss, f, fs, hf, h => by
    obtain ⟨g, gs, h1, h2, e⟩ := played_cons (g := f) h
    subst e
    have hg := steppedF_fine hf hro h1
    intro k hk
    rcases List.mem_cons.mp hk with z | z
    · rw [z]; exact hg
    · exact played_fine hro hg h2 k z
section
variable {P : Program} {w : World} {K : PySem.W.Frag} {mg : Str → Option Value} {base : Heap}
theorem ok__law_played (T : Txt K mg) : FnOk P w K mg base CX0 6 T.f__law_played T.fd__law_played ["_law_row", "_law_file", "_law_rule", "_law_room", "_law_most"] (spR K XR0 tf__law_played) := by
  refine okR (n := 3) T.F__law_played sc__law_played rfl (fun ds Φ Ξ ⟨_, e, _⟩ => by rw [e]; rfl) fun cdv A outer s H E hr => ⟨_, psis_cons (psi_set 5 (pei_lst pai_nil) sc__law_played.nd)
    (psis_cons (psi_set 6 (pei_lst pai_nil) sc__law_played.nd)
    (psis_cons (psi_forR1 (.nm 7) PassesOwn.never rfl T.m_range rfl (pai_cons (pei_defR 0 (ok__law_taken T) (hr.mono (by decide)) T.g__law_taken T.F__law_taken.kp T.b__law_taken passE (pai_cons (pei_add (pei_var 4) pei_int) pai_nil) rfl) pai_nil) (by exact (pg_name (i := 7) sc__law_played.nd rfl (by first | exact Or.inl rfl | exact Or.inr rfl)))
      (psis_cons (psi_app 5 (pei_defR 0 (ok__law_step T) (hr.mono (by decide)) T.g__law_step T.F__law_step.kp T.b__law_step passE (pai_cons (pei_var 1) (pai_cons (pei_var 2) (pai_cons (pei_var 3) (pai_cons pei_bl pai_nil)))) rfl))
      (psis_cons (psi_setF 1 (pei_peek 5 (pei_def (ok__law_behind T) (hr.mono (by decide)) T.g__law_behind T.F__law_behind.kp T.b__law_behind passE (pai_cons (pei_var 1) (pai_cons (pei_var 2) (pai_cons (pei_var 3) (pai_cons (pei_ixL (pei_var 5) (pei_neg pei_int)) pai_nil)))) rfl)) sc__law_played.nd)
      (psis_one (psi_app 6 (pei_var 1))))))
    (psis_one (psi_frz 6 (psi_frz 5 (psi_ret (pei_tup (pai_cons (pei_var 5) (pai_cons (pei_var 6) pai_nil))))))))), fun ds Φ Ξ hT => ?_⟩
  obtain ⟨⟨f, r, room, m⟩, rfl, ⟨hf, hro, hm⟩, h⟩ := hT
  have hf : Fine f := hf
  have hro : room ≤ 12 := hro
  have hm : m ≤ 200 := hm
  have h : ∀ ss fs, (∀ s ∈ ss, deedOk s.1 = true ∧ isOther s.1 = false) → ss.length ≤ m → playedF f r room ss = some fs → Φ (.dat (.tuple [.list (ss.map dStep), .list (fs.map dF)])) := fun ss fs h1 h2 h3 => h _ ⟨ss, fs, rfl, h1, h2, h3⟩
  walk_at "sf"
  refine taken (m + 1) (by omega) (by omega) fun n hn => ?_
  walk_at "sf"
  refine ⟨by omega, by omega, fun j ρ => ∃ (ss : List Step) (fs : List File) (y : Ent), ρ = [.row, .dat (dF ((f :: fs).getLast (List.cons_ne_nil _ _))), .dat (dRule r), .dat (.int (room : Int)), .dat (.int (m : Int)), .ls (ss.map dStep), .ls (fs.map dF), y] ∧ ss.length = j ∧ (∀ s ∈ ss, deedOk s.1 = true ∧ isOther s.1 = false) ∧ playedF f r room ss = some fs, ⟨[], [], _, rfl, rfl, (fun d hd => by cases hd), rfl⟩, fun j ρ' hj hρ => ?_, fun ρ' hρ => ?_⟩
  · obtain ⟨ss, fs, y, rfl, hsl, hdo, hp⟩ := hρ
    have hG := last_all (P := Fine) hf (played_fine hro hf hp)
    have hfl := played_len2 hp
    have hsn : ∀ {s : Step} {g : File}, steppedF ((f :: fs).getLast (List.cons_ne_nil _ _)) r room s = some g → playedF f r room (ss ++ [s]) = some (fs ++ [g]) := fun h => played_snoc hp h
    generalize (f :: fs).getLast (List.cons_ne_nil _ _) = g at hG hsn
    walk_at "sf"
    refine ⟨by omega, (g, r, room, false), rfl, ⟨hG, hro⟩, fun q ⟨s, g2, ws, es, hso, hoth, hws, hdone, hwh⟩ => ?_⟩
    subst es
    have hws : writesF g r room s.1 = some ws := hws
    have hdone : doneF g ws s.2 = some g2 := hdone
    have hst : steppedF g r room s = some g2 := by
      unfold steppedF
      rw [hws]
      exact hdone
    walk_at "sf"
    rw [atI_last]
    walk_at "sf"
    refine ⟨(g, r, room, s, g2), rfl, ⟨hG, hro, hso, hst⟩, nol_dF, ?_⟩
    refine ⟨by omega, ss ++ [s], fs ++ [g2], .dat (.int (j : Int)), ?_, by rw [List.length_append, hsl]; rfl, fun d hd => ?_, hsn hst⟩
    · rw [List.map_append, List.map_append, last_snoc]
      rfl
    · rcases List.mem_append.mp hd with z | z
      · exact hdo d z
      · rw [List.mem_singleton.mp z]
        exact ⟨hso, hoth⟩
  · obtain ⟨ss, fs, y, rfl, hsl, hdo, hp⟩ := hρ
    walk_at "sf"
    exact h ss fs hdo (by omega) hp
end
/-! rows as a table -/
def rowV (cs : List Cell) (i : Nat) : Option Nat := match cs[i]? with
  | some (.row n) => some n
  | _ => none
def rowsD (cs : List Cell) : DI := (rowsL cs).map fun i : Nat => ((i : Int), (numAt cs i : Int))
theorem dRows_D (cs : List Cell) : dRows cs = .list ((rowsD cs).map pairD) := by
  unfold dRows rowsD
  rw [List.map_map]
  rfl
theorem rowV_at {cs : List Cell} {i n : Nat} (h : rowV cs i = some n) : rowAt cs i = true ∧ numAt cs i = n := by
  unfold rowV at h
  unfold rowAt numAt
  cases e : cs[i]? with
  | none => rw [e] at h; cases h
  | some c =>
    rw [e] at h
    cases c with
    | row m => cases h; exact ⟨rfl, rfl⟩
    | free l => cases h
theorem rowV_of {cs : List Cell} {i : Nat} (h : rowAt cs i = true) : rowV cs i = some (numAt cs i) := by
  unfold rowAt at h
  unfold rowV numAt
  cases e : cs[i]? with
  | none => rw [e] at h; cases h
  | some c =>
    rw [e] at h
    cases c with
    | row m => rfl
    | free l => cases h
theorem rowV_lt {cs : List Cell} {i n : Nat} (h : rowV cs i = some n) : i < cs.length := by
  unfold rowV at h
  cases e : cs[i]? with
  | none => rw [e] at h; cases h
  | some c => exact (List.getElem?_eq_some_iff.mp e).1
theorem mem_rowsD {cs : List Cell} {q : Int × Int} : q ∈ rowsD cs ↔ ∃ i n : Nat, q = ((i : Int), (n : Int)) ∧ rowV cs i = some n := by
  unfold rowsD rowsL
  rw [List.mem_map]
  constructor
  · rintro ⟨i, hi, rfl⟩
    exact ⟨i, numAt cs i, rfl, rowV_of (List.mem_filter.mp hi).2⟩
  · rintro ⟨i, n, rfl, h⟩
    obtain ⟨h1, h2⟩ := rowV_at h
    exact ⟨i, List.mem_filter.mpr ⟨List.mem_range.mpr (rowV_lt h), h1⟩, by rw [h2]⟩
theorem rowsD_nodup (cs : List Cell) : ((rowsD cs).map (·.1)).Nodup := by
  unfold rowsD
  rw [List.map_map]
  have h : (rowsL cs).Nodup := List.Pairwise.filter _ List.nodup_range
  show ((rowsL cs).map fun i : Nat => (i : Int)).Nodup
  exact List.Pairwise.map _ (fun a b hab z => hab (by omega)) h
theorem lookD_mem {t : DI} (nd : (t.map (·.1)).Nodup) {k v : Int} (h : (k, v) ∈ t) : lookD t k = some v := by
  induction t with
  | nil => cases h
  | cons p r ih =>
    rw [List.map_cons, List.nodup_cons] at nd
    unfold lookD
    by_cases e : p.1 = k
    · rw [List.find?_cons_of_pos (by simpa using e)]
      rcases List.mem_cons.mp h with z | z
      · rw [← z]; rfl
      · exact absurd (by rw [e]; exact List.mem_map_of_mem z) nd.1
    · rw [List.find?_cons_of_neg (by simpa using e)]
      rcases List.mem_cons.mp h with z | z
      · exact absurd (by rw [← z]) e
      · exact ih nd.2 z
theorem lookD_no {t : DI} {k : Int} (h : ∀ v, (k, v) ∉ t) : lookD t k = none := by
  unfold lookD
  rw [List.find?_eq_none.mpr fun q hq => by
    simp only [decide_eq_true_eq]
    intro z
    exact h q.2 (by rw [← z]; exact hq)]
  rfl
theorem lookD_rows (cs : List Cell) (i : Nat) : lookD (rowsD cs) (i : Int) = (rowV cs i).map fun n => (n : Int) := by
  cases e : rowV cs i with
  | some n => exact lookD_mem (rowsD_nodup cs) (mem_rowsD.mpr ⟨i, n, rfl, e⟩)
  | none =>
    refine lookD_no fun v hv => ?_
    obtain ⟨j, n, e1, e2⟩ := mem_rowsD.mp hv
    have e3 : (i : Int) = (j : Int) := congrArg Prod.fst e1
    have e4 : i = j := by omega
    rw [e4] at e
    rw [e] at e2
    cases e2
theorem mem_dropD {t : DI} {k : Int} {q : Int × Int} : q ∈ dropD t k ↔ q ∈ t ∧ q.1 ≠ k := by
  unfold dropD
  rw [List.mem_filter]
  simp
theorem dropD_nodup {t : DI} {k : Int} (h : (t.map (·.1)).Nodup) : ((dropD t k).map (·.1)).Nodup := by
  unfold dropD
  exact List.Sublist.nodup (List.Sublist.map _ List.filter_sublist) h
/-- the tables behind what is taken out of both -/
def cutP (d : Deed) (t : DI) : DI := match d with
  | .give p => dropD t p
  | _ => t
def moreP (f g : File) (d : Deed) : DI := (cutP d (rowsD g.cells)).filter fun q => !hasD (cutP d (rowsD f.cells)) q.1
structure KeptP (f g : File) (d : Deed) (m : Many) : Prop where
  was : ∀ p, d = .give p → hasD (rowsD f.cells) p = true
  deed : d ≠ .mend ∧ isOther d = false
  stay : ∀ q ∈ cutP d (rowsD f.cells), lookD (cutP d (rowsD g.cells)) q.1 = some q.2
  more : (moreP f g d).length < 2
  took : ∀ n, d = .take n → m = none → ∃ k, (moreP f g d).map (·.1) = [k] ∧ lookD (cutP d (rowsD g.cells)) k = some n
theorem len_le_one {l : List Int} {a : Int} (nd : l.Nodup) (h : ∀ x ∈ l, x = a) : l.length ≤ 1 := by
  match l, nd, h with
  | [], _, _ => simp
  | [x], _, _ => simp
  | x :: y :: r, nd, h =>
    rw [List.nodup_cons] at nd
    exact absurd (by rw [h x List.mem_cons_self, h y (List.mem_cons_of_mem _ List.mem_cons_self)]; exact List.mem_cons_self) nd.1
theorem one_of {l : List Int} {a : Int} (nd : l.Nodup) (h : ∀ x ∈ l, x = a) (hm : a ∈ l) : l = [a] := by
  match l, len_le_one nd h, hm, h with
  | [x], _, hm, h => rw [h x List.mem_cons_self]
theorem more_nodup (f g : File) (d : Deed) : ((moreP f g d).map (·.1)).Nodup := by
  unfold moreP
  refine List.Sublist.nodup (List.Sublist.map _ List.filter_sublist) ?_
  cases d with
  | give p => exact dropD_nodup (rowsD_nodup _)
  | take n => exact rowsD_nodup _
  | mend => exact rowsD_nodup _
  | other w n => exact rowsD_nodup _
/-- a row more at p -/
theorem kept_take {f g : File} {n p : Nat} {m : Many} (h0 : rowV f.cells p = none) (h1 : rowV g.cells p = some n) (h2 : ∀ i, i ≠ p → rowV g.cells i = rowV f.cells i) : KeptP f g (.take (n : Int)) m := by
  have hm : ∀ x ∈ (moreP f g (.take (n : Int))).map (·.1), x = (p : Int) := fun x hx => by
    obtain ⟨q, hq, rfl⟩ := List.mem_map.mp hx
    obtain ⟨hq1, hq2⟩ := List.mem_filter.mp hq
    obtain ⟨i, k, rfl, hi⟩ := mem_rowsD.mp hq1
    by_cases e : i = p
    · rw [e]
    · rw [h2 i e] at hi
      have : hasD (rowsD f.cells) (i : Int) = true := by unfold hasD; rw [lookD_rows, hi]; rfl
      simp only [cutP] at hq2
      rw [this] at hq2
      cases hq2
  have hp : (p : Int) ∈ (moreP f g (.take (n : Int))).map (·.1) := by
    refine List.mem_map.mpr ⟨((p : Int), (n : Int)), List.mem_filter.mpr ⟨mem_rowsD.mpr ⟨p, n, rfl, h1⟩, ?_⟩, rfl⟩
    show (!hasD (rowsD f.cells) (p : Int)) = true
    unfold hasD
    rw [lookD_rows, h0]
    rfl
  have h1' := one_of (more_nodup f g _) hm hp
  refine ⟨(fun _ z => by cases z), ⟨(fun z => by cases z), rfl⟩, fun q hq => ?_, ?_, fun k hk _ => ?_⟩
  · obtain ⟨i, k, rfl, hi⟩ := mem_rowsD.mp (show q ∈ rowsD f.cells from hq)
    show lookD (rowsD g.cells) (i : Int) = some (k : Int)
    rw [lookD_rows, h2 i (fun e => by rw [e, h0] at hi; cases hi), hi]
    rfl
  · have e := congrArg List.length h1'
    rw [List.length_map] at e
    rw [e]
    show 1 < 2
    decide
  · cases hk
    refine ⟨(p : Int), h1', ?_⟩
    show lookD (rowsD g.cells) (p : Int) = some (n : Int)
    rw [lookD_rows, h1]
    rfl
/-- nothing done -/
theorem kept_same {f g : File} {d : Deed} {k : Int} (hd : d ≠ .mend ∧ isOther d = false) (hw : ∀ p, d = .give p → hasD (rowsD f.cells) p = true) (e : g.cells = f.cells) : KeptP f g d (some k) := by
  have hall : ∀ q ∈ cutP d (rowsD f.cells), lookD (cutP d (rowsD f.cells)) q.1 = some q.2 := fun q hq => by
    refine lookD_mem ?_ hq
    cases d with
    | give p => exact dropD_nodup (rowsD_nodup _)
    | take n => exact rowsD_nodup _
    | mend => exact rowsD_nodup _
    | other w n => exact rowsD_nodup _
  refine ⟨hw, hd, (by rw [e]; exact hall), ?_, (fun _ _ z => by cases z)⟩
  unfold moreP
  rw [e, List.filter_eq_nil_iff.mpr]
  · decide
  · intro q hq
    unfold hasD
    rw [hall q hq]
    exact Bool.false_ne_true
/-- a row given back -/
theorem kept_give {f g : File} {p : Nat} {m : Many} (h0 : rowV f.cells p ≠ none) (h2 : ∀ i, i ≠ p → rowV g.cells i = rowV f.cells i) : KeptP f g (.give (p : Int)) m := by
  have hl : ∀ cs : List Cell, ∀ i : Nat, i ≠ p → lookD (dropD (rowsD cs) (p : Int)) (i : Int) = (rowV cs i).map fun n => (n : Int) := fun cs i hi => by
    cases e : rowV cs i with
    | some n => exact lookD_mem (dropD_nodup (rowsD_nodup cs)) (mem_dropD.mpr ⟨mem_rowsD.mpr ⟨i, n, rfl, e⟩, by show (i : Int) ≠ (p : Int); omega⟩)
    | none =>
      refine lookD_no fun v hv => ?_
      obtain ⟨j, n, e1, e2⟩ := mem_rowsD.mp (mem_dropD.mp hv).1
      have e3 : (i : Int) = (j : Int) := congrArg Prod.fst e1
      have e4 : i = j := by omega
      rw [e4] at e
      rw [e] at e2
      cases e2
  refine ⟨fun q hq => ?_, ⟨(fun z => by cases z), rfl⟩, fun q hq => ?_, ?_, (fun _ z => by cases z)⟩
  · cases hq
    unfold hasD
    rw [lookD_rows]
    cases e : rowV f.cells p with
    | none => exact absurd e h0
    | some n => rfl
  · obtain ⟨hq1, hq2⟩ := mem_dropD.mp (show q ∈ dropD (rowsD f.cells) (p : Int) from hq)
    obtain ⟨i, k, rfl, hi⟩ := mem_rowsD.mp hq1
    have hip : i ≠ p := fun z => hq2 (by rw [z])
    show lookD (dropD (rowsD g.cells) (p : Int)) (i : Int) = some (k : Int)
    rw [hl _ i hip, h2 i hip, hi]
    rfl
  · unfold moreP
    rw [List.filter_eq_nil_iff.mpr]
    · decide
    · intro q hq
      obtain ⟨hq1, hq2⟩ := mem_dropD.mp (show q ∈ dropD (rowsD g.cells) (p : Int) from hq)
      obtain ⟨i, k, rfl, hi⟩ := mem_rowsD.mp hq1
      have hip : i ≠ p := fun z => hq2 (by rw [z])
      show ¬ (!hasD (dropD (rowsD f.cells) (p : Int)) (i : Int)) = true
      unfold hasD
      rw [hl _ i hip, ← h2 i hip, hi]
      exact Bool.false_ne_true
theorem kept_loop {a0 a1 a2 e5 e6 : Ent} {held now : DI} {Nx : Rho → Prop} {Φ : Res → Prop} {Ξ : Exn → Prop} (hn : (held.map (·.1)).Nodup) (h : ∀ q ∈ held, lookD now q.1 = some q.2) (q : ∀ y, y ≠ .row → Nx [a0, a1, a2, .ob (dkK held), .ob (dkK now), e5, e6, y, .no]) :
    wForD (Tgt.nm 7) 3 (wIfS (wTest (wOp sNe (wGetD 4 (wVar 7)) (wIxD 3 (wVar 7)))) (wRet (wC (PyData.bool false))) wSkip) [a0, a1, a2, .ob (dkK held), .ob (dkK now), e5, e6, .no, .no] { nx := Nx, rt := Φ, xc := Ξ } := by
  refine ⟨held, rfl, fun od l => ⟨fun i ρ => ∃ y, y ≠ .row ∧ ρ = [a0, a1, a2, .ob (dkF od l held), .ob (dkK now), e5, e6, y, .no], ⟨_, (fun z => by cases z), rfl⟩, fun i p ρ' hp hρ => ?_, fun i ρ' hρ => by obtain ⟨y, _, rfl⟩ := hρ; rfl, fun ρ' hρ => by obtain ⟨y, hy, rfl⟩ := hρ; exact q y hy⟩⟩
  obtain ⟨y, _, rfl⟩ := hρ
  have hp' := h p (List.mem_of_getElem? hp)
  have hh : hasD now p.1 = true := by unfold hasD; rw [hp']; rfl
  walk_at "sf"
  refine ⟨now, .inl rfl, held, .inr ⟨od, l, rfl⟩, p.1, p.2, rfl, lookD_mem hn (List.mem_of_getElem? hp), ?_⟩
  rw [hp']
  show SeqAt.shaped (.int p.2) = true ∧ if (!PyData.eqv (.int p.2) (.int p.2)) = true then False else _
  refine ⟨rfl, ?_⟩
  rw [v_int, beq_self_eq_true]
  exact ⟨_, (fun z => by cases z), rfl⟩
theorem kept_more {a0 a1 a2 e5 e6 y : Ent} {held now : DI} {Nx : Rho → Prop} {Φ : Res → Prop} {Ξ : Exn → Prop} (hy : y ≠ .row) (hl : now.length ≤ 50000) (q : Nx [a0, a1, a2, .ob (dkK held), .ob (dkK now), e5, e6, y, .dat (.list (((now.filter fun q => !hasD held q.1).map (·.1)).map .int))]) :
    wSetLcD 8 4 (Tgt.nm 7) [7] (wNotInD 3 (wVar 7)) (wVar 7) [a0, a1, a2, .ob (dkK held), .ob (dkK now), e5, e6, y, .no] { nx := Nx, rt := Φ, xc := Ξ } := by
  refine ⟨by decide, now, rfl, fun od l => ?_⟩
  refine lcI_fm (fun z => match z with | .int k => !hasD held k | _ => false) (fun z => z) (by cases y <;> first | rfl | exact absurd rfl hy) (by rw [List.length_map]; exact hl) (fun d hd A B hA hB => ?_) ?_
  · obtain ⟨p, hp, rfl⟩ := List.mem_map.mp hd
    walk_at "sf"
    refine ⟨held, .inl rfl, ?_⟩
    split
    · rename_i h
      exact hA h
    · rename_i h
      exact hB (by simpa using h)
  · have e : ((now.map fun p => PyData.int p.1).filter fun z => match z with | .int k => !hasD held k | _ => false) = ((now.filter fun q => !hasD held q.1).map (·.1)).map .int := by
      rw [List.filter_map, List.map_map]
      rfl
    rw [List.map_id', e]
    exact q
def tf__law_kept : Tf := mkT (α := File × File × Deed × Many) (fun a => [dF a.1, dF a.2.1, dStep (a.2.2.1, a.2.2.2)]) (fun a => Fine a.1 ∧ Fine a.2.1 ∧ KeptP a.1 a.2.1 a.2.2.1 a.2.2.2) (fun _ => .dat (.bool true))
section
variable {P : Program} {w : World} {K : PySem.W.Frag} {mg : Str → Option Value} {base : Heap}
theorem ok__law_kept (T : Txt K mg) : FnOk P w K mg base CX0 2 T.f__law_kept T.fd__law_kept ["_law_before", "_law_after", "_law_step_here"] (spP K XR0 tf__law_kept) := by
  refine okP (n := 6) T.F__law_kept sc__law_kept rfl (fun ds Φ Ξ ⟨_, e, _⟩ => by rw [e]; rfl) fun cdv A outer s H E hr => ⟨_, psis_cons (psi_setDict 3 rfl T.m_dict rfl (pai_cons (pei_ixT (pei_def (ok__law_checked T) (hr.mono (by decide)) T.g__law_checked T.F__law_checked.kp T.b__law_checked passE (pai_cons (pei_var 0) pai_nil) rfl) pei_int) pai_nil) sc__law_kept.nd)
    (psis_cons (psi_setDict 4 rfl T.m_dict rfl (pai_cons (pei_ixT (pei_def (ok__law_checked T) (hr.mono (by decide)) T.g__law_checked T.F__law_checked.kp T.b__law_checked passE (pai_cons (pei_var 1) pai_nil) rfl) pei_int) pai_nil) sc__law_kept.nd)
    (psis_cons (psi_unpack [5, 6] (pei_var 2) (by exact (pg_tup rfl (pgs_cons (pg_name (i := 5) sc__law_kept.nd rfl (by first | exact Or.inl rfl | exact Or.inr rfl)) (pgs_cons (pg_name (i := 6) sc__law_kept.nd rfl (by first | exact Or.inl rfl | exact Or.inr rfl)) pgs_nil)))))
    (psis_cons (psi_if (pti_cmp (op_eqD (hu64 hr)) op2_eq (nomark _) (pei_ixT (pei_var 5) pei_int) pei_str)
      (psis_cons (psi_popD 3 (pei_ixT (pei_var 5) pei_int))
      (psis_one (psi_popDD 4 (pei_ixT (pei_var 5) pei_int) pei_non)))
      (psis_nil))
    (psis_cons (psi_forD (.nm 7) 3 PassesOwn.never rfl (by exact (pg_name (i := 7) sc__law_kept.nd rfl (by first | exact Or.inl rfl | exact Or.inr rfl)))
      (psis_one (psi_if (pti_cmp (op_neD (hu64 hr)) op2_ne (nomark _) (pei_getD 4 (hu_of hr) (pei_var 7)) (pei_ixD 3 (hu_of hr) (pei_var 7)))
        (psis_one (psi_ret pei_bl))
        (psis_nil))) (by decide))
    (psis_cons (psi_setLcD 8 4 rfl sc__law_kept.nd (Blk.mk (own := [("_law_place", 7)]) (tgt := (.nm 7)) (blkOk_by (N := n__law_kept) (sc := defScope s__law_kept) (by decide +kernel)) (by decide) (fun _ _ _ _ _ => by exact (pg_name (i := 7) sc__law_kept.nd rfl (by first | exact Or.inl rfl | exact Or.inr rfl))) (fun _ _ _ _ _ => (ptsi_one (pti_notInD 3 (hu_of hr) (pei_var 7)))) (fun _ _ _ _ _ => (pei_var 7))) (hsw := (sw_true rfl rfl rfl (by decide +kernel))))
    (psis_cons (psi_if (pti_bool (pwi_and (pti_cmp (op_eqD (hu64 hr)) op2_eq (nomark _) (pei_ixT (pei_var 5) pei_int) pei_str) (pwi_one (pti_cmp op_isN op2_isN (nomark _) (pei_var 6) pei_non))))
      (psis_one (psi_ret (pei_and (pei_cmp (op_eqD (hu64 hr)) op2_eq (nomark _) (pei_len T.m_len rfl (pai_cons (pei_var 8) pai_nil)) pei_int) (pei_one _ (pei_cmp (op_eqD (hu64 hr)) op2_eq (nomark _) (pei_ixD 4 (hu_of hr) (pei_ixL (pei_var 8) pei_int)) (pei_ixT (pei_var 5) pei_int))))))
      (psis_nil))
    (psis_one (psi_ret (pei_cmp op_lt op2_lt (nomark _) (pei_len T.m_len rfl (pai_cons (pei_var 8) pai_nil)) pei_int))))))))), fun ds Φ Ξ hT => ?_⟩
  obtain ⟨⟨f, g, d, m⟩, rfl, ⟨hf, hg, hk⟩, h⟩ := hT
  have hf : Fine f := hf
  have hg : Fine g := hg
  have hk : KeptP f g d m := hk
  have h : Φ (.dat (.bool true)) := h
  walk_at "sf"
  refine ⟨f, rfl, hf, ?_⟩
  unfold dChecked
  walk_at "sf"
  refine ⟨rowsD f.cells, by rw [dRows_D], rowsD_nodup _, ?_⟩
  refine ⟨g, rfl, hg, ?_⟩
  unfold dChecked
  walk_at "sf"
  refine ⟨rowsD g.cells, by rw [dRows_D], rowsD_nodup _, ?_⟩
  unfold dStep
  walk_at "sf"
  have hl : ∀ cs : List Cell, cs.length ≤ 12 → (rowsD cs).length ≤ 12 := fun cs h => by
    have h2 := List.length_filter_le (rowAt cs) (List.range cs.length)
    rw [List.length_range] at h2
    unfold rowsD rowsL
    rw [List.length_map]
    omega
  have hfl := hl _ hf.few
  have hgl := hl _ hg.few
  cases d with
  | mend => exact absurd rfl hk.deed.1
  | other w n => cases hk.deed.2
  | give p =>
    unfold dDeed
    walk_at "sf"
    refine ⟨rowsD f.cells, rfl, hk.was p rfl, rowsD g.cells, rfl, ?_⟩
    refine kept_loop (dropD_nodup (rowsD_nodup _)) hk.stay fun y hy => ?_
    refine kept_more hy (by
      have := List.length_filter_le (fun q : Int × Int => decide (q.1 ≠ p)) (rowsD g.cells)
      unfold dropD
      omega) ?_
    have hm : (List.filter (fun q => !hasD (dropD (rowsD f.cells) p) q.1) (dropD (rowsD g.cells) p)).length < 2 := hk.more
    walk_at "sf"
    have h : Φ (.dat (.bool true)) := h
    rw [decide_eq_true (by omega)]
    exact h
  | take n =>
    unfold dDeed
    walk_at "sf"
    refine kept_loop (rowsD_nodup _) hk.stay fun y hy => ?_
    refine kept_more hy (by omega) ?_
    have hm : (List.filter (fun q => !hasD (rowsD f.cells) q.1) (rowsD g.cells)).length < 2 := hk.more
    have ht : m = none → ∃ k, ((rowsD g.cells).filter fun q => !hasD (rowsD f.cells) q.1).map (·.1) = [k] ∧ lookD (rowsD g.cells) k = some n := hk.took n rfl
    walk_at "sf"
    have h : Φ (.dat (.bool true)) := h
    cases m with
    | none =>
      obtain ⟨k, e1, e2⟩ := ht rfl
      have e3 := congrArg List.length e1
      rw [List.length_map] at e3
      have e4 : (List.filter (fun q => !hasD (rowsD f.cells) q.1) (rowsD g.cells)).length = 1 := e3
      rw [e1, e4]
      show if (((1 : Nat) : Int) == 1) = true then _ else _
      refine ⟨rowsD g.cells, .inl rfl, .int k, atI_nat (j := 0) rfl, k, n, rfl, e2, ?_⟩
      rw [beq_self_eq_true]
      exact h
    | some k =>
      show Φ (Res.dat (PyData.bool (decide (((List.filter (fun q => !hasD (rowsD f.cells) q.1) (rowsD g.cells)).length : Int) < 2))))
      rw [decide_eq_true (by omega)]
      exact h

end
theorem writesF_room {f : File} {r : Rule} {room : Nat} {d : Deed} {ws : List Write} (h : Fine f) (hr : room ≤ 12) (e : writesF f r room d = some ws) : (∀ w ∈ ws, wOk f.cells.length w = true) ∨ ∃ w, ws = [w] ∧ wEnd f.cells.length w = true ∧ f.cells.length < room := by
  rcases writesF_ok h hr e with h1 | ⟨w, rfl, hw⟩
  · exact .inl h1
  · refine .inr ⟨w, rfl, hw, ?_⟩
    cases d with
    | mend =>
      have e : mendsF f = [w] := Option.some.inj e
      have e2 := congrArg List.length e
      unfold mendsF at e2
      split at e2
      · cases e2
      · rw [List.length_append, List.length_append] at e2
        simp at e2
    | other w n => cases e
    | give p =>
      have e : (if 0 ≤ p ∧ p < (f.cells.length : Int) ∧ rowAt f.cells p.toNat = true then some (inOrder r.2 (none, .link (some p.toNat)) (some p.toNat, .cell (.free f.head))) else none) = some [w] := e
      split at e
      · have e2 := congrArg List.length (Option.some.inj e)
        unfold inOrder at e2
        split at e2 <;> cases e2
      · cases e
    | take n =>
      have e : (if 0 ≤ n ∧ n ≤ 999 then takeW f r room n.toNat else none) = some [w] := e
      split at e
      · unfold takeW at e
        cases hh : f.head with
        | none =>
          rw [hh] at e
          have e : (if f.cells.length < room then some [((some f.cells.length, .cell (.row n.toNat)) : Write)] else none) = some [w] := e
          split at e
          · assumption
          · cases e
        | some p =>
          rw [hh] at e
          have e2 := congrArg List.length (Option.some.inj e)
          unfold inOrder at e2
          split at e2 <;> cases e2
      · cases e
theorem stepped_room {f g : File} {r : Rule} {room : Nat} {s : Step} (hf : Fine f) (hr : room ≤ 12) (hl : f.cells.length ≤ room) (e : steppedF f r room s = some g) : g.cells.length ≤ room := by
  unfold steppedF at e
  cases hw : writesF f r room s.1 with
  | none => rw [hw] at e; cases e
  | some ws =>
    rw [hw] at e
    have hk : ∃ vs : List Write, g = vs.foldl put f ∧ ∃ k, vs = ws.take k := by
      have e : doneF f ws s.2 = some g := e
      unfold doneF at e
      split at e
      · cases e
        exact ⟨ws, rfl, ws.length, (List.take_length).symm⟩
      · split at e
        · cases e
          exact ⟨_, rfl, _, rfl⟩
        · cases e
    obtain ⟨vs, rfl, k, rfl⟩ := hk
    rcases writesF_room hf hr hw with h1 | ⟨w, rfl, hw2, hlt⟩
    · rw [(foldPut_fine hf fun w hw => h1 w (List.mem_of_mem_take hw)).2]
      exact hl
    · cases k with
      | zero => exact hl
      | succ k =>
        have e1 : [w].take (k + 1) = [w] := by simp
        rw [e1]
        show (put f w).cells.length ≤ room
        rw [(putEnd_fine hf hw2).2]
        exact hlt
theorem stop_of {f : File} {ps : List Nat} (h : Links f.cells f.head ps) (nd : ps.Nodup) : stop f = none := by
  unfold stop
  rw [h.gone nd]
theorem rowV_set {cs : List Cell} {p i : Nat} {c : Cell} (h : i ≠ p) : rowV (cs.set p c) i = rowV cs i := by
  unfold rowV
  rw [List.getElem?_set_ne (Ne.symm h)]
theorem kept_done {f : File} {room : Nat} {d : Deed} {ws : List Write} {k : Nat} (hf : Fine f) (hs : stop f = none) (hd : d ≠ .mend) (hw : writesF f (true, false) room d = some ws) (hk : k ≤ ws.length) :
    stop ((ws.take k).foldl put f) = none ∧ ∀ m : Many, (m = none → k = ws.length) → KeptP f ((ws.take k).foldl put f) d m := by
  obtain ⟨hl, nd⟩ := stop_links hs
  cases d with
  | mend => exact absurd rfl hd
  | other w n => cases hw
  | take n =>
    have hw : (if 0 ≤ n ∧ n ≤ 999 then takeW f (true, false) room n.toNat else none) = some ws := hw
    split at hw
    · rename_i hn
      obtain ⟨N, rfl⟩ : ∃ N : Nat, n = (N : Int) := ⟨n.toNat, by omega⟩
      rw [Int.toNat_natCast] at hw
      unfold takeW at hw
      have same : ∀ (g : File) (m : Many), g.cells = f.cells → m ≠ none → KeptP f g (.take (N : Int)) m := fun g m e hm => by
        cases m with
        | none => exact absurd rfl hm
        | some j => exact kept_same ⟨(fun z => by cases z), rfl⟩ (fun _ z => by cases z) e
      cases hh : f.head with
      | none =>
        rw [hh] at hw
        have hw : (if f.cells.length < room then some [((some f.cells.length, .cell (.row N)) : Write)] else none) = some ws := hw
        split at hw
        · cases hw
          match k, hk with
          | 0, _ => exact ⟨hs, fun m hm => same f m rfl fun z => by have := hm z; cases this⟩
          | 1, _ =>
            have e : ([((some f.cells.length, .cell (.row N)) : Write)].take 1).foldl put f = ⟨f.head, f.cells ++ [.row N]⟩ := by
              show put f (some f.cells.length, .cell (.row N)) = _
              rw [put_cell, if_pos rfl]
            rw [e, hh]
            refine ⟨rfl, fun m _ => kept_take (p := f.cells.length) ?_ ?_ fun i hi => ?_⟩
            · unfold rowV
              rw [List.getElem?_eq_none (Nat.le_refl _)]
            · unfold rowV
              show (match (f.cells ++ [Cell.row N])[f.cells.length]? with | some (.row n) => some n | _ => none) = some N
              rw [List.getElem?_append_right (Nat.le_refl _), Nat.sub_self]
              rfl
            · unfold rowV
              show (match (f.cells ++ [Cell.row N])[i]? with | some (.row n) => some n | _ => none) = _
              by_cases q : i < f.cells.length
              · rw [List.getElem?_append_left q]
                all_goals rfl
              · rw [List.getElem?_append_right (by omega), List.getElem?_eq_none (l := f.cells) (by omega), List.getElem?_eq_none (by simp; omega)]
          | k + 2, hk => simp at hk
        · cases hw
      | some p =>
        rw [hh] at hw hl
        have hw : some [((none, .link (freeLk f.cells p)) : Write), (some p, .cell (.row N))] = some ws := hw
        cases hw
        cases hc : chain f with
        | nil =>
          rw [hc] at hl
          cases (show (some p : Lk) = none from hl)
        | cons p' ps =>
          rw [hc] at hl nd
          obtain ⟨e, m, hm, hl2⟩ := hl
          cases e
          rw [List.nodup_cons] at nd
          have e1 : freeLk f.cells p = m := by unfold freeLk; rw [hm]
          have hp : p < f.cells.length := (List.getElem?_eq_some_iff.mp hm).1
          match k, hk with
          | 0, _ => exact ⟨hs, fun m hm => same f m rfl fun z => by have := hm z; cases this⟩
          | 1, _ =>
            refine ⟨?_, fun m hm => same _ m rfl fun z => by have := hm z; cases this⟩
            show stop ⟨freeLk f.cells p, f.cells⟩ = none
            rw [e1]
            exact stop_of hl2 nd.2
          | 2, _ =>
            have e : ([((none, .link (freeLk f.cells p)) : Write), (some p, .cell (.row N))].take 2).foldl put f = ⟨m, f.cells.set p (.row N)⟩ := by
              rw [← e1]
              exact put_two (b := true) hp
            rw [e]
            refine ⟨stop_of (hl2.mono fun i hi => List.getElem?_set_ne (fun z => nd.1 (by rw [z]; exact hi))) nd.2, fun m' _ => kept_take (p := p) ?_ ?_ fun i hi => rowV_set hi⟩
            · unfold rowV
              rw [hm]
            · unfold rowV
              show (match (f.cells.set p (.row N))[p]? with | some (.row n) => some n | _ => none) = some N
              rw [List.getElem?_set_self hp]
          | k + 3, hk => simp at hk
    · cases hw
  | give p =>
    have hw : (if 0 ≤ p ∧ p < (f.cells.length : Int) ∧ rowAt f.cells p.toNat = true then some (inOrder false (none, .link (some p.toNat)) (some p.toNat, .cell (.free f.head))) else none) = some ws := hw
    split at hw
    · rename_i hp
      obtain ⟨N, rfl⟩ : ∃ N : Nat, p = (N : Int) := ⟨p.toNat, by omega⟩
      rw [Int.toNat_natCast] at hw hp
      have hN : N < f.cells.length := by omega
      have hv := rowV_of hp.2.2
      have hnc : N ∉ chain f := fun z => row_not_free hp.2.2 (mem_freeL.mpr (links_free hl N z))
      have hlm : Links (f.cells.set N (.free f.head)) f.head (chain f) := hl.mono fun i hi => List.getElem?_set_ne (fun z => hnc (by rw [z]; exact hi))
      have hw : some [((some N, .cell (.free f.head)) : Write), (none, .link (some N))] = some ws := hw
      cases hw
      have e1 : put f (some N, .cell (.free f.head)) = ⟨f.head, f.cells.set N (.free f.head)⟩ := by
        rw [put_cell, if_neg (by omega)]
      match k, hk with
      | 0, _ => exact ⟨hs, fun m _ => kept_give (by rw [hv]; exact fun z => by cases z) fun i _ => rfl⟩
      | 1, _ =>
        show stop (put f (some N, .cell (.free f.head))) = none ∧ ∀ m : Many, _ → KeptP f (put f (some N, .cell (.free f.head))) _ m
        rw [e1]
        exact ⟨stop_of hlm nd, fun m _ => kept_give (by rw [hv]; exact fun z => by cases z) fun i hi => rowV_set hi⟩
      | 2, _ =>
        show stop (put (put f (some N, .cell (.free f.head))) (none, .link (some N))) = none ∧ ∀ m : Many, _ → KeptP f (put (put f (some N, .cell (.free f.head))) (none, .link (some N))) _ m
        rw [e1]
        refine ⟨stop_of (ps := N :: chain f) ⟨rfl, f.head, List.getElem?_set_self hN, hlm⟩ (List.nodup_cons.mpr ⟨hnc, nd⟩), fun m _ => kept_give (by rw [hv]; exact fun z => by cases z) fun i hi => rowV_set hi⟩
      | k + 3, hk => simp at hk
    · cases hw
theorem many_nn {r : Rule} {room : Nat} : ∀ {ss : List Step} {f : File} {fs : List File}, playedF f r room ss = some fs → ∀ s ∈ ss, ∀ k, s.2 = some k → 0 ≤ k
  | [], _, _, _, s, hs, _, _ => by cases hs
  | s :: ss, f, fs, h, q, hq, k, hk => by
    obtain ⟨g, gs, h1, h2, e⟩ := played_cons (g := f) h
    rcases List.mem_cons.mp hq with z | z
    · subst z
      unfold steppedF at h1
      cases hw : writesF f r room q.1 with
      | none => rw [hw] at h1; cases h1
      | some ws =>
        rw [hw, hk] at h1
        have h1 : (if 0 ≤ k ∧ k ≤ (ws.length : Int) then some ((ws.take k.toNat).foldl put f) else none) = some g := h1
        split at h1
        · rename_i hh
          exact hh.1
        · cases h1
    · exact many_nn h2 q z k hk
def notMend : PyData → Bool
  | .tuple [.tuple (.str w :: _), _] => !(w == sMend)
  | _ => false
theorem filter_nm (ss : List Step) : ((ss.map dStep).filter notMend).map (fun z => z) = (ss.filter fun s => notMend (dStep s)).map dStep := by
  rw [List.map_id', List.filter_map]
  rfl
theorem nm_deed {s : Step} (h : notMend (dStep s) = true) : s.1 ≠ .mend := fun e => by
  unfold dStep at h
  rw [e] at h
  have h : (!(sMend == sMend)) = true := h
  rw [ws_mend] at h
  cases h
theorem dStep_eq {d : Deed} {m : Many} : dStep (d, m) = .tuple [dDeed d, dMany m] := rfl
theorem mend_full {f : File} : (mendsF f).foldl put f = mendF f := by
  have h := (mend_law (f := f) (Nat.le_refl _)).2.2.2 rfl
  rwa [List.take_length] at h
theorem mend_rows {f : File} : dRows (mendF f).cells = dRows f.cells := by
  have h := (mend_law (f := f) (Nat.le_refl (mendsF f).length)).1
  rwa [List.take_length, mend_full] at h
theorem dMany_some {k : Int} : dMany (some k) = .int k := rfl
theorem rows_len (cs : List Cell) : (rowsL cs).length ≤ cs.length := by
  have hl := List.length_filter_le (rowAt cs) (List.range cs.length)
  rw [List.length_range] at hl
  exact hl
theorem n_many_none : isNone (dMany none) = true := rfl
theorem n_many_some {k : Int} : isNone (dMany (some k)) = false := rfl
section
variable {P : Program} {w : World} {K : PySem.W.Frag} {mg : Str → Option Value} {base : Heap}
theorem ok_law (T : Txt K mg) : FnOk P w K mg base CX0 8 T.f_law T.fd_law ["_law_script"] (spL K) := by
  refine okLaw (n := 16) T.F_law sc_law rfl fun cdv A outer s H E hr => ⟨_, _, _, rfl, ps_set (i := 1) sc_law.nd rfl (by first | exact Or.inl rfl | exact Or.inr rfl) (pe_lst (pa_cons (pv 0) (pa_cons pe_int (pa_cons pe_int pa_nil)))), psis_cons (psi_forR1 (.nm 2) PassesOwn.never rfl T.m_range rfl (pai_cons pei_int pai_nil) (by exact (pg_name (i := 2) sc_law.nd rfl (by first | exact Or.inl rfl | exact Or.inr rfl)))
      (psis_cons (psi_setF 3 (pei_defR 1 (ok__law_whole T) (hr.mono (by decide)) T.g__law_whole T.F__law_whole.kp T.b__law_whole passE (pai_cons pei_int pai_nil) rfl) sc_law.nd)
      (psis_cons (psi_setF 4 (pei_tup (pai_cons pei_str (pai_cons pei_str pai_nil))) sc_law.nd)
      (psis_cons (psi_setF 5 (pei_add (pei_max2 T.m_max rfl rfl (pai_cons pei_int (pai_cons (pei_len T.m_len rfl (pai_cons (pei_ixT (pei_var 3) pei_int) pai_nil)) pai_nil))) (pei_defR 1 (ok__law_taken T) (hr.mono (by decide)) T.g__law_taken T.F__law_taken.kp T.b__law_taken passE (pai_cons (pei_sub pei_int (pei_max2 T.m_max rfl rfl (pai_cons pei_int (pai_cons (pei_len T.m_len rfl (pai_cons (pei_ixT (pei_var 3) pei_int) pai_nil)) pai_nil)))) pai_nil) rfl)) sc_law.nd)
      (psis_cons (psi_unpack [6, 7] (pei_defR 1 (ok__law_played T) (hr.mono (by decide)) T.g__law_played T.F__law_played.kp T.b__law_played passE (pai_cons (pei_var 3) (pai_cons (pei_var 4) (pai_cons (pei_var 5) (pai_cons pei_int pai_nil)))) rfl) (by exact (pg_tup rfl (pgs_cons (pg_name (i := 6) sc_law.nd rfl (by first | exact Or.inl rfl | exact Or.inr rfl)) (pgs_cons (pg_name (i := 7) sc_law.nd rfl (by first | exact Or.inl rfl | exact Or.inr rfl)) pgs_nil)))))
      (psis_cons (psi_setFLcL 8 rfl sc_law.nd (pei_var 6) (Blk.mk (own := [("_law_step_here", 10)]) (tgt := (.nm 10)) (blkOk_by (N := n_law) (sc := defScope s_law) (by decide +kernel)) (by decide) (fun _ _ _ _ _ => by exact (pg_name (i := 10) sc_law.nd rfl (by first | exact Or.inl rfl | exact Or.inr rfl))) (fun _ _ _ _ _ => (ptsi_one (pti_cmp (op_neD (hu64 hr)) op2_ne (nomark _) (pei_ixT (pei_ixT (pei_var 10) pei_int) pei_int) pei_str))) (fun _ _ _ _ _ => (pei_var 10))) (sw_true rfl rfl rfl (by decide +kernel)))
      (psis_cons (psi_setF 9 (pei_var 3) sc_law.nd)
      (psis_cons (psi_forL (.nm 10) PassesOwn.never rfl (pei_var 8) (by exact (pg_name (i := 10) sc_law.nd rfl (by first | exact Or.inl rfl | exact Or.inr rfl)))
        (psis_one (psi_if (pti_cmp op_notN op2_notN (nomark _) (pei_def (ok__law_writes T) (hr.mono (by decide)) T.g__law_writes T.F__law_writes.kp T.b__law_writes passE (pai_cons (pei_var 9) (pai_cons (pei_var 4) (pai_cons (pei_var 5) (pai_cons (pei_ixT (pei_var 10) pei_int) pai_nil)))) rfl) pei_non)
          (psis_cons (psi_set 11 (pei_lst (pai_cons (pei_ixT (pei_var 10) pei_int) (pai_cons (pei_if (pti_cmp op_isN op2_isN (nomark _) (pei_ixT (pei_var 10) pei_int) pei_non) pei_non (pei_min2 T.m_min rfl rfl (pai_cons (pei_ixT (pei_var 10) pei_int) (pai_cons (pei_len T.m_len rfl (pai_cons (pei_def (ok__law_writes T) (hr.mono (by decide)) T.g__law_writes T.F__law_writes.kp T.b__law_writes passE (pai_cons (pei_var 9) (pai_cons (pei_var 4) (pai_cons (pei_var 5) (pai_cons (pei_ixT (pei_var 10) pei_int) pai_nil)))) rfl) pai_nil)) pai_nil)))) pai_nil))) sc_law.nd)
          (psis_cons (psi_setF 12 (pei_peek 11 (pei_ixL (pei_def (ok_played T) (hr.mono (by decide)) T.g_played T.F_played.kp T.b_played passE (pai_cons (pei_var 9) (pai_cons (pei_var 4) (pai_cons (pei_var 5) (pai_cons (pei_lst (pai_cons (pei_tuple T.m_tuple rfl (pai_cons (pei_var 11) pai_nil)) pai_nil)) pai_nil)))) rfl) pei_int)) sc_law.nd)
          (psis_cons (psi_unpack [13, 14, 15, 16] (pei_def (ok_checked T) (hr.mono (by decide)) T.g_checked T.F_checked.kp T.b_checked passE (pai_cons (pei_var 12) pai_nil) rfl) (by exact (pg_tup rfl (pgs_cons (pg_name (i := 13) sc_law.nd rfl (by first | exact Or.inl rfl | exact Or.inr rfl)) (pgs_cons (pg_name (i := 14) sc_law.nd rfl (by first | exact Or.inl rfl | exact Or.inr rfl)) (pgs_cons (pg_name (i := 15) sc_law.nd rfl (by first | exact Or.inl rfl | exact Or.inr rfl)) (pgs_cons (pg_name (i := 16) sc_law.nd rfl (by first | exact Or.inl rfl | exact Or.inr rfl)) pgs_nil)))))))
          (psis_cons (psi_if (pti_bool (pwi_or (pti_cmp (op_eqD (hu64 hr)) op2_eq (nomark _) (pei_var 13) pei_str) (pwi_one (pti_cmp (op_neD (hu64 hr)) op2_ne (nomark _) (pei_lcL rfl sc_law.nd (pei_var 14) (Blk.mk (own := [("_law_pair", 17)]) (tgt := (.nm 17)) (blkOk_by (N := n_law) (sc := defScope s_law) (by decide +kernel)) (by decide) (fun _ _ _ _ _ => by exact (pg_name (i := 17) sc_law.nd rfl (by first | exact Or.inl rfl | exact Or.inr rfl))) (fun _ _ _ _ _ => (ptsi_one (pti_cmp (op_inD (hu65 hr)) op2_inL (by rfl) (pei_ixT (pei_var 17) pei_int) (pei_var 15)))) (fun _ _ _ _ _ => (pei_var 17)))) (pei_lst pai_nil)))))
            (psis_one (psi_ret pei_bl))
            (psis_nil))
          (psis_cons (psi_if (pti_peek 11 (pti_not (pti_val (pei_def (ok__law_kept T) (hr.mono (by decide)) T.g__law_kept T.F__law_kept.kp T.b__law_kept passE (pai_cons (pei_var 9) (pai_cons (pei_var 12) (pai_cons (pei_tuple T.m_tuple rfl (pai_cons (pei_var 11) pai_nil)) pai_nil))) rfl))))
            (psis_one (psi_ret pei_bl))
            (psis_nil))
          (psis_one (psi_setF 9 (pei_var 12) sc_law.nd)))))))
          (psis_nil))))
      (psis_one (psi_if (pti_bool (pwi_or (pti_cmp (op_neD (hu64 hr)) op2_ne (nomark _) (pei_ixT (pei_def (ok_checked T) (hr.mono (by decide)) T.g_checked T.F_checked.kp T.b_checked passE (pai_cons (pei_def (ok_mended T) (hr.mono (by decide)) T.g_mended T.F_mended.kp T.b_mended passE (pai_cons (pei_var 9) pai_nil) rfl) pai_nil) rfl) pei_int) pei_str) (pwi_one (pti_cmp (op_neD (hu64 hr)) op2_ne (nomark _) (pei_ixT (pei_def (ok_checked T) (hr.mono (by decide)) T.g_checked T.F_checked.kp T.b_checked passE (pai_cons (pei_def (ok_mended T) (hr.mono (by decide)) T.g_mended T.F_mended.kp T.b_mended passE (pai_cons (pei_var 9) pai_nil) rfl) pai_nil) rfl) pei_int) (pei_ixT (pei_def (ok_checked T) (hr.mono (by decide)) T.g_checked T.F_checked.kp T.b_checked passE (pai_cons (pei_var 9) pai_nil) rfl) pei_int)))))
        (psis_one (psi_ret pei_bl))
        (psis_nil)))))))))))
    (psis_one (psi_ret pei_bl)), ?_⟩
  walk_at "sf"
  refine ⟨by omega, by omega, fun _ ρ => ∃ e2 e3 e4 e5 e6 e7 e8 e9 e10 e11 e12 e13 e14 e15 e16, e10 ≠ .row ∧ ρ = [.no, .row, e2, e3, e4, e5, e6, e7, e8, e9, e10, e11, e12, e13, e14, e15, e16, .no], ⟨_, _, _, _, _, _, _, _, _, _, _, _, _, _, _, (fun z => by cases z), rfl⟩, fun i ρ' hi hρ => ?_, fun ρ' hρ => ?_⟩
  · obtain ⟨e2, e3, e4, e5, e6, e7, e8, e9, e10, e11, e12, e13, e14, e15, e16, h10, rfl⟩ := hρ
    walk_at "sf"
    refine ⟨12, rfl, Nat.le_refl _, fun q ⟨f, hf, hw, hlen, er⟩ => ?_⟩
    subst er
    unfold dF
    walk_at "sf"
    have emax : max (1 : Int) (f.cells.length : Int) = ((max 1 f.cells.length : Nat) : Int) := by omega
    rw [emax]
    refine taken (13 - max 1 f.cells.length) (by omega) (by omega) fun u hu => ?_
    walk_at "sf"
    obtain ⟨room, hroom⟩ : ∃ room : Nat, room = max 1 f.cells.length + u := ⟨_, rfl⟩
    have er : ((max 1 f.cells.length : Nat) : Int) + (u : Int) = (room : Int) := by omega
    have hro : 1 ≤ room ∧ f.cells.length ≤ room ∧ room ≤ 12 := by omega
    rw [er]
    refine ⟨(f, (true, false), room, 60), rfl, ⟨hf, hro.2.2, (by show 60 ≤ 200; omega)⟩, fun q ⟨ss, fs, eq, hdo, hsl, hp⟩ => ?_⟩
    subst eq
    have hsl : ss.length ≤ 60 := hsl
    have hp : playedF f (true, false) room ss = some fs := hp
    have hnn := many_nn hp
    walk_at "sf"
    refine lcI_fm notMend (fun z => z) (by cases e10 <;> first | rfl | exact absurd rfl h10) (by rw [List.length_map]; omega) (fun d hd A B hA hB => ?_) ?_
    · obtain ⟨s, hs, rfl⟩ := List.mem_map.mp hd
      obtain ⟨d, m⟩ := s
      have hio := (hdo _ hs).2
      unfold dStep
      unfold dStep at hA hB
      cases d with
      | take n =>
        unfold dDeed
        walk_at "sf"
        exact hA rfl
      | give n =>
        unfold dDeed
        walk_at "sf"
        exact hA rfl
      | mend =>
        unfold dDeed
        walk_at "sf"
        exact hB rfl
      | other w n => cases hio
    · rw [filter_nm]
      walk_at "sf"
      refine ⟨fun j ρ => ∃ g y10 y11 y12 y13 y14 y15 y16, (Fine g ∧ stop g = none ∧ g.cells.length ≤ room) ∧ y10 ≠ .row ∧ ρ = [.no, .row, .dat (.int (i : Int)), .dat (.tuple [dL f.head, .tuple (f.cells.map dC)]), .dat (.tuple [.str (Str.ofString "head"), .str (Str.ofString "slot")]), .dat (.int (room : Int)), .dat (.list (ss.map dStep)), .dat (.list (fs.map dF)), .dat (.list ((ss.filter fun s => notMend (dStep s)).map dStep)), .dat (dF g), y10, y11, y12, y13, y14, y15, y16, .no],
        ⟨f, _, _, _, _, _, _, _, ⟨hf, whole_stop hw, hro.2.1⟩, h10, rfl⟩, fun j d ρ' hd hρ => ?_, fun ρ' hρ => ?_⟩
      · obtain ⟨g, y10, y11, y12, y13, y14, y15, y16, ⟨hg, hgs, hgl⟩, hy10, rfl⟩ := hρ
        rw [List.getElem?_map] at hd
        cases hk : (ss.filter fun s => notMend (dStep s))[j]? with
        | none => rw [hk] at hd; cases hd
        | some s =>
          rw [hk] at hd
          cases hd
          obtain ⟨hs1, hs2⟩ := List.mem_filter.mp (List.mem_of_getElem? hk)
          have hne := nm_deed hs2
          have hdo1 := (hdo _ hs1).1
          have hn1 := hnn _ hs1
          clear hk hs1 hs2
          obtain ⟨d, m⟩ := s
          simp only [dStep_eq]
          walk_at "sf"
          refine ⟨(g, (true, false), room, d), rfl, ⟨hg, hdo1⟩, fun q hq => ?_⟩
          have hq : q.frz = (optW (writesF g (true, false) room d)).frz := hq
          cases hw : writesF g (true, false) room d with
          | none =>
            rw [hw] at hq
            have hq : q.frz = .none := hq
            simp only [hq]
            walk_at "sf"
            exact ⟨g, _, _, _, _, _, _, _, ⟨hg, hgs, hgl⟩, (fun z => by cases z), rfl⟩
          | some ws =>
            rw [hw] at hq
            have hq : q.frz = .list (ws.map dW) := hq
            simp only [hq]
            walk_at "sf"
            have hwl := wsOk_len (n := 0) hg hw
            cases m with
            | none =>
              simp only [n_many_none, if_true]
              obtain ⟨kk, hkk, hdn, hfull⟩ : ∃ kk : Nat, kk ≤ ws.length ∧ doneF g ws (none) = some ((ws.take kk).foldl put g) ∧ ((none) = none → kk = ws.length) := ⟨ws.length, Nat.le_refl _, by rw [List.take_length]; rfl, fun _ => rfl⟩
              obtain ⟨hst2, hkeep⟩ := kept_done hg hgs hne hw hkk
              generalize hg2 : (ws.take kk).foldl put g = g2 at hdn hst2 hkeep
              have hkp := hkeep (none) hfull
              have hst : steppedF g (true, false) room (d, none) = some g2 := by
                unfold steppedF
                rw [hw]
                exact hdn
              have hgf := steppedF_fine hg hro.2.2 hst
              have hgr := stepped_room hg hro.2.2 hgl hst
              have hpl : playedF g (true, false) room [(d, none)] = some [g2] := by
                unfold playedF
                rw [hst]
                rfl
              refine ⟨(g, (true, false), room, [(d, none)], [g2]), rfl, ⟨hg, ⟨hro.1, hgl, hro.2.2⟩, fun s hs => by rw [List.mem_singleton.mp hs]; exact hdo1, (by show 1 ≤ 1000; omega), hpl⟩, ?_⟩
              walk_at "sf"
              refine ⟨nol_dF, g2, rfl, hgf, ?_⟩
              unfold dChecked dRows dNats
              walk_at "sf"
              refine ⟨h_wordF, ?_⟩
              simp only [word_broken, hst2, ne_eq, not_true_eq_false, decide_false]
              walk_at "sf"
              refine lcI_fm (fun _ => false) (fun z => z) rfl (by rw [List.length_map]; have := rows_len g2.cells; have := hgf.few; omega) (fun d hd A B hA hB => ?_) ?_
              · obtain ⟨p, hp, rfl⟩ := List.mem_map.mp hd
                have hnc : (chain g2).contains p = false := by
                  cases hc : (chain g2).contains p with
                  | false => rfl
                  | true =>
                    have h1 := links_free (stop_links hst2).1 p (List.contains_iff_mem.mp hc)
                    exact absurd (mem_freeL.mpr h1) (row_not_free (List.mem_filter.mp hp).2)
                unfold dRow
                walk_at "sf"
                refine ⟨rfl, (shp_ints (chain g2)).shaped (by decide), ?_⟩
                have hkk2 : ((chain g2).map dNat).any (fun z => PyData.eqv z (dNat p)) = false := by rw [show dNat p = .int (p : Int) from rfl, contains_dNat]; exact hnc
                simp only [hkk2]
                walk_at "sf"
                exact hB rfl
              · rw [List.filter_eq_nil_iff.mpr (fun _ _ => by decide)]
                walk_at "sf"
                refine ⟨(g, g2, d, none), rfl, ⟨hg, hgf, hkp⟩, ?_⟩
                walk_at "sf"
                exact ⟨g2, _, _, _, _, _, _, _, ⟨hgf, hst2, hgr⟩, (fun z => by cases z), rfl⟩
            | some k =>
              have hk0 : 0 ≤ k := hn1 k rfl
              simp only [n_many_some, Bool.false_eq_true, if_false]
              refine ⟨(g, (true, false), room, d), rfl, ⟨hg, hdo1⟩, fun q2 hq2 => ?_⟩
              have hq2 : q2.frz = (optW (writesF g (true, false) room d)).frz := hq2
              rw [hw] at hq2
              have hq2 : q2.frz = .list (ws.map dW) := hq2
              simp only [hq2, dMany_some]
              walk_at "sf"
              obtain ⟨kk, hkk, hdn, hfull⟩ : ∃ kk : Nat, kk ≤ ws.length ∧ doneF g ws (some (min k (ws.length : Int))) = some ((ws.take kk).foldl put g) ∧ ((some (min k (ws.length : Int))) = none → kk = ws.length) := ⟨(min k (ws.length : Int)).toNat, by omega, by show (if 0 ≤ min k (ws.length : Int) ∧ min k (ws.length : Int) ≤ (ws.length : Int) then _ else none) = _; rw [if_pos ⟨by omega, by omega⟩], fun z => by cases z⟩
              obtain ⟨hst2, hkeep⟩ := kept_done hg hgs hne hw hkk
              generalize hg2 : (ws.take kk).foldl put g = g2 at hdn hst2 hkeep
              have hkp := hkeep (some (min k (ws.length : Int))) hfull
              have hst : steppedF g (true, false) room (d, some (min k (ws.length : Int))) = some g2 := by
                unfold steppedF
                rw [hw]
                exact hdn
              have hgf := steppedF_fine hg hro.2.2 hst
              have hgr := stepped_room hg hro.2.2 hgl hst
              have hpl : playedF g (true, false) room [(d, some (min k (ws.length : Int)))] = some [g2] := by
                unfold playedF
                rw [hst]
                rfl
              refine ⟨(g, (true, false), room, [(d, some (min k (ws.length : Int)))], [g2]), rfl, ⟨hg, ⟨hro.1, hgl, hro.2.2⟩, fun s hs => by rw [List.mem_singleton.mp hs]; exact hdo1, (by show 1 ≤ 1000; omega), hpl⟩, ?_⟩
              walk_at "sf"
              refine ⟨nol_dF, g2, rfl, hgf, ?_⟩
              unfold dChecked dRows dNats
              walk_at "sf"
              refine ⟨h_wordF, ?_⟩
              simp only [word_broken, hst2, ne_eq, not_true_eq_false, decide_false]
              walk_at "sf"
              refine lcI_fm (fun _ => false) (fun z => z) rfl (by rw [List.length_map]; have := rows_len g2.cells; have := hgf.few; omega) (fun d hd A B hA hB => ?_) ?_
              · obtain ⟨p, hp, rfl⟩ := List.mem_map.mp hd
                have hnc : (chain g2).contains p = false := by
                  cases hc : (chain g2).contains p with
                  | false => rfl
                  | true =>
                    have h1 := links_free (stop_links hst2).1 p (List.contains_iff_mem.mp hc)
                    exact absurd (mem_freeL.mpr h1) (row_not_free (List.mem_filter.mp hp).2)
                unfold dRow
                walk_at "sf"
                refine ⟨rfl, (shp_ints (chain g2)).shaped (by decide), ?_⟩
                have hkk2 : ((chain g2).map dNat).any (fun z => PyData.eqv z (dNat p)) = false := by rw [show dNat p = .int (p : Int) from rfl, contains_dNat]; exact hnc
                simp only [hkk2]
                walk_at "sf"
                exact hB rfl
              · rw [List.filter_eq_nil_iff.mpr (fun _ _ => by decide)]
                walk_at "sf"
                refine ⟨(g, g2, d, some (min k (ws.length : Int))), rfl, ⟨hg, hgf, hkp⟩, ?_⟩
                walk_at "sf"
                exact ⟨g2, _, _, _, _, _, _, _, ⟨hgf, hst2, hgr⟩, (fun z => by cases z), rfl⟩
      · obtain ⟨g, y10, y11, y12, y13, y14, y15, y16, ⟨hg, hgs, hgl⟩, hy10, rfl⟩ := hρ
        walk_at "sf"
        have hm := mendF_fine hg
        have ew : word (mendF g) = sWhole := eq_of_beq (by rw [word_whole]; exact mendF_whole g)
        have er2 : dRows (mendF g).cells = dRows g.cells := mend_rows
        refine ⟨g, rfl, hg, mendF g, rfl, hm, ?_⟩
        unfold dChecked
        walk_at "sf"
        rw [ew]
        walk_at "sf"
        refine ⟨g, rfl, hg, mendF g, rfl, hm, ?_⟩
        unfold dChecked
        walk_at "sf"
        refine ⟨g, rfl, hg, ?_⟩
        unfold dChecked
        walk_at "sf"
        rw [er2]
        simp only [eqv_rows, h_rows]
        walk_at "sf"
        exact ⟨_, _, _, _, _, _, _, _, _, _, _, _, _, _, _, hy10, rfl⟩
  · obtain ⟨e2, e3, e4, e5, e6, e7, e8, e9, e10, e11, e12, e13, e14, e15, e16, h10, rfl⟩ := hρ
    walk_at "sf"
end
theorem im_firsts {K : PySem.W.Frag} {a : Addr} {ta tb} {od : Option Addr} {n} {sl : Array (Option Value)} (h : K.lookup a = some ⟨.type "tuple", od, .seq #[.str (Str.ofString "head") ta, .str (Str.ofString "slot") tb] n, sl⟩) : ∀ G, Im K G (.tuple [.str (Str.ofString "head"), .str (Str.ofString "slot")]) (.ref a) := fun G => by
  rw [im_tuple]
  refine ⟨a, [.str (Str.ofString "head"), .str (Str.ofString "slot")], rfl, .inr ⟨_, _, _, h, rfl, rfl, (by show 2 ≤ sizeLine; decide), .cons ⟨_, rfl⟩ (.cons ⟨_, rfl⟩ .nil)⟩, ?_⟩
  exact .cons (by rw [im_str]) (.cons (by rw [im_str]) .nil)
theorem all_mk {l : PySem.W.OpenLaw} {w : World} {K : PySem.W.Frag} {h : Heap} {mg : Str → Option Value} {fa f0 f1 f2 f3 f4 f5 f6 f7 f8 f9 f10 f11 f12 f13 f14 f15 f16 f17 f18 f19 f20 f21 f22 f23 f24 f25 f26 f27 f28 f29 : Addr} (X : K.In h) (G : h.Ns mainGlobals mg) (hfa : mg "law" = some (.ref fa))
    {od0 an0 od1 an1 od2 an2 od3 an3 od4 an4 od5 an5 od6 an6 od7 an7 od8 an8 od9 an9 od10 an10 od11 an11 od12 an12 od13 an13 od14 an14 od15 an15 od16 an16 od17 an17 od18 an18 od19 an19 od20 an20 od21 an21 od22 an22 od23 an23 od24 an24 od25 an25 od26 an26 od27 an27 od28 an28 od29 an29 : Option Addr} {sl0 sl1 sl2 sl3 sl4 sl5 sl6 sl7 sl8 sl9 sl10 sl11 sl12 sl13 sl14 sl15 sl16 sl17 sl18 sl19 sl20 sl21 sl22 sl23 sl24 sl25 sl26 sl27 sl28 sl29 : Array (Option Value)} {oc0 kV0 dc0 pm0 cd0 ct0 oc1 kV1 dc1 pm1 cd1 ct1 oc2 kV2 dc2 pm2 cd2 ct2 oc3 kV3 dc3 pm3 cd3 ct3 oc4 kV4 dc4 pm4 cd4 ct4 oc5 kV5 dc5 pm5 cd5 ct5 oc6 kV6 dc6 pm6 cd6 ct6 oc7 kV7 dc7 pm7 cd7 ct7 oc8 kV8 dc8 pm8 cd8 ct8 oc9 kV9 dc9 pm9 cd9 ct9 oc10 kV10 dc10 pm10 cd10 ct10 oc11 kV11 dc11 pm11 cd11 ct11 oc12 kV12 dc12 pm12 cd12 ct12 oc13 kV13 dc13 pm13 cd13 ct13 oc14 kV14 dc14 pm14 cd14 ct14 oc15 kV15 dc15 pm15 cd15 ct15 oc16 kV16 dc16 pm16 cd16 ct16 oc17 kV17 dc17 pm17 cd17 ct17 oc18 kV18 dc18 pm18 cd18 ct18 oc19 kV19 dc19 pm19 cd19 ct19 oc20 kV20 dc20 pm20 cd20 ct20 oc21 kV21 dc21 pm21 cd21 ct21 oc22 kV22 dc22 pm22 cd22 ct22 oc23 kV23 dc23 pm23 cd23 ct23 oc24 kV24 dc24 pm24 cd24 ct24 oc25 kV25 dc25 pm25 cd25 ct25 oc26 kV26 dc26 pm26 cd26 ct26 oc27 kV27 dc27 pm27 cd27 ct27 oc28 kV28 dc28 pm28 cd28 ct28 oc29 kV29 dc29 pm29 cd29 ct29 : Value} {t0} {t1} {t2} {t3} {t4a t4b} {ac4 : Addr} {odc4 : Option Addr} {nc4} {slc4 : Array (Option Value)}
    (a0 : PySem.W.nsIn K mainGlobals "is_link" = some (some (.ref f0))) (l0 : K.lookup f0 = some ⟨oc0, od0, .func (PySem.W.fnOf "is_link" "is_link" (defArgs s_is_link) (defBody s_is_link) (defScope s_is_link) .none kV0 dc0 pm0 an0 cd0 ct0), sl0⟩) (c0 : PySem.W.codeIn K cd0 "is_link" = true) (k0 : PySem.W.keepIn K (.ref f0) = true)
    (a1 : PySem.W.nsIn K mainGlobals "is_cell" = some (some (.ref f1))) (l1 : K.lookup f1 = some ⟨oc1, od1, .func (PySem.W.fnOf "is_cell" "is_cell" (defArgs s_is_cell) (defBody s_is_cell) (defScope s_is_cell) .none kV1 dc1 pm1 an1 cd1 ct1), sl1⟩) (c1 : PySem.W.codeIn K cd1 "is_cell" = true) (k1 : PySem.W.keepIn K (.ref f1) = true)
    (a2 : PySem.W.nsIn K mainGlobals "need_file" = some (some (.ref f2))) (l2 : K.lookup f2 = some ⟨oc2, od2, .func (PySem.W.fnOf "need_file" "need_file" (defArgs s_need_file) (defBody s_need_file) (defScope s_need_file) .none kV2 dc2 pm2 an2 cd2 ct2), sl2⟩) (c2 : PySem.W.codeIn K cd2 "need_file" = true) (k2 : PySem.W.keepIn K (.ref f2) = true)
    (a3 : PySem.W.nsIn K mainGlobals "chain_of" = some (some (.ref f3))) (l3 : K.lookup f3 = some ⟨oc3, od3, .func (PySem.W.fnOf "chain_of" "chain_of" (defArgs s_chain_of) (defBody s_chain_of) (defScope s_chain_of) .none kV3 dc3 pm3 an3 cd3 ct3), sl3⟩) (c3 : PySem.W.codeIn K cd3 "chain_of" = true) (k3 : PySem.W.keepIn K (.ref f3) = true)
    (a4 : PySem.W.nsIn K mainGlobals "rows_of" = some (some (.ref f4))) (l4 : K.lookup f4 = some ⟨oc4, od4, .func (PySem.W.fnOf "rows_of" "rows_of" (defArgs s_rows_of) (defBody s_rows_of) (defScope s_rows_of) .none kV4 dc4 pm4 an4 cd4 ct4), sl4⟩) (c4 : PySem.W.codeIn K cd4 "rows_of" = true) (k4 : PySem.W.keepIn K (.ref f4) = true)
    (a5 : PySem.W.nsIn K mainGlobals "looked_over" = some (some (.ref f5))) (l5 : K.lookup f5 = some ⟨oc5, od5, .func (PySem.W.fnOf "looked_over" "looked_over" (defArgs s_looked_over) (defBody s_looked_over) (defScope s_looked_over) .none kV5 dc5 pm5 an5 cd5 ct5), sl5⟩) (c5 : PySem.W.codeIn K cd5 "looked_over" = true) (k5 : PySem.W.keepIn K (.ref f5) = true)
    (a6 : PySem.W.nsIn K mainGlobals "checked" = some (some (.ref f6))) (l6 : K.lookup f6 = some ⟨oc6, od6, .func (PySem.W.fnOf "checked" "checked" (defArgs s_checked) (defBody s_checked) (defScope s_checked) .none kV6 dc6 pm6 an6 cd6 ct6), sl6⟩) (c6 : PySem.W.codeIn K cd6 "checked" = true) (k6 : PySem.W.keepIn K (.ref f6) = true)
    (a7 : PySem.W.nsIn K mainGlobals "chained" = some (some (.ref f7))) (l7 : K.lookup f7 = some ⟨oc7, od7, .func (PySem.W.fnOf "chained" "chained" (defArgs s_chained) (defBody s_chained) (defScope s_chained) .none kV7 dc7 pm7 an7 cd7 ct7), sl7⟩) (c7 : PySem.W.codeIn K cd7 "chained" = true) (k7 : PySem.W.keepIn K (.ref f7) = true)
    (a8 : PySem.W.nsIn K mainGlobals "mended_of" = some (some (.ref f8))) (l8 : K.lookup f8 = some ⟨oc8, od8, .func (PySem.W.fnOf "mended_of" "mended_of" (defArgs s_mended_of) (defBody s_mended_of) (defScope s_mended_of) .none kV8 dc8 pm8 an8 cd8 ct8), sl8⟩) (c8 : PySem.W.codeIn K cd8 "mended_of" = true) (k8 : PySem.W.keepIn K (.ref f8) = true)
    (a9 : PySem.W.nsIn K mainGlobals "mended" = some (some (.ref f9))) (l9 : K.lookup f9 = some ⟨oc9, od9, .func (PySem.W.fnOf "mended" "mended" (defArgs s_mended) (defBody s_mended) (defScope s_mended) .none kV9 dc9 pm9 an9 cd9 ct9), sl9⟩) (c9 : PySem.W.codeIn K cd9 "mended" = true) (k9 : PySem.W.keepIn K (.ref f9) = true)
    (a10 : PySem.W.nsIn K mainGlobals "mends_of" = some (some (.ref f10))) (l10 : K.lookup f10 = some ⟨oc10, od10, .func (PySem.W.fnOf "mends_of" "mends_of" (defArgs s_mends_of) (defBody s_mends_of) (defScope s_mends_of) .none kV10 dc10 pm10 an10 cd10 ct10), sl10⟩) (c10 : PySem.W.codeIn K cd10 "mends_of" = true) (k10 : PySem.W.keepIn K (.ref f10) = true)
    (a11 : PySem.W.nsIn K mainGlobals "need_rule" = some (some (.ref f11))) (l11 : K.lookup f11 = some ⟨oc11, od11, .func (PySem.W.fnOf "need_rule" "need_rule" (defArgs s_need_rule) (defBody s_need_rule) (defScope s_need_rule) .none kV11 dc11 pm11 an11 cd11 ct11), sl11⟩) (c11 : PySem.W.codeIn K cd11 "need_rule" = true) (k11 : PySem.W.keepIn K (.ref f11) = true)
    (a12 : PySem.W.nsIn K mainGlobals "need_room" = some (some (.ref f12))) (l12 : K.lookup f12 = some ⟨oc12, od12, .func (PySem.W.fnOf "need_room" "need_room" (defArgs s_need_room) (defBody s_need_room) (defScope s_need_room) .none kV12 dc12 pm12 an12 cd12 ct12), sl12⟩) (c12 : PySem.W.codeIn K cd12 "need_room" = true) (k12 : PySem.W.keepIn K (.ref f12) = true)
    (a13 : PySem.W.nsIn K mainGlobals "in_order" = some (some (.ref f13))) (l13 : K.lookup f13 = some ⟨oc13, od13, .func (PySem.W.fnOf "in_order" "in_order" (defArgs s_in_order) (defBody s_in_order) (defScope s_in_order) .none kV13 dc13 pm13 an13 cd13 ct13), sl13⟩) (c13 : PySem.W.codeIn K cd13 "in_order" = true) (k13 : PySem.W.keepIn K (.ref f13) = true)
    (a14 : PySem.W.nsIn K mainGlobals "take_writes" = some (some (.ref f14))) (l14 : K.lookup f14 = some ⟨oc14, od14, .func (PySem.W.fnOf "take_writes" "take_writes" (defArgs s_take_writes) (defBody s_take_writes) (defScope s_take_writes) .none kV14 dc14 pm14 an14 cd14 ct14), sl14⟩) (c14 : PySem.W.codeIn K cd14 "take_writes" = true) (k14 : PySem.W.keepIn K (.ref f14) = true)
    (a15 : PySem.W.nsIn K mainGlobals "writes_of" = some (some (.ref f15))) (l15 : K.lookup f15 = some ⟨oc15, od15, .func (PySem.W.fnOf "writes_of" "writes_of" (defArgs s_writes_of) (defBody s_writes_of) (defScope s_writes_of) .none kV15 dc15 pm15 an15 cd15 ct15), sl15⟩) (c15 : PySem.W.codeIn K cd15 "writes_of" = true) (k15 : PySem.W.keepIn K (.ref f15) = true)
    (a16 : PySem.W.nsIn K mainGlobals "written_in" = some (some (.ref f16))) (l16 : K.lookup f16 = some ⟨oc16, od16, .func (PySem.W.fnOf "written_in" "written_in" (defArgs s_written_in) (defBody s_written_in) (defScope s_written_in) .none kV16 dc16 pm16 an16 cd16 ct16), sl16⟩) (c16 : PySem.W.codeIn K cd16 "written_in" = true) (k16 : PySem.W.keepIn K (.ref f16) = true)
    (a17 : PySem.W.nsIn K mainGlobals "stepped" = some (some (.ref f17))) (l17 : K.lookup f17 = some ⟨oc17, od17, .func (PySem.W.fnOf "stepped" "stepped" (defArgs s_stepped) (defBody s_stepped) (defScope s_stepped) .none kV17 dc17 pm17 an17 cd17 ct17), sl17⟩) (c17 : PySem.W.codeIn K cd17 "stepped" = true) (k17 : PySem.W.keepIn K (.ref f17) = true)
    (a18 : PySem.W.nsIn K mainGlobals "played" = some (some (.ref f18))) (l18 : K.lookup f18 = some ⟨oc18, od18, .func (PySem.W.fnOf "played" "played" (defArgs s_played) (defBody s_played) (defScope s_played) .none kV18 dc18 pm18 an18 cd18 ct18), sl18⟩) (c18 : PySem.W.codeIn K cd18 "played" = true) (k18 : PySem.W.keepIn K (.ref f18) = true)
    (a19 : PySem.W.nsIn K mainGlobals "_law_taken" = some (some (.ref f19))) (l19 : K.lookup f19 = some ⟨oc19, od19, .func (PySem.W.fnOf "_law_taken" "_law_taken" (defArgs s__law_taken) (defBody s__law_taken) (defScope s__law_taken) .none kV19 dc19 pm19 an19 cd19 ct19), sl19⟩) (c19 : PySem.W.codeIn K cd19 "_law_taken" = true) (k19 : PySem.W.keepIn K (.ref f19) = true)
    (a20 : PySem.W.nsIn K mainGlobals "_law_whole" = some (some (.ref f20))) (l20 : K.lookup f20 = some ⟨oc20, od20, .func (PySem.W.fnOf "_law_whole" "_law_whole" (defArgs s__law_whole) (defBody s__law_whole) (defScope s__law_whole) .none kV20 dc20 pm20 an20 cd20 ct20), sl20⟩) (c20 : PySem.W.codeIn K cd20 "_law_whole" = true) (k20 : PySem.W.keepIn K (.ref f20) = true)
    (a21 : PySem.W.nsIn K mainGlobals "_law_checked" = some (some (.ref f21))) (l21 : K.lookup f21 = some ⟨oc21, od21, .func (PySem.W.fnOf "_law_checked" "_law_checked" (defArgs s__law_checked) (defBody s__law_checked) (defScope s__law_checked) .none kV21 dc21 pm21 an21 cd21 ct21), sl21⟩) (c21 : PySem.W.codeIn K cd21 "_law_checked" = true) (k21 : PySem.W.keepIn K (.ref f21) = true)
    (a22 : PySem.W.nsIn K mainGlobals "_law_mends" = some (some (.ref f22))) (l22 : K.lookup f22 = some ⟨oc22, od22, .func (PySem.W.fnOf "_law_mends" "_law_mends" (defArgs s__law_mends) (defBody s__law_mends) (defScope s__law_mends) .none kV22 dc22 pm22 an22 cd22 ct22), sl22⟩) (c22 : PySem.W.codeIn K cd22 "_law_mends" = true) (k22 : PySem.W.keepIn K (.ref f22) = true)
    (a23 : PySem.W.nsIn K mainGlobals "_law_writes" = some (some (.ref f23))) (l23 : K.lookup f23 = some ⟨oc23, od23, .func (PySem.W.fnOf "_law_writes" "_law_writes" (defArgs s__law_writes) (defBody s__law_writes) (defScope s__law_writes) .none kV23 dc23 pm23 an23 cd23 ct23), sl23⟩) (c23 : PySem.W.codeIn K cd23 "_law_writes" = true) (k23 : PySem.W.keepIn K (.ref f23) = true)
    (a24 : PySem.W.nsIn K mainGlobals "_law_behind" = some (some (.ref f24))) (l24 : K.lookup f24 = some ⟨oc24, od24, .func (PySem.W.fnOf "_law_behind" "_law_behind" (defArgs s__law_behind) (defBody s__law_behind) (defScope s__law_behind) .none kV24 dc24 pm24 an24 cd24 ct24), sl24⟩) (c24 : PySem.W.codeIn K cd24 "_law_behind" = true) (k24 : PySem.W.keepIn K (.ref f24) = true)
    (a25 : PySem.W.nsIn K mainGlobals "_law_deed" = some (some (.ref f25))) (l25 : K.lookup f25 = some ⟨oc25, od25, .func (PySem.W.fnOf "_law_deed" "_law_deed" (defArgs s__law_deed) (defBody s__law_deed) (defScope s__law_deed) .none kV25 dc25 pm25 an25 cd25 ct25), sl25⟩) (c25 : PySem.W.codeIn K cd25 "_law_deed" = true) (k25 : PySem.W.keepIn K (.ref f25) = true)
    (a26 : PySem.W.nsIn K mainGlobals "_law_step" = some (some (.ref f26))) (l26 : K.lookup f26 = some ⟨oc26, od26, .func (PySem.W.fnOf "_law_step" "_law_step" (defArgs s__law_step) (defBody s__law_step) (defScope s__law_step) .none kV26 dc26 pm26 an26 cd26 ct26), sl26⟩) (c26 : PySem.W.codeIn K cd26 "_law_step" = true) (k26 : PySem.W.keepIn K (.ref f26) = true)
    (a27 : PySem.W.nsIn K mainGlobals "_law_played" = some (some (.ref f27))) (l27 : K.lookup f27 = some ⟨oc27, od27, .func (PySem.W.fnOf "_law_played" "_law_played" (defArgs s__law_played) (defBody s__law_played) (defScope s__law_played) .none kV27 dc27 pm27 an27 cd27 ct27), sl27⟩) (c27 : PySem.W.codeIn K cd27 "_law_played" = true) (k27 : PySem.W.keepIn K (.ref f27) = true)
    (a28 : PySem.W.nsIn K mainGlobals "_law_kept" = some (some (.ref f28))) (l28 : K.lookup f28 = some ⟨oc28, od28, .func (PySem.W.fnOf "_law_kept" "_law_kept" (defArgs s__law_kept) (defBody s__law_kept) (defScope s__law_kept) .none kV28 dc28 pm28 an28 cd28 ct28), sl28⟩) (c28 : PySem.W.codeIn K cd28 "_law_kept" = true) (k28 : PySem.W.keepIn K (.ref f28) = true)
    (a29 : PySem.W.nsIn K mainGlobals "law" = some (some (.ref f29))) (l29 : K.lookup f29 = some ⟨oc29, od29, .func (PySem.W.fnOf "law" "law" (defArgs s_law) (defBody s_law) (defScope s_law) .none kV29 dc29 pm29 an29 cd29 ct29), sl29⟩) (c29 : PySem.W.codeIn K cd29 "law" = true) (k29 : PySem.W.keepIn K (.ref f29) = true)
    (z0 : PySem.W.nsIn K mainGlobals "len" = some none)
    (z1 : PySem.W.nsIn K mainGlobals "range" = some none)
    (z2 : PySem.W.nsIn K mainGlobals "list" = some none)
    (z3 : PySem.W.nsIn K mainGlobals "tuple" = some none)
    (z4 : PySem.W.nsIn K mainGlobals "max" = some none)
    (z5 : PySem.W.nsIn K mainGlobals "int" = some none)
    (z6 : PySem.W.nsIn K mainGlobals "dict" = some none)
    (z7 : PySem.W.nsIn K mainGlobals "min" = some none)
    (x0 : PySem.W.nsIn K mainGlobals "MOST_SLOTS" = some (some (.int 12 t0)))
    (x1 : PySem.W.nsIn K mainGlobals "MOST_NUMBER" = some (some (.int 999 t1)))
    (x2 : PySem.W.nsIn K mainGlobals "ROW" = some (some (.str (Str.ofString "row") t2)))
    (x3 : PySem.W.nsIn K mainGlobals "FREE" = some (some (.str (Str.ofString "free") t3)))
    (x4 : PySem.W.nsIn K mainGlobals "FIRSTS" = some (some (.ref ac4))) (y4 : K.lookup ac4 = some ⟨.type "tuple", odc4, .seq #[.str (Str.ofString "head") t4a, .str (Str.ofString "slot") t4b] nc4, slc4⟩) :
    ∃ fd : FuncData, (∀ (s : Shared) (v : Value), BindsTo s fd ⟨[v], []⟩ [("_law_script", v)]) ∧ ∀ base : Heap, K.In base → base.Ns mainGlobals mg → FnOk l.prog w K mg base CX0 8 fa fd ["_law_script"] (spL K) := by
  have e := hfa.symm.trans (PySem.W.mg_of X G a29)
  cases e
  have T : ∃ T : Txt K mg, T.f_law = fa ∧ T.fd_law = PySem.W.fnOf "law" "law" (defArgs s_law) (defBody s_law) (defScope s_law) .none kV29 dc29 pm29 an29 cd29 ct29 := ⟨{ f_is_link := f0, fd_is_link := _, F_is_link := fun_mk (st := s_is_link) l0 c0 k0, b_is_link := (fun_mk (st := s_is_link) l0 c0 k0).binds (ps := ["cells", "place"]) fun _ _ _ _ _ _ us hl => match us, hl with | [_, _], _ => rfl, g_is_link := PySem.W.mg_of X G a0, f_is_cell := f1, fd_is_cell := _, F_is_cell := fun_mk (st := s_is_cell) l1 c1 k1, b_is_cell := (fun_mk (st := s_is_cell) l1 c1 k1).binds (ps := ["cells", "cell"]) fun _ _ _ _ _ _ us hl => match us, hl with | [_, _], _ => rfl, g_is_cell := PySem.W.mg_of X G a1, f_need_file := f2, fd_need_file := _, F_need_file := fun_mk (st := s_need_file) l2 c2 k2, b_need_file := (fun_mk (st := s_need_file) l2 c2 k2).binds (ps := ["file"]) fun _ _ _ _ _ _ us hl => match us, hl with | [_], _ => rfl, g_need_file := PySem.W.mg_of X G a2, f_chain_of := f3, fd_chain_of := _, F_chain_of := fun_mk (st := s_chain_of) l3 c3 k3, b_chain_of := (fun_mk (st := s_chain_of) l3 c3 k3).binds (ps := ["file"]) fun _ _ _ _ _ _ us hl => match us, hl with | [_], _ => rfl, g_chain_of := PySem.W.mg_of X G a3, f_rows_of := f4, fd_rows_of := _, F_rows_of := fun_mk (st := s_rows_of) l4 c4 k4, b_rows_of := (fun_mk (st := s_rows_of) l4 c4 k4).binds (ps := ["file"]) fun _ _ _ _ _ _ us hl => match us, hl with | [_], _ => rfl, g_rows_of := PySem.W.mg_of X G a4, f_looked_over := f5, fd_looked_over := _, F_looked_over := fun_mk (st := s_looked_over) l5 c5 k5, b_looked_over := (fun_mk (st := s_looked_over) l5 c5 k5).binds (ps := ["file"]) fun _ _ _ _ _ _ us hl => match us, hl with | [_], _ => rfl, g_looked_over := PySem.W.mg_of X G a5, f_checked := f6, fd_checked := _, F_checked := fun_mk (st := s_checked) l6 c6 k6, b_checked := (fun_mk (st := s_checked) l6 c6 k6).binds (ps := ["file"]) fun _ _ _ _ _ _ us hl => match us, hl with | [_], _ => rfl, g_checked := PySem.W.mg_of X G a6, f_chained := f7, fd_chained := _, F_chained := fun_mk (st := s_chained) l7 c7 k7, b_chained := (fun_mk (st := s_chained) l7 c7 k7).binds (ps := ["cells", "places"]) fun _ _ _ _ _ _ us hl => match us, hl with | [_, _], _ => rfl, g_chained := PySem.W.mg_of X G a7, f_mended_of := f8, fd_mended_of := _, F_mended_of := fun_mk (st := s_mended_of) l8 c8 k8, b_mended_of := (fun_mk (st := s_mended_of) l8 c8 k8).binds (ps := ["file"]) fun _ _ _ _ _ _ us hl => match us, hl with | [_], _ => rfl, g_mended_of := PySem.W.mg_of X G a8, f_mended := f9, fd_mended := _, F_mended := fun_mk (st := s_mended) l9 c9 k9, b_mended := (fun_mk (st := s_mended) l9 c9 k9).binds (ps := ["file"]) fun _ _ _ _ _ _ us hl => match us, hl with | [_], _ => rfl, g_mended := PySem.W.mg_of X G a9, f_mends_of := f10, fd_mends_of := _, F_mends_of := fun_mk (st := s_mends_of) l10 c10 k10, b_mends_of := (fun_mk (st := s_mends_of) l10 c10 k10).binds (ps := ["file"]) fun _ _ _ _ _ _ us hl => match us, hl with | [_], _ => rfl, g_mends_of := PySem.W.mg_of X G a10, f_need_rule := f11, fd_need_rule := _, F_need_rule := fun_mk (st := s_need_rule) l11 c11 k11, b_need_rule := (fun_mk (st := s_need_rule) l11 c11 k11).binds (ps := ["rule"]) fun _ _ _ _ _ _ us hl => match us, hl with | [_], _ => rfl, g_need_rule := PySem.W.mg_of X G a11, f_need_room := f12, fd_need_room := _, F_need_room := fun_mk (st := s_need_room) l12 c12 k12, b_need_room := (fun_mk (st := s_need_room) l12 c12 k12).binds (ps := ["file", "room"]) fun _ _ _ _ _ _ us hl => match us, hl with | [_, _], _ => rfl, g_need_room := PySem.W.mg_of X G a12, f_in_order := f13, fd_in_order := _, F_in_order := fun_mk (st := s_in_order) l13 c13 k13, b_in_order := (fun_mk (st := s_in_order) l13 c13 k13).binds (ps := ["first", "head", "slot"]) fun _ _ _ _ _ _ us hl => match us, hl with | [_, _, _], _ => rfl, g_in_order := PySem.W.mg_of X G a13, f_take_writes := f14, fd_take_writes := _, F_take_writes := fun_mk (st := s_take_writes) l14 c14 k14, b_take_writes := (fun_mk (st := s_take_writes) l14 c14 k14).binds (ps := ["file", "rule", "room", "number"]) fun _ _ _ _ _ _ us hl => match us, hl with | [_, _, _, _], _ => rfl, g_take_writes := PySem.W.mg_of X G a14, f_writes_of := f15, fd_writes_of := _, F_writes_of := fun_mk (st := s_writes_of) l15 c15 k15, b_writes_of := (fun_mk (st := s_writes_of) l15 c15 k15).binds (ps := ["file", "rule", "room", "deed"]) fun _ _ _ _ _ _ us hl => match us, hl with | [_, _, _, _], _ => rfl, g_writes_of := PySem.W.mg_of X G a15, f_written_in := f16, fd_written_in := _, F_written_in := fun_mk (st := s_written_in) l16 c16 k16, b_written_in := (fun_mk (st := s_written_in) l16 c16 k16).binds (ps := ["file", "write"]) fun _ _ _ _ _ _ us hl => match us, hl with | [_, _], _ => rfl, g_written_in := PySem.W.mg_of X G a16, f_stepped := f17, fd_stepped := _, F_stepped := fun_mk (st := s_stepped) l17 c17 k17, b_stepped := (fun_mk (st := s_stepped) l17 c17 k17).binds (ps := ["file", "rule", "room", "step"]) fun _ _ _ _ _ _ us hl => match us, hl with | [_, _, _, _], _ => rfl, g_stepped := PySem.W.mg_of X G a17, f_played := f18, fd_played := _, F_played := fun_mk (st := s_played) l18 c18 k18, b_played := (fun_mk (st := s_played) l18 c18 k18).binds (ps := ["file", "rule", "room", "steps"]) fun _ _ _ _ _ _ us hl => match us, hl with | [_, _, _, _], _ => rfl, g_played := PySem.W.mg_of X G a18, f__law_taken := f19, fd__law_taken := _, F__law_taken := fun_mk (st := s__law_taken) l19 c19 k19, b__law_taken := (fun_mk (st := s__law_taken) l19 c19 k19).binds (ps := ["_law_row", "_law_many"]) fun _ _ _ _ _ _ us hl => match us, hl with | [_, _], _ => rfl, g__law_taken := PySem.W.mg_of X G a19, f__law_whole := f20, fd__law_whole := _, F__law_whole := fun_mk (st := s__law_whole) l20 c20 k20, b__law_whole := (fun_mk (st := s__law_whole) l20 c20 k20).binds (ps := ["_law_row", "_law_most"]) fun _ _ _ _ _ _ us hl => match us, hl with | [_, _], _ => rfl, g__law_whole := PySem.W.mg_of X G a20, f__law_checked := f21, fd__law_checked := _, F__law_checked := fun_mk (st := s__law_checked) l21 c21 k21, b__law_checked := (fun_mk (st := s__law_checked) l21 c21 k21).binds (ps := ["_law_file"]) fun _ _ _ _ _ _ us hl => match us, hl with | [_], _ => rfl, g__law_checked := PySem.W.mg_of X G a21, f__law_mends := f22, fd__law_mends := _, F__law_mends := fun_mk (st := s__law_mends) l22 c22 k22, b__law_mends := (fun_mk (st := s__law_mends) l22 c22 k22).binds (ps := ["_law_file"]) fun _ _ _ _ _ _ us hl => match us, hl with | [_], _ => rfl, g__law_mends := PySem.W.mg_of X G a22, f__law_writes := f23, fd__law_writes := _, F__law_writes := fun_mk (st := s__law_writes) l23 c23 k23, b__law_writes := (fun_mk (st := s__law_writes) l23 c23 k23).binds (ps := ["_law_file", "_law_rule", "_law_room", "_law_deed_here"]) fun _ _ _ _ _ _ us hl => match us, hl with | [_, _, _, _], _ => rfl, g__law_writes := PySem.W.mg_of X G a23, f__law_behind := f24, fd__law_behind := _, F__law_behind := fun_mk (st := s__law_behind) l24 c24 k24, b__law_behind := (fun_mk (st := s__law_behind) l24 c24 k24).binds (ps := ["_law_file", "_law_rule", "_law_room", "_law_step_here"]) fun _ _ _ _ _ _ us hl => match us, hl with | [_, _, _, _], _ => rfl, g__law_behind := PySem.W.mg_of X G a24, f__law_deed := f25, fd__law_deed := _, F__law_deed := fun_mk (st := s__law_deed) l25 c25 k25, b__law_deed := (fun_mk (st := s__law_deed) l25 c25 k25).binds (ps := ["_law_row", "_law_file", "_law_rule", "_law_room"]) fun _ _ _ _ _ _ us hl => match us, hl with | [_, _, _, _], _ => rfl, g__law_deed := PySem.W.mg_of X G a25, f__law_step := f26, fd__law_step := _, F__law_step := fun_mk (st := s__law_step) l26 c26 k26, b__law_step := (fun_mk (st := s__law_step) l26 c26 k26).binds (ps := ["_law_row", "_law_file", "_law_rule", "_law_room", "_law_whole_here"]) fun _ _ _ _ _ _ us hl => match us, hl with | [_, _, _, _, _], _ => rfl, g__law_step := PySem.W.mg_of X G a26, f__law_played := f27, fd__law_played := _, F__law_played := fun_mk (st := s__law_played) l27 c27 k27, b__law_played := (fun_mk (st := s__law_played) l27 c27 k27).binds (ps := ["_law_row", "_law_file", "_law_rule", "_law_room", "_law_most"]) fun _ _ _ _ _ _ us hl => match us, hl with | [_, _, _, _, _], _ => rfl, g__law_played := PySem.W.mg_of X G a27, f__law_kept := f28, fd__law_kept := _, F__law_kept := fun_mk (st := s__law_kept) l28 c28 k28, b__law_kept := (fun_mk (st := s__law_kept) l28 c28 k28).binds (ps := ["_law_before", "_law_after", "_law_step_here"]) fun _ _ _ _ _ _ us hl => match us, hl with | [_, _, _], _ => rfl, g__law_kept := PySem.W.mg_of X G a28, f_law := fa, fd_law := _, F_law := fun_mk (st := s_law) l29 c29 k29, b_law := (fun_mk (st := s_law) l29 c29 k29).binds (ps := ["_law_script"]) fun _ _ _ _ _ _ us hl => match us, hl with | [_], _ => rfl, g_law := PySem.W.mg_of X G a29, m_len := PySem.W.mg_none_of X G z0, m_range := PySem.W.mg_none_of X G z1, m_list := PySem.W.mg_none_of X G z2, m_tuple := PySem.W.mg_none_of X G z3, m_max := PySem.W.mg_none_of X G z4, m_int := PySem.W.mg_none_of X G z5, m_dict := PySem.W.mg_none_of X G z6, m_min := PySem.W.mg_none_of X G z7, c_MOST_SLOTS := ⟨_, PySem.W.mg_of X G x0⟩, c_MOST_NUMBER := ⟨_, PySem.W.mg_of X G x1⟩, c_ROW := ⟨_, PySem.W.mg_of X G x2⟩, c_FREE := ⟨_, PySem.W.mg_of X G x3⟩, a_FIRSTS := ac4, c_FIRSTS := PySem.W.mg_of X G x4, i_FIRSTS := im_firsts y4 }, rfl, rfl⟩
  obtain ⟨T, e1, e2⟩ := T
  subst e1
  refine ⟨T.fd_law, fun s v => by rw [e2]; exact .of_eq rfl, fun base _ _ => ok_law T⟩
end SF
open PySem PySem.W PyProof.Rows
set_option maxHeartbeats 0 in
theorem PySem.Challenge.cw_slotfile_k06_whole_the_safe_order_holds : PySem.Challenge.rw_slotfile_k06_whole_the_safe_order.Holds := by
  w_on; o_law; k_head; (case hw => w_witness2)
  k_fill
  refine L2.walk_of (l := PySem.Challenge.rw_slotfile_k06_whole_the_safe_order) (n := 63) (k := 8) (x := "_law_script") (CX := fun _ => L2.CX0) (sp := fun w => SF.spL _) rfl (by decide) rfl ⟨rfl, by decide, by decide⟩ (fun w h Y => PySem.W.kIn_of Y) ?F (fun _ _ a ns hl ho hS => ⟨a, ns, rfl, ho, hS, fun _ => rfl⟩) (fun _ _ _ _ _ h => h)
  case F =>
    intro w mg fa h KX G hmg
    refine' SF.all_mk KX G hmg ?a0 ?l0 ?c0 ?k0 ?a1 ?l1 ?c1 ?k1 ?a2 ?l2 ?c2 ?k2 ?a3 ?l3 ?c3 ?k3 ?a4 ?l4 ?c4 ?k4 ?a5 ?l5 ?c5 ?k5 ?a6 ?l6 ?c6 ?k6 ?a7 ?l7 ?c7 ?k7 ?a8 ?l8 ?c8 ?k8 ?a9 ?l9 ?c9 ?k9 ?a10 ?l10 ?c10 ?k10 ?a11 ?l11 ?c11 ?k11 ?a12 ?l12 ?c12 ?k12 ?a13 ?l13 ?c13 ?k13 ?a14 ?l14 ?c14 ?k14 ?a15 ?l15 ?c15 ?k15 ?a16 ?l16 ?c16 ?k16 ?a17 ?l17 ?c17 ?k17 ?a18 ?l18 ?c18 ?k18 ?a19 ?l19 ?c19 ?k19 ?a20 ?l20 ?c20 ?k20 ?a21 ?l21 ?c21 ?k21 ?a22 ?l22 ?c22 ?k22 ?a23 ?l23 ?c23 ?k23 ?a24 ?l24 ?c24 ?k24 ?a25 ?l25 ?c25 ?k25 ?a26 ?l26 ?c26 ?k26 ?a27 ?l27 ?c27 ?k27 ?a28 ?l28 ?c28 ?k28 ?a29 ?l29 ?c29 ?k29 ?z0 ?z1 ?z2 ?z3 ?z4 ?z5 ?z6 ?z7 ?x0 ?x1 ?x2 ?x3 ?x4 ?y4
    (case a0 => k_is); (case l0 => k_is); (case c0 => k_is); (case k0 => k_is); (case a1 => k_is); (case l1 => k_is); (case c1 => k_is); (case k1 => k_is); (case a2 => k_is); (case l2 => k_is); (case c2 => k_is); (case k2 => k_is); (case a3 => k_is); (case l3 => k_is); (case c3 => k_is); (case k3 => k_is); (case a4 => k_is); (case l4 => k_is); (case c4 => k_is); (case k4 => k_is); (case a5 => k_is); (case l5 => k_is); (case c5 => k_is); (case k5 => k_is); (case a6 => k_is); (case l6 => k_is); (case c6 => k_is); (case k6 => k_is); (case a7 => k_is); (case l7 => k_is); (case c7 => k_is); (case k7 => k_is); (case a8 => k_is); (case l8 => k_is); (case c8 => k_is); (case k8 => k_is); (case a9 => k_is); (case l9 => k_is); (case c9 => k_is); (case k9 => k_is); (case a10 => k_is); (case l10 => k_is); (case c10 => k_is); (case k10 => k_is); (case a11 => k_is); (case l11 => k_is); (case c11 => k_is); (case k11 => k_is); (case a12 => k_is); (case l12 => k_is); (case c12 => k_is); (case k12 => k_is); (case a13 => k_is); (case l13 => k_is); (case c13 => k_is); (case k13 => k_is); (case a14 => k_is); (case l14 => k_is); (case c14 => k_is); (case k14 => k_is); (case a15 => k_is); (case l15 => k_is); (case c15 => k_is); (case k15 => k_is); (case a16 => k_is); (case l16 => k_is); (case c16 => k_is); (case k16 => k_is); (case a17 => k_is); (case l17 => k_is); (case c17 => k_is); (case k17 => k_is); (case a18 => k_is); (case l18 => k_is); (case c18 => k_is); (case k18 => k_is); (case a19 => k_is); (case l19 => k_is); (case c19 => k_is); (case k19 => k_is); (case a20 => k_is); (case l20 => k_is); (case c20 => k_is); (case k20 => k_is); (case a21 => k_is); (case l21 => k_is); (case c21 => k_is); (case k21 => k_is); (case a22 => k_is); (case l22 => k_is); (case c22 => k_is); (case k22 => k_is); (case a23 => k_is); (case l23 => k_is); (case c23 => k_is); (case k23 => k_is); (case a24 => k_is); (case l24 => k_is); (case c24 => k_is); (case k24 => k_is); (case a25 => k_is); (case l25 => k_is); (case c25 => k_is); (case k25 => k_is); (case a26 => k_is); (case l26 => k_is); (case c26 => k_is); (case k26 => k_is); (case a27 => k_is); (case l27 => k_is); (case c27 => k_is); (case k27 => k_is); (case a28 => k_is); (case l28 => k_is); (case c28 => k_is); (case k28 => k_is); (case a29 => k_is); (case l29 => k_is); (case c29 => k_is); (case k29 => k_is); (case z0 => k_is); (case z1 => k_is); (case z2 => k_is); (case z3 => k_is); (case z4 => k_is); (case z5 => k_is); (case z6 => k_is); (case z7 => k_is); (case x0 => k_is); (case x1 => k_is); (case x2 => k_is); (case x3 => k_is); (case x4 => k_is); (case y4 => k_is)
