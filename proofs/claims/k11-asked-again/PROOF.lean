import PyProof.Rows.All
import PySem.Challenge.RW_slotfile_k11_asked_again
import HandS.ForMost
import HandS.Deep
import HandS.TupAny
import HandS.Conv
import HandS.Style
import HandS.IsInst
import HandS.Lambda
import HandS.HeadHook4
import HandS.Text
import HandS.More
import HandS.Small
import KE.KeyNested
import PyProof.Rows.TupDisplay
import KE.KStateDown
import HandS.Head0
import HandS.Head1
import HandS.Head2
import HandS.HeadEnd
import HandS.HeadHook1
import HandS.HeadHook2
import HandS.HeadHook3
import HandS.HeadHook4
set_option Elab.async false
set_option linter.all false
set_option maxRecDepth 100000
set_option maxHeartbeats 4000000
/-! ## The data layer: what a value stands for, as data without addresses -/
namespace SF
open PySem PySem.Spec PyProof.Rows L2

def Ex (H H' : Hp) : Prop := ∀ a o, H a = some o → H' a = some o
theorem Ex.refl (H : Hp) : Ex H H := fun _ _ h => h
theorem Ex.trans {H H1 H2 : Hp} (a : Ex H H1) (b : Ex H1 H2) : Ex H H2 := fun x o h => b x o (a x o h)
theorem Ex.new {H : Hp} {p : Addr} {o : HO} (h : H p = none) : Ex H (upd H p o) := fun a u e => by
  rw [upd_ne (ne_of_none e h)]
  exact e
theorem Ex.back {H H' : Hp} (e : Ex H H') {p : Addr} (h : H' p = none) : H p = none := by
  cases q : H p with
  | none => rfl
  | some o =>
    rw [e p o q] at h
    cases h
/-- both sides get the same new object -/
theorem Ex.both {H H' : Hp} {p : Addr} {o : HO} (e : Ex H H') : Ex (upd H p o) (upd H' p o) := fun a u h => by
  by_cases q : a = p
  · subst q
    rw [upd_same] at h ⊢
    exact h
  · rw [upd_ne q] at h ⊢
    exact e a u h
theorem Ex.out {H H' : Hp} {p : Addr} {o : HO} (e : Ex H H') (h : H p = none) : Ex H (upd H' p o) := fun a u q => by
  rw [upd_ne (ne_of_none q h)]
  exact e a u q
theorem ex_rd {H H' : Hp} {a : Addr} {u : HO} (e : Ex H H') (h : Rd H a u) : Rd H' a u := by
  rcases h with h | ⟨o, h⟩
  · exact .inl (e a _ h)
  · exact .inr ⟨o, e a _ h⟩
section
variable {K : PySem.W.Frag} {G G' H H' : Hp}
theorem ex_l {a : Addr} {xs : List V} (e : Ex H H') (h : SqL K H a xs) : SqL K H' a xs := by
  rcases h with h | h
  · exact .inl (ex_rd e h)
  · exact .inr h
theorem ex_t {a : Addr} {xs : List V} (e : Ex H H') (h : SqT K H a xs) : SqT K H' a xs := by
  rcases h with h | h
  · exact .inl (ex_rd e h)
  · exact .inr h
theorem sq_of {a : Addr} {xs : List V} (h : H a = some (.lst xs)) : SqL K H a xs := .inl (.inl h)
theorem st_of {a : Addr} {xs : List V} (h : H a = some (.tup xs)) : SqT K H a xs := .inl (.inl h)

mutual
def Im (K : PySem.W.Frag) (G : Hp) : PyData → V → Prop
  | .none, v => v = .non
  | .bool b, v => v = .bl b
  | .int i, v => v = .int i
  | .str x, v => v = .str x
  | .list ds, v => ∃ a xs, v = .ref a ∧ G a = some (.lst xs) ∧ ImL K G ds xs
  | .tuple ds, v => ∃ a xs, v = .ref a ∧ SqT K G a xs ∧ ImL K G ds xs
  | .dict _, _ => False
def ImL (K : PySem.W.Frag) (G : Hp) : List PyData → List V → Prop
  | [], xs => xs = []
  | d :: ds, xs => ∃ x r, xs = x :: r ∧ Im K G d x ∧ ImL K G ds r
end
theorem im_none {v : V} : Im K G .none v = (v = .non) := by rw [Im]
theorem im_bool {b : Bool} {v : V} : Im K G (.bool b) v = (v = .bl b) := by rw [Im]
theorem im_int {i : Int} {v : V} : Im K G (.int i) v = (v = .int i) := by rw [Im]
theorem im_str {x : Str} {v : V} : Im K G (.str x) v = (v = .str x) := by rw [Im]
theorem im_list {ds : List PyData} {v : V} : Im K G (.list ds) v = (∃ a xs, v = .ref a ∧ G a = some (.lst xs) ∧ ImL K G ds xs) := by rw [Im]
theorem im_tuple {ds : List PyData} {v : V} : Im K G (.tuple ds) v = (∃ a xs, v = .ref a ∧ SqT K G a xs ∧ ImL K G ds xs) := by rw [Im]
theorem im_dict {ds : List (PyData × PyData)} {v : V} : Im K G (.dict ds) v = False := by rw [Im]
theorem imL_nil {xs : List V} : ImL K G [] xs = (xs = []) := by rw [ImL]
theorem imL_cons {d : PyData} {ds : List PyData} {xs : List V} : ImL K G (d :: ds) xs = (∃ x r, xs = x :: r ∧ Im K G d x ∧ ImL K G ds r) := by rw [ImL]
theorem ImL.nil : ImL K G [] [] := by rw [imL_nil]
theorem ImL.cons {d : PyData} {ds : List PyData} {x : V} {xs : List V} (h : Im K G d x) (t : ImL K G ds xs) : ImL K G (d :: ds) (x :: xs) := by
  rw [imL_cons]
  exact ⟨x, xs, rfl, h, t⟩
mutual
theorem Im.mono (e : Ex G G') : ∀ {d : PyData} {v : V}, Im K G d v → Im K G' d v
  | .none, v, h => by rw [im_none] at h ⊢; exact h
  | .bool _, v, h => by rw [im_bool] at h ⊢; exact h
  | .int _, v, h => by rw [im_int] at h ⊢; exact h
  | .str _, v, h => by rw [im_str] at h ⊢; exact h
  | .list ds, v, h => by
    rw [im_list] at h ⊢
    obtain ⟨a, xs, e1, e2, e3⟩ := h
    exact ⟨a, xs, e1, e a _ e2, ImL.mono e e3⟩
  | .tuple ds, v, h => by
    rw [im_tuple] at h ⊢
    obtain ⟨a, xs, e1, e2, e3⟩ := h
    exact ⟨a, xs, e1, ex_t e e2, ImL.mono e e3⟩
  | .dict _, v, h => by rw [im_dict] at h; exact h.elim
theorem ImL.mono (e : Ex G G') : ∀ {ds : List PyData} {xs : List V}, ImL K G ds xs → ImL K G' ds xs
  | [], xs, h => by rw [imL_nil] at h ⊢; exact h
  | d :: ds, xs, h => by
    rw [imL_cons] at h ⊢
    obtain ⟨x, r, e1, e2, e3⟩ := h
    exact ⟨x, r, e1, Im.mono e e2, ImL.mono e e3⟩
end
theorem ImL.len : ∀ {ds : List PyData} {xs : List V}, ImL K G ds xs → ds.length = xs.length
  | [], xs, h => by rw [imL_nil] at h; subst h; rfl
  | d :: ds, xs, h => by
    rw [imL_cons] at h
    obtain ⟨x, r, rfl, _, e3⟩ := h
    show ds.length + 1 = r.length + 1
    rw [ImL.len e3]
theorem ImL.get : ∀ {ds : List PyData} {xs : List V} {i : Nat} {d : PyData}, ImL K G ds xs → ds[i]? = some d → ∃ x, xs[i]? = some x ∧ Im K G d x
  | [], xs, i, d, h, e => by simp at e
  | d0 :: ds, xs, 0, d, h, e => by
    rw [imL_cons] at h
    obtain ⟨x, r, rfl, h1, h2⟩ := h
    have : d0 = d := by simpa using e
    subst this
    exact ⟨x, rfl, h1⟩
  | d0 :: ds, xs, i + 1, d, h, e => by
    rw [imL_cons] at h
    obtain ⟨x, r, rfl, h1, h2⟩ := h
    obtain ⟨y, hy, im⟩ := ImL.get (i := i) (d := d) h2 (by simpa using e)
    exact ⟨y, by simpa using hy, im⟩
theorem ImL.of_get : ∀ {ds : List PyData} {xs : List V}, ds.length = xs.length → (∀ (i : Nat) (d : PyData) (x : V), ds[i]? = some d → xs[i]? = some x → Im K G d x) → ImL K G ds xs
  | [], xs, hl, h => by
    rw [imL_nil]
    exact List.eq_nil_of_length_eq_zero hl.symm
  | d :: ds, [], hl, h => by simp at hl
  | d :: ds, x :: xs, hl, h => .cons (h 0 d x rfl rfl) (ImL.of_get (by simpa using hl) fun i e y h1 h2 => h (i + 1) e y (by simpa using h1) (by simpa using h2))
theorem ImL.append : ∀ {ds es : List PyData} {xs ys : List V}, ImL K G ds xs → ImL K G es ys → ImL K G (ds ++ es) (xs ++ ys)
  | [], es, xs, ys, h, k => by rw [imL_nil] at h; subst h; exact k
  | d :: ds, es, xs, ys, h, k => by
    rw [imL_cons] at h
    obtain ⟨x, r, rfl, h1, h2⟩ := h
    exact .cons h1 (ImL.append h2 k)
theorem ImL.one {d : PyData} {x : V} (h : Im K G d x) : ImL K G [d] [x] := .cons h .nil
theorem ImL.take {ds : List PyData} {xs : List V} (n : Nat) (h : ImL K G ds xs) : ImL K G (ds.take n) (xs.take n) := by
  refine .of_get (by rw [List.length_take, List.length_take, h.len]) fun i d x h1 h2 => ?_
  rw [List.getElem?_take] at h1 h2
  by_cases q : i < n
  · rw [if_pos q] at h1 h2
    obtain ⟨y, e, im⟩ := h.get h1
    rw [e] at h2
    cases h2
    exact im
  · rw [if_neg q] at h1
    cases h1
theorem ImL.drop {ds : List PyData} {xs : List V} (n : Nat) (h : ImL K G ds xs) : ImL K G (ds.drop n) (xs.drop n) := by
  refine .of_get (by rw [List.length_drop, List.length_drop, h.len]) fun i d x h1 h2 => ?_
  rw [List.getElem?_drop] at h1 h2
  obtain ⟨y, e, im⟩ := h.get h1
  rw [e] at h2
  cases h2
  exact im
theorem ImL.set {ds : List PyData} {xs : List V} {d : PyData} {x : V} (n : Nat) (h : ImL K G ds xs) (hd : Im K G d x) : ImL K G (ds.set n d) (xs.set n x) := by
  refine .of_get (by rw [List.length_set, List.length_set, h.len]) fun i e y h1 h2 => ?_
  rw [List.getElem?_set] at h1 h2
  have hl := h.len
  by_cases q : n = i
  · rw [if_pos q] at h1 h2
    by_cases q2 : n < ds.length
    · rw [if_pos (q ▸ q2)] at h1
      rw [if_pos (by rw [← hl]; exact q ▸ q2)] at h2
      cases h1
      cases h2
      exact hd
    · rw [if_neg (q ▸ q2)] at h1
      cases h1
  · rw [if_neg q] at h1 h2
    obtain ⟨y, e, im⟩ := h.get h1
    rw [e] at h2
    cases h2
    exact im
theorem ImL.rev {ds : List PyData} {xs : List V} (h : ImL K G ds xs) : ImL K G ds.reverse xs.reverse := by
  have hl := h.len
  refine .of_get (by rw [List.length_reverse, List.length_reverse, hl]) fun i d x h1 h2 => ?_
  have hi : i < ds.length := by
    have := (List.getElem?_eq_some_iff.mp h1).1
    simpa using this
  rw [List.getElem?_reverse hi] at h1
  rw [List.getElem?_reverse (hl ▸ hi), ← hl] at h2
  obtain ⟨y, e, im⟩ := h.get h1
  rw [e] at h2
  cases h2
  exact im
theorem ImL.dropLast {ds : List PyData} {xs : List V} (h : ImL K G ds xs) : ImL K G ds.dropLast xs.dropLast := by
  rw [List.dropLast_eq_take, List.dropLast_eq_take, h.len]
  exact h.take _
theorem ImL.eraseIdx {ds : List PyData} {xs : List V} (k : Nat) (h : ImL K G ds xs) : ImL K G (ds.eraseIdx k) (xs.eraseIdx k) := by
  rw [List.eraseIdx_eq_take_drop_succ, List.eraseIdx_eq_take_drop_succ]
  exact (h.take k).append (h.drop _)
theorem ImL.none_of {ds : List PyData} {xs : List V} {i : Nat} (h : ImL K G ds xs) (e : ds[i]? = none) : xs[i]? = none := by
  rw [List.getElem?_eq_none_iff] at e ⊢
  rw [← h.len]
  exact e
theorem imL_ints {ns : List Int} : ImL K G (ns.map PyData.int) (ns.map V.int) := by
  refine .of_get (by simp) fun i d x h1 h2 => ?_
  rw [List.getElem?_map] at h1 h2
  cases e : ns[i]? with
  | none => rw [e] at h1; cases h1
  | some n =>
    rw [e] at h1 h2
    cases h1
    cases h2
    rw [im_int]
mutual
theorem Im.dp (e : Ex G H) : ∀ {d : PyData} {v : V}, Im K G d v → Dp K H v d
  | .none, v, h => by rw [im_none] at h; subst h; exact .non
  | .bool _, v, h => by rw [im_bool] at h; subst h; exact .bl _
  | .int _, v, h => by rw [im_int] at h; subst h; exact .int _
  | .str _, v, h => by rw [im_str] at h; subst h; exact .str _
  | .list ds, v, h => by
    rw [im_list] at h
    obtain ⟨a, xs, rfl, e2, e3⟩ := h
    exact .lst (sq_of (e a _ e2)) (ImL.dp e e3)
  | .tuple ds, v, h => by
    rw [im_tuple] at h
    obtain ⟨a, xs, rfl, e2, e3⟩ := h
    exact .tup (ex_t e e2) (ImL.dp e e3)
  | .dict _, v, h => by rw [im_dict] at h; exact h.elim
theorem ImL.dp (e : Ex G H) : ∀ {ds : List PyData} {xs : List V}, ImL K G ds xs → DpAll K H xs ds
  | [], xs, h => by rw [imL_nil] at h; subst h; exact .nil
  | d :: ds, xs, h => by
    rw [imL_cons] at h
    obtain ⟨x, r, rfl, e2, e3⟩ := h
    exact .cons (Im.dp e e2) (ImL.dp e e3)
end
/-! ### flat data -/
def sc : PyData → Option V
  | .none => some .non
  | .bool b => some (.bl b)
  | .int i => some (.int i)
  | .str x => some (.str x)
  | _ => none
def isSc : PyData → Bool
  | .none => true
  | .bool _ => true
  | .int _ => true
  | .str _ => true
  | _ => false
theorem Im.sc {d : PyData} {v : V} (h : Im K G d v) (f : isSc d = true) : sc d = some v ∧ flatV v = true := by
  cases d with
  | none => rw [im_none] at h; subst h; exact ⟨rfl, rfl⟩
  | bool _ => rw [im_bool] at h; subst h; exact ⟨rfl, rfl⟩
  | int _ => rw [im_int] at h; subst h; exact ⟨rfl, rfl⟩
  | str _ => rw [im_str] at h; subst h; exact ⟨rfl, rfl⟩
  | list _ => cases f
  | tuple _ => cases f
  | dict _ => cases f
theorem eqV_sc {d e : PyData} {v u : V} (h : sc d = some v) (k : sc e = some u) : eqV v u = PyData.eqv d e := by
  cases d <;> cases e <;> simp only [SF.sc, Option.some.injEq, reduceCtorEq] at h k <;> subst h <;> subst k <;> simp [eqV, PyData.eqv]
theorem inV_sc {d : PyData} {v : V} (hd : sc d = some v) : ∀ {ds : List PyData} {xs : List V}, ImL K G ds xs → ds.all isSc = true → inV v xs = ds.any (fun z => PyData.eqv z d) ∧ xs.all flatV = true
  | [], xs, h, _ => by rw [imL_nil] at h; subst h; exact ⟨rfl, rfl⟩
  | e :: ds, xs, h, f => by
    rw [imL_cons] at h
    obtain ⟨x, r, rfl, h1, h2⟩ := h
    rw [List.all_cons, Bool.and_eq_true] at f
    obtain ⟨s1, s2⟩ := h1.sc f.1
    obtain ⟨t1, t2⟩ := inV_sc hd h2 f.2
    refine ⟨?_, ?_⟩
    · show (eqV x v || inV v r) = _
      rw [List.any_cons, eqV_sc s1 hd, t1]
    · rw [List.all_cons, s2, t2]
      rfl
/-! ### data without lists -/
mutual
def nol : PyData → Bool
  | .list _ => false
  | .tuple ds => nolL ds
  | .dict _ => false
  | .none => true
  | .bool _ => true
  | .int _ => true
  | .str _ => true
def nolL : List PyData → Bool
  | [] => true
  | d :: ds => nol d && nolL ds
end
theorem nolL_all : ∀ {ds : List PyData}, nolL ds = ds.all nol
  | [] => by rw [nolL]; rfl
  | d :: ds => by rw [nolL, nolL_all, List.all_cons]
/-- every tuple of the one stands in the other -/
def ExT (G G' : Hp) : Prop := ∀ a xs, Rd G a (.tup xs) → Rd G' a (.tup xs)
mutual
theorem Im.monoT (e : ExT G G') : ∀ {d : PyData} {v : V}, nol d = true → Im K G d v → Im K G' d v
  | .none, v, _, h => by rw [im_none] at h ⊢; exact h
  | .bool _, v, _, h => by rw [im_bool] at h ⊢; exact h
  | .int _, v, _, h => by rw [im_int] at h ⊢; exact h
  | .str _, v, _, h => by rw [im_str] at h ⊢; exact h
  | .list ds, v, q, h => by rw [nol] at q; cases q
  | .tuple ds, v, q, h => by
    rw [nol] at q
    rw [im_tuple] at h ⊢
    obtain ⟨a, xs, e1, e2, e3⟩ := h
    refine ⟨a, xs, e1, ?_, ImL.monoT e q e3⟩
    rcases e2 with e2 | e2
    · exact .inl (e a xs e2)
    · exact .inr e2
  | .dict _, v, _, h => by rw [im_dict] at h; exact h.elim
theorem ImL.monoT (e : ExT G G') : ∀ {ds : List PyData} {xs : List V}, nolL ds = true → ImL K G ds xs → ImL K G' ds xs
  | [], xs, _, h => by rw [imL_nil] at h ⊢; exact h
  | d :: ds, xs, q, h => by
    rw [nolL, Bool.and_eq_true] at q
    rw [imL_cons] at h ⊢
    obtain ⟨x, r, e1, e2, e3⟩ := h
    exact ⟨x, r, e1, Im.monoT e q.1 e2, ImL.monoT e q.2 e3⟩
end
/-- a heap without what stands at l -/
def cut (G : Hp) (l : Addr) : Hp := fun a => if a = l then none else G a
theorem cut_same {G : Hp} {l : Addr} : cut G l l = none := by unfold cut; rw [if_pos rfl]
theorem cut_ne {G : Hp} {l a : Addr} (h : a ≠ l) : cut G l a = G a := by unfold cut; rw [if_neg h]
theorem Ex.cut {l : Addr} : Ex (cut G l) G := fun a o h => by
  by_cases q : a = l
  · subst q; rw [cut_same] at h; cases h
  · rw [cut_ne q] at h; exact h
theorem ExT.cut {l : Addr} {xs : List V} (h : G l = some (.lst xs)) : ExT G (cut G l) := fun a ys r => by
  have q : a ≠ l := by
    rintro rfl
    rcases r with r | ⟨o, r⟩
    · rw [h] at r; cases r
    · rw [h] at r; cases r
  rcases r with r | ⟨o, r⟩
  · exact .inl (by rw [cut_ne q]; exact r)
  · exact .inr ⟨o, by rw [cut_ne q]; exact r⟩
end
end SF

/-! ## States as data: slots, a frozen part of the heap, lists of one's own, a row that is drawn from -/
namespace SF
open PySem PySem.Spec PyProof.Rows L2

/-- what is raised: which class, what its field holds -/
structure Exn where
  k : Nat
  v : Int
/-- an object that is no table of code objects -/
abbrev NTbl (o : HO) : Prop := ∀ ps, o ≠ .tbl ps
theorem ntL {xs : List V} : NTbl (.lst xs) := fun _ z => by cases z
/-- an object of one's own of any kind: what is true of it -/
structure ObK where
  ok : PySem.W.Frag → Addr → Hp → HO → Prop
  mono : ∀ K a G G' o, Ex G G' → ok K a G o → ok K a G' o
  nt : ∀ K a G o, ok K a G o → NTbl o
/-- the defs that make lambdas (one text for each law: the list is written by the program that puts the text together) -/
def lamDefs : List Str := []
/-- their tables, the lambdas' name -/
def tabsOf (K : PySem.W.Frag) : List (Addr × Str) := lamDefs.map fun x => ((He.cT K (x, none)).2, x ++ Str.ofString ".<locals>." ++ Str.ofString "<lambda>")
/-- tables of code objects grow -/
structure TblK (K : PySem.W.Frag) (H H' : Hp) : Prop where
  up : ∀ a ps, H a = some (.tbl ps) → ∃ qs, H' a = some (.tbl qs)
  tab : LamX.Tabs (tabsOf K) H → LamX.Tabs (tabsOf K) H'
theorem TblK.refl {K : PySem.W.Frag} (H : Hp) : TblK K H H := ⟨fun _ ps h => ⟨ps, h⟩, fun h => h⟩
theorem TblK.trans {K : PySem.W.Frag} {H H1 H2 : Hp} (a : TblK K H H1) (b : TblK K H1 H2) : TblK K H H2 :=
  ⟨fun x ps h => by obtain ⟨qs, h1⟩ := a.up x ps h; exact b.up x qs h1, fun h => b.tab (a.tab h)⟩
/-- all but lists stay -/
theorem TblK.of {K : PySem.W.Frag} {H H' : Hp} (k : ∀ a o, H a = some o → (∀ xs, o ≠ .lst xs) → H' a = some o) : TblK K H H' := by
  refine ⟨fun a ps h => ⟨ps, k a _ h (fun xs z => by cases z)⟩, fun h p hp => ?_⟩
  obtain ⟨ps, h1, h2, h3⟩ := h p hp
  refine ⟨ps, k _ _ h1 (fun xs z => by cases z), h2, fun pos cv hc => ?_⟩
  obtain ⟨c, e1, e2⟩ := h3 pos cv hc
  exact ⟨c, e1, k _ _ e2 (fun xs z => by unfold LamX.CodeO at z; cases z)⟩
theorem TblK.ex {K : PySem.W.Frag} {H H' : Hp} (k : Ex H H') : TblK K H H' := .of fun a o h _ => k a o h
theorem TblK.new {K : PySem.W.Frag} {H : Hp} {p : Addr} {o : HO} (h : H p = none) : TblK K H (upd H p o) := .ex (.new h)
theorem TblK.lst {K : PySem.W.Frag} {H : Hp} {p : Addr} {xs : List V} {o : HO} (h : H p = some (.lst xs)) : TblK K H (upd H p o) := .of fun a u e n => by
  rw [upd_ne (fun z => by rw [z, h] at e; exact n xs (Option.some.inj e).symm)]
  exact e
/-- no table is frozen -/
abbrev AvT (H G G' : Hp) : Prop := ∀ a ps, H a = some (.tbl ps) → G a = none → G' a = none
/-- a value, and what is true of it (of what is frozen, of the tables) -/
structure VaK where
  v : V
  ok : PySem.W.Frag → Hp → Hp → Prop
  mono : ∀ K G G' H H', Ex G G' → TblK K H H' → AvT H G G' → ok K G H → ok K G' H'
/-- what a slot holds: nothing known, data, a list of one's own, the row, another object of one's own, a value -/
inductive Ent where
  | no | dat (d : PyData) | ls (ds : List PyData) | row | ob (k : ObK) | val (k : VaK)
def Ent.isM : Ent → Bool
  | .ls _ => true
  | .row => true
  | .ob _ => true
  | _ => false
abbrev Rho := List Ent
/-- what an expression gives: data, or a list made just now -/
inductive Res where
  | dat (d : PyData) | lst (ds : List PyData)
def Res.frz : Res → PyData
  | .dat d => d
  | .lst ds => .list ds
def Res.ent : Res → Ent
  | .dat d => .dat d
  | .lst ds => .ls ds
structure Bs where
  XR : Exn → Value → Option Addr → Hp → Prop
  E : XK
structure Cn where
  M : Option Addr
  Ge : Hp
  He : Hp
section
variable {K : PySem.W.Frag} {G G' G1 G2 H H' H1 H2 : Hp}
/-- the script -/
def ScrAt (K : PySem.W.Frag) (G : Hp) (s : Addr) (ns : List Int) : Prop := (∃ o, G s = some (.frz o (.lst (ns.map V.int)))) ∨ SqL K (fun _ => none) s (ns.map V.int)
theorem ScrAt.mono {s : Addr} {ns : List Int} (h : ScrAt K G s ns) (e : Ex G G') : ScrAt K G' s ns := by
  rcases h with ⟨o, h⟩ | h
  · exact .inl ⟨o, e _ _ h⟩
  · exact .inr h
theorem ScrAt.sql {s : Addr} {ns : List Int} (h : ScrAt K G s ns) (e : Ex G H) : SqL K H s (ns.map V.int) := by
  rcases h with ⟨o, h⟩ | h
  · exact .inl (.inr ⟨o, e _ _ h⟩)
  · exact ex_l (fun _ _ z => by cases z) h
theorem ScrAt.cut {s l : Addr} {ns : List Int} {xs : List V} (h : ScrAt K G s ns) (hl : G l = some (.lst xs)) : ScrAt K (cut G l) s ns := by
  rcases h with ⟨o, h⟩ | h
  · exact .inl ⟨o, by rw [cut_ne (fun e => by rw [e, hl] at h; cases h)]; exact h⟩
  · exact .inr h
theorem ScrAt.of {s : Addr} {ns : List Int} (h : SqL K H s (ns.map V.int)) (o : Only H) : ScrAt K H s ns := by
  rcases h with (h | h) | h
  · rcases o s with z | ⟨a, b, z⟩
    · rw [h] at z; cases z
    · rw [h] at z; cases z
  · exact .inl h
  · exact .inr (.inr h)
def RowAt (K : PySem.W.Frag) (G H : Hp) (r : Addr) : Prop := G r = none ∧ ∃ (s : Addr) (ns : List Int) (i x : Int), H r = some (.lst [.ref s, .int i, .int x]) ∧ ScrAt K G s ns ∧ 0 ≤ i ∧ 0 ≤ x ∧ x < 2147483647
theorem RowAt.there {r : Addr} (h : RowAt K G H r) : H r ≠ none := by
  obtain ⟨_, s, ns, i, x, e, _⟩ := h
  rw [e]
  exact fun z => by cases z
theorem RowAt.go {r : Addr} (h : RowAt K G H r) (e : Ex G G') (n : G' r = none) (k : ∀ xs, H r = some (.lst xs) → H' r = some (.lst xs)) : RowAt K G' H' r := by
  obtain ⟨_, s, ns, i, x, e1, e2, e3⟩ := h
  exact ⟨n, s, ns, i, x, k _ e1, e2.mono e, e3⟩
def SlotOk (K : PySem.W.Frag) (G H : Hp) : Ent → Option V → Prop
  | .no, _ => True
  | .dat d, o => ∃ v, o = some v ∧ Im K G d v
  | .ls ds, o => ∃ l xs, o = some (.ref l) ∧ H l = some (.lst xs) ∧ G l = none ∧ ImL K G ds xs
  | .row, o => ∃ r, o = some (.ref r) ∧ RowAt K G H r
  | .ob k, o => ∃ l u, o = some (.ref l) ∧ H l = some u ∧ G l = none ∧ k.ok K l G u
  | .val k, o => o = some k.v ∧ k.ok K G H
def IsRow (ρ : Rho) (σ : L2.St) (r : Addr) : Prop := ∃ i : Nat, ρ[i]? = some Ent.row ∧ σ[i]? = some (some (.ref r))
structure Sat (K : PySem.W.Frag) (c : Cn) (ρ : Rho) (σ : L2.St) (G H : Hp) : Prop where
  ex1 : Ex c.Ge G
  ex2 : Ex G H
  keep : ∀ a o, c.He a = some o → c.M ≠ some a → NTbl o → H a = some o
  tbl : TblK K c.He H
  there : ∀ a, c.He a ≠ none → H a ≠ none
  avoid : ∀ a, c.Ge a = none → c.He a ≠ none → G a = none
  mrow : ∀ r, c.M = some r → RowAt K G H r
  mhe : ∀ r, c.M = some r → c.He r ≠ none
  len : ρ.length = σ.length
  slot : ∀ (i : Nat) e o, ρ[i]? = some e → σ[i]? = some o → SlotOk K G H e o
  own : ∀ (i : Nat) e l, ρ[i]? = some e → e.isM = true → σ[i]? = some (some (.ref l)) → c.He l = none ∨ (c.M = some l ∧ e = .row)
  ne : ∀ (i j : Nat) e f l, i ≠ j → ρ[i]? = some e → ρ[j]? = some f → e.isM = true → f.isM = true → σ[i]? = some (some (.ref l)) → σ[j]? ≠ some (some (.ref l))
/-- a step of the two heaps, the slots as they are -/
structure Tr (K : PySem.W.Frag) (ρ : Rho) (σ : L2.St) (G H G' H' : Hp) : Prop where
  eg : Ex G G'
  eh : Ex G' H'
  keep : ∀ a o, H a = some o → ¬ IsRow ρ σ a → NTbl o → H' a = some o
  tbl : TblK K H H'
  avoid : ∀ a, G a = none → H a ≠ none → G' a = none
  row : ∀ r, IsRow ρ σ r → RowAt K G' H' r
def Out (K : PySem.W.Frag) (H G' H' : Hp) : Res → V → Prop
  | .dat d, v => Im K G' d v
  | .lst ds, v => ∃ l xs, v = .ref l ∧ H l = none ∧ G' l = none ∧ H' l = some (.lst xs) ∧ ImL K G' ds xs
/-- at a def's end -/
structure Fin' (K : PySem.W.Frag) (c : Cn) (G H : Hp) : Prop where
  ex1 : Ex c.Ge G
  ex2 : Ex G H
  keep : ∀ a o, c.He a = some o → c.M ≠ some a → NTbl o → H a = some o
  tbl : TblK K c.He H
  there : ∀ a, c.He a ≠ none → H a ≠ none
  avoid : ∀ a, c.Ge a = none → c.He a ≠ none → G a = none
  mrow : ∀ r, c.M = some r → RowAt K G H r
theorem Sat.fin {c : Cn} {ρ : Rho} {σ : L2.St} (S : Sat K c ρ σ G H) : Fin' K c G H := ⟨S.ex1, S.ex2, S.keep, S.tbl, S.there, S.avoid, S.mrow⟩

variable {c : Cn} {ρ : Rho} {σ : L2.St}
theorem Sat.rowAt (S : Sat K c ρ σ G H) {r : Addr} (h : IsRow ρ σ r) : RowAt K G H r := by
  obtain ⟨i, e1, e2⟩ := h
  obtain ⟨r', e, q⟩ := S.slot i _ _ e1 e2
  cases e
  exact q
theorem Tr.refl (S : Sat K c ρ σ G H) : Tr K ρ σ G H G H := ⟨.refl _, S.ex2, fun _ _ h _ _ => h, .refl _, fun _ h _ => h, fun _ h => S.rowAt h⟩
theorem Tr.there (t : Tr K ρ σ G H G' H') {a : Addr} (h : H a ≠ none) : H' a ≠ none := by
  by_cases q : IsRow ρ σ a
  · exact (t.row a q).there
  · cases e : H a with
    | none => exact absurd e h
    | some o =>
      by_cases n : NTbl o
      · rw [t.keep a o e q n]
        exact fun z => by cases z
      · obtain ⟨ps, hps⟩ : ∃ ps, o = .tbl ps := Classical.byContradiction fun z => n fun ps hps => z ⟨ps, hps⟩
        rw [hps] at e
        obtain ⟨qs, h2⟩ := t.tbl.up a ps e
        rw [h2]
        exact fun z => by cases z
theorem Tr.back (t : Tr K ρ σ G H G' H') {a : Addr} (h : H' a = none) : H a = none := by
  cases e : H a with
  | none => rfl
  | some o => exact absurd h (t.there (by rw [e]; exact fun z => by cases z))
theorem Tr.trans (a : Tr K ρ σ G H G1 H1) (b : Tr K ρ σ G1 H1 G2 H2) : Tr K ρ σ G H G2 H2 :=
  ⟨a.eg.trans b.eg, b.eh, fun x o h n m => b.keep x o (a.keep x o h n m) n m, a.tbl.trans b.tbl, fun x h h' => b.avoid x (a.avoid x h h') (a.there h'), b.row⟩
theorem Sat.neRowM (S : Sat K c ρ σ G H) {i : Nat} {e : Ent} {l : Addr} (h1 : ρ[i]? = some e) (hm : e.isM = true) (hr : e ≠ .row) (h2 : σ[i]? = some (some (.ref l))) : ¬ IsRow ρ σ l := fun ⟨j, e1, e2⟩ => by
  have hne : i ≠ j := by
    rintro rfl
    rw [h1] at e1
    exact hr (Option.some.inj e1)
  exact S.ne i j _ _ l hne h1 e1 hm rfl h2 e2
theorem Sat.neRow (S : Sat K c ρ σ G H) {i : Nat} {ds : List PyData} {l : Addr} (h1 : ρ[i]? = some (.ls ds)) (h2 : σ[i]? = some (some (.ref l))) : ¬ IsRow ρ σ l := S.neRowM h1 rfl (fun z => by cases z) h2
theorem Sat.tr (S : Sat K c ρ σ G H) (t : Tr K ρ σ G H G' H') : Sat K c ρ σ G' H' where
  ex1 := S.ex1.trans t.eg
  ex2 := t.eh
  keep := fun a o h n m => by
    by_cases q : IsRow ρ σ a
    · obtain ⟨i, e1, e2⟩ := q
      rcases S.own i _ a e1 rfl e2 with z | z
      · rw [h] at z; cases z
      · exact absurd z.1 n
    · exact t.keep a o (S.keep a o h n m) q m
  tbl := S.tbl.trans t.tbl
  there := fun a h => t.there (S.there a h)
  avoid := fun a h h' => t.avoid a (S.avoid a h h') (S.there a h')
  mrow := fun r h => by
    by_cases q : IsRow ρ σ r
    · exact t.row r q
    · have z := S.mrow r h
      exact z.go t.eg (t.avoid r z.1 z.there) fun o e => t.keep r _ e q ntL
  mhe := S.mhe
  len := S.len
  slot := fun i e o h1 h2 => by
    have z := S.slot i e o h1 h2
    cases e with
    | no => trivial
    | dat d =>
      obtain ⟨v, e, im⟩ := z
      exact ⟨v, e, im.mono t.eg⟩
    | ls ds =>
      obtain ⟨l, xs, rfl, e2, e3, e4⟩ := z
      refine ⟨l, xs, rfl, t.keep l _ e2 (S.neRow h1 h2) ntL, t.avoid l e3 (by rw [e2]; exact fun z => by cases z), e4.mono t.eg⟩
    | row =>
      obtain ⟨r, rfl, _⟩ := z
      exact ⟨r, rfl, t.row r ⟨i, h1, h2⟩⟩
    | ob k =>
      obtain ⟨l, u, rfl, e2, e3, e4⟩ := z
      exact ⟨l, u, rfl, t.keep l _ e2 (S.neRowM h1 rfl (fun z => by cases z) h2) (k.nt _ _ _ _ e4), t.avoid l e3 (by rw [e2]; exact fun z => by cases z), k.mono _ _ _ _ _ t.eg e4⟩
    | val k => exact ⟨z.1, k.mono _ _ _ _ _ t.eg t.tbl (fun a ps q n => t.avoid a n (by rw [q]; exact fun z => by cases z)) z.2⟩
  own := S.own
  ne := S.ne
/-- a new object that is frozen at once -/
theorem Tr.newG (S : Sat K c ρ σ G H) {p : Addr} {o : HO} (hp : H p = none) : Tr K ρ σ G H (upd G p o) (upd H p o) where
  eg := .new (S.ex2.back hp)
  eh := S.ex2.both
  keep := fun a u h _ _ => Ex.new hp a u h
  tbl := .new hp
  avoid := fun a h h' => by
    rw [upd_ne (show a ≠ p from fun e => h' (by rw [e]; exact hp))]
    exact h
  row := fun r h => by
    have z := S.rowAt h
    have ne : r ≠ p := fun e => z.there (e ▸ hp)
    exact z.go (.new (S.ex2.back hp)) (by rw [upd_ne ne]; exact z.1) fun o e => by rw [upd_ne ne]; exact e
/-- a new object of one's own -/
theorem Tr.newH (S : Sat K c ρ σ G H) {p : Addr} {o : HO} (hp : H p = none) : Tr K ρ σ G H G (upd H p o) where
  eg := .refl _
  eh := S.ex2.out (S.ex2.back hp)
  keep := fun a u h _ _ => Ex.new hp a u h
  tbl := .new hp
  avoid := fun a h _ => h
  row := fun r h => by
    have z := S.rowAt h
    have ne : r ≠ p := fun e => z.there (e ▸ hp)
    exact z.go (.refl _) z.1 fun o e => by rw [upd_ne ne]; exact e
/-- what was made just now is frozen -/
theorem freeze (S : Sat K c ρ σ G H) (t : Tr K ρ σ G H G1 H1) : ∀ {r : Res} {v : V}, Out K H G1 H1 r v → ∃ G2, Tr K ρ σ G H G2 H1 ∧ Im K G2 r.frz v
  | .dat d, v, o => ⟨G1, t, o⟩
  | .lst ds, v, o => by
    obtain ⟨l, xs, rfl, o1, o2, o3, o4⟩ := o
    have hx : Ex G1 (upd G1 l (.lst xs)) := .new o2
    refine ⟨upd G1 l (.lst xs), ⟨t.eg.trans hx, fun a u h => ?_, t.keep, t.tbl, fun a h h' => ?_, fun r h => ?_⟩, ?_⟩
    · by_cases q : a = l
      · subst q
        rw [upd_same] at h
        cases h
        exact o3
      · rw [upd_ne q] at h
        exact t.eh a u h
    · rw [upd_ne (show a ≠ l from fun e => h' (by rw [e]; exact o1))]
      exact t.avoid a h h'
    · have z := t.row r h
      have ne : r ≠ l := fun e => (S.rowAt h).there (e ▸ o1)
      exact z.go hx (by rw [upd_ne ne]; exact z.1) fun _ e => e
    · show Im K _ (.list ds) _
      rw [im_list]
      exact ⟨l, xs, rfl, upd_same, o4.mono hx⟩
theorem Out.back {r : Res} {v : V} (h : ∀ a, H1 a = none → H a = none) (o : Out K H1 G' H' r v) : Out K H G' H' r v := by
  cases r with
  | dat d => exact o
  | lst ds =>
    obtain ⟨l, xs, e, o1, o2⟩ := o
    exact ⟨l, xs, e, h l o1, o2⟩
theorem Sat.var (S : Sat K c ρ σ G H) {i : Nat} {d : PyData} (h : ρ[i]? = some (.dat d)) : ∃ v, σ[i]? = some (some v) ∧ Im K G d v := by
  have hi : i < σ.length := by
    rw [← S.len]
    exact (List.getElem?_eq_some_iff.mp h).1
  obtain ⟨v, e, im⟩ := S.slot i _ _ h (List.getElem?_eq_getElem hi)
  exact ⟨v, by rw [List.getElem?_eq_getElem hi, e], im⟩
theorem Sat.mutAt (S : Sat K c ρ σ G H) {i : Nat} {ds : List PyData} (h : ρ[i]? = some (.ls ds)) : ∃ l xs, σ[i]? = some (some (.ref l)) ∧ H l = some (.lst xs) ∧ G l = none ∧ ImL K G ds xs := by
  have hi : i < σ.length := by
    rw [← S.len]
    exact (List.getElem?_eq_some_iff.mp h).1
  obtain ⟨l, xs, e, q⟩ := S.slot i _ _ h (List.getElem?_eq_getElem hi)
  exact ⟨l, xs, by rw [List.getElem?_eq_getElem hi, e], q⟩
theorem Sat.rowVar (S : Sat K c ρ σ G H) {i : Nat} (h : ρ[i]? = some .row) : ∃ r, σ[i]? = some (some (.ref r)) ∧ RowAt K G H r := by
  have hi : i < σ.length := by
    rw [← S.len]
    exact (List.getElem?_eq_some_iff.mp h).1
  obtain ⟨r, e, q⟩ := S.slot i _ _ h (List.getElem?_eq_getElem hi)
  exact ⟨r, by rw [List.getElem?_eq_getElem hi, e], q⟩
/-- a value that may go to a slot -/
def ResAt (K : PySem.W.Frag) (c : Cn) (ρ : Rho) (σ : L2.St) (G H : Hp) : Res → V → Prop
  | .dat d, v => Im K G d v
  | .lst ds, v => ∃ l xs, v = .ref l ∧ c.He l = none ∧ G l = none ∧ H l = some (.lst xs) ∧ ImL K G ds xs ∧ ∀ (j : Nat) e, ρ[j]? = some e → e.isM = true → σ[j]? ≠ some (some (.ref l))
/-- a slot gets data, or a list made just now -/
theorem Sat.set (S : Sat K c ρ σ G H) {i : Nat} {r : Res} {v : V} (o : ResAt K c ρ σ G H r v) : Sat K c (ρ.set i r.ent) (σ.set i (some v)) G H where
  ex1 := S.ex1
  ex2 := S.ex2
  keep := S.keep
  tbl := S.tbl
  there := S.there
  avoid := S.avoid
  mrow := S.mrow
  mhe := S.mhe
  len := by rw [List.length_set, List.length_set, S.len]
  slot := fun j e u h1 h2 => by
    by_cases q : i = j
    · subst q
      have hl := S.len
      have hj : i < ρ.length := by
        have := (List.getElem?_eq_some_iff.mp h1).1
        rwa [List.length_set] at this
      rw [List.getElem?_set_self hj] at h1
      rw [List.getElem?_set_self (hl ▸ hj)] at h2
      cases h1
      cases h2
      cases r with
      | dat d => exact ⟨v, rfl, o⟩
      | lst ds =>
        obtain ⟨l, xs, rfl, o1, o2, o3, o4, _⟩ := o
        exact ⟨l, xs, rfl, o3, o2, o4⟩
    · rw [List.getElem?_set_ne q] at h1 h2
      exact S.slot j e u h1 h2
  own := fun j e l h1 hm h2 => by
    by_cases q : i = j
    · subst q
      have hl := S.len
      have hj : i < ρ.length := by
        have := (List.getElem?_eq_some_iff.mp h1).1
        rwa [List.length_set] at this
      rw [List.getElem?_set_self hj] at h1
      rw [List.getElem?_set_self (hl ▸ hj)] at h2
      cases h1
      cases r with
      | dat d => cases hm
      | lst ds =>
        obtain ⟨l', xs, rfl, o1, _⟩ := o
        cases h2
        exact .inl o1
    · rw [List.getElem?_set_ne q] at h1 h2
      exact S.own j e l h1 hm h2
  ne := fun j k e f l hne h1 h2 m1 m2 h3 h4 => by
    have hl := S.len
    have self : ∀ e, (ρ.set i r.ent)[i]? = some e → e.isM = true → (σ.set i (some v))[i]? = some (some (.ref l)) → ∀ (j : Nat) e, ρ[j]? = some e → e.isM = true → σ[j]? ≠ some (some (.ref l)) := fun e q1 q2 q3 => by
      have hj : i < ρ.length := by
        have := (List.getElem?_eq_some_iff.mp q1).1
        rwa [List.length_set] at this
      rw [List.getElem?_set_self hj] at q1
      rw [List.getElem?_set_self (hl ▸ hj)] at q3
      cases q1
      cases r with
      | dat d => cases q2
      | lst ds =>
        obtain ⟨l', xs, rfl, _, _, _, _, o1⟩ := o
        cases q3
        exact o1
    by_cases qj : i = j
    · subst qj
      rw [List.getElem?_set_ne hne] at h2 h4
      exact self e h1 m1 h3 k f h2 m2 h4
    · by_cases qk : i = k
      · subst qk
        rw [List.getElem?_set_ne qj] at h1 h3
        exact self f h2 m2 h4 j e h1 m1 h3
      · rw [List.getElem?_set_ne qj] at h1 h3
        rw [List.getElem?_set_ne qk] at h2 h4
        exact S.ne j k e f l hne h1 h2 m1 m2 h3 h4
theorem Sat.resAt (S : Sat K c ρ σ G H) (t : Tr K ρ σ G H G1 H1) : ∀ {r : Res} {v : V}, Out K H G1 H1 r v → ResAt K c ρ σ G1 H1 r v
  | .dat d, v, o => o
  | .lst ds, v, o => by
    obtain ⟨l, xs, rfl, o1, o2, o3, o4⟩ := o
    refine ⟨l, xs, rfl, ?_, o2, o3, o4, fun j e q1 q2 q3 => ?_⟩
    · cases e : c.He l with
      | none => rfl
      | some u => exact absurd o1 (S.there l (by rw [e]; exact fun z => by cases z))
    · have hj : j < σ.length := (List.getElem?_eq_some_iff.mp q3).1
      have z := S.slot j e _ q1 q3
      cases e with
      | no => cases q2
      | dat d => cases q2
      | ls ds =>
        obtain ⟨l2, xs2, e1, e2, _⟩ := z
        cases e1
        rw [o1] at e2
        cases e2
      | row =>
        obtain ⟨l2, e1, e2⟩ := z
        cases e1
        exact e2.there o1
      | ob k =>
        obtain ⟨l2, u2, e1, e2, _⟩ := z
        cases e1
        rw [o1] at e2
        cases e2
      | val k => cases q2
theorem Sat.setOut (S : Sat K c ρ σ G H) (t : Tr K ρ σ G H G1 H1) {i : Nat} {r : Res} {v : V} (o : Out K H G1 H1 r v) : Sat K c (ρ.set i r.ent) (σ.set i (some v)) G1 H1 := (S.tr t).set (S.resAt t o)
theorem Sat.setDat (S : Sat K c ρ σ G H) {i : Nat} {d : PyData} {v : V} (h : Im K G d v) : Sat K c (ρ.set i (.dat d)) (σ.set i (some v)) G H := S.set (r := .dat d) h
/-- a slot is forgotten -/
theorem Sat.setNo (S : Sat K c ρ σ G H) {i : Nat} {o : Option V} : Sat K c (ρ.set i .no) (σ.set i o) G H where
  ex1 := S.ex1
  ex2 := S.ex2
  keep := S.keep
  tbl := S.tbl
  there := S.there
  avoid := S.avoid
  mrow := S.mrow
  mhe := S.mhe
  len := by rw [List.length_set, List.length_set, S.len]
  slot := fun j e u h1 h2 => by
    by_cases q : i = j
    · subst q
      have hj : i < ρ.length := by
        have := (List.getElem?_eq_some_iff.mp h1).1
        rwa [List.length_set] at this
      rw [List.getElem?_set_self hj] at h1
      cases h1
      trivial
    · rw [List.getElem?_set_ne q] at h1 h2
      exact S.slot j e u h1 h2
  own := fun j e l h1 hm h2 => by
    by_cases q : i = j
    · subst q
      have hj : i < ρ.length := by
        have := (List.getElem?_eq_some_iff.mp h1).1
        rwa [List.length_set] at this
      rw [List.getElem?_set_self hj] at h1
      cases h1
      cases hm
    · rw [List.getElem?_set_ne q] at h1 h2
      exact S.own j e l h1 hm h2
  ne := fun j k e f l hne h1 h2 m1 m2 h3 h4 => by
    by_cases qj : i = j
    · subst qj
      have hj : i < ρ.length := by
        have := (List.getElem?_eq_some_iff.mp h1).1
        rwa [List.length_set] at this
      rw [List.getElem?_set_self hj] at h1
      cases h1
      cases m1
    · by_cases qk : i = k
      · subst qk
        have hj : i < ρ.length := by
          have := (List.getElem?_eq_some_iff.mp h2).1
          rwa [List.length_set] at this
        rw [List.getElem?_set_self hj] at h2
        cases h2
        cases m2
      · rw [List.getElem?_set_ne qj] at h1 h3
        rw [List.getElem?_set_ne qk] at h2 h4
        exact S.ne j k e f l hne h1 h2 m1 m2 h3 h4
/-- an object of one's own changes -/
theorem Sat.writeM (S : Sat K c ρ σ G H) {i : Nat} {e e' : Ent} {l : Addr} {o o' : HO} (h1 : ρ[i]? = some e) (hm : e.isM = true) (hr : e ≠ .row) (h2 : σ[i]? = some (some (.ref l))) (e2 : H l = some o) (e3 : G l = none) (hm' : e'.isM = true)
    (hk : TblK K H (upd H l o')) (hs : ∀ H', H' l = some o' → SlotOk K G H' e' (some (.ref l))) : Sat K c (ρ.set i e') σ G (upd H l o') := by
  have hnr := S.neRowM h1 hm hr h2
  have hHe : c.He l = none := by
    rcases S.own i _ l h1 hm h2 with z | z
    · exact z
    · exact absurd z.2 hr
  have hi : i < ρ.length := (List.getElem?_eq_some_iff.mp h1).1
  have hM : ∀ r, c.M = some r → r ≠ l := fun r hr e => S.mhe r hr (e ▸ hHe)
  have nm : ∀ (j : Nat) f, ρ[j]? = some f → f.isM = true → i ≠ j → σ[j]? ≠ some (some (.ref l)) := fun j f q1 q2 q3 => S.ne i j _ f l q3 h1 q1 hm q2 h2
  refine ⟨S.ex1, S.ex2.out e3, fun a o h n m => ?_, S.tbl.trans hk, fun a h => ?_, S.avoid, fun r h => ?_, S.mhe, by rw [List.length_set, S.len], fun j f u q1 q2 => ?_, fun j f l2 q1 qm q2 => ?_, fun j k f g l2 hne q1 q2 m1 m2 q3 q4 => ?_⟩
  · rw [upd_ne (fun q => by rw [q, hHe] at h; cases h)]
    exact S.keep a o h n m
  · by_cases q : a = l
    · subst q
      rw [upd_same]
      exact fun z => by cases z
    · rw [upd_ne q]
      exact S.there a h
  · have z := S.mrow r h
    exact z.go (.refl _) z.1 fun o e => by rw [upd_ne (hM r h)]; exact e
  · by_cases q : i = j
    · subst q
      rw [List.getElem?_set_self hi] at q1
      cases q1
      rw [h2] at q2
      cases q2
      exact hs _ upd_same
    · rw [List.getElem?_set_ne q] at q1
      have z := S.slot j f u q1 q2
      cases f with
      | no => trivial
      | dat d => exact z
      | ls ds2 =>
        obtain ⟨l3, xs3, rfl, z2, z3⟩ := z
        have : l3 ≠ l := fun e => nm j _ q1 rfl q (e ▸ q2)
        exact ⟨l3, xs3, rfl, by rw [upd_ne this]; exact z2, z3⟩
      | row =>
        obtain ⟨r, rfl, z⟩ := z
        have : r ≠ l := fun e => nm j _ q1 rfl q (e ▸ q2)
        exact ⟨r, rfl, z.go (.refl _) z.1 fun o e => by rw [upd_ne this]; exact e⟩
      | ob k2 =>
        obtain ⟨l3, u3, rfl, z2, z3⟩ := z
        have : l3 ≠ l := fun e => nm j _ q1 rfl q (e ▸ q2)
        exact ⟨l3, u3, rfl, by rw [upd_ne this]; exact z2, z3⟩
      | val k2 => exact ⟨z.1, k2.mono _ _ _ _ _ (.refl _) hk (fun _ _ _ n => n) z.2⟩
  · by_cases q : i = j
    · subst q
      rw [h2] at q2
      cases q2
      exact .inl hHe
    · rw [List.getElem?_set_ne q] at q1
      exact S.own j f l2 q1 qm q2
  · have gt : ∀ (j : Nat) f, (ρ.set i e')[j]? = some f → f.isM = true → ∃ f', ρ[j]? = some f' ∧ f'.isM = true := fun j f q1 q2 => by
      by_cases q : i = j
      · subst q
        exact ⟨_, h1, hm⟩
      · rw [List.getElem?_set_ne q] at q1
        exact ⟨f, q1, q2⟩
    obtain ⟨e', a1, a2⟩ := gt j f q1 m1
    obtain ⟨f', b1, b2⟩ := gt k g q2 m2
    exact S.ne j k e' f' l2 hne a1 b1 a2 b2 q3 q4
/-- a list of one's own changes -/
theorem Sat.write (S : Sat K c ρ σ G H) {i : Nat} {ds es : List PyData} {l : Addr} {ys : List V} (h1 : ρ[i]? = some (.ls ds)) (h2 : σ[i]? = some (some (.ref l))) (im : ImL K G es ys) : Sat K c (ρ.set i (.ls es)) σ G (upd H l (.lst ys)) := by
  obtain ⟨l', xs, e1, e2, e3, e4⟩ := S.mutAt h1
  rw [h2] at e1
  cases e1
  exact S.writeM h1 rfl (fun z => by cases z) h2 e2 e3 rfl (.lst e2) fun H' h => ⟨l, ys, rfl, h, e3, im⟩
theorem Sat.obAt (S : Sat K c ρ σ G H) {i : Nat} {k : ObK} (h : ρ[i]? = some (.ob k)) : ∃ l u, σ[i]? = some (some (.ref l)) ∧ H l = some u ∧ G l = none ∧ k.ok K l G u := by
  have hi : i < σ.length := by
    rw [← S.len]
    exact (List.getElem?_eq_some_iff.mp h).1
  obtain ⟨l, u, e, q⟩ := S.slot i _ _ h (List.getElem?_eq_getElem hi)
  exact ⟨l, u, by rw [List.getElem?_eq_getElem hi, e], q⟩
theorem Sat.writeOb (S : Sat K c ρ σ G H) {i : Nat} {k k' : ObK} {l : Addr} {u u' : HO} (h1 : ρ[i]? = some (.ob k)) (h2 : σ[i]? = some (some (.ref l))) (e2 : H l = some u) (e3 : G l = none) (nx : ∀ q, u ≠ .ext q) (hu : k.ok K l G u) (h : k'.ok K l G u') : Sat K c (ρ.set i (.ob k')) σ G (upd H l u') :=
  S.writeM h1 rfl (fun z => by cases z) h2 e2 e3 rfl ⟨fun a ps q => by
      have : a ≠ l := fun z => by rw [z, e2] at q; exact k.nt _ _ _ _ hu ps (Option.some.inj q)
      exact ⟨ps, by rw [upd_ne this]; exact q⟩, fun hT p hp => by
      obtain ⟨ps, a1, a2, a3⟩ := hT p hp
      have n1 : p.1 ≠ l := fun z => by rw [z, e2] at a1; exact k.nt _ _ _ _ hu ps (Option.some.inj a1)
      refine ⟨ps, by rw [upd_ne n1]; exact a1, a2, fun pos cv hc => ?_⟩
      obtain ⟨c0, b1, b2⟩ := a3 pos cv hc
      have n2 : c0 ≠ l := fun z => by rw [z, e2] at b2; exact nx _ (Option.some.inj b2)
      exact ⟨c0, b1, by rw [upd_ne n2]; exact b2⟩⟩ fun H' q => ⟨l, u', rfl, q, e3, h⟩
/-- a new object of one's own goes to a slot -/
theorem Sat.setOb (S : Sat K c ρ σ G H) {i : Nat} {k : ObK} {l : Addr} {u : HO} (hn : H l = none) (h : k.ok K l G u) : Sat K c (ρ.set i (.ob k)) (σ.set i (some (.ref l))) G (upd H l u) := by
  have S1 := S.tr (Tr.newH (o := u) S hn)
  have hG : G l = none := S.ex2.back hn
  have S2 : Sat K c (ρ.set i .no) (σ.set i (some (.ref l))) G (upd H l u) := S1.setNo
  have hHe : c.He l = none := by
    cases e : c.He l with
    | none => rfl
    | some o => exact absurd hn (S.there l (by rw [e]; exact fun z => by cases z))
  have sg : ∀ {j : Nat} {f : Ent}, (ρ.set i (.ob k))[j]? = some f → f = .ob k ∧ i = j ∨ i ≠ j ∧ (ρ.set i .no)[j]? = some f := fun {j f} q => by
    by_cases z : i = j
    · subst z
      have hi : i < ρ.length := by
        have := (List.getElem?_eq_some_iff.mp q).1
        rwa [List.length_set] at this
      rw [List.getElem?_set_self hi] at q
      exact .inl ⟨(Option.some.inj q).symm, rfl⟩
    · rw [List.getElem?_set_ne z] at q
      exact .inr ⟨z, by rw [List.getElem?_set_ne z]; exact q⟩
  have self : ∀ {j : Nat} {f : Ent}, i ≠ j → (ρ.set i .no)[j]? = some f → f.isM = true → (σ.set i (some (.ref l)))[j]? ≠ some (some (.ref l)) := fun {j f} z q m hq => by
    rw [List.getElem?_set_ne z] at q hq
    have y := S.slot j f _ q hq
    cases f with
    | no => cases m
    | dat d => cases m
    | ls ds =>
      obtain ⟨l2, xs, e1, e2, _⟩ := y
      cases e1
      rw [hn] at e2
      cases e2
    | row =>
      obtain ⟨r, e1, e2⟩ := y
      cases e1
      exact e2.there hn
    | ob k2 =>
      obtain ⟨l2, u2, e1, e2, _⟩ := y
      cases e1
      rw [hn] at e2
      cases e2
    | val k2 => cases m
  refine ⟨S2.ex1, S2.ex2, S2.keep, S2.tbl, S2.there, S2.avoid, S2.mrow, S2.mhe, by rw [List.length_set, List.length_set, S.len], fun j f o q1 q2 => ?_, fun j f l2 q1 qm q2 => ?_, fun j m f g l2 hne q1 q2 m1 m2 q3 q4 => ?_⟩
  · rcases sg q1 with ⟨e, z⟩ | ⟨z, q⟩
    · subst e z
      have hi : i < σ.length := by
        have := (List.getElem?_eq_some_iff.mp q2).1
        rwa [List.length_set] at this
      rw [List.getElem?_set_self hi] at q2
      cases q2
      exact ⟨l, u, rfl, upd_same, hG, h⟩
    · exact S2.slot j f o q q2
  · rcases sg q1 with ⟨e, z⟩ | ⟨z, q⟩
    · subst e z
      have hi : i < σ.length := by
        have := (List.getElem?_eq_some_iff.mp q2).1
        rwa [List.length_set] at this
      rw [List.getElem?_set_self hi] at q2
      cases q2
      exact .inl hHe
    · exact S2.own j f l2 q qm q2
  · have at_ : ∀ {j : Nat}, i = j → (σ.set i (some (.ref l)))[j]? = some (some (.ref l2)) → l2 = l := fun {j} z q => by
      subst z
      have hi : i < σ.length := by
        have := (List.getElem?_eq_some_iff.mp q).1
        rwa [List.length_set] at this
      rw [List.getElem?_set_self hi] at q
      cases q
      rfl
    rcases sg q1 with ⟨_, z⟩ | ⟨z, q⟩
    · rcases sg q2 with ⟨_, z2⟩ | ⟨z2, q'⟩
      · exact hne (z.symm.trans z2)
      · rw [at_ z q3] at q4
        exact self z2 q' m2 q4
    · rcases sg q2 with ⟨_, z2⟩ | ⟨z2, q'⟩
      · rw [at_ z2 q4] at q3
        exact self z q m1 q3
      · exact S2.ne j m f g l2 hne q q' m1 m2 q3 q4
end
end SF

/-! ## Judgements over data -/
namespace SF
open PySem PySem.Spec PyProof.Rows L2

abbrev WE := Rho → (Res → Prop) → (Exn → Prop) → Prop
abbrev WA := Rho → (List PyData → Prop) → (Exn → Prop) → Prop
abbrev WT := Rho → (Bool → Prop) → (Exn → Prop) → Prop
structure Pst where
  nx : Rho → Prop
  rt : Res → Prop
  xc : Exn → Prop
  bk : Rho → Prop := fun _ => False
  ct : Rho → Prop := fun _ => False
abbrev WS := Rho → Pst → Prop
section
variable {K : PySem.W.Frag} {b : Bs} {G G' G1 G2 H H' H1 H2 : Hp} {c : Cn} {ρ : Rho} {σ : L2.St}
def PostE (K : PySem.W.Frag) (ρ : Rho) (σ : L2.St) (G H : Hp) (Φ : Res → Prop) (Q : VK) : Prop := ∀ v r G' H', Tr K ρ σ G H G' H' → Out K H G' H' r v → Φ r → Q v H'
def PostA (K : PySem.W.Frag) (n : Nat) (ρ : Rho) (σ : L2.St) (G H : Hp) (Φ : List PyData → Prop) (Q : List V → Hp → Prop) : Prop := ∀ vs ds G' H', Tr K ρ σ G H G' H' → ImL K G' ds vs → ds.length = n → Φ ds → Q vs H'
def PostT (K : PySem.W.Frag) (ρ : Rho) (σ : L2.St) (G H : Hp) (Φ : Bool → Prop) (Q : Bool → Hp → Prop) : Prop := ∀ k G' H', Tr K ρ σ G H G' H' → Φ k → Q k H'
def ExcE (K : PySem.W.Frag) (b : Bs) (ρ : Rho) (σ : L2.St) (G H : Hp) (Ξ : Exn → Prop) : Prop := ∀ ex cls d G' H', Tr K ρ σ G H G' H' → b.XR ex cls d G' → Ξ ex → b.E cls d H'
theorem PostE.tr {Φ : Res → Prop} {Q : VK} (p : PostE K ρ σ G H Φ Q) (t : Tr K ρ σ G H G1 H1) : PostE K ρ σ G1 H1 Φ Q := fun v r G' H' t' o h => p v r G' H' (t.trans t') (o.back fun _ z => t.back z) h
theorem PostA.tr {n : Nat} {Φ : List PyData → Prop} {Q : List V → Hp → Prop} (p : PostA K n ρ σ G H Φ Q) (t : Tr K ρ σ G H G1 H1) : PostA K n ρ σ G1 H1 Φ Q := fun v r G' H' t' o l h => p v r G' H' (t.trans t') o l h
theorem PostT.tr {Φ : Bool → Prop} {Q : Bool → Hp → Prop} (p : PostT K ρ σ G H Φ Q) (t : Tr K ρ σ G H G1 H1) : PostT K ρ σ G1 H1 Φ Q := fun k G' H' t' h => p k G' H' (t.trans t') h
theorem ExcE.tr {Ξ : Exn → Prop} (p : ExcE K b ρ σ G H Ξ) (t : Tr K ρ σ G H G1 H1) : ExcE K b ρ σ G1 H1 Ξ := fun ex cls d G' H' t' x h => p ex cls d G' H' (t.trans t') x h
def teOf (K : PySem.W.Frag) (b : Bs) (w : WE) : TE := fun σ H Q => ∃ (c : Cn) (ρ : Rho) (G : Hp) (Φ : Res → Prop) (Ξ : Exn → Prop), Sat K c ρ σ G H ∧ w ρ Φ Ξ ∧ PostE K ρ σ G H Φ Q ∧ ExcE K b ρ σ G H Ξ
def taOf (K : PySem.W.Frag) (b : Bs) (n : Nat) (w : WA) : TA := fun σ H Q => ∃ (c : Cn) (ρ : Rho) (G : Hp) (Φ : List PyData → Prop) (Ξ : Exn → Prop), Sat K c ρ σ G H ∧ w ρ Φ Ξ ∧ PostA K n ρ σ G H Φ Q ∧ ExcE K b ρ σ G H Ξ
def ttOf (K : PySem.W.Frag) (b : Bs) (w : WT) : TT := fun σ H Q => ∃ (c : Cn) (ρ : Rho) (G : Hp) (Φ : Bool → Prop) (Ξ : Exn → Prop), Sat K c ρ σ G H ∧ w ρ Φ Ξ ∧ PostT K ρ σ G H Φ Q ∧ ExcE K b ρ σ G H Ξ
structure PostS (K : PySem.W.Frag) (b : Bs) (c : Cn) (Ψ : Pst) (D : Ends) : Prop where
  nx : ∀ ρ' σ' G' H', Sat K c ρ' σ' G' H' → Ψ.nx ρ' → D.nx σ' H'
  rt : ∀ v r G' H', Fin' K c G' H' → Out K c.He G' H' r v → Ψ.rt r → D.rt v H'
  bk : ∀ ρ' σ' G' H', Sat K c ρ' σ' G' H' → Ψ.bk ρ' → D.bk σ' H'
  ct : ∀ ρ' σ' G' H', Sat K c ρ' σ' G' H' → Ψ.ct ρ' → D.ct σ' H'
  xc : ∀ ex cls d G' H', Fin' K c G' H' → b.XR ex cls d G' → Ψ.xc ex → b.E cls d H'
def tsOf (K : PySem.W.Frag) (b : Bs) (w : WS) : TS := fun D σ H => ∃ (c : Cn) (ρ : Rho) (G : Hp) (Ψ : Pst), Sat K c ρ σ G H ∧ w ρ Ψ ∧ PostS K b c Ψ D
end
section
variable {X : Cx} {b : Bs}
abbrev PEI (X : Cx) (b : Bs) (e : Expr) (w : WE) : Prop := PE X e (teOf X.K b w)
abbrev PAI (X : Cx) (b : Bs) (n : Nat) (es : List Expr) (w : WA) : Prop := PA X es (taOf X.K b n w)
abbrev PTI (X : Cx) (b : Bs) (e : Expr) (w : WT) : Prop := PT X e (ttOf X.K b w)
abbrev PSI (X : Cx) (b : Bs) (st : Stmt) (w : WS) : Prop := PS X st (tsOf X.K b w)
abbrev PSsI (X : Cx) (b : Bs) (st : List Stmt) (w : WS) : Prop := PSs X st (tsOf X.K b w)
theorem pe_imp {e : Expr} {t t' : TE} (h : PE X e t) (hi : ∀ σ H Q, t' σ H Q → t σ H Q) : PE X e t' := ⟨fun pins s σ H Q I q => h.run pins s σ H Q I (hi σ H Q q)⟩
theorem pa_imp {e : List Expr} {t t' : TA} (h : PA X e t) (hi : ∀ σ H Q, t' σ H Q → t σ H Q) : PA X e t' := ⟨fun pos pins s σ H Q I q => h.run pos pins s σ H Q I (hi σ H Q q)⟩
theorem pt_imp {e : Expr} {t t' : TT} (h : PT X e t) (hi : ∀ σ H Q, t' σ H Q → t σ H Q) : PT X e t' := ⟨fun pins s σ H Q I q => h.run pins s σ H Q I (hi σ H Q q)⟩
theorem ps_imp {e : Stmt} {t t' : TS} (h : PS X e t) (hi : ∀ D σ H, t' D σ H → t D σ H) : PS X e t' := ⟨fun pins s σ H D I q => h.run pins s σ H D I (hi D σ H q)⟩
theorem pss_imp {e : List Stmt} {t t' : TS} (h : PSs X e t) (hi : ∀ D σ H, t' D σ H → t D σ H) : PSs X e t' := ⟨fun pins s σ H D I q => h.run pins s σ H D I (hi D σ H q)⟩
theorem pei_of {e : Expr} {t : TE} {w : WE} (h : PE X e t) (hi : ∀ c ρ σ G H Φ Ξ Q, Sat X.K c ρ σ G H → w ρ Φ Ξ → PostE X.K ρ σ G H Φ Q → ExcE X.K b ρ σ G H Ξ → t σ H Q) : PEI X b e w :=
  pe_imp h fun σ H Q ⟨c, ρ, G, Φ, Ξ, S, hw, p, x⟩ => hi c ρ σ G H Φ Ξ Q S hw p x
theorem psi_of {st : Stmt} {t : TS} {w : WS} (h : PS X st t) (hi : ∀ c ρ σ G H Ψ D, Sat X.K c ρ σ G H → w ρ Ψ → PostS X.K b c Ψ D → t D σ H) : PSI X b st w :=
  ps_imp h fun D σ H ⟨c, ρ, G, Ψ, S, hw, p⟩ => hi c ρ σ G H Ψ D S hw p

/-! ### names, constants -/
def wVar (i : Nat) : WE := fun ρ Φ _ => ∃ d, ρ[i]? = some (.dat d) ∧ Φ (.dat d)
theorem pei_var (i : Nat) {x : Str} {pos : Pos} (hN : X.N[i]? = some x := by rfl) (hv : Vis X.env.scope x := by first | exact Or.inl rfl | exact Or.inr (Or.inl rfl) | exact Or.inr (Or.inr rfl)) (hd : (x == ("__debug__" : Str)) = false := by decide)
    (hcd : (x == ("__classdict__" : Str)) = false := by decide) : PEI X b (.Name x pos) (wVar i) := pei_of (pe_var hN hv hd hcd) fun c ρ σ G H Φ Ξ Q S hw p _ => by
  obtain ⟨d, e, h⟩ := hw
  obtain ⟨v, e2, im⟩ := S.var e
  exact ⟨v, e2, p v (.dat d) G H (.refl S) im h⟩
def wC (d : PyData) : WE := fun _ Φ _ => Φ (.dat d)
theorem pei_c {e : Expr} {v : V} (d : PyData) (h : PE X e (tC v)) (hd : ∀ G, Im X.K G d v) : PEI X b e (wC d) := pei_of h fun c ρ σ G H Φ Ξ Q S hw p _ => p v (.dat d) G H (.refl S) (hd G) hw
theorem pei_int {i j pos} : PEI X b (.Constant (.int i) j pos) (wC (.int i)) := pei_c _ pe_int fun _ => by rw [im_int]
theorem pei_bl {i j pos} : PEI X b (.Constant (.bool i) j pos) (wC (.bool i)) := pei_c _ pe_bl fun _ => by rw [im_bool]
theorem pei_non {j pos} : PEI X b (.Constant .none j pos) (wC .none) := pei_c _ pe_non fun _ => by rw [im_none]
theorem pei_str {i j pos} : PEI X b (.Constant (.str i) j pos) (wC (.str i)) := pei_c _ pe_str fun _ => by rw [im_str]
theorem pei_gint {x : Str} {i : Int} {pos : Pos} (hg : Gl X x) (hm : ∃ t, X.mg x = some (.int i t)) (hd : (x == ("__debug__" : Str)) = false := by decide) : PEI X b (.Name x pos) (wC (.int i)) := by
  obtain ⟨t, hm⟩ := hm
  exact pei_c _ (pe_glob (v := .int i) hg hm ⟨t, rfl⟩ hd) fun _ => by rw [im_int]
theorem pei_gstr {x : Str} {i : Str} {pos : Pos} (hg : Gl X x) (hm : ∃ t, X.mg x = some (.str i t)) (hd : (x == ("__debug__" : Str)) = false := by decide) : PEI X b (.Name x pos) (wC (.str i)) := by
  obtain ⟨t, hm⟩ := hm
  exact pei_c _ (pe_glob (v := .str i) hg hm ⟨t, rfl⟩ hd) fun _ => by rw [im_str]
theorem pei_gref {x : Str} {a : Addr} {d : PyData} {pos : Pos} (hg : Gl X x) (hm : X.mg x = some (.ref a)) (hi : ∀ G, Im X.K G d (.ref a)) (hd : (x == ("__debug__" : Str)) = false := by decide) : PEI X b (.Name x pos) (wC d) :=
  pei_c _ (pe_glob (v := .ref a) hg hm rfl hd) hi

/-! ### operations on data -/
abbrev Sem1 := PyData → (Res → Prop) → Prop
abbrev Sem2 := PyData → PyData → (Res → Prop) → Prop
def wOp (sem : Sem2) (wa wb : WE) : WE := fun ρ Φ Ξ => wa ρ (fun x => wb ρ (fun y => sem x.frz y.frz Φ) Ξ) Ξ
def wUn (sem : Sem1) (wa : WE) : WE := fun ρ Φ Ξ => wa ρ (fun x => sem x.frz Φ) Ξ
/-- an operation on values is one on data -/
def Op2 (X : Cx) (r : R2) (sem : Sem2) : Prop := ∀ c ρ σ G H d1 d2 x y Φ Q, Sat X.K c ρ σ G H → Im X.K G d1 x → Im X.K G d2 y → sem d1 d2 Φ → PostE X.K ρ σ G H Φ Q → r x y H Q
def Op1 (X : Cx) (r : V → Hp → VK → Prop) (sem : Sem1) : Prop := ∀ c ρ σ G H d1 x Φ Q, Sat X.K c ρ σ G H → Im X.K G d1 x → sem d1 Φ → PostE X.K ρ σ G H Φ Q → r x H Q
theorem pei_op {e : Expr} {r : R2} {sem : Sem2} {wa wb : WE} (h : PE X e (tOp r (teOf X.K b wa) (teOf X.K b wb))) (hr : Op2 X r sem) : PEI X b e (wOp sem wa wb) := pei_of h fun c ρ σ G H Φ Ξ Q S hw p x => by
  refine ⟨c, ρ, G, _, Ξ, S, hw, fun v1 r1 G1 H1 t1 o1 h1 => ?_, x⟩
  obtain ⟨G1', t1', i1⟩ := freeze S t1 o1
  refine ⟨c, ρ, G1', _, Ξ, S.tr t1', h1, fun v2 r2 G2 H2 t2 o2 h2 => ?_, x.tr t1'⟩
  obtain ⟨G2', t2', i2⟩ := freeze (S.tr t1') t2 o2
  exact hr c ρ σ G2' H2 _ _ v1 v2 Φ Q ((S.tr t1').tr t2') (i1.mono t2'.eg) i2 h2 (p.tr (t1'.trans t2'))
theorem pei_un {e : Expr} {r : V → Hp → VK → Prop} {sem : Sem1} {wa : WE} (h : PE X e (fun σ H Q => teOf X.K b wa σ H fun x H1 => r x H1 Q)) (hr : Op1 X r sem) : PEI X b e (wUn sem wa) := pei_of h fun c ρ σ G H Φ Ξ Q S hw p x => by
  refine ⟨c, ρ, G, _, Ξ, S, hw, fun v1 r1 G1 H1 t1 o1 h1 => ?_, x⟩
  obtain ⟨G1', t1', i1⟩ := freeze S t1 o1
  exact hr c ρ σ G1' H1 _ v1 Φ Q (S.tr t1') i1 h1 (p.tr t1')
/-- two ints give flat data -/
def sII (f : Int → Int → PyData) : Sem2 := fun a b Φ => ∃ i j, a = .int i ∧ b = .int j ∧ Φ (.dat (f i j))
def sIIc (C : Int → Int → Prop) (f : Int → Int → PyData) : Sem2 := fun a b Φ => ∃ i j, a = .int i ∧ b = .int j ∧ C i j ∧ Φ (.dat (f i j))
theorem op2_I0 {g : Int → Int → V} {f : Int → Int → PyData} (hg : ∀ i j G, Im X.K G (f i j) (g i j)) : Op2 X (rI0 g) (sII f) := fun c ρ σ G H d1 d2 x y Φ Q S i1 i2 hs p => by
  obtain ⟨i, j, rfl, rfl, h⟩ := hs
  rw [im_int] at i1 i2
  exact ⟨i, j, i1, i2, p _ (.dat _) G H (.refl S) (hg i j G) h⟩
theorem op2_I {C : Int → Int → Prop} {g : Int → Int → V} {f : Int → Int → PyData} (hg : ∀ i j G, Im X.K G (f i j) (g i j)) : Op2 X (rI C g) (sIIc C f) := fun c ρ σ G H d1 d2 x y Φ Q S i1 i2 hs p => by
  obtain ⟨i, j, rfl, rfl, hc, h⟩ := hs
  rw [im_int] at i1 i2
  exact ⟨i, j, i1, i2, hc, p _ (.dat _) G H (.refl S) (hg i j G) h⟩
abbrev sAdd : Sem2 := sII fun i j => .int (i + j)
abbrev sSub : Sem2 := sII fun i j => .int (i - j)
abbrev sMul : Sem2 := sIIc CMul fun i j => .int (i * j)
abbrev sMod : Sem2 := sIIc (fun _ j => 0 < j) fun i j => .int (i % j)
abbrev sDiv : Sem2 := sIIc CDiv fun i j => .int (i / j)
abbrev sLt : Sem2 := sII fun i j => .bool (decide (i < j))
abbrev sLe : Sem2 := sII fun i j => .bool (decide (i ≤ j))
abbrev sGt : Sem2 := sII fun i j => .bool (decide (j < i))
abbrev sGe : Sem2 := sII fun i j => .bool (decide (j ≤ i))
variable {x y z : Expr} {pos : Pos} {wx wy wz : WE}
theorem pei_add (hx : PEI X b x wx) (hy : PEI X b y wy) : PEI X b (.BinOp x .Add y pos) (wOp sAdd wx wy) := pei_op (pe_op op_add hx hy) (op2_I0 fun i j G => by rw [im_int])
theorem pei_sub (hx : PEI X b x wx) (hy : PEI X b y wy) : PEI X b (.BinOp x .Sub y pos) (wOp sSub wx wy) := pei_op (pe_op op_sub hx hy) (op2_I0 fun i j G => by rw [im_int])
theorem pei_mul (hx : PEI X b x wx) (hy : PEI X b y wy) : PEI X b (.BinOp x .Mult y pos) (wOp sMul wx wy) := pei_op (pe_op op_mul hx hy) (op2_I fun i j G => by rw [im_int])
theorem pei_mod (hx : PEI X b x wx) (hy : PEI X b y wy) : PEI X b (.BinOp x .Mod y pos) (wOp sMod wx wy) := pei_op (pe_op op_mod hx hy) (op2_I fun i j G => by rw [im_int])
theorem pei_fdiv (hx : PEI X b x wx) (hy : PEI X b y wy) : PEI X b (.BinOp x .FloorDiv y pos) (wOp sDiv wx wy) := pei_op (pe_op op_fdiv hx hy) (op2_I fun i j G => by rw [im_int])
theorem pei_cmp {op : CmpOp} {r : R2} {sem : Sem2} (ho : OpR X (compareOp op) r) (hr : Op2 X r sem) (hm : behindInMarks op y = false) (hx : PEI X b x wx) (hy : PEI X b y wy) : PEI X b (.Compare x [op] [y] pos) (wOp sem wx wy) := pei_op (pe_cmpR ho hx hy hm) hr
theorem op2_lt : Op2 X (rI0 fun i j => .bl (decide (i < j))) sLt := op2_I0 fun i j G => by rw [im_bool]
theorem op2_le : Op2 X (rI0 fun i j => .bl (decide (i ≤ j))) sLe := op2_I0 fun i j G => by rw [im_bool]
theorem op2_gt : Op2 X (rI0 fun i j => .bl (decide (j < i))) sGt := op2_I0 fun i j G => by rw [im_bool]
theorem op2_ge : Op2 X (rI0 fun i j => .bl (decide (j ≤ i))) sGe := op2_I0 fun i j G => by rw [im_bool]
/-- == of data of any depth -/
def sEq : Sem2 := fun a b Φ => SeqAt.shaped a = true ∧ SeqAt.shaped b = true ∧ Φ (.dat (.bool (PyData.eqv a b)))
def sNe : Sem2 := fun a b Φ => SeqAt.shaped a = true ∧ SeqAt.shaped b = true ∧ Φ (.dat (.bool (!PyData.eqv a b)))
theorem op2_eq : Op2 X (rEqD X.K) sEq := fun c ρ σ G H d1 d2 x y Φ Q S i1 i2 hs p =>
  ⟨d1, d2, i1.dp S.ex2, i2.dp S.ex2, hs.1, hs.2.1, p _ (.dat (.bool _)) G H (.refl S) (by show Im _ _ _ _; rw [im_bool]) hs.2.2⟩
theorem op2_ne : Op2 X (rNeD X.K) sNe := fun c ρ σ G H d1 d2 x y Φ Q S i1 i2 hs p =>
  ⟨d1, d2, i1.dp S.ex2, i2.dp S.ex2, hs.1, hs.2.1, p _ (.dat (.bool _)) G H (.refl S) (by show Im _ _ _ _; rw [im_bool]) hs.2.2⟩
/-- is None -/
def isNone : PyData → Bool
  | .none => true
  | _ => false
theorem Im.nonB {K : PySem.W.Frag} {G : Hp} {d : PyData} {v : V} (h : Im K G d v) : decide (v = .non) = isNone d := by
  cases d with
  | none => rw [im_none] at h; subst h; rfl
  | bool _ => rw [im_bool] at h; subst h; rfl
  | int _ => rw [im_int] at h; subst h; rfl
  | str _ => rw [im_str] at h; subst h; rfl
  | list _ => rw [im_list] at h; obtain ⟨a, xs, rfl, _⟩ := h; rfl
  | tuple _ => rw [im_tuple] at h; obtain ⟨a, xs, rfl, _⟩ := h; rfl
  | dict _ => rw [im_dict] at h; exact h.elim
def sIsN : Sem2 := fun a b Φ => b = .none ∧ Φ (.dat (.bool (isNone a)))
def sNotN : Sem2 := fun a b Φ => b = .none ∧ Φ (.dat (.bool (!isNone a)))
abbrev rIsNo : R2 := fun x y H Q => y = .non ∧ Q (.bl (decide (x = .non))) H
abbrev rNotNo : R2 := fun x y H Q => y = .non ∧ Q (.bl (!decide (x = .non))) H
theorem op2_isN : Op2 X rIsNo sIsN := fun c ρ σ G H d1 d2 x y Φ Q S i1 i2 hs p => by
  obtain ⟨rfl, h⟩ := hs
  rw [im_none] at i2
  refine ⟨i2, p _ (.dat (.bool (isNone d1))) G H (.refl S) (by show Im _ _ _ _; rw [im_bool, i1.nonB]) h⟩
theorem op2_notN : Op2 X rNotNo sNotN := fun c ρ σ G H d1 d2 x y Φ Q S i1 i2 hs p => by
  obtain ⟨rfl, h⟩ := hs
  rw [im_none] at i2
  refine ⟨i2, p _ (.dat (.bool (!isNone d1))) G H (.refl S) (by show Im _ _ _ _; rw [im_bool, i1.nonB]) h⟩
/-- in a list of any data; in a tuple of flat data -/
def sInL (f : Bool → Bool) : Sem2 := fun a b Φ => ∃ ds, b = .list ds ∧ SeqAt.shaped a = true ∧ SeqAt.shaped (.list ds) = true ∧ Φ (.dat (.bool (f (ds.any fun z => PyData.eqv z a))))
def sInT (f : Bool → Bool) : Sem2 := fun a b Φ => ∃ ds, b = .tuple ds ∧ isSc a = true ∧ ds.all isSc = true ∧ Φ (.dat (.bool (f (ds.any fun z => PyData.eqv z a))))
theorem op2_inL : Op2 X (rInD X.K) (sInL fun k => k) := fun c ρ σ G H d1 d2 x y Φ Q S i1 i2 hs p => by
  obtain ⟨ds, rfl, h1, h2, h⟩ := hs
  exact ⟨d1, ds, i1.dp S.ex2, i2.dp S.ex2, h1, h2, p _ (.dat (.bool _)) G H (.refl S) (by show Im _ _ _ _; rw [im_bool]) h⟩
theorem op2_notInL : Op2 X (rNotInD X.K) (sInL not) := fun c ρ σ G H d1 d2 x y Φ Q S i1 i2 hs p => by
  obtain ⟨ds, rfl, h1, h2, h⟩ := hs
  exact ⟨d1, ds, i1.dp S.ex2, i2.dp S.ex2, h1, h2, p _ (.dat (.bool _)) G H (.refl S) (by show Im _ _ _ _; rw [im_bool]) h⟩
theorem op2_inT {neg : Bool} {f : Bool → Bool} (hf : ∀ k, (if neg then !k else k) = f k) : Op2 X (rIn X.K neg) (sInT f) := fun c ρ σ G H d1 d2 x y Φ Q S i1 i2 hs p => by
  obtain ⟨ds, rfl, h1, h2, h⟩ := hs
  rw [im_tuple] at i2
  obtain ⟨a, xs, rfl, ht, il⟩ := i2
  obtain ⟨s1, s2⟩ := i1.sc h1
  obtain ⟨t1, t2⟩ := inV_sc s1 il h2
  refine ⟨a, xs, rfl, .inr (ex_t S.ex2 ht), s2, t2, p _ (.dat (.bool (f (ds.any fun z => PyData.eqv z d1)))) G H (.refl S) ?_ h⟩
  show Im _ _ _ _
  rw [im_bool, ← hf, t1]
theorem op2_inT1 : Op2 X (rIn X.K false) (sInT fun k => k) := op2_inT fun k => rfl
theorem op2_notInT : Op2 X (rIn X.K true) (sInT not) := op2_inT fun k => rfl

/-! ### and, or, not, a if c else d -/
def isB (r : Res) (Φ : Bool → Prop) : Prop := ∃ k, r = .dat (.bool k) ∧ Φ k
def wAnd (wa wb : WE) : WE := fun ρ Φ Ξ => wa ρ (fun r => isB r fun k => if k = true then wb ρ Φ Ξ else Φ (.dat (.bool false))) Ξ
def wOr (wa wb : WE) : WE := fun ρ Φ Ξ => wa ρ (fun r => isB r fun k => if k = true then Φ (.dat (.bool true)) else wb ρ Φ Ξ) Ξ
def wNot (wa : WE) : WE := fun ρ Φ Ξ => wa ρ (fun r => isB r fun k => Φ (.dat (.bool (!k)))) Ξ
variable {rest : List Expr}
theorem pei_one (hop : BoolOp) (hx : PEI X b x wx) : PEI X b (.BoolOp hop [x] pos) wx := pe_one hx
theorem pei_and (hx : PEI X b x wx) (hy : PEI X b (.BoolOp .And (y :: rest) pos) wy) : PEI X b (.BoolOp .And (x :: y :: rest) pos) (wAnd wx wy) := pei_of (pe_and hx hy) fun c ρ σ G H Φ Ξ Q S hw p ex => by
  refine ⟨c, ρ, G, _, Ξ, S, hw, fun v1 r1 G1 H1 t1 o1 h1 => ?_, ex⟩
  obtain ⟨k, rfl, h1⟩ := h1
  have o1 : Im X.K G1 (.bool k) v1 := o1
  rw [im_bool] at o1
  refine ⟨k, o1, ?_⟩
  cases k with
  | true => exact ⟨c, ρ, G1, Φ, Ξ, S.tr t1, h1, p.tr t1, ex.tr t1⟩
  | false => exact p _ (.dat (.bool false)) G1 H1 t1 (by show Im _ _ _ _; rw [im_bool]) h1
theorem pei_or (hx : PEI X b x wx) (hy : PEI X b (.BoolOp .Or (y :: rest) pos) wy) : PEI X b (.BoolOp .Or (x :: y :: rest) pos) (wOr wx wy) := pei_of (pe_or hx hy) fun c ρ σ G H Φ Ξ Q S hw p ex => by
  refine ⟨c, ρ, G, _, Ξ, S, hw, fun v1 r1 G1 H1 t1 o1 h1 => ?_, ex⟩
  obtain ⟨k, rfl, h1⟩ := h1
  have o1 : Im X.K G1 (.bool k) v1 := o1
  rw [im_bool] at o1
  refine ⟨k, o1, ?_⟩
  cases k with
  | false => exact ⟨c, ρ, G1, Φ, Ξ, S.tr t1, h1, p.tr t1, ex.tr t1⟩
  | true => exact p _ (.dat (.bool true)) G1 H1 t1 (by show Im _ _ _ _; rw [im_bool]) h1
theorem pei_not (hx : PEI X b x wx) : PEI X b (.UnaryOp .Not x pos) (wNot wx) := pei_of (pe_not hx) fun c ρ σ G H Φ Ξ Q S hw p ex => by
  refine ⟨c, ρ, G, _, Ξ, S, hw, fun v1 r1 G1 H1 t1 o1 h1 => ?_, ex⟩
  obtain ⟨k, rfl, h1⟩ := h1
  have o1 : Im X.K G1 (.bool k) v1 := o1
  rw [im_bool] at o1
  exact ⟨k, o1, p _ (.dat (.bool (!k))) G1 H1 t1 (by show Im _ _ _ _; rw [im_bool]) h1⟩
/-- a test by its value -/
def wTest (w : WE) : WT := fun ρ Φ Ξ => w ρ (fun r => isB r Φ) Ξ
theorem pti_of {e : Expr} {t : TT} {w : WT} (h : PT X e t) (hi : ∀ c ρ σ G H Φ Ξ Q, Sat X.K c ρ σ G H → w ρ Φ Ξ → PostT X.K ρ σ G H Φ Q → ExcE X.K b ρ σ G H Ξ → t σ H Q) : PTI X b e w :=
  pt_imp h fun σ H Q ⟨c, ρ, G, Φ, Ξ, S, hw, p, x⟩ => hi c ρ σ G H Φ Ξ Q S hw p x
theorem pti_val (hx : PEI X b x wx) (he : ∀ whole, PySem.isTrue x X.env whole = (do let v ← whole; standAt x.pos; holding [v] (truthy v)) := by intro _; rfl) : PTI X b x (wTest wx) := pti_of (pt_val hx he) fun c ρ σ G H Φ Ξ Q S hw p ex => by
  refine ⟨c, ρ, G, _, Ξ, S, hw, fun v1 r1 G1 H1 t1 o1 h1 => ?_, ex⟩
  obtain ⟨k, rfl, h1⟩ := h1
  have o1 : Im X.K G1 (.bool k) v1 := o1
  rw [im_bool] at o1
  exact ⟨k, o1, p k G1 H1 t1 h1⟩
theorem pti_cmp {op : CmpOp} {r : R2} {sem : Sem2} (ho : OpR X (compareOp op) r) (hr : Op2 X r sem) (hm : behindInMarks op y = false) (hx : PEI X b x wx) (hy : PEI X b y wy) : PTI X b (.Compare x [op] [y] pos) (wTest (wOp sem wx wy)) := pti_of (pt_cmpR ho hx hy hm) fun c ρ σ G H Φ Ξ Q S hw p ex => by
  refine ⟨c, ρ, G, _, Ξ, S, hw, fun v1 r1 G1 H1 t1 o1 h1 => ?_, ex⟩
  obtain ⟨G1', t1', i1⟩ := freeze S t1 o1
  refine ⟨c, ρ, G1', _, Ξ, S.tr t1', h1, fun v2 r2 G2 H2 t2 o2 h2 => ?_, ex.tr t1'⟩
  obtain ⟨G2', t2', i2⟩ := freeze (S.tr t1') t2 o2
  refine hr c ρ σ G2' H2 _ _ v1 v2 _ _ ((S.tr t1').tr t2') (i1.mono t2'.eg) i2 h2 fun v3 r3 G3 H3 t3 o3 h3 => ?_
  obtain ⟨k, rfl, h3⟩ := h3
  have o3 : Im X.K G3 (.bool k) v3 := o3
  rw [im_bool] at o3
  exact ⟨k, o3, p k G3 H3 ((t1'.trans t2').trans t3) h3⟩
def wNotT (w : WT) : WT := fun ρ Φ Ξ => w ρ (fun k => Φ (!k)) Ξ
def wAndT (w u : WT) : WT := fun ρ Φ Ξ => w ρ (fun k => if k = true then u ρ Φ Ξ else Φ false) Ξ
def wOrT (w u : WT) : WT := fun ρ Φ Ξ => w ρ (fun k => if k = true then Φ true else u ρ Φ Ξ) Ξ
theorem pti_not {w : WT} (hx : PTI X b x w) : PTI X b (.UnaryOp .Not x pos) (wNotT w) := pti_of (pt_not hx) fun c ρ σ G H Φ Ξ Q S hw p ex => ⟨c, ρ, G, _, Ξ, S, hw, fun k G1 H1 t1 h1 => p _ G1 H1 t1 h1, ex⟩
abbrev PWI (X : Cx) (b : Bs) (e : Expr) (w : WT) : Prop := PW X e (ttOf X.K b w)
theorem pw_imp {e : Expr} {t t' : TT} (h : PW X e t) (hi : ∀ σ H Q, t' σ H Q → t σ H Q) : PW X e t' := ⟨fun wh pins s σ H Q I q => h.run wh pins s σ H Q I (hi σ H Q q)⟩
theorem pwi_one {hop : BoolOp} {w : WT} (hx : PTI X b x w) : PWI X b (.BoolOp hop [x] pos) w := by
  cases hop with
  | And => exact pw_and1 hx
  | Or => exact pw_or1 hx
theorem pwi_and {w u : WT} (hx : PTI X b x w) (hy : PWI X b (.BoolOp .And (y :: rest) pos) u) : PWI X b (.BoolOp .And (x :: y :: rest) pos) (wAndT w u) := pw_imp (pw_and hx hy) fun σ H Q ⟨c, ρ, G, Φ, Ξ, S, hw, p, ex⟩ => by
  refine ⟨c, ρ, G, _, Ξ, S, hw, fun k G1 H1 t1 h1 => ?_, ex⟩
  cases k with
  | true => exact ⟨c, ρ, G1, Φ, Ξ, S.tr t1, h1, p.tr t1, ex.tr t1⟩
  | false => exact p false G1 H1 t1 h1
theorem pwi_or {w u : WT} (hx : PTI X b x w) (hy : PWI X b (.BoolOp .Or (y :: rest) pos) u) : PWI X b (.BoolOp .Or (x :: y :: rest) pos) (wOrT w u) := pw_imp (pw_or hx hy) fun σ H Q ⟨c, ρ, G, Φ, Ξ, S, hw, p, ex⟩ => by
  refine ⟨c, ρ, G, _, Ξ, S, hw, fun k G1 H1 t1 h1 => ?_, ex⟩
  cases k with
  | false => exact ⟨c, ρ, G1, Φ, Ξ, S.tr t1, h1, p.tr t1, ex.tr t1⟩
  | true => exact p true G1 H1 t1 h1
theorem pti_bool {w : WT} (h : PWI X b x w) : PTI X b x w := PW.pt h
def wIf (wt : WT) (wa wb : WE) : WE := fun ρ Φ Ξ => wt ρ (fun k => if k = true then wa ρ Φ Ξ else wb ρ Φ Ξ) Ξ
theorem pei_if {wt : WT} (ht : PTI X b z wt) (hx : PEI X b x wx) (hy : PEI X b y wy) : PEI X b (.IfExp z x y pos) (wIf wt wx wy) := pei_of (pe_ifExp ht hx hy) fun c ρ σ G H Φ Ξ Q S hw p ex => by
  refine ⟨c, ρ, G, _, Ξ, S, hw, fun k G1 H1 t1 h1 => ?_, ex⟩
  cases k with
  | true => exact ⟨c, ρ, G1, Φ, Ξ, S.tr t1, h1, p.tr t1, ex.tr t1⟩
  | false => exact ⟨c, ρ, G1, Φ, Ξ, S.tr t1, h1, p.tr t1, ex.tr t1⟩
/-- a op b op' c -/
def wChain (s s' : Sem2) (wa wb wc : WE) : WE := fun ρ Φ Ξ => wa ρ (fun x => wb ρ (fun y => s x.frz y.frz (fun r => isB r fun k => if k = true then wc ρ (fun z => s' y.frz z.frz Φ) Ξ else Φ (.dat (.bool false)))) Ξ) Ξ
theorem pei_chain {op op' : CmpOp} {r r' : R2} {s s' : Sem2} (ho : OpR X (compareOp op) r) (ho' : OpR X (compareOp op') r') (hs : Op2 X r s) (hs' : Op2 X r' s') (hx : PEI X b x wx) (hy : PEI X b y wy) (hz : PEI X b z wz)
    (hm : lastMarks [op, op'] [y, z] = false := by with_unfolding_all rfl) : PEI X b (.Compare x [op, op'] [y, z] pos) (wChain s s' wx wy wz) := pei_of (pe_chain ho ho' hx hy hz hm) fun c ρ σ G H Φ Ξ Q S hw p ex => by
  refine ⟨c, ρ, G, _, Ξ, S, hw, fun v1 r1 G1 H1 t1 o1 h1 => ?_, ex⟩
  obtain ⟨G1', t1', i1⟩ := freeze S t1 o1
  refine ⟨c, ρ, G1', _, Ξ, S.tr t1', h1, fun v2 r2 G2 H2 t2 o2 h2 => ?_, ex.tr t1'⟩
  obtain ⟨G2', t2', i2⟩ := freeze (S.tr t1') t2 o2
  have t12 := t1'.trans t2'
  refine hs c ρ σ G2' H2 _ _ v1 v2 _ _ (S.tr t12) (i1.mono t2'.eg) i2 h2 fun v3 r3 G3 H3 t3 o3 h3 => ?_
  obtain ⟨k, rfl, h3⟩ := h3
  have o3 : Im X.K G3 (.bool k) v3 := o3
  rw [im_bool] at o3
  refine ⟨k, o3, ?_⟩
  have t13 := t12.trans t3
  cases k with
  | false => exact p _ (.dat (.bool false)) G3 H3 t13 (by show Im _ _ _ _; rw [im_bool]) h3
  | true =>
    refine ⟨c, ρ, G3, _, Ξ, S.tr t13, h3, fun v4 r4 G4 H4 t4 o4 h4 => ?_, ex.tr t13⟩
    obtain ⟨G4', t4', i4⟩ := freeze (S.tr t13) t4 o4
    exact hs' c ρ σ G4' H4 _ _ v2 v4 Φ Q (S.tr (t13.trans t4')) ((i2.mono t3.eg).mono t4'.eg) i4 h4 (p.tr (t13.trans t4'))
theorem pti_chain {op op' : CmpOp} {r r' : R2} {s s' : Sem2} (ho : OpR X (compareOp op) r) (ho' : OpR X (compareOp op') r') (hs : Op2 X r s) (hs' : Op2 X r' s') (hx : PEI X b x wx) (hy : PEI X b y wy) (hz : PEI X b z wz)
    (hm : lastMarks [op, op'] [y, z] = false := by with_unfolding_all rfl) : PTI X b (.Compare x [op, op'] [y, z] pos) (wTest (wChain s s' wx wy wz)) := pti_of (pt_chain ho ho' hx hy hz hm) fun c ρ σ G H Φ Ξ Q S hw p ex => by
  refine ⟨c, ρ, G, _, Ξ, S, hw, fun v1 r1 G1 H1 t1 o1 h1 => ?_, ex⟩
  obtain ⟨G1', t1', i1⟩ := freeze S t1 o1
  refine ⟨c, ρ, G1', _, Ξ, S.tr t1', h1, fun v2 r2 G2 H2 t2 o2 h2 => ?_, ex.tr t1'⟩
  obtain ⟨G2', t2', i2⟩ := freeze (S.tr t1') t2 o2
  have t12 := t1'.trans t2'
  refine hs c ρ σ G2' H2 _ _ v1 v2 _ _ (S.tr t12) (i1.mono t2'.eg) i2 h2 fun v3 r3 G3 H3 t3 o3 h3 => ?_
  obtain ⟨k, rfl, h3⟩ := h3
  have o3 : Im X.K G3 (.bool k) v3 := o3
  rw [im_bool] at o3
  refine ⟨k, o3, ?_⟩
  have t13 := t12.trans t3
  cases k with
  | false =>
    obtain ⟨k, e, h3⟩ := h3
    cases e
    exact ⟨false, rfl, p false G3 H3 t13 h3⟩
  | true =>
    refine ⟨c, ρ, G3, _, Ξ, S.tr t13, h3, fun v4 r4 G4 H4 t4 o4 h4 => ?_, ex.tr t13⟩
    obtain ⟨G4', t4', i4⟩ := freeze (S.tr t13) t4 o4
    refine hs' c ρ σ G4' H4 _ _ v2 v4 _ _ (S.tr (t13.trans t4')) ((i2.mono t3.eg).mono t4'.eg) i4 h4 fun v5 r5 G5 H5 t5 o5 h5 => ?_
    obtain ⟨k, rfl, h5⟩ := h5
    have o5 : Im X.K G5 (.bool k) v5 := o5
    rw [im_bool] at o5
    exact ⟨k, o5, p k G5 H5 ((t13.trans t4').trans t5) h5⟩
end
end SF

/-! ## More rules over data: items, slices, displays, calls -/
namespace SF
open PySem PySem.Spec PyProof.Rows L2
theorem atI_im {K : PySem.W.Frag} {G : Hp} {ds : List PyData} {xs : List V} {i : Int} {d : PyData} (h : ImL K G ds xs) (e : atI ds i = some d) : ∃ x, atI xs i = some x ∧ Im K G d x := by
  unfold atI at e ⊢
  rw [← h.len]
  cases q : ixN ds.length i with
  | none => rw [q] at e; cases e
  | some j =>
    rw [q] at e
    obtain ⟨x, hx, im⟩ := h.get (i := j) (d := d) e
    exact ⟨x, hx, im⟩
def cutD {α : Type} (xs : List α) (lo hi : Option Int) : List α := (xs.drop (HT.sIx xs.length 0 lo)).take (HT.sIx xs.length xs.length hi - HT.sIx xs.length 0 lo)
theorem cutD_im {K : PySem.W.Frag} {G : Hp} {ds : List PyData} {xs : List V} (h : ImL K G ds xs) (lo hi : Option Int) : ImL K G (cutD ds lo hi) (cutV xs lo hi) := by
  unfold cutD cutV
  rw [h.len]
  exact (h.drop _).take _
theorem cutD_all {α : Type} (xs : List α) (lo hi : Option Int) (h : HT.sIx xs.length 0 lo = 0 ∧ HT.sIx xs.length xs.length hi = xs.length) : cutD xs lo hi = xs := by
  unfold cutD
  rw [h.1, h.2]
  simp
section
variable {X : Cx} {b : Bs} {x y z e : Expr} {pos : Pos} {wx wy wz we : WE} {es : List Expr}
/-! ### items -/
def sIxT : Sem2 := fun a i Φ => ∃ ds j d, a = .tuple ds ∧ i = .int j ∧ atI ds j = some d ∧ Φ (.dat d)
def sIxL : Sem2 := fun a i Φ => ∃ ds j d, a = .list ds ∧ i = .int j ∧ atI ds j = some d ∧ Φ (.dat d)
def sIxS : Sem2 := fun a i Φ => ∃ s j k, a = .str s ∧ i = .int j ∧ s.length ≤ 1000000 ∧ atI s.cps.toList j = some k ∧ Φ (.dat (.str ⟨#[k]⟩))
theorem op2_ixT : Op2 X (rIxT X.K) sIxT := fun c ρ σ G H d1 d2 x y Φ Q S i1 i2 hs p => by
  obtain ⟨ds, j, d, rfl, rfl, e, h⟩ := hs
  rw [im_tuple] at i1
  rw [im_int] at i2
  obtain ⟨a, xs, rfl, ht, il⟩ := i1
  obtain ⟨v, e2, im⟩ := atI_im il e
  exact ⟨a, xs, j, v, rfl, i2, ex_t S.ex2 ht, e2, p v (.dat d) G H (.refl S) im h⟩
theorem op2_ixL : Op2 X (rIxL X.K) sIxL := fun c ρ σ G H d1 d2 x y Φ Q S i1 i2 hs p => by
  obtain ⟨ds, j, d, rfl, rfl, e, h⟩ := hs
  rw [im_list] at i1
  rw [im_int] at i2
  obtain ⟨a, xs, rfl, ht, il⟩ := i1
  obtain ⟨v, e2, im⟩ := atI_im il e
  exact ⟨a, xs, j, v, rfl, i2, sq_of (S.ex2 a _ ht), e2, p v (.dat d) G H (.refl S) im h⟩
theorem op2_ixS : Op2 X rIxS sIxS := fun c ρ σ G H d1 d2 x y Φ Q S i1 i2 hs p => by
  obtain ⟨s, j, k, rfl, rfl, hz, e, h⟩ := hs
  rw [im_str] at i1
  rw [im_int] at i2
  exact ⟨s, j, k, i1, i2, Nat.le_trans hz (by decide), e, p _ (.dat (.str _)) G H (.refl S) (by show Im _ _ _ _; rw [im_str]) h⟩
theorem pei_ixT (hx : PEI X b x wx) (hy : PEI X b y wy) (hs : PlainIx y := by intro _ _; rfl) : PEI X b (.Subscript x y pos) (wOp sIxT wx wy) := pei_op (pe_ix ix_tup hx hy hs) op2_ixT
theorem pei_ixL (hx : PEI X b x wx) (hy : PEI X b y wy) (hs : PlainIx y := by intro _ _; rfl) : PEI X b (.Subscript x y pos) (wOp sIxL wx wy) := pei_op (pe_ix ix_list hx hy hs) op2_ixL
theorem pei_ixS (hx : PEI X b x wx) (hy : PEI X b y wy) (hs : PlainIx y := by intro _ _; rfl) : PEI X b (.Subscript x y pos) (wOp sIxS wx wy) := pei_op (pe_ix ix_str hx hy hs) op2_ixS
/-! ### slices -/
abbrev WO := Rho → (Option Int → Prop) → (Exn → Prop) → Prop
def PostO (K : PySem.W.Frag) (ρ : Rho) (σ : L2.St) (G H : Hp) (Φ : Option Int → Prop) (Q : Option Int → Hp → Prop) : Prop := ∀ k G' H', Tr K ρ σ G H G' H' → Φ k → Q k H'
def toOf (K : PySem.W.Frag) (b : Bs) (w : WO) : TO := fun σ H Q => ∃ (c : Cn) (ρ : Rho) (G : Hp) (Φ : Option Int → Prop) (Ξ : Exn → Prop), Sat K c ρ σ G H ∧ w ρ Φ Ξ ∧ PostO K ρ σ G H Φ Q ∧ ExcE K b ρ σ G H Ξ
abbrev POI (X : Cx) (b : Bs) (e : Option Expr) (w : WO) : Prop := PO X e (toOf X.K b w)
theorem po_imp {e : Option Expr} {t t' : TO} (h : PO X e t) (hi : ∀ σ H Q, t' σ H Q → t σ H Q) : PO X e t' := ⟨fun pins s σ H Q I q => h.run pins s σ H Q I (hi σ H Q q)⟩
def wNoP : WO := fun _ Φ _ => Φ none
def wPart (w : WE) : WO := fun ρ Φ Ξ => w ρ (fun r => ∃ i, r = .dat (.int i) ∧ Φ (some i)) Ξ
theorem poi_none : POI X b none wNoP := po_imp po_none fun σ H Q ⟨c, ρ, G, Φ, Ξ, S, hw, p, ex⟩ => p none G H (.refl S) hw
theorem poi_some (hx : PEI X b x wx) : POI X b (some x) (wPart wx) := po_imp (po_some hx) fun σ H Q ⟨c, ρ, G, Φ, Ξ, S, hw, p, ex⟩ => by
  refine ⟨c, ρ, G, _, Ξ, S, hw, fun v r G1 H1 t1 o1 h1 => ?_, ex⟩
  obtain ⟨i, rfl, h1⟩ := h1
  have o1 : Im X.K G1 (.int i) v := o1
  rw [im_int] at o1
  exact ⟨i, o1, p (some i) G1 H1 t1 h1⟩
abbrev SemS := PyData → Option Int → Option Int → (Res → Prop) → Prop
def wSl (sem : SemS) (w : WE) (wl wh : WO) : WE := fun ρ Φ Ξ => w ρ (fun r => wl ρ (fun lo => wh ρ (fun hi => sem r.frz lo hi Φ) Ξ) Ξ) Ξ
def OpS (X : Cx) (r : V → Option Int → Option Int → Hp → VK → Prop) (sem : SemS) : Prop := ∀ c ρ σ G H d x lo hi Φ Q, Sat X.K c ρ σ G H → Im X.K G d x → sem d lo hi Φ → PostE X.K ρ σ G H Φ Q → r x lo hi H Q
theorem pei_slice {r : V → Option Int → Option Int → Hp → VK → Prop} {sem : SemS} {lo hi : Option Expr} {p2 : Pos} {wl wh : WO} (hr : SlR X r) (ho : OpS X r sem) (hx : PEI X b x wx) (hl : POI X b lo wl) (hh : POI X b hi wh) : PEI X b (.Subscript x (.Slice lo hi none p2) pos) (wSl sem wx wl wh) := pei_of (pe_slice hr hx hl hh) fun c ρ σ G H Φ Ξ Q S hw p ex => by
  refine ⟨c, ρ, G, _, Ξ, S, hw, fun v r G1 H1 t1 o1 h1 => ?_, ex⟩
  obtain ⟨G1', t1', i1⟩ := freeze S t1 o1
  refine ⟨c, ρ, G1', _, Ξ, S.tr t1', h1, fun lo G2 H2 t2 h2 => ?_, ex.tr t1'⟩
  refine ⟨c, ρ, G2, _, Ξ, (S.tr t1').tr t2, h2, fun hi G3 H3 t3 h3 => ?_, ex.tr (t1'.trans t2)⟩
  exact ho c ρ σ G3 H3 _ v lo hi Φ Q (((S.tr t1').tr t2).tr t3) ((i1.mono t2.eg).mono t3.eg) h3 (p.tr ((t1'.trans t2).trans t3))
def sSlT : SemS := fun a lo hi Φ => ∃ ds, a = .tuple ds ∧ Φ (.dat (.tuple (cutD ds lo hi)))
def sSlL : SemS := fun a lo hi Φ => ∃ ds, a = .list ds ∧ Φ (.lst (cutD ds lo hi))
def sSlS : SemS := fun a lo hi Φ => ∃ s, a = .str s ∧ s.length ≤ 1000000 ∧ Φ (.dat (.str (cutS s lo hi)))
theorem ops_T : OpS X (rSlA X.K) sSlT := fun c ρ σ G H d x lo hi Φ Q S i1 hs p => by
  obtain ⟨ds, rfl, h⟩ := hs
  rw [im_tuple] at i1
  obtain ⟨a, xs, rfl, ht, il⟩ := i1
  have hl := il.len
  refine ⟨a, xs, rfl, ex_t S.ex2 ht, fun q => ?_, fun _ q hq => ?_⟩
  · refine p _ (.dat (.tuple (cutD ds lo hi))) G H (.refl S) ?_ h
    show Im _ _ _ _
    rw [cutD_all ds lo hi (by rw [hl]; exact q), im_tuple]
    exact ⟨a, xs, rfl, ht, il⟩
  · refine p _ (.dat (.tuple (cutD ds lo hi))) _ _ (.newG S hq) ?_ h
    show Im _ _ _ _
    rw [im_tuple]
    exact ⟨q, _, rfl, st_of upd_same, (cutD_im il lo hi).mono (.new (S.ex2.back hq))⟩
theorem ops_L : OpS X (rSlL X.K) sSlL := fun c ρ σ G H d x lo hi Φ Q S i1 hs p => by
  obtain ⟨ds, rfl, h⟩ := hs
  rw [im_list] at i1
  obtain ⟨a, xs, rfl, ht, il⟩ := i1
  refine ⟨a, xs, rfl, sq_of (S.ex2 a _ ht), fun q hq => ?_⟩
  exact p _ (.lst (cutD ds lo hi)) _ _ (.newH S hq) ⟨q, _, rfl, hq, S.ex2.back hq, upd_same, cutD_im il lo hi⟩ h
theorem ops_S : OpS X rSlS sSlS := fun c ρ σ G H d x lo hi Φ Q S i1 hs p => by
  obtain ⟨s, rfl, hz, h⟩ := hs
  rw [im_str] at i1
  exact ⟨s, i1, Nat.le_trans hz (by decide), p _ (.dat (.str _)) G H (.refl S) (by show Im _ _ _ _; rw [im_str]) h⟩
theorem pei_slT {lo hi : Option Expr} {p2 : Pos} {wl wh : WO} (hx : PEI X b x wx) (hl : POI X b lo wl) (hh : POI X b hi wh) : PEI X b (.Subscript x (.Slice lo hi none p2) pos) (wSl sSlT wx wl wh) := pei_slice sl_tupA ops_T hx hl hh
theorem pei_slL {lo hi : Option Expr} {p2 : Pos} {wl wh : WO} (hx : PEI X b x wx) (hl : POI X b lo wl) (hh : POI X b hi wh) : PEI X b (.Subscript x (.Slice lo hi none p2) pos) (wSl sSlL wx wl wh) := pei_slice sl_list ops_L hx hl hh
theorem pei_slS {lo hi : Option Expr} {p2 : Pos} {wl wh : WO} (hx : PEI X b x wx) (hl : POI X b lo wl) (hh : POI X b hi wh) : PEI X b (.Subscript x (.Slice lo hi none p2) pos) (wSl sSlS wx wl wh) := pei_slice sl_str ops_S hx hl hh
def sRev : Sem1 := fun a Φ => ∃ ds, a = .list ds ∧ Φ (.lst ds.reverse)
theorem pei_rev {k : Nat} {p1 p2 p3 : Pos} (hx : PEI X b x wx) : PEI X b (.Subscript x (.Slice none none (some (.UnaryOp .USub (.Constant (.int 1) k p1) p2)) p3) pos) (wUn sRev wx) :=
  pei_un (r := fun x H Q => ∃ a xs, x = .ref a ∧ SqL X.K H a xs ∧ ∀ p, H p = none → Q (.ref p) (upd H p (.lst xs.reverse))) (pe_revL hx) fun c ρ σ G H d x Φ Q S i1 hs p => by
    obtain ⟨ds, rfl, h⟩ := hs
    rw [im_list] at i1
    obtain ⟨a, xs, rfl, ht, il⟩ := i1
    exact ⟨a, xs, rfl, sq_of (S.ex2 a _ ht), fun q hq => p _ (.lst ds.reverse) _ _ (.newH S hq) ⟨q, _, rfl, hq, S.ex2.back hq, upd_same, il.rev⟩ h⟩
def sNeg : Sem1 := fun a Φ => ∃ i, a = .int i ∧ Φ (.dat (.int (-i)))
theorem pei_neg (hx : PEI X b x wx) : PEI X b (.UnaryOp .USub x pos) (wUn sNeg wx) := pei_un (r := rU fun i => .int (-i)) (pe_un un_neg hx) fun c ρ σ G H d x Φ Q S i1 hs p => by
  obtain ⟨i, rfl, h⟩ := hs
  rw [im_int] at i1
  exact ⟨i, i1, p _ (.dat (.int _)) G H (.refl S) (by show Im _ _ _ _; rw [im_int]) h⟩
/-! ### sums of lists, tuples, texts -/
def sCatL : Sem2 := fun a c Φ => ∃ ds es, a = .list ds ∧ c = .list es ∧ ds.length + es.length ≤ 1000000 ∧ Φ (.lst (ds ++ es))
def sCatT : Sem2 := fun a c Φ => ∃ ds es, a = .tuple ds ∧ c = .tuple es ∧ ds.length + es.length ≤ 1000000 ∧ Φ (.dat (.tuple (ds ++ es)))
def sCatS : Sem2 := fun a c Φ => ∃ s t, a = .str s ∧ c = .str t ∧ s.length + t.length ≤ 1000000 ∧ Φ (.dat (.str (s ++ t)))
theorem pei_catL (hx : PEI X b x wx) (hy : PEI X b y wy) : PEI X b (.BinOp x .Add y pos) (wOp sCatL wx wy) := pei_op (pe_op op_cat hx hy) fun c ρ σ G H d1 d2 x y Φ Q S i1 i2 hs p => by
  obtain ⟨ds, es, rfl, rfl, hz, h⟩ := hs
  rw [im_list] at i1 i2
  obtain ⟨a, xs, rfl, ha, il⟩ := i1
  obtain ⟨a2, ys, rfl, ha2, il2⟩ := i2
  refine ⟨a, a2, xs, ys, rfl, rfl, S.ex2 a _ ha, S.ex2 a2 _ ha2, ?_, fun q hq => p _ (.lst (ds ++ es)) _ _ (.newH S hq) ⟨q, _, rfl, hq, S.ex2.back hq, upd_same, il.append il2⟩ h⟩
  rw [← il.len, ← il2.len]
  exact Nat.le_trans hz (by decide)
theorem pei_catT (hx : PEI X b x wx) (hy : PEI X b y wy) : PEI X b (.BinOp x .Add y pos) (wOp sCatT wx wy) := pei_op (pe_op op_catA hx hy) fun c ρ σ G H d1 d2 x y Φ Q S i1 i2 hs p => by
  obtain ⟨ds, es, rfl, rfl, hz, h⟩ := hs
  have i1' := i1
  have i2' := i2
  rw [im_tuple] at i1 i2
  obtain ⟨a, xs, rfl, ha, il⟩ := i1
  obtain ⟨a2, ys, rfl, ha2, il2⟩ := i2
  refine ⟨a, a2, xs, ys, rfl, rfl, ex_t S.ex2 ha, ex_t S.ex2 ha2, ?_, fun q => ?_, fun q1 q2 => ?_, fun q1 q2 q hq => ?_⟩
  · rw [← il.len, ← il2.len]
    exact Nat.le_trans hz (by decide)
  · subst q
    have e : ds = [] := List.eq_nil_of_length_eq_zero (by rw [il.len]; rfl)
    subst e
    exact p _ (.dat (.tuple ([] ++ es))) G H (.refl S) (by show Im _ _ _ _; rw [List.nil_append]; exact i2') h
  · subst q2
    have e : es = [] := List.eq_nil_of_length_eq_zero (by rw [il2.len]; rfl)
    subst e
    refine p _ (.dat (.tuple (ds ++ []))) G H (.refl S) ?_ h
    show Im _ _ _ _
    rw [List.append_nil]
    exact i1'
  · refine p _ (.dat (.tuple (ds ++ es))) _ _ (.newG S hq) ?_ h
    show Im _ _ _ _
    rw [im_tuple]
    exact ⟨q, _, rfl, st_of upd_same, (il.append il2).mono (.new (S.ex2.back hq))⟩
theorem pei_catS (hx : PEI X b x wx) (hy : PEI X b y wy) : PEI X b (.BinOp x .Add y pos) (wOp sCatS wx wy) := pei_op (pe_op op_add_str hx hy) fun c ρ σ G H d1 d2 x y Φ Q S i1 i2 hs p => by
  obtain ⟨s, t, rfl, rfl, hz, h⟩ := hs
  rw [im_str] at i1 i2
  exact ⟨s, t, i1, i2, Nat.le_trans hz (by decide), p _ (.dat (.str _)) G H (.refl S) (by show Im _ _ _ _; rw [im_str]) h⟩
/-! ### argument lists, displays -/
def wNil : WA := fun _ Φ _ => Φ []
def wCons (w : WE) (wr : WA) : WA := fun ρ Φ Ξ => w ρ (fun r => wr ρ (fun ds => Φ (r.frz :: ds)) Ξ) Ξ
theorem pai_nil : PAI X b 0 [] wNil := pa_imp pa_nil fun σ H Q ⟨c, ρ, G, Φ, Ξ, S, hw, p, ex⟩ => p [] [] G H (.refl S) .nil rfl hw
theorem pai_cons {n : Nat} {wr : WA} (hx : PEI X b x wx) (hr : PAI X b n es wr) (hs : starEach (x :: es) X.env = (false, eval x X.env) :: starEach es X.env := by rfl) : PAI X b (n + 1) (x :: es) (wCons wx wr) := pa_imp (pa_cons hx hr hs) fun σ H Q ⟨c, ρ, G, Φ, Ξ, S, hw, p, ex⟩ => by
  refine ⟨c, ρ, G, _, Ξ, S, hw, fun v r G1 H1 t1 o1 h1 => ?_, ex⟩
  obtain ⟨G1', t1', i1⟩ := freeze S t1 o1
  refine ⟨c, ρ, G1', _, Ξ, S.tr t1', h1, fun vs ds G2 H2 t2 il hn h2 => ?_, ex.tr t1'⟩
  exact p (v :: vs) (r.frz :: ds) G2 H2 (t1'.trans t2) (.cons (i1.mono t2.eg) il) (by rw [List.length_cons, hn]) h2
def wTup (wa : WA) : WE := fun ρ Φ Ξ => wa ρ (fun ds => Φ (.dat (.tuple ds))) Ξ
def wLst (wa : WA) : WE := fun ρ Φ Ξ => wa ρ (fun ds => Φ (.lst ds)) Ξ
theorem pei_tup {n k : Nat} {wa : WA} (h : PAI X b n es wa) (hn : n ≤ 100 := by decide) : PEI X b (.Tuple es k pos) (wTup wa) := pei_of (pe_tup h) fun c ρ σ G H Φ Ξ Q S hw p ex => by
  refine ⟨c, ρ, G, _, Ξ, S, hw, fun vs ds G1 H1 t1 il hl h1 => ?_, ex⟩
  refine ⟨by rw [← il.len, hl]; exact Nat.le_trans hn (by decide), fun q hq => ?_⟩
  have S1 := S.tr t1
  refine p _ (.dat (.tuple ds)) _ _ (t1.trans (.newG S1 hq)) ?_ h1
  show Im _ _ _ _
  rw [im_tuple]
  exact ⟨q, _, rfl, st_of upd_same, il.mono (.new (S1.ex2.back hq))⟩
theorem pei_lst {n : Nat} {wa : WA} (h : PAI X b n es wa) (hn : n ≤ 100 := by decide) : PEI X b (.List es pos) (wLst wa) := pei_of (pe_lst h) fun c ρ σ G H Φ Ξ Q S hw p ex => by
  refine ⟨c, ρ, G, _, Ξ, S, hw, fun vs ds G1 H1 t1 il hl h1 => ?_, ex⟩
  refine ⟨by rw [← il.len, hl]; exact Nat.le_trans hn (by decide), fun q hq => ?_⟩
  have S1 := S.tr t1
  exact p _ (.lst ds) _ _ (t1.trans (.newH S1 hq)) ⟨q, _, rfl, t1.back hq, S1.ex2.back hq, upd_same, il⟩ h1
/-! ### built-ins by name -/
abbrev SemA := List PyData → (Res → Prop) → Prop
def wCall (sem : SemA) (wa : WA) : WE := fun ρ Φ Ξ => wa ρ (fun ds => sem ds Φ) Ξ
def OpA (X : Cx) (r : List V → Hp → VK → Prop) (sem : SemA) : Prop := ∀ c ρ σ G H ds xs Φ Q, Sat X.K c ρ σ G H → ImL X.K G ds xs → sem ds Φ → PostE X.K ρ σ G H Φ Q → r xs H Q
theorem pei_cb {e : Expr} {r : List V → Hp → VK → Prop} {sem : SemA} {n : Nat} {wa : WA} (h : PE X e (tCB r (taOf X.K b n wa))) (ho : OpA X r sem) : PEI X b e (wCall sem wa) := pei_of h fun c ρ σ G H Φ Ξ Q S hw p ex => by
  refine ⟨c, ρ, G, _, Ξ, S, hw, fun vs ds G1 H1 t1 il hl h1 => ?_, ex⟩
  exact ho c ρ σ G1 H1 ds vs Φ Q (S.tr t1) il h1 (p.tr t1)
theorem imL_1 {K : PySem.W.Frag} {G : Hp} {d : PyData} {xs : List V} (h : ImL K G [d] xs) : ∃ x, xs = [x] ∧ Im K G d x := by
  rw [imL_cons] at h
  obtain ⟨x, r, rfl, h1, h2⟩ := h
  rw [imL_nil] at h2
  subst h2
  exact ⟨x, rfl, h1⟩
theorem imL_2 {K : PySem.W.Frag} {G : Hp} {d e : PyData} {xs : List V} (h : ImL K G [d, e] xs) : ∃ x y, xs = [x, y] ∧ Im K G d x ∧ Im K G e y := by
  rw [imL_cons] at h
  obtain ⟨x, r, rfl, h1, h2⟩ := h
  obtain ⟨y, rfl, h3⟩ := imL_1 h2
  exact ⟨x, y, rfl, h1, h3⟩
def sLen : SemA := fun ds Φ => ∃ d n, ds = [d] ∧ ((∃ es, d = .tuple es ∧ n = es.length) ∨ (∃ es, d = .list es ∧ n = es.length)) ∧ Φ (.dat (.int (n : Nat)))
theorem pei_len {p : Pos} {wa : WA} (hm : X.mg "len" = none) (hg : Gl X "len") (h : PAI X b 1 [x] wa) (he : starEach [x] X.env = (false, eval x X.env) :: starEach [] X.env := by rfl) (hpl : (backTo pos (starEach [] X.env)).any (·.1) = false := by rfl) : PEI X b (.Call (.Name "len" p) [x] [] pos) (wCall sLen wa) :=
  pei_cb (pe_callB call_len_seq hg hm PySem.boot_len h (he := he) (hpl := hpl)) fun c ρ σ G H ds xs Φ Q S il hs p => by
    obtain ⟨d, n, rfl, hd, hΦ⟩ := hs
    obtain ⟨v, rfl, im⟩ := imL_1 il
    have fin : Q (.int (n : Nat)) H := p _ (.dat (.int (n : Nat))) G H (.refl S) (by show Im _ _ _ _; rw [im_int]) hΦ
    rcases hd with ⟨es, rfl, rfl⟩ | ⟨es, rfl, rfl⟩
    · rw [im_tuple] at im
      obtain ⟨a, ys, rfl, ha, il2⟩ := im
      exact ⟨a, ys, rfl, .inr (ex_t S.ex2 ha), by rw [← il2.len]; exact fin⟩
    · rw [im_list] at im
      obtain ⟨a, ys, rfl, ha, il2⟩ := im
      exact ⟨a, ys, rfl, .inl (sq_of (S.ex2 a _ ha)), by rw [← il2.len]; exact fin⟩
def sMax2 : SemA := fun ds Φ => ∃ i j, ds = [.int i, .int j] ∧ Φ (.dat (.int (max i j)))
def sMin2 : SemA := fun ds Φ => ∃ i j, ds = [.int i, .int j] ∧ Φ (.dat (.int (min i j)))
theorem opa_max2 : OpA X (fun xs H Q => ∃ i j, xs = [.int i, .int j] ∧ Q (.int (if j > i then j else i)) H) sMax2 := fun c ρ σ G H ds xs Φ Q S il hs p => by
  obtain ⟨i, j, rfl, h⟩ := hs
  obtain ⟨v, u, rfl, i1, i2⟩ := imL_2 il
  rw [im_int] at i1 i2
  subst i1 i2
  refine ⟨i, j, rfl, p _ (.dat (.int (max i j))) G H (.refl S) ?_ h⟩
  show Im _ _ _ _
  rw [im_int]
  congr 1
  split <;> omega
theorem opa_min2 : OpA X (fun xs H Q => ∃ i j, xs = [.int i, .int j] ∧ Q (.int (if j < i then j else i)) H) sMin2 := fun c ρ σ G H ds xs Φ Q S il hs p => by
  obtain ⟨i, j, rfl, h⟩ := hs
  obtain ⟨v, u, rfl, i1, i2⟩ := imL_2 il
  rw [im_int] at i1 i2
  subst i1 i2
  refine ⟨i, j, rfl, p _ (.dat (.int (min i j))) G H (.refl S) ?_ h⟩
  show Im _ _ _ _
  rw [im_int]
  congr 1
  split <;> omega
theorem pei_max2 {p : Pos} {wa : WA} (hm : X.mg "max" = none) (hg : Gl X "max") (hc : X.calm = true) (h : PAI X b 2 [x, y] wa) (he : starEach [x, y] X.env = (false, eval x X.env) :: starEach [y] X.env := by rfl)
    (hpl : (backTo pos (starEach [y] X.env)).any (·.1) = false := by rfl) : PEI X b (.Call (.Name "max" p) [x, y] [] pos) (wCall sMax2 wa) := pei_cb (pe_callB (call_max2 hc) hg hm (by decide +kernel) h (he := he) (hpl := hpl)) opa_max2
theorem pei_min2 {p : Pos} {wa : WA} (hm : X.mg "min" = none) (hg : Gl X "min") (hc : X.calm = true) (h : PAI X b 2 [x, y] wa) (he : starEach [x, y] X.env = (false, eval x X.env) :: starEach [y] X.env := by rfl)
    (hpl : (backTo pos (starEach [y] X.env)).any (·.1) = false := by rfl) : PEI X b (.Call (.Name "min" p) [x, y] [] pos) (wCall sMin2 wa) := pei_cb (pe_callB (call_min2 hc) hg hm (by decide +kernel) h (he := he) (hpl := hpl)) opa_min2
def sListOf : SemA := fun ds Φ => ∃ d es, ds = [d] ∧ (d = .tuple es ∨ d = .list es) ∧ Φ (.lst es)
theorem opa_list : OpA X (fun xs H Q => ∃ p ys, xs = [.ref p] ∧ (SqL X.K H p ys ∨ SqT X.K H p ys) ∧ ∀ l, H l = none → Q (.ref l) (upd H l (.lst ys))) sListOf := fun c ρ σ G H ds xs Φ Q S il hs p => by
  obtain ⟨d, es, rfl, hd, h⟩ := hs
  obtain ⟨v, rfl, im⟩ := imL_1 il
  have fin : ∀ ys, ImL X.K G es ys → ∀ l, H l = none → Q (.ref l) (upd H l (.lst ys)) := fun ys iy q hq => p _ (.lst es) _ _ (.newH S hq) ⟨q, _, rfl, hq, S.ex2.back hq, upd_same, iy⟩ h
  rcases hd with rfl | rfl
  · rw [im_tuple] at im
    obtain ⟨a, ys, rfl, ha, il2⟩ := im
    exact ⟨a, ys, rfl, .inr (ex_t S.ex2 ha), fin ys il2⟩
  · rw [im_list] at im
    obtain ⟨a, ys, rfl, ha, il2⟩ := im
    exact ⟨a, ys, rfl, .inl (sq_of (S.ex2 a _ ha)), fin ys il2⟩
theorem pei_list {p : Pos} {wa : WA} (hm : X.mg "list" = none) (hg : Gl X "list") (h : PAI X b 1 [x] wa) (he : starEach [x] X.env = (false, eval x X.env) :: starEach [] X.env := by rfl) (hpl : (backTo pos (starEach [] X.env)).any (·.1) = false := by rfl) : PEI X b (.Call (.Name "list" p) [x] [] pos) (wCall sListOf wa) :=
  pei_cb (pe_callTy call_list_of hg hm (by decide +kernel) h (he := he) (hpl := hpl)) opa_list
def sTupleOf : SemA := fun ds Φ => ∃ d es, ds = [d] ∧ (d = .tuple es ∨ d = .list es) ∧ Φ (.dat (.tuple es))
theorem opa_tuple : OpA X (fun xs H Q => ∃ p ys, xs = [.ref p] ∧ ((SqL X.K H p ys ∧ ∀ l, H l = none → Q (.ref l) (upd H l (.tup ys))) ∨ (SqT X.K H p ys ∧ Q (.ref p) H))) sTupleOf := fun c ρ σ G H ds xs Φ Q S il hs p => by
  obtain ⟨d, es, rfl, hd, h⟩ := hs
  obtain ⟨v, rfl, im⟩ := imL_1 il
  rcases hd with rfl | rfl
  · have im' := im
    rw [im_tuple] at im
    obtain ⟨a, ys, rfl, ha, il2⟩ := im
    exact ⟨a, ys, rfl, .inr ⟨ex_t S.ex2 ha, p _ (.dat (.tuple es)) G H (.refl S) im' h⟩⟩
  · rw [im_list] at im
    obtain ⟨a, ys, rfl, ha, il2⟩ := im
    refine ⟨a, ys, rfl, .inl ⟨sq_of (S.ex2 a _ ha), fun q hq => p _ (.dat (.tuple es)) _ _ (.newG S hq) ?_ h⟩⟩
    show Im _ _ _ _
    rw [im_tuple]
    exact ⟨q, _, rfl, st_of upd_same, il2.mono (.new (S.ex2.back hq))⟩
theorem pei_tuple {p : Pos} {wa : WA} (hm : X.mg "tuple" = none) (hg : Gl X "tuple") (h : PAI X b 1 [x] wa) (he : starEach [x] X.env = (false, eval x X.env) :: starEach [] X.env := by rfl) (hpl : (backTo pos (starEach [] X.env)).any (·.1) = false := by rfl) : PEI X b (.Call (.Name "tuple" p) [x] [] pos) (wCall sTupleOf wa) :=
  pei_cb (pe_callTy call_tuple_of hg hm (by decide +kernel) h (he := he) (hpl := hpl)) opa_tuple
def sIntB : SemA := fun ds Φ => ∃ k, ds = [.bool k] ∧ Φ (.dat (.int (if k then 1 else 0)))
theorem opa_intB : OpA X (fun xs H Q => (∃ i, xs = [.int i] ∧ Q (.int i) H) ∨ ∃ k, xs = [.bl k] ∧ Q (.int (if k then 1 else 0)) H) sIntB := fun c ρ σ G H ds xs Φ Q S il hs p => by
  obtain ⟨k, rfl, h⟩ := hs
  obtain ⟨v, rfl, im⟩ := imL_1 il
  rw [im_bool] at im
  subst im
  exact .inr ⟨k, rfl, p _ (.dat (.int (if k then 1 else 0))) G H (.refl S) (by show Im _ _ _ _; rw [im_int]) h⟩
theorem pei_intB {p : Pos} {wa : WA} (hm : X.mg "int" = none) (hg : Gl X "int") (h : PAI X b 1 [x] wa) (he : starEach [x] X.env = (false, eval x X.env) :: starEach [] X.env := by rfl) (hpl : (backTo pos (starEach [] X.env)).any (·.1) = false := by rfl) : PEI X b (.Call (.Name "int" p) [x] [] pos) (wCall sIntB wa) :=
  pei_cb (pe_callTy call_int1 hg hm (by decide +kernel) h (he := he) (hpl := hpl)) opa_intB
/-- list(range(n)) -/
def sRng (n : Int) (Φ : Res → Prop) : Prop := n ≤ 1000000 ∧ Φ (.lst ((List.range n.toNat).map fun i : Nat => PyData.int (i : Int)))
def wLstRg (w : WE) : WE := fun ρ Φ Ξ => w ρ (fun r => ∃ n, r = .dat (.int n) ∧ 0 ≤ n ∧ sRng n Φ) Ξ
theorem pei_listRange {p p1 pos1 : Pos} (hm : X.mg "list" = none) (hg : Gl X "list") (hm1 : X.mg "range" = none) (hg1 : Gl X "range") (hc : X.calm = true) (h : PEI X b x wx) (na : starEach [x] X.env = (false, eval x X.env) :: starEach [] X.env := by rfl)
    (nb : starEach [.Call (.Name "range" p1) [x] [] pos1] X.env = (false, eval (.Call (.Name "range" p1) [x] [] pos1) X.env) :: starEach [] X.env := by rfl) : PEI X b (.Call (.Name "list" p) [.Call (.Name "range" p1) [x] [] pos1] [] pos) (wLstRg wx) :=
  pei_of (pe_listRg hc hg hm (prg_1 hg1 hm1 h na) nb) fun c ρ σ G H Φ Ξ Q S hw p ex => by
    refine ⟨c, ρ, G, _, Ξ, S, hw, fun v r G1 H1 t1 o1 h1 => ?_, ex⟩
    obtain ⟨n, rfl, hn, hz, h1⟩ := h1
    have o1 : Im X.K G1 (.int n) v := o1
    rw [im_int] at o1
    refine ⟨n, o1, .of_le (Int.le_refl 0) (by omega) (by omega) hn, fun q hq => ?_⟩
    have S1 := S.tr t1
    refine p _ (.lst _) _ _ (t1.trans (.newH S1 hq)) ⟨q, _, rfl, t1.back hq, S1.ex2.back hq, upd_same, ?_⟩ h1
    unfold rgV
    rw [Int.sub_zero]
    refine .of_get (by simp) fun i d x h1 h2 => ?_
    rw [List.getElem?_map] at h1 h2
    cases e : (List.range n.toNat)[i]? with
    | none => rw [e] at h1; cases h1
    | some k =>
      rw [e] at h1 h2
      cases h1
      cases h2
      rw [im_int]
      show V.int (0 + ((k : Nat) : Int)) = _
      rw [Int.zero_add]
/-! ### calls of defs of the text -/
abbrev Tf := List PyData → (Res → Prop) → (Exn → Prop) → Prop
def spP (K : PySem.W.Frag) (XR : Exn → Value → Option Addr → Hp → Prop) (T : Tf) : Sp := fun vs H Q E => ∃ (G : Hp) (ds : List PyData) (Φ : Res → Prop) (Ξ : Exn → Prop), Ex G H ∧ ImL K G ds vs ∧ T ds Φ Ξ ∧
  (∀ v r G' H', Fin' K ⟨none, G, H⟩ G' H' → Out K H G' H' r v → Φ r → Q v H') ∧ ∀ ex cls d G' H', Fin' K ⟨none, G, H⟩ G' H' → XR ex cls d G' → Ξ ex → E cls d H'
def spR (K : PySem.W.Frag) (XR : Exn → Value → Option Addr → Hp → Prop) (T : Tf) : Sp := fun vs H Q E => ∃ (r : Addr) (us : List V) (G : Hp) (ds : List PyData) (Φ : Res → Prop) (Ξ : Exn → Prop), vs = .ref r :: us ∧ Ex G H ∧ RowAt K G H r ∧ ImL K G ds us ∧ T ds Φ Ξ ∧
  (∀ v e G' H', Fin' K ⟨some r, G, H⟩ G' H' → Out K H G' H' e v → Φ e → Q v H') ∧ ∀ ex cls d G' H', Fin' K ⟨some r, G, H⟩ G' H' → XR ex cls d G' → Ξ ex → E cls d H'
def wDef (T : Tf) (wa : WA) : WE := fun ρ Φ Ξ => wa ρ (fun ds => T ds Φ Ξ) Ξ
theorem Fin'.tr {K : PySem.W.Frag} {c : Cn} {ρ : Rho} {σ : L2.St} {G H G' H' : Hp} (S : Sat K c ρ σ G H) (f : Fin' K ⟨none, G, H⟩ G' H') : Tr K ρ σ G H G' H' :=
  ⟨f.ex1, f.ex2, fun a o h _ m => f.keep a o h (fun z => by cases z) m, f.tbl, fun a h h' => f.avoid a h h', fun r h => by
    have z := S.rowAt h
    exact z.go f.ex1 (f.avoid r z.1 z.there) fun o e => f.keep r _ e (fun z => by cases z) ntL⟩
theorem Fin'.trR {K : PySem.W.Frag} {c : Cn} {ρ : Rho} {σ : L2.St} {G H G' H' : Hp} {r : Addr} (S : Sat K c ρ σ G H) (hr : IsRow ρ σ r) (f : Fin' K ⟨some r, G, H⟩ G' H') : Tr K ρ σ G H G' H' :=
  ⟨f.ex1, f.ex2, fun a o h n m => f.keep a o h (fun z => n (by cases z; exact hr)) m, f.tbl, fun a h h' => f.avoid a h h', fun q h => by
    by_cases e : q = r
    · subst e
      exact f.mrow q rfl
    · have z := S.rowAt h
      exact z.go f.ex1 (f.avoid q z.1 z.there) fun o e' => f.keep q _ e' (fun z => e (by cases z; rfl)) ntL⟩
theorem pei_def {CX : CXT} {k : Nat} {f : Addr} {fd : FuncData} {ps : List Str} {T : Tf} {n : Nat} {fx : Str} {p : Pos} {wa : WA} (F : FnOk X.prog X.w X.K X.mg X.base CX k f fd ps (spP X.K b.XR T)) (hr : Room k X.A) (hm : X.mg fx = some (.ref f)) (hk : PySem.W.keepIn X.K (.ref f) = true) (hb : Binds X.K fd ps []) (hx : Passes CX X b.E)
    (ha : PAI X b n (x :: es) wa) (hg : Gl X fx) (hdb : (fx == ("__debug__" : Str)) = false := by decide) (he : starEach (x :: es) X.env = (false, eval x X.env) :: starEach es X.env := by rfl) (hpl : (backTo pos (starEach es X.env)).any (·.1) = false := by rfl) :
    PEI X b (.Call (.Name fx p) (x :: es) [] pos) (wDef T wa) := pei_of (pe_call F hr hg hm hk hb .nil hx ha hdb he hpl) fun c ρ σ G H Φ Ξ Q S hw p ex => by
  refine ⟨c, ρ, G, _, Ξ, S, hw, fun vs ds G1 H1 t1 il hl h1 => ?_, ex⟩
  have S1 := S.tr t1
  show spP X.K b.XR T (vs ++ []) H1 Q b.E
  rw [List.append_nil]
  refine ⟨G1, ds, Φ, Ξ, S1.ex2, il, h1, fun v r G' H' fi o hΦ => ?_, fun exn cls d G' H' fi xr hΞ => ?_⟩
  · exact p v r G' H' (t1.trans (fi.tr S1)) (o.back fun _ q => t1.back q) hΦ
  · exact ex exn cls d G' H' (t1.trans (fi.tr S1)) xr hΞ
/-- a def whose first parameter is the row -/
def wDefR (i : Nat) (T : Tf) (wa : WA) : WE := fun ρ Φ Ξ => ρ[i]? = some .row ∧ wa ρ (fun ds => T ds Φ Ξ) Ξ
theorem pei_defR {CX : CXT} {k : Nat} {f : Addr} {fd : FuncData} {ps : List Str} {T : Tf} {n : Nat} {fx rx : Str} {p rp : Pos} {wa : WA} (i : Nat) (F : FnOk X.prog X.w X.K X.mg X.base CX k f fd ps (spR X.K b.XR T)) (hr : Room k X.A) (hm : X.mg fx = some (.ref f)) (hk : PySem.W.keepIn X.K (.ref f) = true) (hb : Binds X.K fd ps []) (hx : Passes CX X b.E)
    (ha : PAI X b n es wa) (hg : Gl X fx) (hN : X.N[i]? = some rx := by rfl) (hv : Vis X.env.scope rx := by first | exact Or.inl rfl | exact Or.inr (Or.inl rfl) | exact Or.inr (Or.inr rfl)) (hd1 : (rx == ("__debug__" : Str)) = false := by decide) (hcd : (rx == ("__classdict__" : Str)) = false := by decide)
    (hdb : (fx == ("__debug__" : Str)) = false := by decide) (he : starEach (.Name rx rp :: es) X.env = (false, eval (.Name rx rp) X.env) :: starEach es X.env := by rfl) (hpl : (backTo pos (starEach es X.env)).any (·.1) = false := by rfl) :
    PEI X b (.Call (.Name fx p) (.Name rx rp :: es) [] pos) (wDefR i T wa) := pei_of (pe_call F hr hg hm hk hb .nil hx (pa_cons (pe_var hN hv hd1 hcd) ha he) hdb he hpl) fun c ρ σ G H Φ Ξ Q S hw p ex => by
  obtain ⟨hi, hw⟩ := hw
  obtain ⟨r, e1, _⟩ := S.rowVar hi
  refine ⟨.ref r, e1, c, ρ, G, _, Ξ, S, hw, fun vs ds G1 H1 t1 il hl h1 => ?_, ex⟩
  have S1 := S.tr t1
  have ir : IsRow ρ σ r := ⟨i, hi, e1⟩
  show spR X.K b.XR T ((.ref r :: vs) ++ []) H1 Q b.E
  rw [List.append_nil]
  refine ⟨r, vs, G1, ds, Φ, Ξ, rfl, S1.ex2, t1.row r ir, il, h1, fun v e G' H' fi o hΦ => ?_, fun exn cls d G' H' fi xr hΞ => ?_⟩
  · exact p v e G' H' (t1.trans (fi.trR S1 ir)) (o.back fun _ q => t1.back q) hΦ
  · exact ex exn cls d G' H' (t1.trans (fi.trR S1 ir)) xr hΞ
/-! ### a list of one's own, looked into -/
def nolR : Res → Bool
  | .dat d => nol d
  | .lst ds => nolL ds
theorem Sat.frz {K : PySem.W.Frag} {c : Cn} {ρ : Rho} {σ : L2.St} {G H : Hp} (S : Sat K c ρ σ G H) {i : Nat} {ds : List PyData} {l : Addr} {xs : List V} (h1 : ρ[i]? = some (.ls ds)) (h2 : σ[i]? = some (some (.ref l))) (h3 : H l = some (.lst xs)) (h4 : G l = none) (h5 : ImL K G ds xs) :
    Sat K c (ρ.set i (.dat (.list ds))) σ (upd G l (.lst xs)) H := by
  have hx : Ex G (upd G l (.lst xs)) := .new h4
  have hi : i < ρ.length := (List.getElem?_eq_some_iff.mp h1).1
  have hHe : c.He l = none := by
    rcases S.own i _ l h1 rfl h2 with z | z
    · exact z
    · cases z.2
  have nm : ∀ (j : Nat) e, ρ[j]? = some e → e.isM = true → i ≠ j → σ[j]? ≠ some (some (.ref l)) := fun j e q1 q2 q3 => S.ne i j _ e l q3 h1 q1 rfl q2 h2
  have gt : ∀ (j : Nat) e, (ρ.set i (.dat (.list ds)))[j]? = some e → e.isM = true → ρ[j]? = some e ∧ i ≠ j := fun j e q1 q2 => by
    by_cases q : i = j
    · subst q
      rw [List.getElem?_set_self hi] at q1
      cases q1
      cases q2
    · rw [List.getElem?_set_ne q] at q1
      exact ⟨q1, q⟩
  refine ⟨S.ex1.trans hx, fun a o h => ?_, S.keep, S.tbl, S.there, fun a h h' => ?_, fun r h => ?_, S.mhe, by rw [List.length_set, S.len], fun j e u q1 q2 => ?_, fun j e l2 q1 qm q2 => ?_, fun j k e f l2 hne q1 q2 m1 m2 q3 q4 => ?_⟩
  · by_cases q : a = l
    · subst q
      rw [upd_same] at h
      cases h
      exact h3
    · rw [upd_ne q] at h
      exact S.ex2 a o h
  · rw [upd_ne (show a ≠ l from fun e => h' (by rw [e]; exact hHe))]
    exact S.avoid a h h'
  · have z := S.mrow r h
    have ne : r ≠ l := fun e => S.mhe r h (by rw [e]; exact hHe)
    exact z.go hx (by rw [upd_ne ne]; exact z.1) fun _ e => e
  · by_cases q : i = j
    · subst q
      rw [List.getElem?_set_self hi] at q1
      cases q1
      rw [h2] at q2
      cases q2
      refine ⟨.ref l, rfl, ?_⟩
      rw [im_list]
      exact ⟨l, xs, rfl, upd_same, h5.mono hx⟩
    · rw [List.getElem?_set_ne q] at q1
      have z := S.slot j e u q1 q2
      cases e with
      | no => trivial
      | dat d =>
        obtain ⟨v, e, im⟩ := z
        exact ⟨v, e, im.mono hx⟩
      | ls ds2 =>
        obtain ⟨l3, xs3, rfl, z2, z3, z4⟩ := z
        have : l3 ≠ l := fun e => nm j _ q1 rfl q (e ▸ q2)
        exact ⟨l3, xs3, rfl, z2, by rw [upd_ne this]; exact z3, z4.mono hx⟩
      | row =>
        obtain ⟨r, rfl, z⟩ := z
        have ne : r ≠ l := fun e => nm j _ q1 rfl q (e ▸ q2)
        exact ⟨r, rfl, z.go hx (by rw [upd_ne ne]; exact z.1) fun _ e => e⟩
      | ob k2 =>
        obtain ⟨l3, u3, rfl, z2, z3, z4⟩ := z
        have : l3 ≠ l := fun e => nm j _ q1 rfl q (e ▸ q2)
        exact ⟨l3, u3, rfl, z2, by rw [upd_ne this]; exact z3, k2.mono _ _ _ _ _ hx z4⟩
      | val k2 =>
        refine ⟨z.1, k2.mono _ _ _ _ _ hx (.refl _) (fun a ps y n => ?_) z.2⟩
        rw [upd_ne (fun w => by rw [w, h3] at y; cases y)]
        exact n
  · obtain ⟨q, _⟩ := gt j e q1 qm
    exact S.own j e l2 q qm q2
  · obtain ⟨a1, _⟩ := gt j e q1 m1
    obtain ⟨b1, _⟩ := gt k f q2 m2
    exact S.ne j k e f l2 hne a1 b1 m1 m2 q3 q4
theorem isRow_set {ρ : Rho} {σ : L2.St} {i : Nat} {ds : List PyData} {d : PyData} (h1 : ρ[i]? = some (.ls ds)) (r : Addr) : IsRow (ρ.set i (.dat d)) σ r ↔ IsRow ρ σ r := by
  have hi : i < ρ.length := (List.getElem?_eq_some_iff.mp h1).1
  constructor
  · rintro ⟨j, e1, e2⟩
    by_cases q : i = j
    · subst q
      rw [List.getElem?_set_self hi] at e1
      cases e1
    · rw [List.getElem?_set_ne q] at e1
      exact ⟨j, e1, e2⟩
  · rintro ⟨j, e1, e2⟩
    have q : i ≠ j := by
      rintro rfl
      rw [h1] at e1
      cases e1
    exact ⟨j, by rw [List.getElem?_set_ne q]; exact e1, e2⟩
/-- back from a look: what stands at l is one's own again -/
theorem Tr.unfrz {K : PySem.W.Frag} {c : Cn} {ρ : Rho} {σ : L2.St} {G H G' H' : Hp} (S : Sat K c ρ σ G H) {i : Nat} {ds : List PyData} {l : Addr} {xs : List V} (h1 : ρ[i]? = some (.ls ds)) (h2 : σ[i]? = some (some (.ref l))) (h3 : H l = some (.lst xs)) (h4 : G l = none)
    (t : Tr K (ρ.set i (.dat (.list ds))) σ (upd G l (.lst xs)) H G' H') : Tr K ρ σ G H (cut G' l) H' ∧ G' l = some (.lst xs) := by
  have hl : G' l = some (.lst xs) := t.eg l _ upd_same
  refine ⟨⟨fun a o h => ?_, Ex.cut.trans t.eh, fun a o h n m => t.keep a o h (fun z => n ((isRow_set h1 a).mp z)) m, t.tbl, fun a h h' => ?_, fun r h => ?_⟩, hl⟩
  · have q : a ≠ l := by
      rintro rfl
      rw [h4] at h
      cases h
    rw [cut_ne q]
    exact t.eg a o (by rw [upd_ne q]; exact h)
  · by_cases q : a = l
    · subst q
      exact cut_same
    · rw [cut_ne q]
      exact t.avoid a (by rw [upd_ne q]; exact h) h'
  · have z := t.row r ((isRow_set h1 r).mpr h)
    have ne : r ≠ l := by
      rintro rfl
      have z1 := z.1
      rw [hl] at z1
      cases z1
    obtain ⟨z1, s, ns, a, x, z2, z3, z4⟩ := z
    exact ⟨by rw [cut_ne ne]; exact z1, s, ns, a, x, z2, z3.cut hl, z4⟩
theorem Out.unfrz {K : PySem.W.Frag} {H G' H' : Hp} {l : Addr} {xs : List V} (hl : G' l = some (.lst xs)) : ∀ {r : Res} {v : V}, nolR r = true → Out K H G' H' r v → Out K H (cut G' l) H' r v
  | .dat d, v, n, o => Im.monoT (ExT.cut hl) n o
  | .lst ds, v, n, o => by
    obtain ⟨l2, ys, e, o1, o2, o3, o4⟩ := o
    refine ⟨l2, ys, e, o1, ?_, o3, ImL.monoT (ExT.cut hl) n o4⟩
    by_cases q : l2 = l
    · rw [q]; exact cut_same
    · rw [cut_ne q]; exact o2
def wPeek (i : Nat) (w : WE) : WE := fun ρ Φ Ξ => ∃ ds, ρ[i]? = some (.ls ds) ∧ w (ρ.set i (.dat (.list ds))) (fun r => nolR r = true ∧ Φ r) (fun _ => False)
theorem pei_peek (i : Nat) (h : PEI X b e we) : PEI X b e (wPeek i we) := pei_of h fun c ρ σ G H Φ Ξ Q S hw p ex => by
  obtain ⟨ds, h1, hw⟩ := hw
  obtain ⟨l, xs, h2, h3, h4, h5⟩ := S.mutAt h1
  refine ⟨c, _, _, _, _, S.frz h1 h2 h3 h4 h5, hw, fun v r G1 H1 t1 o1 hΦ => ?_, fun _ _ _ _ _ _ _ z => z.elim⟩
  obtain ⟨t, hl⟩ := Tr.unfrz S h1 h2 h3 h4 t1
  exact p v r _ H1 t (o1.unfrz hl hΦ.1) hΦ.2
def wPeekT (i : Nat) (w : WT) : WT := fun ρ Φ Ξ => ∃ ds, ρ[i]? = some (.ls ds) ∧ w (ρ.set i (.dat (.list ds))) Φ (fun _ => False)
theorem pti_peek {wt : WT} (i : Nat) (h : PTI X b e wt) : PTI X b e (wPeekT i wt) := pti_of h fun c ρ σ G H Φ Ξ Q S hw p ex => by
  obtain ⟨ds, h1, hw⟩ := hw
  obtain ⟨l, xs, h2, h3, h4, h5⟩ := S.mutAt h1
  refine ⟨c, _, _, _, _, S.frz h1 h2 h3 h4 h5, hw, fun k G1 H1 t1 hΦ => ?_, fun _ _ _ _ _ _ _ z => z.elim⟩
  obtain ⟨t, hl⟩ := Tr.unfrz S h1 h2 h3 h4 t1
  exact p k _ H1 t hΦ
theorem hu64 {k : Nat} {A : Around} (hr : Room k A) : A.units + 64 < cLine := by have := hr.un; omega
theorem hu65 {k : Nat} {A : Around} (hr : Room k A) : A.units + 65 < cLine := by have := hr.un; omega
theorem passE {X : Cx} {E : XK} : Passes CX0 X E := fun _ _ _ _ _ _ _ h => h.elim
end
end SF

/-! ## Statements, loops, comprehensions, defs over data -/
namespace SF
open PySem PySem.Spec PyProof.Rows L2
/-! ### targets -/
inductive Tgt where
  | nm (i : Nat) | tp (is : List Nat)
def gNames : List Nat → TGs
  | [] => gNil
  | i :: is => gCons (gName i) (gNames is)
def tgOf (K : PySem.W.Frag) : Tgt → TG
  | .nm i => gName i
  | .tp is => gTup K is.length (gNames is)
def setsE : Rho → List Nat → List PyData → Rho
  | ρ, i :: is, d :: ds => setsE (ρ.set i (.dat d)) is ds
  | ρ, _, _ => ρ
def bindT : Tgt → PyData → Rho → (Rho → Prop) → Prop
  | .nm i, d, ρ, Φ => Φ (ρ.set i (.dat d))
  | .tp is, d, ρ, Φ => ∃ ds, d = .tuple ds ∧ ds.length = is.length ∧ Φ (setsE ρ is ds)
def Tgt.slots : Tgt → List Nat
  | .nm i => [i]
  | .tp is => is
section
variable {K : PySem.W.Frag} {c : Cn} {ρ : Rho} {σ : L2.St} {G G' H H' G1 H1 : Hp}
/-- what a binding leaves -/
structure Bnd (is : List Nat) (ρ : Rho) (σ : L2.St) (ρ' : Rho) (σ' : L2.St) : Prop where
  len : σ'.length = σ.length
  st : ∀ (n : Nat), n ∉ is → σ'[n]? = σ[n]?
  rh : ∀ (n : Nat), n ∉ is → ρ'[n]? = ρ[n]?
  nr : ∀ (n : Nat), n ∈ is → ρ'[n]? ≠ some .row
theorem gNames_ok : ∀ {is : List Nat} {ds : List PyData} {xs : List V} {ρ : Rho} {σ : L2.St} {Q : L2.St → Hp → Prop}, Sat K c ρ σ G H → ImL K G ds xs → ds.length = is.length →
    (∀ σ', Sat K c (setsE ρ is ds) σ' G H → Bnd is ρ σ (setsE ρ is ds) σ' → Q σ' H) → gNames is xs σ H Q
  | [], [], xs, ρ, σ, Q, S, h, hl, q => by
    rw [imL_nil] at h
    exact ⟨h, q σ S ⟨rfl, fun _ _ => rfl, fun _ _ => rfl, fun _ h => by simp at h⟩⟩
  | [], d :: ds, xs, ρ, σ, Q, S, h, hl, q => by simp at hl
  | i :: is, [], xs, ρ, σ, Q, S, h, hl, q => by simp at hl
  | i :: is, d :: ds, xs, ρ, σ, Q, S, h, hl, q => by
    rw [imL_cons] at h
    obtain ⟨x, r, rfl, h1, h2⟩ := h
    refine ⟨x, r, rfl, ?_⟩
    show gNames is r (σ.set i (some x)) H Q
    refine gNames_ok (S.setDat h1) h2 (by simpa using hl) fun σ' S' hs => q σ' S' ⟨by rw [hs.len, List.length_set], fun n hn => ?_, fun n hn => ?_, fun n hn => ?_⟩
    · rw [List.mem_cons, not_or] at hn
      rw [hs.st n hn.2, List.getElem?_set_ne (Ne.symm hn.1)]
    · rw [List.mem_cons, not_or] at hn
      have e := hs.rh n hn.2
      rw [List.getElem?_set_ne (Ne.symm hn.1)] at e
      exact e
    · by_cases k : n ∈ is
      · exact hs.nr n k
      · have e := hs.rh n k
        have en : n = i := by
          rcases List.mem_cons.mp hn with z | z
          · exact z
          · exact absurd z k
        subst en
        show (setsE (ρ.set n (.dat d)) is ds)[n]? ≠ some .row
        rw [e]
        by_cases hn2 : n < ρ.length
        · rw [List.getElem?_set_self hn2]
          exact fun z => by cases z
        · rw [List.getElem?_eq_none (by rw [List.length_set]; omega)]
          exact fun z => by cases z
theorem tgt_ok {tgt : Tgt} {d : PyData} {x : V} {Φ : Rho → Prop} {Q : L2.St → Hp → Prop} (S : Sat K c ρ σ G H) (im : Im K G d x) (h : bindT tgt d ρ Φ) (q : ∀ ρ' σ', Sat K c ρ' σ' G H → Φ ρ' → Bnd tgt.slots ρ σ ρ' σ' → Q σ' H) : tgOf K tgt x σ H Q := by
  cases tgt with
  | nm i =>
    have ne : ∀ n, n ∉ (Tgt.nm i).slots → i ≠ n := fun n hn e => hn (by rw [e]; exact List.mem_singleton.mpr rfl)
    refine q _ _ (S.setDat im) h ⟨List.length_set, fun n hn => ?_, fun n hn => ?_, fun n hn => ?_⟩
    · rw [List.getElem?_set_ne (ne n hn)]
    · rw [List.getElem?_set_ne (ne n hn)]
    · have e : n = i := List.mem_singleton.mp hn
      subst e
      by_cases hn2 : n < ρ.length
      · rw [List.getElem?_set_self hn2]
        exact fun z => by cases z
      · rw [List.getElem?_eq_none (by rw [List.length_set]; omega)]
        exact fun z => by cases z
  | tp is =>
    obtain ⟨ds, rfl, hl, h⟩ := h
    rw [im_tuple] at im
    obtain ⟨a, xs, rfl, ht, il⟩ := im
    exact ⟨a, xs, rfl, ex_t S.ex2 ht, by rw [← il.len, hl], gNames_ok S il hl fun σ' S' hs => q _ σ' S' h hs⟩
theorem Sat.up (S : Sat K c ρ σ G H) : Sat K { c with Ge := G } ρ σ G H :=
  ⟨.refl _, S.ex2, S.keep, S.tbl, S.there, fun _ h _ => h, S.mrow, S.mhe, S.len, S.slot, S.own, S.ne⟩
theorem Sat.down {ρ' : Rho} {σ' : L2.St} (S0 : Sat K c ρ σ G H) (S : Sat K { c with Ge := G } ρ' σ' G' H') : Sat K c ρ' σ' G' H' :=
  ⟨S0.ex1.trans S.ex1, S.ex2, S.keep, S.tbl, S.there, fun a h h' => S.avoid a (S0.avoid a h h') h', S.mrow, S.mhe, S.len, S.slot, S.own, S.ne⟩
theorem Fin'.down (S0 : Sat K c ρ σ G H) (S : Fin' K { c with Ge := G } G' H') : Fin' K c G' H' :=
  ⟨S0.ex1.trans S.ex1, S.ex2, S.keep, S.tbl, S.there, fun a h h' => S.avoid a (S0.avoid a h h') h', S.mrow⟩
theorem PostS.up {b : Bs} {Ψ : Pst} {D : Ends} (S0 : Sat K c ρ σ G H) (p : PostS K b c Ψ D) : PostS K b { c with Ge := G } Ψ D where
  nx := fun ρ' σ' G' H' S h => p.nx ρ' σ' G' H' (S0.down S) h
  rt := fun v r G' H' f o h => p.rt v r G' H' (f.down S0) o h
  bk := fun ρ' σ' G' H' S h => p.bk ρ' σ' G' H' (S0.down S) h
  ct := fun ρ' σ' G' H' S h => p.ct ρ' σ' G' H' (S0.down S) h
  xc := fun ex cls d G' H' f x h => p.xc ex cls d G' H' (f.down S0) x h
theorem PostS.exc {b : Bs} {Ψ : Pst} {D : Ends} (p : PostS K b c Ψ D) (S : Sat K c ρ σ G H) : ExcE K b ρ σ G H Ψ.xc := fun ex cls d G' H' t x h => p.xc ex cls d G' H' (S.tr t).fin x h
theorem Sat.backHe (S : Sat K c ρ σ G H) {a : Addr} (h : H a = none) : c.He a = none := by
  cases e : c.He a with
  | none => rfl
  | some u => exact absurd h (S.there a (by rw [e]; exact fun z => by cases z))
end
section
variable {X : Cx} {b : Bs} {x y z e : Expr} {pos : Pos} {we wx wy wz : WE} {es : List Expr} {st : Stmt} {rest body orelse : List Stmt} {w u : WS} {wt : WT}
/-! ### blocks -/
def wSkip : WS := fun ρ Ψ => Ψ.nx ρ
def wSeq (w u : WS) : WS := fun ρ Ψ => w ρ { Ψ with nx := fun ρ' => u ρ' Ψ }
def wNever : WS := fun _ _ => False
theorem psis_nil : PSsI X b [] wSkip := pss_imp pss_nil fun D σ H ⟨c, ρ, G, Ψ, S, hw, p⟩ => p.nx ρ σ G H S hw
theorem psis_one (h : PSI X b st w) : PSsI X b [st] w := pss_one h
theorem psis_cons (h : PSI X b st w) (h2 : PSsI X b rest u) : PSsI X b (st :: rest) (wSeq w u) := pss_imp (pss_cons h h2) fun D σ H ⟨c, ρ, G, Ψ, S, hw, p⟩ =>
  ⟨c, ρ, G, _, S, hw, ⟨fun ρ' σ' G' H' S' h' => ⟨c, ρ', G', Ψ, S', h', p⟩, p.rt, p.bk, p.ct, p.xc⟩⟩
theorem psi_never : PSI X b st wNever := psi_of (t := tNever) ps_never fun c ρ σ G H Ψ D S hw p => hw
/-! ### statements -/
def wSet (i : Nat) (w : WE) : WS := fun ρ Ψ => w ρ (fun r => Ψ.nx (ρ.set i r.ent)) Ψ.xc
def wSetF (i : Nat) (w : WE) : WS := fun ρ Ψ => w ρ (fun r => Ψ.nx (ρ.set i (.dat r.frz))) Ψ.xc
theorem asg_ok {K : PySem.W.Frag} {w : WE} {i : Nat} {D : Ends} {σ : L2.St} {H : Hp} {te : TE} (h : ∀ σ H Q, teOf K b w σ H Q → te σ H Q) : tsOf K b (wSet i w) D σ H → tAsg te (gName i) D σ H := fun ⟨c, ρ, G, Ψ, S, hw, p⟩ =>
  h σ H _ ⟨c, ρ, G, _, Ψ.xc, S, hw, fun v r G1 H1 t1 o1 h1 => p.nx _ _ G1 H1 (S.setOut t1 o1) h1, p.exc S⟩
theorem asgF_ok {K : PySem.W.Frag} {w : WE} {i : Nat} {D : Ends} {σ : L2.St} {H : Hp} {te : TE} (h : ∀ σ H Q, teOf K b w σ H Q → te σ H Q) : tsOf K b (wSetF i w) D σ H → tAsg te (gName i) D σ H := fun ⟨c, ρ, G, Ψ, S, hw, p⟩ =>
  h σ H _ ⟨c, ρ, G, _, Ψ.xc, S, hw, fun v r G1 H1 t1 o1 h1 => by
    obtain ⟨G2, t2, im⟩ := freeze S t1 o1
    exact p.nx _ _ G2 H1 ((S.tr t2).setDat im) h1, p.exc S⟩
theorem psi_set (i : Nat) {nm : Str} {np : Pos} (he : PEI X b e we) (hN : X.N.Nodup) (hi : X.N[i]? = some nm := by rfl) (hx : Loc X.env.scope nm := by first | exact Or.inl rfl | exact Or.inr rfl)
    (hs : swapsWithSole [Expr.Name nm np] e pos.line X.env = pure false := by rfl) (hw : swappedStores [Expr.Name nm np] e X.env = pure none := by rfl) (h1 : (assignEach [Expr.Name nm np] X.env).map (·.2) = [assign (Expr.Name nm np) X.env] := by rfl)
    (hf : X.fn nm = true ∨ X.env.scope.names.lookup nm = some .local := by first | exact .inl rfl | exact .inr rfl) : PSI X b (.Assign [.Name nm np] e pos) (wSet i we) :=
  ps_imp (ps_asg he (pg_name hN hi hx hf) hs hw h1) fun D σ H q => asg_ok (fun _ _ _ q => q) q
theorem psi_setF (i : Nat) {nm : Str} {np : Pos} (he : PEI X b e we) (hN : X.N.Nodup) (hi : X.N[i]? = some nm := by rfl) (hx : Loc X.env.scope nm := by first | exact Or.inl rfl | exact Or.inr rfl)
    (hs : swapsWithSole [Expr.Name nm np] e pos.line X.env = pure false := by rfl) (hw : swappedStores [Expr.Name nm np] e X.env = pure none := by rfl) (h1 : (assignEach [Expr.Name nm np] X.env).map (·.2) = [assign (Expr.Name nm np) X.env] := by rfl)
    (hf : X.fn nm = true ∨ X.env.scope.names.lookup nm = some .local := by first | exact .inl rfl | exact .inr rfl) : PSI X b (.Assign [.Name nm np] e pos) (wSetF i we) :=
  ps_imp (ps_asg he (pg_name hN hi hx hf) hs hw h1) fun D σ H q => asgF_ok (fun _ _ _ q => q) q
/-- a, b = e -/
def wUnpack (is : List Nat) (w : WE) : WS := fun ρ Ψ => w ρ (fun r => ∃ ds, r.frz = .tuple ds ∧ ds.length = is.length ∧ Ψ.nx (setsE ρ is ds)) Ψ.xc
theorem psi_unpack (is : List Nat) {tg : Expr} (he : PEI X b e we) (hg : PG X tg (tgOf X.K (.tp is)))
    (hs : swapsWithSole [tg] e pos.line X.env = pure false := by rfl) (hw : swappedStores [tg] e X.env = pure none := by rfl) (h1 : (assignEach [tg] X.env).map (·.2) = [assign tg X.env] := by rfl) : PSI X b (.Assign [tg] e pos) (wUnpack is we) :=
  psi_of (ps_asg he hg hs hw h1) fun c ρ σ G H Ψ D S hw p => by
    refine ⟨c, ρ, G, _, Ψ.xc, S, hw, fun v r G1 H1 t1 o1 h1 => ?_, p.exc S⟩
    obtain ⟨G2, t2, im⟩ := freeze S t1 o1
    obtain ⟨ds, e, hl, h⟩ := h1
    rw [e] at im
    exact tgt_ok (tgt := .tp is) (S.tr t2) im ⟨ds, rfl, hl, h⟩ fun ρ' σ' S' h' _ => p.nx ρ' σ' G2 H1 S' h'
def wRet (w : WE) : WS := fun ρ Ψ => w ρ Ψ.rt Ψ.xc
theorem psi_ret (he : PEI X b e we) : PSI X b (.Return (some e) pos) (wRet we) := psi_of (ps_ret he) fun c ρ σ G H Ψ D S hw p =>
  ⟨c, ρ, G, _, Ψ.xc, S, hw, fun v r G1 H1 t1 o1 h1 => p.rt v r G1 H1 (S.tr t1).fin (o1.back fun _ q => S.backHe q) h1, p.exc S⟩
def wRetM (i : Nat) : WS := fun ρ Ψ => ∃ ds, ρ[i]? = some (.ls ds) ∧ Ψ.rt (.lst ds)
theorem psi_retM (i : Nat) {nm : Str} {np : Pos} (hN : X.N[i]? = some nm := by rfl) (hv : Vis X.env.scope nm := by first | exact Or.inl rfl | exact Or.inr (Or.inl rfl) | exact Or.inr (Or.inr rfl)) (hd : (nm == ("__debug__" : Str)) = false := by decide)
    (hcd : (nm == ("__classdict__" : Str)) = false := by decide) : PSI X b (.Return (some (.Name nm np)) pos) (wRetM i) := psi_of (ps_ret (pe_var hN hv hd hcd)) fun c ρ σ G H Ψ D S hw p => by
  obtain ⟨ds, h1, h⟩ := hw
  obtain ⟨l, xs, h2, h3, h4, h5⟩ := S.mutAt h1
  have hHe : c.He l = none := by
    rcases S.own i _ l h1 rfl h2 with z | z
    · exact z
    · cases z.2
  exact ⟨.ref l, h2, p.rt _ (.lst ds) G H S.fin ⟨l, xs, rfl, hHe, h4, h3, h5⟩ h⟩
def wDrop (w : WE) : WS := fun ρ Ψ => w ρ (fun _ => Ψ.nx ρ) Ψ.xc
theorem psi_expr (he : PEI X b e we) (hs : swapsWith e none pos.line X.env = pure false := by rfl) : PSI X b (.Expr e pos) (wDrop we) := psi_of (ps_expr he hs) fun c ρ σ G H Ψ D S hw p =>
  ⟨c, ρ, G, _, Ψ.xc, S, hw, fun v r G1 H1 t1 o1 h1 => p.nx ρ σ G1 H1 (S.tr t1) h1, p.exc S⟩
def wIfS (wt : WT) (w u : WS) : WS := fun ρ Ψ => wt ρ (fun k => if k = true then w ρ Ψ else u ρ Ψ) Ψ.xc
theorem psi_if (ht : PTI X b e wt) (h1 : PSsI X b body w) (h2 : PSsI X b orelse u) : PSI X b (.If e body orelse pos) (wIfS wt w u) := psi_of (ps_if ht h1 h2) fun c ρ σ G H Ψ D S hw p => by
  refine ⟨c, ρ, G, _, Ψ.xc, S, hw, fun k G1 H1 t1 h => ?_, p.exc S⟩
  cases k with
  | true => exact ⟨c, ρ, G1, Ψ, S.tr t1, h, p⟩
  | false => exact ⟨c, ρ, G1, Ψ, S.tr t1, h, p⟩
/-- a list of one's own is frozen from here on -/
def wFrz (i : Nat) (w : WS) : WS := fun ρ Ψ => ∃ ds, ρ[i]? = some (.ls ds) ∧ w (ρ.set i (.dat (.list ds))) Ψ
theorem psi_frz (i : Nat) (h : PSI X b st w) : PSI X b st (wFrz i w) := psi_of h fun c ρ σ G H Ψ D S hw p => by
  obtain ⟨ds, h1, hw⟩ := hw
  obtain ⟨l, xs, h2, h3, h4, h5⟩ := S.mutAt h1
  exact ⟨c, _, _, Ψ, S.frz h1 h2 h3 h4 h5, hw, p⟩
theorem psis_frz (i : Nat) (h : PSsI X b body w) : PSsI X b body (wFrz i w) := pss_imp h fun D σ H ⟨c, ρ, G, Ψ, S, hw, p⟩ => by
  obtain ⟨ds, h1, hw⟩ := hw
  obtain ⟨l, xs, h2, h3, h4, h5⟩ := S.mutAt h1
  exact ⟨c, _, _, Ψ, S.frz h1 h2 h3 h4 h5, hw, p⟩
/-- xs.append(e) -/
def wApp (i : Nat) (w : WE) : WS := fun ρ Ψ => ∃ ds, ρ[i]? = some (.ls ds) ∧ ds.length < 1000000 ∧ w ρ (fun r => Ψ.nx (ρ.set i (.ls (ds ++ [r.frz])))) Ψ.xc
theorem psi_app (i : Nat) {nm : Str} {np apos cpos : Pos} (he : PEI X b e we) (hN : X.N[i]? = some nm := by rfl) (hv : Vis X.env.scope nm := by first | exact Or.inl rfl | exact Or.inr (Or.inl rfl) | exact Or.inr (Or.inr rfl)) (hd : (nm == ("__debug__" : Str)) = false := by decide)
    (hcd : (nm == ("__classdict__" : Str)) = false := by decide) (hb : attributeBase (.Name nm np) "append" X.env (eval (.Name nm np) X.env) = eval (.Name nm np) X.env := by rfl)
    (hfew : ((backTo cpos (starEach [e] X.env)).all (fun x => !x.1) && (backToKw cpos (keywordEach [] X.env)).all (fun x => x.1.isSome) && decide ([e].length + ([] : List Keyword).length + (if ([] : List Keyword).isEmpty then 0 else 1) < 30)) = true := by rfl)
    (hline : (apos.endLine == cpos.line) = true := by rfl) (hse : starEach [e] X.env = (false, eval e X.env) :: starEach [] X.env := by rfl) (hpl : (backTo cpos (starEach [] X.env)).any (·.1) = false := by rfl)
    (hs : swapsWith (.Call (.Attribute (.Name nm np) "append" apos) [e] [] cpos) none pos.line X.env = pure false := by rfl) :
    PSI X b (.Expr (.Call (.Attribute (.Name nm np) "append" apos) [e] [] cpos) pos) (wApp i we) :=
  psi_of (ps_expr (pe_bm PySem.F.plainAttrs_list PySem.F.slot_list_append PySem.F.type_list_append mt_append (pe_var hN hv hd hcd) (pa_cons he pa_nil hse) hb hfew hline hse hpl) hs) fun c ρ σ G H Ψ D S hw p => by
    obtain ⟨ds, h1, hz, hw⟩ := hw
    obtain ⟨l, xs, h2, h3, h4, h5⟩ := S.mutAt h1
    refine ⟨.ref l, h2, .inl ⟨rfl, xs, sq_of h3⟩, c, ρ, G, _, Ψ.xc, S, hw, fun v r G1 H1 t1 o1 hn => ?_, p.exc S⟩
    obtain ⟨G2, t2, im⟩ := freeze S t1 o1
    have S2 := S.tr t2
    have k3 := t2.keep l _ h3 (S.neRow h1 h2) ntL
    refine ⟨l, xs, v, rfl, rfl, k3, ?_, ?_⟩
    · rw [← h5.len]
      exact Nat.lt_of_lt_of_le hz (by decide)
    · exact p.nx _ _ G2 _ (S2.write h1 h2 ((h5.mono t2.eg).append (.one im))) hn
/-- xs[k] = e -/
def wStore (i : Nat) (w wk : WE) : WS := fun ρ Ψ => ∃ ds, ρ[i]? = some (.ls ds) ∧ w ρ (fun r => wk ρ (fun q => ∃ n j, q.frz = .int n ∧ ixN ds.length n = some j ∧ Ψ.nx (ρ.set i (.ls (ds.set j r.frz)))) Ψ.xc) Ψ.xc
theorem psi_store (i : Nat) {nm : Str} {np spos : Pos} {k : Expr} {wk : WE} (he : PEI X b e we) (hg : PG X (.Subscript (.Name nm np) k spos) (gSub (tVar i) (teOf X.K b wk) rSetL)) (hs : swapsWithSole [.Subscript (.Name nm np) k spos] e pos.line X.env = pure false := by rfl)
    (hw : swappedStores [.Subscript (.Name nm np) k spos] e X.env = pure none := by rfl) (h1 : (assignEach [.Subscript (.Name nm np) k spos] X.env).map (·.2) = [assign (.Subscript (.Name nm np) k spos) X.env] := by rfl) :
    PSI X b (.Assign [.Subscript (.Name nm np) k spos] e pos) (wStore i we wk) :=
  psi_of (ps_asg he hg hs hw h1) fun c ρ σ G H Ψ D S hw p => by
    obtain ⟨ds, h1, hw⟩ := hw
    obtain ⟨l, xs, h2, h3, h4, h5⟩ := S.mutAt h1
    have nr := S.neRow h1 h2
    refine ⟨c, ρ, G, _, Ψ.xc, S, hw, fun v r G1 H1 t1 o1 hn => ?_, p.exc S⟩
    obtain ⟨G1', t1', i1⟩ := freeze S t1 o1
    have S1 := S.tr t1'
    refine ⟨.ref l, h2, c, ρ, G1', _, Ψ.xc, S1, hn, fun v2 r2 G2 H2 t2 o2 hq => ?_, (p.exc S).tr t1'⟩
    obtain ⟨G2', t2', i2⟩ := freeze S1 t2 o2
    obtain ⟨n, j, e, hj, hΨ⟩ := hq
    rw [e, im_int] at i2
    subst i2
    refine ⟨l, xs, n, j, rfl, rfl, t2'.keep l _ (t1'.keep l _ h3 nr ntL) nr ntL, by rw [← h5.len]; exact hj, ?_⟩
    exact p.nx _ _ G2' _ ((S1.tr t2').write h1 h2 (((h5.mono t1'.eg).mono t2'.eg).set j (i1.mono t2'.eg))) hΨ
/-- x = xs.pop(e) -/
def wPopAt (i j : Nat) (w : WE) : WS := fun ρ Ψ => ∃ ds, ρ[j]? = some (.ls ds) ∧ w ρ (fun r => ∃ (k : Nat) (d : PyData), r.frz = .int k ∧ k < 1000000 ∧ ds[k]? = some d ∧ Ψ.nx ((ρ.set j (.ls (ds.eraseIdx k))).set i (.dat d))) Ψ.xc
theorem psi_popAt (i j : Nat) {nm tn : Str} {np tp apos cpos : Pos} (he : PEI X b e we) (hN : X.N[j]? = some nm := by rfl) (hv : Vis X.env.scope nm := by first | exact Or.inl rfl | exact Or.inr (Or.inl rfl) | exact Or.inr (Or.inr rfl)) (hd : (nm == ("__debug__" : Str)) = false := by decide)
    (hcd : (nm == ("__classdict__" : Str)) = false := by decide) (hb : attributeBase (.Name nm np) "pop" X.env (eval (.Name nm np) X.env) = eval (.Name nm np) X.env := by rfl)
    (hfew : ((backTo cpos (starEach [e] X.env)).all (fun x => !x.1) && (backToKw cpos (keywordEach [] X.env)).all (fun x => x.1.isSome) && decide ([e].length + ([] : List Keyword).length + (if ([] : List Keyword).isEmpty then 0 else 1) < 30)) = true := by rfl)
    (hline : (apos.endLine == cpos.line) = true := by rfl) (hse : starEach [e] X.env = (false, eval e X.env) :: starEach [] X.env := by rfl) (hpl : (backTo cpos (starEach [] X.env)).any (·.1) = false := by rfl)
    (hN2 : X.N.Nodup) (hi : X.N[i]? = some tn := by rfl) (hx : Loc X.env.scope tn := by first | exact Or.inl rfl | exact Or.inr rfl)
    (hs : swapsWithSole [Expr.Name tn tp] (.Call (.Attribute (.Name nm np) "pop" apos) [e] [] cpos) pos.line X.env = pure false := by rfl) (hw : swappedStores [Expr.Name tn tp] (.Call (.Attribute (.Name nm np) "pop" apos) [e] [] cpos) X.env = pure none := by rfl)
    (h1 : (assignEach [Expr.Name tn tp] X.env).map (·.2) = [assign (Expr.Name tn tp) X.env] := by rfl) (hf : X.fn tn = true ∨ X.env.scope.names.lookup tn = some .local := by first | exact .inl rfl | exact .inr rfl) :
    PSI X b (.Assign [.Name tn tp] (.Call (.Attribute (.Name nm np) "pop" apos) [e] [] cpos) pos) (wPopAt i j we) :=
  psi_of (ps_asg (pe_bm PySem.F.plainAttrs_list PySem.F.slot_list_pop PySem.F.type_list_pop mt_popAt (pe_var hN hv hd hcd) (pa_cons he pa_nil hse) hb hfew hline hse hpl) (pg_name hN2 hi hx hf) hs hw h1) fun c ρ σ G H Ψ D S hw p => by
    obtain ⟨ds, h1, hw⟩ := hw
    obtain ⟨l, xs, h2, h3, h4, h5⟩ := S.mutAt h1
    refine ⟨.ref l, h2, .inl ⟨rfl, xs, sq_of h3⟩, c, ρ, G, _, Ψ.xc, S, hw, fun v r G1 H1 t1 o1 hn => ?_, p.exc S⟩
    obtain ⟨G2, t2, im⟩ := freeze S t1 o1
    have S2 := S.tr t2
    have k3 := t2.keep l _ h3 (S.neRow h1 h2) ntL
    obtain ⟨k, d, e, hk, hd, hΨ⟩ := hn
    rw [e, im_int] at im
    subst im
    obtain ⟨y, hy, imy⟩ := h5.get hd
    have hkl : k < xs.length := (List.getElem?_eq_some_iff.mp hy).1
    refine ⟨l, xs, (k : Nat), k, y, rfl, rfl, k3, by omega, by omega, ?_, hy, ?_⟩
    · rw [seqIndex_of (by omega) (by omega), Int.toNat_natCast]
    · have S3 := S2.write h1 h2 ((h5.mono t2.eg).eraseIdx k)
      exact p.nx _ _ G2 _ (S3.setDat (imy.mono t2.eg)) hΨ
/-! ### for -/
def ForI (tgt : Tgt) (wb : WS) (ds : List PyData) (ρ : Rho) (Ψ : Pst) : Prop := ∃ I : Nat → Rho → Prop, I 0 ρ ∧ (∀ (i : Nat) d ρ', ds[i]? = some d → I i ρ' → bindT tgt d ρ' (fun ρ2 => wb ρ2 { Ψ with nx := I (i + 1), ct := I (i + 1), bk := Ψ.nx })) ∧ ∀ ρ', I ds.length ρ' → Ψ.nx ρ'
def ForR (tgt : Tgt) (wb : WS) (lo : Int) (n : Nat) (ρ : Rho) (Ψ : Pst) : Prop := ∃ I : Nat → Rho → Prop, I 0 ρ ∧ (∀ (i : Nat) ρ', i < n → I i ρ' → bindT tgt (.int (lo + (i : Nat))) ρ' (fun ρ2 => wb ρ2 { Ψ with nx := I (i + 1), ct := I (i + 1), bk := Ψ.nx })) ∧ ∀ ρ', I n ρ' → Ψ.nx ρ'
def wForL (tgt : Tgt) (w : WE) (wb : WS) : WS := fun ρ Ψ => w ρ (fun r => ∃ ds, r.frz = .list ds ∧ ForI tgt wb ds ρ Ψ) Ψ.xc
def wForT (tgt : Tgt) (w : WE) (wb : WS) : WS := fun ρ Ψ => w ρ (fun r => ∃ ds, r.frz = .tuple ds ∧ ForI tgt wb ds ρ Ψ) Ψ.xc
def wForR1 (tgt : Tgt) (wa : WA) (wb : WS) : WS := fun ρ Ψ => wa ρ (fun ds => ∃ n : Int, ds = [.int n] ∧ -1000000 ≤ n ∧ n ≤ 1000000 ∧ ForR tgt wb 0 n.toNat ρ Ψ) Ψ.xc
def wForR2 (tgt : Tgt) (wa : WA) (wb : WS) : WS := fun ρ Ψ => wa ρ (fun ds => ∃ lo n : Int, ds = [.int lo, .int n] ∧ (-1000000 ≤ lo ∧ lo ≤ 1000000 ∧ -1000000 ≤ n ∧ n ≤ 1000000) ∧ ForR tgt wb lo (n - lo).toNat ρ Ψ) Ψ.xc
theorem turnS {K : PySem.W.Frag} {c : Cn} {ρ : Rho} {σ : L2.St} {G H : Hp} {Ψ : Pst} {D : Ends} {tgt : Tgt} {wb : WS} {Pi : L2.St → Hp → Prop} {Ii : Rho → Prop} {d : PyData} {v : V} (S : Sat K c ρ σ G H) (im : Im K G d v) (p : PostS K b c Ψ D)
    (hP : ∀ ρ' σ' G' H', Sat K c ρ' σ' G' H' → Ii ρ' → Pi σ' H') (h : bindT tgt d ρ fun ρ2 => wb ρ2 { Ψ with nx := Ii, ct := Ii, bk := Ψ.nx }) : tgOf K tgt v σ H fun σ2 H2 => tsOf K b wb { D with nx := Pi, ct := Pi, bk := D.nx } σ2 H2 :=
  tgt_ok S im h fun ρ' σ' S' h' _ => ⟨c, ρ', G, _, S', h', ⟨hP, p.rt, p.nx, hP, p.xc⟩⟩
theorem psi_forL (tgt : Tgt) {tg : Expr} (hp : PassesOwn (model X.prog X.w) X.A X.env X.xe) (hc : X.calm = true) (he : PEI X b e we) (hg : PG X tg (tgOf X.K tgt)) (hb : PSsI X b body w) (hs : ∀ x, foldedSetIterable e X.env x = pure x := by intro _; rfl) :
    PSI X b (.For tg e body [] pos) (wForL tgt we w) := psi_of (ps_for hp hc (pi_list he) hg hb hs) fun c ρ σ G H Ψ D S hw p => by
  refine ⟨c, ρ, G, _, Ψ.xc, S, hw, fun v r G1 H1 t1 o1 hn => ?_, p.exc S⟩
  obtain ⟨G2, t2, im⟩ := freeze S t1 o1
  obtain ⟨ds, e, I, h0, hI, hd⟩ := hn
  rw [e, im_list] at im
  obtain ⟨a, xs, rfl, ha, il⟩ := im
  have S2 := S.tr t2
  have S2' := S2.up
  refine ⟨a, rfl, ⟨xs, sq_of (S2.ex2 a _ ha)⟩, for_list (xs := xs) (fun i σ' H' => ∃ ρ' G', Sat X.K { c with Ge := G2 } ρ' σ' G' H' ∧ I i ρ') ⟨ρ, G2, S2', h0⟩ (fun i σ' H' _ ⟨ρ', G', S', _⟩ => sq_of (S'.ex2 a _ (S'.ex1 a _ ha))) (fun i x σ' H' hx ⟨ρ', G', S', hi⟩ => ?_) (fun σ' H' ⟨ρ', G', S', hi⟩ => ?_)⟩
  · have hl : i < ds.length := by rw [il.len]; exact (List.getElem?_eq_some_iff.mp hx).1
    obtain ⟨y, hy, iy⟩ := il.get (List.getElem?_eq_getElem hl)
    rw [hx] at hy
    cases hy
    exact turnS S' (iy.mono S'.ex1) (p.up S2) (fun ρ2 σ2 G3 H3 S3 h3 => ⟨ρ2, G3, S3, h3⟩) (hI i _ ρ' (List.getElem?_eq_getElem hl) hi)
  · exact p.nx ρ' σ' G' H' (S2.down S') (hd ρ' (by rw [il.len]; exact hi))
theorem psi_forT (tgt : Tgt) {tg : Expr} (hp : PassesOwn (model X.prog X.w) X.A X.env X.xe) (hc : X.calm = true) (he : PEI X b e we) (hg : PG X tg (tgOf X.K tgt)) (hb : PSsI X b body w) (hs : ∀ x, foldedSetIterable e X.env x = pure x := by intro _; rfl) :
    PSI X b (.For tg e body [] pos) (wForT tgt we w) := psi_of (ps_for hp hc (pi_tup he) hg hb hs) fun c ρ σ G H Ψ D S hw p => by
  refine ⟨c, ρ, G, _, Ψ.xc, S, hw, fun v r G1 H1 t1 o1 hn => ?_, p.exc S⟩
  obtain ⟨G2, t2, im⟩ := freeze S t1 o1
  obtain ⟨ds, e, I, h0, hI, hd⟩ := hn
  rw [e, im_tuple] at im
  obtain ⟨a, xs, rfl, ha, il⟩ := im
  have S2 := S.tr t2
  have S2' := S2.up
  refine ⟨a, rfl, ⟨xs, ex_t S2.ex2 ha⟩, for_tup (xs := xs) (fun i σ' H' => ∃ ρ' G', Sat X.K { c with Ge := G2 } ρ' σ' G' H' ∧ I i ρ') ⟨ρ, G2, S2', h0⟩ (fun i σ' H' _ ⟨ρ', G', S', _⟩ => ex_t S'.ex2 (ex_t S'.ex1 ha)) (fun i x σ' H' hx ⟨ρ', G', S', hi⟩ => ?_) (fun σ' H' ⟨ρ', G', S', hi⟩ => ?_)⟩
  · have hl : i < ds.length := by rw [il.len]; exact (List.getElem?_eq_some_iff.mp hx).1
    obtain ⟨y, hy, iy⟩ := il.get (List.getElem?_eq_getElem hl)
    rw [hx] at hy
    cases hy
    exact turnS S' (iy.mono S'.ex1) (p.up S2) (fun ρ2 σ2 G3 H3 S3 h3 => ⟨ρ2, G3, S3, h3⟩) (hI i _ ρ' (List.getElem?_eq_getElem hl) hi)
  · exact p.nx ρ' σ' G' H' (S2.down S') (hd ρ' (by rw [il.len]; exact hi))
theorem forR_ok {K : PySem.W.Frag} {c : Cn} {ρ : Rho} {σ : L2.St} {G H : Hp} {Ψ : Pst} {D : Ends} {tgt : Tgt} {wb : WS} {lo : Int} {n : Nat} (S : Sat K c ρ σ G H) (p : PostS K b c Ψ D) (h : ForR tgt wb lo n ρ Ψ) :
    ∃ W : Nat → Nat → L2.St → Hp → Prop, (∃ m, W 0 m σ H) ∧ ∀ i m σ H, W i m σ H →
      ((Itr lo n).stop i H ∧ D.nx σ H) ∨ ((Itr lo n).go i H ∧ ∃ N : L2.St → Hp → Prop, (∀ σ' H', N σ' H' → ∃ m', m' < m ∧ W (i + 1) m' σ' H') ∧ ∀ x H', (Itr lo n).yld i H x H' → tgOf K tgt x σ H' fun σ2 H2 => tsOf K b wb { D with nx := N, ct := N, bk := D.nx } σ2 H2) := by
  obtain ⟨I, h0, hI, hd⟩ := h
  refine for_range (lo := lo) (n := n) (fun i σ' H' => ∃ ρ' G', Sat K c ρ' σ' G' H' ∧ I i ρ') ⟨ρ, G, S, h0⟩ (fun i σ' H' hi ⟨ρ', G', S', h'⟩ => ?_) (fun σ' H' ⟨ρ', G', S', h'⟩ => p.nx ρ' σ' G' H' S' (hd ρ' h'))
  exact turnS S' (by rw [im_int]) p (fun ρ2 σ2 G3 H3 S3 h3 => ⟨ρ2, G3, S3, h3⟩) (hI i ρ' hi h')
theorem psi_forR1 (tgt : Tgt) {tg : Expr} {p1 p2 : Pos} {wa : WA} (hp : PassesOwn (model X.prog X.w) X.A X.env X.xe) (hc : X.calm = true) (hm : X.mg "range" = none) (hgl : Gl X "range") (ha : PAI X b 1 [x] wa) (hg : PG X tg (tgOf X.K tgt)) (hb : PSsI X b body w)
    (hse : starEach [x] X.env = [(false, eval x X.env)] := by rfl) (hs : ∀ y, foldedSetIterable (.Call (.Name "range" p1) [x] [] p2) X.env y = pure y := by intro _; rfl) :
    PSI X b (.For tg (.Call (.Name "range" p1) [x] [] p2) body [] pos) (wForR1 tgt wa w) := psi_of (ps_for hp hc (pi_range1 hgl hm ha hse) hg hb hs) fun c ρ σ G H Ψ D S hw p => by
  refine ⟨c, ρ, G, _, Ψ.xc, S, hw, fun vs ds G1 H1 t1 il hl hn => ?_, p.exc S⟩
  obtain ⟨n, rfl, h1, h2, hf⟩ := hn
  obtain ⟨v, rfl, im⟩ := imL_1 il
  rw [im_int] at im
  subst im
  exact ⟨n, rfl, by omega, by omega, forR_ok (S.tr t1) p hf⟩
theorem psi_forR2 (tgt : Tgt) {tg : Expr} {p1 p2 : Pos} {wa : WA} (hp : PassesOwn (model X.prog X.w) X.A X.env X.xe) (hc : X.calm = true) (hm : X.mg "range" = none) (hgl : Gl X "range") (ha : PAI X b 2 [x, y] wa) (hg : PG X tg (tgOf X.K tgt)) (hb : PSsI X b body w)
    (hse : starEach [x, y] X.env = [(false, eval x X.env), (false, eval y X.env)] := by rfl) (hse2 : starEach [y] X.env = [(false, eval y X.env)] := by rfl) (hs : ∀ z, foldedSetIterable (.Call (.Name "range" p1) [x, y] [] p2) X.env z = pure z := by intro _; rfl) :
    PSI X b (.For tg (.Call (.Name "range" p1) [x, y] [] p2) body [] pos) (wForR2 tgt wa w) := psi_of (ps_for hp hc (pi_range2 hgl hm ha hse hse2) hg hb hs) fun c ρ σ G H Ψ D S hw p => by
  refine ⟨c, ρ, G, _, Ψ.xc, S, hw, fun vs ds G1 H1 t1 il hl hn => ?_, p.exc S⟩
  obtain ⟨lo, n, rfl, h1, hf⟩ := hn
  obtain ⟨v, u, rfl, im, im2⟩ := imL_2 il
  rw [im_int] at im im2
  subst im im2
  exact ⟨lo, n, rfl, ⟨by omega, by omega, by omega, by omega⟩, forR_ok (S.tr t1) p hf⟩
/-! ### while -/
def wWhile (wt : WT) (wb : WS) : WS := fun ρ Ψ => ∃ I : Nat → Rho → Prop, (∃ m, I m ρ) ∧ ∀ m ρ', I m ρ' → wt ρ' (fun k => if k = true then wb ρ' { Ψ with nx := fun ρ2 => ∃ m', m' < m ∧ I m' ρ2, ct := fun ρ2 => ∃ m', m' < m ∧ I m' ρ2, bk := Ψ.nx } else Ψ.nx ρ') Ψ.xc
theorem psi_while (hp : PassesOwn (model X.prog X.w) X.A X.env X.xe) (ht : PTI X b e wt) (hb : PSsI X b body w) : PSI X b (.While e body [] pos) (wWhile wt w) := psi_of (ps_while hp ht hb) fun c ρ σ G H Ψ D S hw p => by
  obtain ⟨I, ⟨m0, h0⟩, hI⟩ := hw
  refine ⟨fun m σ' H' => ∃ ρ' G', Sat X.K c ρ' σ' G' H' ∧ I m ρ', ⟨m0, ρ, G, S, h0⟩, fun m σ' H' ⟨ρ', G', S', hi⟩ => ?_⟩
  refine ⟨c, ρ', G', _, Ψ.xc, S', hI m ρ' hi, fun k G1 H1 t1 h => ?_, p.exc S'⟩
  cases k with
  | true =>
    rw [if_pos rfl] at h ⊢
    refine ⟨fun σ2 H2 => ∃ m', m' < m ∧ ∃ ρ2 G2, Sat X.K c ρ2 σ2 G2 H2 ∧ I m' ρ2, fun σ2 H2 q => q, c, ρ', G1, _, S'.tr t1, h, ⟨?_, p.rt, p.nx, ?_, p.xc⟩⟩
    · exact fun ρ2 σ2 G2 H2 S2 ⟨m', hm, h2⟩ => ⟨m', hm, ρ2, G2, S2, h2⟩
    · exact fun ρ2 σ2 G2 H2 S2 ⟨m', hm, h2⟩ => ⟨m', hm, ρ2, G2, S2, h2⟩
  | false =>
    rw [if_neg (by decide)] at h ⊢
    exact p.nx ρ' σ' G1 H1 (S'.tr t1) h
end
end SF

/-! ## Comprehensions and defs over data -/
namespace SF
open PySem PySem.Spec PyProof.Rows L2
def wipeE : Rho → List Nat → Rho
  | ρ, [] => ρ
  | ρ, v :: vs => (wipeE ρ vs).set v .no
def noRow (ρ : Rho) (vs : List Nat) : Bool := vs.all fun i => match ρ[i]? with
  | some .row => false
  | _ => true
section
variable {K : PySem.W.Frag} {c : Cn} {ρ : Rho} {σ : L2.St} {G G' H H' G1 H1 : Hp}
theorem Sat.wipe (S : Sat K c ρ σ G H) : ∀ vs : List Nat, Sat K c (wipeE ρ vs) (wipe σ vs) G H
  | [] => S
  | v :: vs => (S.wipe vs).setNo
theorem wipeE_get {i : Nat} : ∀ {vs : List Nat}, i ∉ vs → (wipeE ρ vs)[i]? = ρ[i]?
  | [], _ => rfl
  | v :: vs, h => by
    rw [List.mem_cons, not_or] at h
    show ((wipeE ρ vs).set v .no)[i]? = _
    rw [List.getElem?_set_ne (Ne.symm h.1), wipeE_get h.2]
theorem wipe_get {i : Nat} : ∀ {vs : List Nat}, i ∉ vs → (wipe σ vs)[i]? = σ[i]?
  | [], _ => rfl
  | v :: vs, h => by
    rw [List.mem_cons, not_or] at h
    show ((wipe σ vs).set v none)[i]? = _
    rw [List.getElem?_set_ne (Ne.symm h.1), wipe_get h.2]
theorem wipe_in {i : Nat} : ∀ {vs : List Nat}, i ∈ vs → i < σ.length → (wipe σ vs)[i]? = some none
  | [], h, _ => by simp at h
  | v :: vs, h, hl => by
    show ((wipe σ vs).set v none)[i]? = _
    by_cases q : v = i
    · subst q
      rw [List.getElem?_set_self (by rw [wipe_length]; exact hl)]
    · rw [List.getElem?_set_ne q]
      refine wipe_in ?_ hl
      rcases List.mem_cons.mp h with e | e
      · exact absurd e.symm q
      · exact e
theorem wipe_eq {σ' : L2.St} {vs : List Nat} (hl : σ'.length = σ.length) (h : ∀ (n : Nat), n ∉ vs → σ'[n]? = (wipe σ vs)[n]?) : wipe σ' vs = wipe σ vs := by
  apply List.ext_getElem?
  intro n
  by_cases q : n ∈ vs
  · by_cases k : n < σ.length
    · rw [wipe_in q (by rw [hl]; exact k), wipe_in q k]
    · rw [List.getElem?_eq_none (by rw [wipe_length, hl]; omega), List.getElem?_eq_none (by rw [wipe_length]; omega)]
  · rw [wipe_get q, h n q]
/-- the slots that a binding sets -/
theorem setsE_get {i : Nat} : ∀ {is : List Nat} {ds : List PyData} {ρ : Rho}, i ∉ is → (setsE ρ is ds)[i]? = ρ[i]?
  | [], ds, ρ, _ => by cases ds <;> rfl
  | j :: is, [], ρ, _ => rfl
  | j :: is, d :: ds, ρ, h => by
    rw [List.mem_cons, not_or] at h
    show (setsE (ρ.set j (.dat d)) is ds)[i]? = _
    rw [setsE_get h.2, List.getElem?_set_ne (Ne.symm h.1)]
theorem wipeE_length (ρ : Rho) : ∀ vs : List Nat, (wipeE ρ vs).length = ρ.length
  | [] => rfl
  | v :: vs => by show ((wipeE ρ vs).set v .no).length = _; rw [List.length_set, wipeE_length ρ vs]
theorem wipeE_in {i : Nat} : ∀ {vs : List Nat}, i ∈ vs → (wipeE ρ vs)[i]? = if i < ρ.length then some .no else none
  | [], h => by simp at h
  | v :: vs, h => by
    show ((wipeE ρ vs).set v .no)[i]? = _
    by_cases q : v = i
    · subst q
      rw [List.getElem?_set, if_pos rfl, wipeE_length]
    · rw [List.getElem?_set_ne q]
      refine wipeE_in ?_
      rcases List.mem_cons.mp h with e | e
      · exact absurd e.symm q
      · exact e
/-- rows are those of the state ahead -/
structure Rows (ρ : Rho) (σ : L2.St) (ρ' : Rho) (σ' : L2.St) : Prop where
  iff : ∀ r, IsRow ρ' σ' r ↔ IsRow ρ σ r
theorem Tr.lift {ρ' : Rho} {σ' : L2.St} (h : ∀ r, IsRow ρ' σ' r ↔ IsRow ρ σ r) (t : Tr K ρ' σ' G H G' H') : Tr K ρ σ G H G' H' :=
  ⟨t.eg, t.eh, fun a o q n m => t.keep a o q (fun z => n ((h a).mp z)) m, t.tbl, t.avoid, fun r q => t.row r ((h r).mpr q)⟩
/-- the list that is made: at D, untracked by slots -/
theorem Tr.side {D : Addr} {o : HO} (S1 : Sat K c ρ σ G1 H1) (t : Tr K ρ σ G1 H1 G H) (h1 : H1 D = none) (hG : G D = none) {xs : List V} (hD : H D = some (.lst xs)) : Tr K ρ σ G1 H1 G (upd H D o) :=
  ⟨t.eg, t.eh.out hG, fun a u h n m => by
    rw [upd_ne (fun e => by rw [e, h1] at h; cases h)]
    exact t.keep a u h n m, t.tbl.trans (.lst hD), t.avoid, fun r h => by
    have z := t.row r h
    have ne : r ≠ D := fun e => (S1.rowAt h).there (by rw [e]; exact h1)
    exact z.go (.refl _) z.1 fun u e => by rw [upd_ne ne]; exact e⟩
end
section
variable {X : Cx} {b : Bs} {x y z e elt tg : Expr} {ifs : List Expr} {scope : Scope} {pos : Pos} {we w : WE} {wt : WT} {tgt : Tgt} {own : List (Str × Nat)}
abbrev PTsI (X : Cx) (b : Bs) (ifs : List Expr) (w : WT) : Prop := PTs X ifs (ttOf X.K b w)
def wYes : WT := fun _ Φ _ => Φ true
theorem pts_imp {ifs : List Expr} {t t' : TT} (h : PTs X ifs t) (hi : ∀ σ H Q, t' σ H Q → t σ H Q) : PTs X ifs t' := ⟨fun pins s σ H Q I q => h.run pins s σ H Q I (hi σ H Q q)⟩
theorem ptsi_nil : PTsI X b [] wYes := pts_imp pts_nil fun σ H Q ⟨c, ρ, G, Φ, Ξ, S, hw, p, ex⟩ => p true G H (.refl S) hw
theorem ptsi_one (h : PTI X b x wt) : PTsI X b [x] wt := pts_one h
def LcTurn (tgt : Tgt) (vs : List Nat) (wt : WT) (w : WE) (I : Nat → List PyData → Prop) (i : Nat) (d : PyData) (ρ : Rho) : Prop := ∀ acc, I i acc → acc.length < 1000000 ∧ bindT tgt d (wipeE ρ vs) (fun ρ2 => wt ρ2 (fun k => if k = true then w ρ2 (fun r => I (i + 1) (acc ++ [r.frz])) (fun _ => False) else I (i + 1) acc) (fun _ => False))
def LcI (tgt : Tgt) (vs : List Nat) (wt : WT) (w : WE) (ds : List PyData) (ρ : Rho) (Φ : Res → Prop) : Prop := noRow ρ vs = true ∧ ∃ I : Nat → List PyData → Prop, I 0 [] ∧ (∀ (i : Nat) d, ds[i]? = some d → LcTurn tgt vs wt w I i d ρ) ∧ ∀ acc, I ds.length acc → Φ (.lst acc)
def LcR (tgt : Tgt) (vs : List Nat) (wt : WT) (w : WE) (lo : Int) (n : Nat) (ρ : Rho) (Φ : Res → Prop) : Prop := noRow ρ vs = true ∧ ∃ I : Nat → List PyData → Prop, I 0 [] ∧ (∀ (i : Nat), i < n → LcTurn tgt vs wt w I i (.int (lo + (i : Nat))) ρ) ∧ ∀ acc, I n acc → Φ (.lst acc)
def wLcL (tgt : Tgt) (vs : List Nat) (wi : WE) (wt : WT) (w : WE) : WE := fun ρ Φ Ξ => wi ρ (fun r => ∃ ds, r.frz = .list ds ∧ LcI tgt vs wt w ds ρ Φ) Ξ
def wLcT (tgt : Tgt) (vs : List Nat) (wi : WE) (wt : WT) (w : WE) : WE := fun ρ Φ Ξ => wi ρ (fun r => ∃ ds, r.frz = .tuple ds ∧ LcI tgt vs wt w ds ρ Φ) Ξ
def wLcR1 (tgt : Tgt) (vs : List Nat) (wa : WA) (wt : WT) (w : WE) : WE := fun ρ Φ Ξ => wa ρ (fun ds => ∃ n : Int, ds = [.int n] ∧ -1000000 ≤ n ∧ n ≤ 1000000 ∧ LcR tgt vs wt w 0 n.toNat ρ Φ) Ξ
def PvLc (K : PySem.W.Frag) (ρ : Rho) (σ : L2.St) (G1 H1 : Hp) (D : Addr) (I : Nat → List PyData → Prop) (i : Nat) (H' : Hp) : Prop := ∃ G' acc ys, Tr K ρ σ G1 H1 G' H' ∧ H' D = some (.lst ys) ∧ G' D = none ∧ ImL K G' acc ys ∧ I i acc
/-- one turn -/
theorem lc_turn {K : PySem.W.Frag} {c : Cn} {ρ : Rho} {σ : L2.St} {G1 H1 G H : Hp} {vs : List Nat} {D : Addr} {I : Nat → List PyData → Prop} {i : Nat} {d : PyData} {v : V} {acc : List PyData} {xs : List V} {Pv : Nat → Hp → Prop} (hts : ∀ n ∈ tgt.slots, n ∈ vs) (S1 : Sat K c ρ σ G1 H1) (hn : noRow ρ vs = true)
    (t : Tr K ρ σ G1 H1 G H) (hD1 : H1 D = none) (hD : H D = some (.lst xs)) (hG : G D = none) (il : ImL K G acc xs) (hI : I i acc) (im : Im K G d v) (h : LcTurn tgt vs wt w I i d ρ)
    (hP : ∀ G' H' acc' xs', Tr K ρ σ G1 H1 G' H' → H' D = some (.lst xs') → G' D = none → ImL K G' acc' xs' → I (i + 1) acc' → Pv (i + 1) H') :
    tgOf K tgt v (wipe σ vs) H fun σ2 H2 => wipe σ2 vs = wipe σ vs ∧ ttOf K b wt σ2 H2 fun k H3 => if k = true then teOf K b w σ2 H3 fun y H4 => ∃ acc, H4 D = some (.lst acc) ∧ acc.length < sizeLine ∧ Pv (i + 1) (upd H4 D (.lst (acc ++ [y]))) else Pv (i + 1) H3 := by
  have S := S1.tr t
  obtain ⟨hz, h⟩ := h acc hI
  refine tgt_ok (S.wipe vs) im h fun ρ2 σ2 S2 h2 hs => ?_
  have hl2 : σ2.length = σ.length := by rw [hs.len, wipe_length]
  have hw : wipe σ2 vs = wipe σ vs := wipe_eq hl2 fun n hn' => hs.st n fun z => hn' (hts n z)
  have rows : ∀ r, IsRow ρ2 σ2 r ↔ IsRow ρ σ r := fun r => by
    constructor
    · rintro ⟨j, e1, e2⟩
      have h1 : j ∉ tgt.slots := fun z => hs.nr j z e1
      rw [hs.rh j h1] at e1
      rw [hs.st j h1] at e2
      have h3 : j ∉ vs := fun z => by rw [wipeE_in z] at e1; split at e1 <;> cases e1
      rw [wipeE_get h3] at e1
      rw [wipe_get h3] at e2
      exact ⟨j, e1, e2⟩
    · rintro ⟨j, e1, e2⟩
      have h3 : j ∉ vs := fun z => by
        have q := List.all_eq_true.mp hn j z
        rw [e1] at q
        cases q
      have h1 : j ∉ tgt.slots := fun z => h3 (hts j z)
      exact ⟨j, by rw [hs.rh j h1, wipeE_get h3]; exact e1, by rw [hs.st j h1, wipe_get h3]; exact e2⟩
  have nD : ¬ IsRow ρ σ D := fun z => (S1.rowAt z).there hD1
  refine ⟨hw, c, ρ2, G, _, _, S2, h2, fun k G3 H3 t3 h3 => ?_, fun _ _ _ _ _ _ _ z => z.elim⟩
  have t3' : Tr K ρ σ G1 H1 G3 H3 := t.trans (t3.lift rows)
  have S3 := S2.tr t3
  have hD3 : H3 D = some (.lst xs) := t3.keep D _ hD (fun z => nD ((rows D).mp z)) ntL
  have hG3 : G3 D = none := t3.avoid D hG (by rw [hD]; exact fun z => by cases z)
  cases k with
  | false =>
    rw [if_neg (by decide)] at h3
    exact hP G3 H3 acc xs t3' hD3 hG3 (il.mono t3.eg) h3
  | true =>
    rw [if_pos rfl] at h3
    refine ⟨c, ρ2, G3, _, _, S3, h3, fun y r G4 H4 t4 o4 h4 => ?_, fun _ _ _ _ _ _ _ z => z.elim⟩
    obtain ⟨G5, t5, im5⟩ := freeze S3 t4 o4
    have t5' : Tr K ρ σ G1 H1 G5 H4 := t3'.trans (t5.lift rows)
    have hD5 : H4 D = some (.lst xs) := t5.keep D _ hD3 (fun z => nD ((rows D).mp z)) ntL
    have hG5 : G5 D = none := t5.avoid D hG3 (by rw [hD3]; exact fun z => by cases z)
    have il5 : ImL K G5 acc xs := (il.mono t3.eg).mono t5.eg
    refine ⟨xs, hD5, by rw [← il5.len]; exact Nat.lt_of_lt_of_le hz (by decide), ?_⟩
    exact hP G5 _ (acc ++ [r.frz]) (xs ++ [y]) (Tr.side S1 t5' hD1 hG5 hD5) upd_same hG5 (il5.append (.one im5)) h4
variable {K : PySem.W.Frag}
theorem lcL_ok (hts : ∀ n ∈ tgt.slots, n ∈ own.map (·.2)) (σ : L2.St) (H : Hp) (Q : VK) (h : teOf K b (wLcL tgt (own.map (·.2)) we wt w) σ H Q) : tLc (iList K (teOf K b we)) (tgOf K tgt) (ttOf K b wt) (teOf K b w) (own.map (·.2)) σ H Q := by
  obtain ⟨c, ρ, G, Φ, Ξ, S, hw, p, ex⟩ := h
  refine ⟨c, ρ, G, _, Ξ, S, hw, fun v r G1 H1 t1 o1 h1 => ?_, ex⟩
  obtain ⟨G2, t2, im⟩ := freeze S t1 o1
  obtain ⟨ds, e, hn, I, h0, hI, hd⟩ := h1
  rw [e, im_list] at im
  obtain ⟨a, xs, rfl, ha, il⟩ := im
  have S2 := S.tr t2
  refine ⟨a, rfl, ⟨xs, sq_of (S2.ex2 a _ ha)⟩, fun D hD => ?_⟩
  refine lc_list (xs := xs) (PvLc K ρ σ G2 H1 D I) ⟨G2, [], [], Tr.newH S2 hD, upd_same, S2.ex2.back hD, .nil, h0⟩ (fun i H' _ ⟨G', acc, ys, t, _⟩ => sq_of (t.eh a _ (t.eg a _ ha))) (fun i x H' hx ⟨G', acc, ys, t, k1, k2, k3, k4⟩ => ?_) (fun H' ⟨G', acc, ys, t, k1, k2, k3, k4⟩ => ?_)
  · have hl : i < ds.length := by rw [il.len]; exact (List.getElem?_eq_some_iff.mp hx).1
    obtain ⟨y, hy, iy⟩ := il.get (List.getElem?_eq_getElem hl)
    rw [hx] at hy
    cases hy
    exact lc_turn (b := b) (Pv := PvLc K ρ σ G2 H1 D I) hts S2 hn t hD k1 k2 k3 k4 (iy.mono t.eg) (hI i _ (List.getElem?_eq_getElem hl)) fun G' H' acc' xs' q1 q2 q3 q4 q5 => ⟨G', acc', xs', q1, q2, q3, q4, q5⟩
  · exact p _ (.lst acc) G' H' (t2.trans t) ⟨D, ys, rfl, t2.back hD, k2, k1, k3⟩ (hd acc (by rw [il.len]; exact k4))
theorem lcT_ok (hts : ∀ n ∈ tgt.slots, n ∈ own.map (·.2)) (σ : L2.St) (H : Hp) (Q : VK) (h : teOf K b (wLcT tgt (own.map (·.2)) we wt w) σ H Q) : tLc (iTup K (teOf K b we)) (tgOf K tgt) (ttOf K b wt) (teOf K b w) (own.map (·.2)) σ H Q := by
  obtain ⟨c, ρ, G, Φ, Ξ, S, hw, p, ex⟩ := h
  refine ⟨c, ρ, G, _, Ξ, S, hw, fun v r G1 H1 t1 o1 h1 => ?_, ex⟩
  obtain ⟨G2, t2, im⟩ := freeze S t1 o1
  obtain ⟨ds, e, hn, I, h0, hI, hd⟩ := h1
  rw [e, im_tuple] at im
  obtain ⟨a, xs, rfl, ha, il⟩ := im
  have S2 := S.tr t2
  refine ⟨a, rfl, ⟨xs, ex_t S2.ex2 ha⟩, fun D hD => ?_⟩
  refine lc_tup (xs := xs) (PvLc K ρ σ G2 H1 D I) ⟨G2, [], [], Tr.newH S2 hD, upd_same, S2.ex2.back hD, .nil, h0⟩ (fun i H' _ ⟨G', acc, ys, t, _⟩ => ex_t t.eh (ex_t t.eg ha)) (fun i x H' hx ⟨G', acc, ys, t, k1, k2, k3, k4⟩ => ?_) (fun H' ⟨G', acc, ys, t, k1, k2, k3, k4⟩ => ?_)
  · have hl : i < ds.length := by rw [il.len]; exact (List.getElem?_eq_some_iff.mp hx).1
    obtain ⟨y, hy, iy⟩ := il.get (List.getElem?_eq_getElem hl)
    rw [hx] at hy
    cases hy
    exact lc_turn (b := b) (Pv := PvLc K ρ σ G2 H1 D I) hts S2 hn t hD k1 k2 k3 k4 (iy.mono t.eg) (hI i _ (List.getElem?_eq_getElem hl)) fun G' H' acc' xs' q1 q2 q3 q4 q5 => ⟨G', acc', xs', q1, q2, q3, q4, q5⟩
  · exact p _ (.lst acc) G' H' (t2.trans t) ⟨D, ys, rfl, t2.back hD, k2, k1, k3⟩ (hd acc (by rw [il.len]; exact k4))
theorem lcR_ok {wa : WA} (hts : ∀ n ∈ tgt.slots, n ∈ own.map (·.2)) (σ : L2.St) (H : Hp) (Q : VK) (h : teOf K b (wLcR1 tgt (own.map (·.2)) wa wt w) σ H Q) : tLc (iRng1 (taOf K b 1 wa)) (tgOf K tgt) (ttOf K b wt) (teOf K b w) (own.map (·.2)) σ H Q := by
  obtain ⟨c, ρ, G, Φ, Ξ, S, hw, p, ex⟩ := h
  refine ⟨c, ρ, G, _, Ξ, S, hw, fun vs ds G1 H1 t1 il hl h1 => ?_, ex⟩
  obtain ⟨n, rfl, b1, b2, hn, I, h0, hI, hd⟩ := h1
  obtain ⟨v, rfl, im⟩ := imL_1 il
  rw [im_int] at im
  subst im
  have S2 := S.tr t1
  refine ⟨n, rfl, by omega, by omega, fun D hD => ?_⟩
  refine lc_range (lo := 0) (n := n.toNat) (PvLc K ρ σ G1 H1 D I) ⟨G1, [], [], Tr.newH S2 hD, upd_same, S2.ex2.back hD, .nil, h0⟩ (fun i H' hi ⟨G', acc, ys, t, k1, k2, k3, k4⟩ => ?_) (fun H' ⟨G', acc, ys, t, k1, k2, k3, k4⟩ => ?_)
  · exact lc_turn (b := b) (Pv := PvLc K ρ σ G1 H1 D I) hts S2 hn t hD k1 k2 k3 k4 (by rw [im_int]) (hI i hi) fun G' H' acc' xs' q1 q2 q3 q4 q5 => ⟨G', acc', xs', q1, q2, q3, q4, q5⟩
  · exact p _ (.lst acc) G' H' (t1.trans t) ⟨D, ys, rfl, t1.back hD, k2, k1, k3⟩ (hd acc k4)
/-- the parts of a comprehension within its block -/
structure Blk (X : Cx) (b : Bs) (scope : Scope) (own : List (Str × Nat)) (tg : Expr) (ifs : List Expr) (elt : Expr) (tgt : Tgt) (wt : WT) (w : WE) : Prop where
  ok : BlkOk X.N X.env.scope scope own
  sl : ∀ n ∈ tgt.slots, n ∈ own.map (·.2)
  hg : ∀ (s : Shared) (H : Hp) (C : Addr) (cl : List (Str × Addr)) (fp : List Addr), PG (X.blk s H scope (compEnvC scope cl C X.env) fp) tg (tgOf X.K tgt)
  ht : ∀ (s : Shared) (H : Hp) (C : Addr) (cl : List (Str × Addr)) (fp : List Addr), PTsI (X.blk s H scope (compEnvC scope cl C X.env) fp) b ifs wt
  he : ∀ (s : Shared) (H : Hp) (C : Addr) (cl : List (Str × Addr)) (fp : List Addr), PEI (X.blk s H scope (compEnvC scope cl C X.env) fp) b elt w
theorem pei_lcL (hc : X.calm = true) (hN : X.N.Nodup) (hi : PEI X b e we) (B : Blk X b scope own tg ifs elt tgt wt w) (hs : ∀ x, foldedSetIterable e X.env x = pure x := by intro _; rfl) : PEI X b (.ListComp elt [⟨tg, e, ifs, 0⟩] scope pos) (wLcL tgt (own.map (·.2)) we wt w) :=
  pe_imp (pe_lc hc hN (pi_list hi) B.ok B.hg B.ht B.he hs) (lcL_ok B.sl)
theorem pei_lcT (hc : X.calm = true) (hN : X.N.Nodup) (hi : PEI X b e we) (B : Blk X b scope own tg ifs elt tgt wt w) (hs : ∀ x, foldedSetIterable e X.env x = pure x := by intro _; rfl) : PEI X b (.ListComp elt [⟨tg, e, ifs, 0⟩] scope pos) (wLcT tgt (own.map (·.2)) we wt w) :=
  pe_imp (pe_lc hc hN (pi_tup hi) B.ok B.hg B.ht B.he hs) (lcT_ok B.sl)
theorem pei_lcR {wa : WA} {p1 p2 : Pos} (hc : X.calm = true) (hN : X.N.Nodup) (hm : X.mg "range" = none) (hgl : Gl X "range") (ha : PAI X b 1 [x] wa) (B : Blk X b scope own tg ifs elt tgt wt w) (hse : starEach [x] X.env = [(false, eval x X.env)] := by rfl)
    (hs : ∀ y, foldedSetIterable (.Call (.Name "range" p1) [x] [] p2) X.env y = pure y := by intro _; rfl) : PEI X b (.ListComp elt [⟨tg, .Call (.Name "range" p1) [x] [] p2, ifs, 0⟩] scope pos) (wLcR1 tgt (own.map (·.2)) wa wt w) :=
  pe_imp (pe_lc hc hN (pi_range1 hgl hm ha hse) B.ok B.hg B.ht B.he hs) (lcR_ok B.sl)
/-- name = [..] -/
theorem psi_setLcL (i : Nat) {nm : Str} {np spos : Pos} (hc : X.calm = true) (hN : X.N.Nodup) (hi : PEI X b e we) (B : Blk X b scope own tg ifs elt tgt wt w) (hsw : swapsWith (.ListComp elt [⟨tg, e, ifs, 0⟩] scope pos) (some (.Name nm np)) spos.line X.env = pure true) (hy : X.N[i]? = some nm := by rfl) (hyl : X.env.scope.names.lookup nm = some .local := by rfl)
    (hs : ∀ x, foldedSetIterable e X.env x = pure x := by intro _; rfl) : PSI X b (.Assign [.Name nm np] (.ListComp elt [⟨tg, e, ifs, 0⟩] scope pos) spos) (wSet i (wLcL tgt (own.map (·.2)) we wt w)) :=
  ps_imp (ps_setLc hc hN hy hyl hsw (pi_list hi) B.ok B.hg B.ht B.he hs) fun D σ H q => asg_ok (lcL_ok B.sl) q
theorem psi_setFLcL (i : Nat) {nm : Str} {np spos : Pos} (hc : X.calm = true) (hN : X.N.Nodup) (hi : PEI X b e we) (B : Blk X b scope own tg ifs elt tgt wt w) (hsw : swapsWith (.ListComp elt [⟨tg, e, ifs, 0⟩] scope pos) (some (.Name nm np)) spos.line X.env = pure true) (hy : X.N[i]? = some nm := by rfl) (hyl : X.env.scope.names.lookup nm = some .local := by rfl)
    (hs : ∀ x, foldedSetIterable e X.env x = pure x := by intro _; rfl) : PSI X b (.Assign [.Name nm np] (.ListComp elt [⟨tg, e, ifs, 0⟩] scope pos) spos) (wSetF i (wLcL tgt (own.map (·.2)) we wt w)) :=
  ps_imp (ps_setLc hc hN hy hyl hsw (pi_list hi) B.ok B.hg B.ht B.he hs) fun D σ H q => asgF_ok (lcL_ok B.sl) q
theorem psi_setFLcT (i : Nat) {nm : Str} {np spos : Pos} (hc : X.calm = true) (hN : X.N.Nodup) (hi : PEI X b e we) (B : Blk X b scope own tg ifs elt tgt wt w) (hsw : swapsWith (.ListComp elt [⟨tg, e, ifs, 0⟩] scope pos) (some (.Name nm np)) spos.line X.env = pure true) (hy : X.N[i]? = some nm := by rfl) (hyl : X.env.scope.names.lookup nm = some .local := by rfl)
    (hs : ∀ x, foldedSetIterable e X.env x = pure x := by intro _; rfl) : PSI X b (.Assign [.Name nm np] (.ListComp elt [⟨tg, e, ifs, 0⟩] scope pos) spos) (wSetF i (wLcT tgt (own.map (·.2)) we wt w)) :=
  ps_imp (ps_setLc hc hN hy hyl hsw (pi_tup hi) B.ok B.hg B.ht B.he hs) fun D σ H q => asgF_ok (lcT_ok B.sl) q
theorem psi_setLcR (i : Nat) {nm : Str} {np spos p1 p2 : Pos} {wa : WA} (hc : X.calm = true) (hN : X.N.Nodup) (hm : X.mg "range" = none) (hgl : Gl X "range") (ha : PAI X b 1 [x] wa) (B : Blk X b scope own tg ifs elt tgt wt w)
    (hsw : swapsWith (.ListComp elt [⟨tg, .Call (.Name "range" p1) [x] [] p2, ifs, 0⟩] scope pos) (some (.Name nm np)) spos.line X.env = pure true) (hy : X.N[i]? = some nm := by rfl) (hyl : X.env.scope.names.lookup nm = some .local := by rfl) (hse : starEach [x] X.env = [(false, eval x X.env)] := by rfl)
    (hs : ∀ y, foldedSetIterable (.Call (.Name "range" p1) [x] [] p2) X.env y = pure y := by intro _; rfl) : PSI X b (.Assign [.Name nm np] (.ListComp elt [⟨tg, .Call (.Name "range" p1) [x] [] p2, ifs, 0⟩] scope pos) spos) (wSet i (wLcR1 tgt (own.map (·.2)) wa wt w)) :=
  ps_imp (ps_setLc hc hN hy hyl hsw (pi_range1 hgl hm ha hse) B.ok B.hg B.ht B.he hs) fun D σ H q => asg_ok (lcR_ok B.sl) q
theorem psi_setFLcR (i : Nat) {nm : Str} {np spos p1 p2 : Pos} {wa : WA} (hc : X.calm = true) (hN : X.N.Nodup) (hm : X.mg "range" = none) (hgl : Gl X "range") (ha : PAI X b 1 [x] wa) (B : Blk X b scope own tg ifs elt tgt wt w)
    (hsw : swapsWith (.ListComp elt [⟨tg, .Call (.Name "range" p1) [x] [] p2, ifs, 0⟩] scope pos) (some (.Name nm np)) spos.line X.env = pure true) (hy : X.N[i]? = some nm := by rfl) (hyl : X.env.scope.names.lookup nm = some .local := by rfl) (hse : starEach [x] X.env = [(false, eval x X.env)] := by rfl)
    (hs : ∀ y, foldedSetIterable (.Call (.Name "range" p1) [x] [] p2) X.env y = pure y := by intro _; rfl) : PSI X b (.Assign [.Name nm np] (.ListComp elt [⟨tg, .Call (.Name "range" p1) [x] [] p2, ifs, 0⟩] scope pos) spos) (wSetF i (wLcR1 tgt (own.map (·.2)) wa wt w)) :=
  ps_imp (ps_setLc hc hN hy hyl hsw (pi_range1 hgl hm ha hse) B.ok B.hg B.ht B.he hs) fun D σ H q => asgF_ok (lcR_ok B.sl) q
end
/-! ### defs -/
section
variable {P : Program} {w : World} {K : PySem.W.Frag} {mg : Str → Option Value} {base : Heap}
/-- the slots at a def's start -/
def startE (es : List Ent) (n : Nat) : Rho := es ++ List.replicate n .no
theorem start_len {N : List Str} {vs : List V} {n : Nat} (h : N.length = vs.length + n) : L2.start N vs = vs.map some ++ List.replicate n none := by
  unfold L2.start
  rw [h, Nat.add_sub_cancel_left]
theorem sat_startP {G H : Hp} {ds : List PyData} {vs : List V} {n : Nat} (e : Ex G H) (il : ImL K G ds vs) : Sat K ⟨none, G, H⟩ (startE (ds.map .dat) n) (vs.map some ++ List.replicate n none) G H where
  ex1 := .refl _
  ex2 := e
  keep := fun _ _ h _ _ => h
  tbl := .refl _
  there := fun _ h => h
  avoid := fun _ h _ => h
  mrow := fun _ h => by cases h
  mhe := fun _ h => by cases h
  len := by unfold startE; rw [List.length_append, List.length_append, List.length_map, List.length_map, il.len, List.length_replicate, List.length_replicate]
  slot := fun i u o h1 h2 => by
    unfold startE at h1
    by_cases q : i < ds.length
    · rw [List.getElem?_append_left (by rw [List.length_map]; exact q), List.getElem?_map, List.getElem?_eq_getElem q] at h1
      rw [List.getElem?_append_left (by rw [List.length_map, ← il.len]; exact q), List.getElem?_map] at h2
      obtain ⟨x, hx, im⟩ := il.get (List.getElem?_eq_getElem q)
      rw [hx] at h2
      cases h1
      cases h2
      exact ⟨x, rfl, im⟩
    · rw [List.getElem?_append_right (by rw [List.length_map]; omega)] at h1
      have e := List.mem_of_getElem? h1
      rw [List.mem_replicate] at e
      rw [e.2]
      trivial
  own := fun i u l h1 hm h2 => by
    unfold startE at h1
    have hmem := List.mem_of_getElem? h1
    rcases List.mem_append.mp hmem with z | z
    · obtain ⟨d, _, rfl⟩ := List.mem_map.mp z
      cases hm
    · rw [List.mem_replicate] at z
      rw [z.2] at hm
      cases hm
  ne := fun i j u f l hne h1 h2 m1 m2 h3 => by
    unfold startE at h1
    have hmem := List.mem_of_getElem? h1
    rcases List.mem_append.mp hmem with z | z
    · obtain ⟨d, _, rfl⟩ := List.mem_map.mp z
      cases m1
    · rw [List.mem_replicate] at z
      rw [z.2] at m1
      cases m1
theorem sat_startR {G H : Hp} {r : Addr} {ds : List PyData} {vs : List V} {n : Nat} (e : Ex G H) (hr : RowAt K G H r) (il : ImL K G ds vs) : Sat K ⟨some r, G, H⟩ (.row :: startE (ds.map .dat) n) (some (.ref r) :: (vs.map some ++ List.replicate n none)) G H := by
  have S := sat_startP (K := K) (n := n) e il
  have nomut : ∀ (i : Nat) u, (startE (ds.map .dat) n)[i]? = some u → u.isM = false := fun i u h1 => by
    unfold startE at h1
    have hmem := List.mem_of_getElem? h1
    rcases List.mem_append.mp hmem with z | z
    · obtain ⟨d, _, rfl⟩ := List.mem_map.mp z
      rfl
    · rw [List.mem_replicate] at z
      rw [z.2]
      rfl
  refine ⟨.refl _, e, fun _ _ h _ _ => h, .refl _, fun _ h => h, fun _ h _ => h, fun q h => by cases h; exact hr, fun q h => by cases h; exact hr.there, by rw [List.length_cons, List.length_cons]; exact congrArg (· + 1) S.len, fun i u o h1 h2 => ?_, fun i u l h1 hm h2 => ?_, fun i j u f l hne h1 h2 m1 m2 h3 h4 => ?_⟩
  · cases i with
    | zero =>
      cases h1
      cases h2
      exact ⟨r, rfl, hr⟩
    | succ i => exact S.slot i u o (by simpa using h1) (by simpa using h2)
  · cases i with
    | zero =>
      cases h1
      cases h2
      exact .inr ⟨rfl, rfl⟩
    | succ i =>
      rw [nomut i u (by simpa using h1)] at hm
      cases hm
  · cases i with
    | zero =>
      cases j with
      | zero => exact hne rfl
      | succ j =>
        rw [nomut j f (by simpa using h2)] at m2
        cases m2
    | succ i =>
      rw [nomut i u (by simpa using h1)] at m1
      cases m1
def endP (Φ : Res → Prop) (Ξ : Exn → Prop) : Pst := { nx := fun _ => Φ (.dat .none), rt := Φ, xc := Ξ }
theorem post_end {b : Bs} {c : Cn} {Φ : Res → Prop} {Ξ : Exn → Prop} {Q : VK} (q : ∀ v r G' H', Fin' K c G' H' → Out K c.He G' H' r v → Φ r → Q v H') (x : ∀ ex cls d G' H', Fin' K c G' H' → b.XR ex cls d G' → Ξ ex → b.E cls d H') :
    PostS K b c (endP Φ Ξ) { nx := fun _ H' => Q .non H', rt := Q } :=
  ⟨fun ρ' σ' G' H' S h => q .non (.dat .none) G' H' S.fin (by show Im _ _ _ _; rw [im_none]) h, q, fun _ _ _ _ _ h => h.elim, fun _ _ _ _ _ h => h.elim, x⟩
/-- THE RULE for a def of the text whose arguments are data: it keeps the promise T -/
theorem okP {x qual : Str} {st : Stmt} {f : Addr} {fd : FuncData} {N ps : List Str} {k n : Nat} {XR : Exn → Value → Option Addr → Hp → Prop} {T : Tf} (F : Fun K x qual st f fd) (S : FnScope N ps (defScope st)) (hn : N.length = ps.length + n) (hT : ∀ ds Φ Ξ, T ds Φ Ξ → ds.length = ps.length)
    (hbody : ∀ (cdv : Value) (A : Around) (outer : List Env) (s : Shared) (H : Hp) (E : XK), Room k (A.deeper (envOfC qual (defScope st) s.heap.objs.size f cdv)) →
      ∃ wS, PSsI (cxOf CX0 P w K mg base N qual (defScope st) f cdv A outer s H E).nox ⟨XR, E⟩ (defBody st) wS ∧ ∀ ds Φ Ξ, T ds Φ Ξ → wS (startE (ds.map .dat) n) (endP Φ Ξ)) : FnOk P w K mg base CX0 (k + 1) f fd ps (spP K XR T) :=
  F.ok S (fun vs H Q E ⟨G, ds, Φ, Ξ, e, il, hT', _⟩ => by rw [← il.len]; exact hT ds Φ Ξ hT') fun cdv A outer s H vs Q E hr ⟨G, ds, Φ, Ξ, e, il, hT', q, ex⟩ => by
    obtain ⟨wS, h1, h2⟩ := hbody cdv A outer s H E hr
    refine ⟨_, h1, ⟨none, G, H⟩, _, G, _, ?_, h2 ds Φ Ξ hT', post_end q ex⟩
    rw [start_len (n := n) (by rw [hn, ← hT ds Φ Ξ hT', il.len])]
    exact sat_startP e il
/-- .. whose first argument is the row -/
theorem okR {x qual : Str} {st : Stmt} {f : Addr} {fd : FuncData} {N ps : List Str} {k n : Nat} {XR : Exn → Value → Option Addr → Hp → Prop} {T : Tf} (F : Fun K x qual st f fd) (S : FnScope N ps (defScope st)) (hn : N.length = ps.length + n) (hT : ∀ ds Φ Ξ, T ds Φ Ξ → ds.length + 1 = ps.length)
    (hbody : ∀ (cdv : Value) (A : Around) (outer : List Env) (s : Shared) (H : Hp) (E : XK), Room k (A.deeper (envOfC qual (defScope st) s.heap.objs.size f cdv)) →
      ∃ wS, PSsI (cxOf CX0 P w K mg base N qual (defScope st) f cdv A outer s H E).nox ⟨XR, E⟩ (defBody st) wS ∧ ∀ ds Φ Ξ, T ds Φ Ξ → wS (.row :: startE (ds.map .dat) n) (endP Φ Ξ)) : FnOk P w K mg base CX0 (k + 1) f fd ps (spR K XR T) :=
  F.ok S (fun vs H Q E ⟨r, us, G, ds, Φ, Ξ, ev, e, hr, il, hT', _⟩ => by rw [ev, List.length_cons, ← il.len]; exact hT ds Φ Ξ hT') fun cdv A outer s H vs Q E hr ⟨r, us, G, ds, Φ, Ξ, ev, e, hrow, il, hT', q, ex⟩ => by
    obtain ⟨wS, h1, h2⟩ := hbody cdv A outer s H E hr
    subst ev
    refine ⟨_, h1, ⟨some r, G, H⟩, _, G, _, ?_, h2 ds Φ Ξ hT', post_end q ex⟩
    rw [start_len (n := n) (by rw [hn, ← hT ds Φ Ξ hT', List.length_cons, il.len])]
    exact sat_startR e hrow il
end
end SF

/-! ## How a reading over data is computed -/
namespace SF
open PySem PySem.Spec PyProof.Rows L2
def XR0 : Exn → Value → Option Addr → Hp → Prop := fun _ _ _ _ => False
section
variable {Φ : Res → Prop} {i j : Int} {ds es : List PyData} {x y z u : PyData}
theorem r_sII {f : Int → Int → PyData} : sII f (.int i) (.int j) Φ = Φ (.dat (f i j)) := by simp [sII]
theorem r_sIIc {C : Int → Int → Prop} {f : Int → Int → PyData} : sIIc C f (.int i) (.int j) Φ = (C i j ∧ Φ (.dat (f i j))) := by simp [sIIc]
theorem r_sIsN : sIsN x .none Φ = Φ (.dat (.bool (isNone x))) := by simp [sIsN]
theorem r_sNotN : sNotN x .none Φ = Φ (.dat (.bool (!isNone x))) := by simp [sNotN]
theorem r_sInL {f : Bool → Bool} : sInL f x (.list ds) Φ = (SeqAt.shaped x = true ∧ SeqAt.shaped (.list ds) = true ∧ Φ (.dat (.bool (f (ds.any fun z => PyData.eqv z x))))) := by simp [sInL]
theorem r_sInT {f : Bool → Bool} : sInT f x (.tuple ds) Φ = (isSc x = true ∧ ds.all isSc = true ∧ Φ (.dat (.bool (f (ds.any fun z => PyData.eqv z x))))) := by simp [sInT]
theorem r_sIxT : sIxT (.tuple ds) (.int i) Φ = ∃ d, atI ds i = some d ∧ Φ (.dat d) := by simp [sIxT]
theorem r_sIxL : sIxL (.list ds) (.int i) Φ = ∃ d, atI ds i = some d ∧ Φ (.dat d) := by simp [sIxL]
theorem r_sSlT {lo hi : Option Int} : sSlT (.tuple ds) lo hi Φ = Φ (.dat (.tuple (cutD ds lo hi))) := by simp [sSlT]
theorem r_sSlL {lo hi : Option Int} : sSlL (.list ds) lo hi Φ = Φ (.lst (cutD ds lo hi)) := by simp [sSlL]
theorem r_sCatL : sCatL (.list ds) (.list es) Φ = (ds.length + es.length ≤ 1000000 ∧ Φ (.lst (ds ++ es))) := by simp [sCatL]
theorem r_sCatT : sCatT (.tuple ds) (.tuple es) Φ = (ds.length + es.length ≤ 1000000 ∧ Φ (.dat (.tuple (ds ++ es)))) := by simp [sCatT]
theorem r_sLenT : sLen [.tuple ds] Φ = Φ (.dat (.int ((ds.length : Nat) : Int))) := by simp [sLen]
theorem r_sLenL : sLen [.list ds] Φ = Φ (.dat (.int ((ds.length : Nat) : Int))) := by simp [sLen]
theorem r_sMax2 : sMax2 [.int i, .int j] Φ = Φ (.dat (.int (max i j))) := by simp [sMax2, and_assoc]
theorem r_sMin2 : sMin2 [.int i, .int j] Φ = Φ (.dat (.int (min i j))) := by simp [sMin2, and_assoc]
theorem r_sListT : sListOf [.tuple ds] Φ = Φ (.lst ds) := by simp [sListOf]
theorem r_sListL : sListOf [.list ds] Φ = Φ (.lst ds) := by simp [sListOf]
theorem r_sTupL : sTupleOf [.list ds] Φ = Φ (.dat (.tuple ds)) := by simp [sTupleOf]
theorem r_sIntB {k : Bool} : sIntB [.bool k] Φ = Φ (.dat (.int (if k then 1 else 0))) := by simp [sIntB]
theorem r_isB {k : Bool} {Θ : Bool → Prop} : isB (.dat (.bool k)) Θ = Θ k := by simp [isB]
theorem r_rev : sRev (.list ds) Φ = Φ (.lst ds.reverse) := by simp [sRev]
theorem r_neg : sNeg (.int i) Φ = Φ (.dat (.int (-i))) := by simp [sNeg]
theorem r_part {w : WE} {ρ : Rho} {Θ : Option Int → Prop} {Ξ : Exn → Prop} : wPart w ρ Θ Ξ = w ρ (fun r => ∃ i, r = .dat (.int i) ∧ Θ (some i)) Ξ := rfl
theorem r_at0 : atI (x :: ds) 0 = some x := atI_nat (j := 0) rfl
theorem r_at1 : atI (x :: y :: ds) 1 = some y := atI_nat (j := 1) rfl
theorem r_at2 : atI (x :: y :: z :: ds) 2 = some z := atI_nat (j := 2) rfl
theorem r_at3 : atI (x :: y :: z :: u :: ds) 3 = some u := atI_nat (j := 3) rfl
theorem r_ex {p : PyData → Prop} : (∃ d, some x = some d ∧ p d) = p x := by simp
theorem r_exr {p : PyData → Prop} : (∃ d, some (Ent.dat x) = some (Ent.dat d) ∧ p d) = p x := by simp
theorem r_exl {p : List PyData → Prop} : (∃ d, some (Ent.ls ds) = some (Ent.ls d) ∧ p d) = p ds := by simp
theorem r_ext {p : List PyData → Prop} : (∃ d, PyData.tuple ds = PyData.tuple d ∧ p d) = p ds := by simp
theorem r_exL {p : List PyData → Prop} : (∃ d, PyData.list ds = PyData.list d ∧ p d) = p ds := by simp
theorem r_exi {p : Int → Prop} : (∃ k, Res.dat (PyData.int i) = Res.dat (PyData.int k) ∧ p k) = p i := by simp
theorem r_exI {p : Int → Prop} : (∃ k, ([PyData.int i] : List PyData) = [PyData.int k] ∧ p k) = p i := by simp
theorem r_exII {p : Int → Int → Prop} : (∃ k l, ([PyData.int i, PyData.int j] : List PyData) = [PyData.int k, PyData.int l] ∧ p k l) = p i j := by simp [and_assoc]
theorem r_fd : (Res.dat x).frz = x := rfl
theorem r_fl : (Res.lst ds).frz = .list ds := rfl
theorem r_ed : (Res.dat x).ent = .dat x := rfl
theorem r_el : (Res.lst ds).ent = .ls ds := rfl
theorem r_sEq : sEq x y Φ = (SeqAt.shaped x = true ∧ SeqAt.shaped y = true ∧ Φ (.dat (.bool (PyData.eqv x y)))) := rfl
theorem r_sNe : sNe x y Φ = (SeqAt.shaped x = true ∧ SeqAt.shaped y = true ∧ Φ (.dat (.bool (!PyData.eqv x y)))) := rfl
theorem n_none : isNone .none = true := rfl
theorem n_int : isNone (.int i) = false := rfl
theorem n_tuple : isNone (.tuple ds) = false := rfl
theorem n_list : isNone (.list ds) = false := rfl
theorem n_str {s : Str} : isNone (.str s) = false := rfl
theorem v_str {s t : Str} : PyData.eqv (.str s) (.str t) = (s == t) := by rw [PyData.eqv]
theorem v_int : PyData.eqv (.int i) (.int j) = (i == j) := by rw [PyData.eqv]
theorem v_noneint : PyData.eqv .none (.int j) = false := by rw [PyData.eqv]
theorem v_intnone : PyData.eqv (.int i) .none = false := by rw [PyData.eqv]
theorem v_none : PyData.eqv .none .none = true := by rw [PyData.eqv]
theorem h_int : SeqAt.shaped (.int i) = true := rfl
theorem h_none : SeqAt.shaped .none = true := rfl
theorem h_bool {k : Bool} : SeqAt.shaped (.bool k) = true := rfl
end
/-! ### comprehensions that filter and map -/
theorem lcR_fm {tgt : Tgt} {vs : List Nat} {wt : WT} {w : WE} {lo : Int} {n : Nat} {ρ : Rho} {Φ : Res → Prop} (p : Nat → Bool) (g : Nat → PyData) (hn : noRow ρ vs = true) (hz : n ≤ 50000)
    (h : ∀ (i : Nat), i < n → ∀ (A : PyData → Prop) (B : Prop), (p i = true → A (g i)) → (p i = false → B) → bindT tgt (.int (lo + (i : Nat))) (wipeE ρ vs) (fun ρ2 => wt ρ2 (fun k => if k = true then w ρ2 (fun r => A r.frz) (fun _ => False) else B) (fun _ => False)))
    (hΦ : Φ (.lst (((List.range n).filter p).map g))) : LcR tgt vs wt w lo n ρ Φ := by
  refine ⟨hn, fun i acc => acc = ((List.range i).filter p).map g, rfl, fun i hi acc ha => ⟨?_, ?_⟩, fun acc ha => by rw [ha]; exact hΦ⟩
  · have h1 := List.length_filter_le p (List.range i)
    rw [List.length_range] at h1
    rw [ha, List.length_map]
    omega
  · refine h i hi (fun z => acc ++ [z] = ((List.range (i + 1)).filter p).map g) (acc = ((List.range (i + 1)).filter p).map g) (fun hp => ?_) (fun hp => ?_)
    · show acc ++ [g i] = _
      rw [List.range_succ, List.filter_append, List.map_append, List.filter_cons, if_pos hp, ha]
      rfl
    · rw [List.range_succ, List.filter_append, List.map_append, List.filter_cons, if_neg (by rw [hp]; decide), ha]
      show _ = _ ++ []
      rw [List.append_nil]
theorem lcI_fm {tgt : Tgt} {vs : List Nat} {wt : WT} {w : WE} {ds : List PyData} {ρ : Rho} {Φ : Res → Prop} (p : PyData → Bool) (g : PyData → PyData) (hn : noRow ρ vs = true) (hz : ds.length ≤ 50000)
    (h : ∀ d, d ∈ ds → ∀ (A : PyData → Prop) (B : Prop), (p d = true → A (g d)) → (p d = false → B) → bindT tgt d (wipeE ρ vs) (fun ρ2 => wt ρ2 (fun k => if k = true then w ρ2 (fun r => A r.frz) (fun _ => False) else B) (fun _ => False)))
    (hΦ : Φ (.lst ((ds.filter p).map g))) : LcI tgt vs wt w ds ρ Φ := by
  refine ⟨hn, fun i acc => acc = ((ds.take i).filter p).map g, rfl, fun i d hd acc ha => ⟨?_, ?_⟩, fun acc ha => by rw [ha, List.take_length]; exact hΦ⟩
  · have h1 := List.length_filter_le p (ds.take i)
    have h2 := List.length_take_le i ds
    have h3 : i < ds.length := (List.getElem?_eq_some_iff.mp hd).1
    rw [List.length_take] at h1
    rw [ha, List.length_map]
    omega
  · refine h d (List.mem_of_getElem? hd) (fun z => acc ++ [z] = ((ds.take (i + 1)).filter p).map g) (acc = ((ds.take (i + 1)).filter p).map g) (fun hp => ?_) (fun hp => ?_)
    · show acc ++ [g d] = _
      rw [List.take_add_one, hd, List.filter_append, List.map_append, ha]
      show _ = _ ++ (List.filter p [d]).map g
      rw [List.filter_cons, if_pos hp]
      rfl
    · rw [List.take_add_one, hd, List.filter_append, List.map_append, ha]
      show _ = _ ++ (List.filter p [d]).map g
      rw [List.filter_cons, if_neg (by rw [hp]; decide)]
      show _ = _ ++ []
      rw [List.append_nil]
/-- a promise that tells a value; one that tells what holds of it -/
def mkT {α : Type} (enc : α → List PyData) (pre : α → Prop) (F : α → Res) : Tf := fun ds Φ _ => ∃ a : α, ds = enc a ∧ pre a ∧ Φ (F a)
def mkTR {α : Type} (enc : α → List PyData) (pre : α → Prop) (post : α → Res → Prop) : Tf := fun ds Φ _ => ∃ a : α, ds = enc a ∧ pre a ∧ ∀ r, post a r → Φ r
end SF

/-! ## Files as plain data, and what is done with them -/
namespace SF
open PySem PySem.Spec PyProof.Rows L2
abbrev Lk := Option Nat
inductive Cell where
  | row (n : Nat) | free (l : Lk)
  deriving DecidableEq
structure File where
  head : Lk
  cells : List Cell
  deriving DecidableEq
abbrev sRow : Str := Str.ofString "row"
abbrev sFree : Str := Str.ofString "free"
def dL : Lk → PyData
  | none => .none
  | some i => .int (i : Int)
def dC : Cell → PyData
  | .row n => .tuple [.str sRow, .int (n : Int)]
  | .free l => .tuple [.str sFree, dL l]
theorem dL_none : dL none = .none := rfl
theorem dL_some {i : Nat} : dL (some i) = .int (i : Int) := rfl
theorem dC_row {n : Nat} : dC (.row n) = .tuple [.str sRow, .int (n : Int)] := rfl
theorem dC_free {l : Lk} : dC (.free l) = .tuple [.str sFree, dL l] := rfl
def dF (f : File) : PyData := .tuple [dL f.head, .tuple (f.cells.map dC)]
def linkOk (n : Nat) : Lk → Bool
  | none => true
  | some i => decide (i < n)
def cellOk (n : Nat) : Cell → Bool
  | .row k => decide (k ≤ 999)
  | .free l => linkOk n l
/-- what need_file lets by -/
structure Fine (f : File) : Prop where
  head : linkOk f.cells.length f.head = true
  few : f.cells.length ≤ 12
  cells : ∀ c ∈ f.cells, cellOk f.cells.length c = true
def isRow : Cell → Bool
  | .row _ => true
  | .free _ => false
def dWhat : Cell → PyData
  | .row n => .int (n : Int)
  | .free l => dL l
def wordOf : Cell → Str
  | .row _ => sRow
  | .free _ => sFree
theorem dC_eq (c : Cell) : dC c = .tuple [.str (wordOf c), dWhat c] := by cases c <;> rfl
def dNat (n : Nat) : PyData := .int (n : Int)
def dNats (l : List Nat) : PyData := .list (l.map dNat)
/-- the places that hold a row, that are free -/
def rowAt (cs : List Cell) (i : Nat) : Bool := match cs[i]? with
  | some (.row _) => true
  | _ => false
def freeAt (cs : List Cell) (i : Nat) : Bool := match cs[i]? with
  | some (.free _) => true
  | _ => false
def numAt (cs : List Cell) (i : Nat) : Nat := match cs[i]? with
  | some (.row n) => n
  | _ => 0
def rowsL (cs : List Cell) : List Nat := (List.range cs.length).filter (rowAt cs)
def freeL (cs : List Cell) : List Nat := (List.range cs.length).filter (freeAt cs)
def dRow (cs : List Cell) (i : Nat) : PyData := .tuple [dNat i, dNat (numAt cs i)]
def dRows (cs : List Cell) : PyData := .list ((rowsL cs).map (dRow cs))
/-- along the chain: the places gone through, and where one stands -/
def walk (cs : List Cell) : Nat → List Nat → Lk → List Nat × Lk
  | 0, found, l => (found, l)
  | _ + 1, found, none => (found, none)
  | k + 1, found, some p => match cs[p]? with
    | some (.free l) => if found.contains p = true then (found, some p) else walk cs k (found ++ [p]) l
    | _ => (found, some p)
def gone (f : File) : List Nat × Lk := walk f.cells (f.cells.length + 1) [] f.head
def chain (f : File) : List Nat := (gone f).1
def stop (f : File) : Lk := (gone f).2
def endWord (f : File) : Str := match stop f with
  | none => Str.ofString "end"
  | some p => match f.cells[p]? with
    | some (.free _) => Str.ofString "ring"
    | _ => Str.ofString "row"
def looseL (f : File) : List Nat := (freeL f.cells).filter fun p => !(chain f).contains p
abbrev sWhole : Str := Str.ofString "whole"
def word (f : File) : Str := if stop f ≠ none then Str.ofString "broken" else if looseL f ≠ [] then Str.ofString "loose" else sWhole
def whole (f : File) : Bool := decide (stop f = none) && decide (looseL f = [])
theorem word_whole (f : File) : (word f == sWhole) = whole f := by
  unfold word whole
  by_cases h : stop f = none
  · rw [if_neg (fun q => q h), decide_eq_true h]
    by_cases h2 : looseL f = []
    · rw [if_neg (fun q => q h2), decide_eq_true h2]
      decide +kernel
    · rw [if_pos h2, decide_eq_false h2]
      decide +kernel
  · rw [if_pos h, decide_eq_false h, Bool.false_and]
    decide +kernel
def dChecked (f : File) : PyData := .tuple [.str (word f), dRows f.cells, dNats (chain f), dNats (looseL f)]
/-- a chain of some places, in order -/
def relink (cs : List Cell) : List Nat → List Cell
  | [] => cs
  | p :: ps => relink (cs.set p (.free ps.head?)) ps
def mendF (f : File) : File := if whole f = true then f else ⟨(freeL f.cells).head?, relink f.cells (freeL f.cells)⟩
inductive What where
  | link (l : Lk) | cell (c : Cell)
  deriving DecidableEq
abbrev Write := Lk × What
def dWh : What → PyData
  | .link l => dL l
  | .cell c => dC c
def dW (w : Write) : PyData := .tuple [dL w.1, dWh w.2]
def dWs (ws : List Write) : List PyData := ws.map dW
/-- the places where two lists of cells differ -/
def diffs (a b : List Cell) (n : Nat) : List Write := ((List.range n).filter fun i => decide (a[i]? ≠ b[i]?)).map fun i => (some i, .cell (a.getD i (.row 0)))
def mendsF (f : File) : List Write := if whole f = true then [] else [(none, .link none)] ++ diffs (mendF f).cells f.cells (mendF f).cells.length ++ [(none, .link (mendF f).head)]
/-! ### facts -/
theorem relink_len : ∀ (ps : List Nat) (cs : List Cell), (relink cs ps).length = cs.length
  | [], _ => rfl
  | p :: ps, cs => by rw [relink, relink_len ps, List.length_set]
theorem mendF_len (f : File) : (mendF f).cells.length = f.cells.length := by
  unfold mendF
  split
  · rfl
  · exact relink_len _ _
theorem freeL_lt {cs : List Cell} {i : Nat} (h : i ∈ freeL cs) : i < cs.length := List.mem_range.mp (List.mem_filter.mp h).1
theorem freeL_head {cs : List Cell} : linkOk cs.length (freeL cs).head? = true := by
  cases e : freeL cs with
  | nil => rfl
  | cons p ps =>
    show decide (p < cs.length) = true
    exact decide_eq_true (freeL_lt (by rw [e]; exact List.mem_cons_self))
theorem relink_ok {n : Nat} : ∀ (ps : List Nat) (cs : List Cell), (∀ p ∈ ps, p < n) → (∀ c ∈ cs, cellOk n c = true) → ∀ c ∈ relink cs ps, cellOk n c = true
  | [], cs, _, h => h
  | p :: ps, cs, hp, h => by
    rw [relink]
    refine relink_ok ps _ (fun q hq => hp q (List.mem_cons_of_mem _ hq)) fun c hc => ?_
    rcases List.mem_or_eq_of_mem_set hc with z | z
    · exact h c z
    · subst z
      show linkOk n ps.head? = true
      cases ps with
      | nil => rfl
      | cons q qs => exact decide_eq_true (hp q (List.mem_cons_of_mem _ List.mem_cons_self))
theorem mendF_fine {f : File} (h : Fine f) : Fine (mendF f) := by
  have hl := mendF_len f
  unfold mendF at hl ⊢
  split
  · exact h
  · rename_i hw
    rw [if_neg hw] at hl
    refine ⟨?_, ?_, ?_⟩
    · show linkOk (relink f.cells (freeL f.cells)).length (freeL f.cells).head? = true
      rw [relink_len]
      exact freeL_head
    · show (relink f.cells (freeL f.cells)).length ≤ 12
      rw [relink_len]
      exact h.few
    · show ∀ c ∈ relink f.cells (freeL f.cells), cellOk (relink f.cells (freeL f.cells)).length c = true
      rw [relink_len]
      exact relink_ok _ _ (fun p hp => freeL_lt hp) h.cells
/-! the walk along the chain -/
/-- places told so far: each once, each free -/
def Told (cs : List Cell) (found : List Nat) : Prop := found.Nodup ∧ ∀ p ∈ found, p < cs.length
theorem Told.len {cs : List Cell} {found : List Nat} (h : Told cs found) : found.length ≤ cs.length := by
  have h2 := List.Nodup.length_le_of_subset h.1 (l₂ := List.range cs.length) fun p hp => List.mem_range.mpr (h.2 p hp)
  rwa [List.length_range] at h2
/-! ### shapes -/
def Shp (n : Nat) (d : PyData) : Prop := d.canLay0 = true ∧ d.depth ≤ n
theorem Shp.shaped {n : Nat} {d : PyData} (h : Shp n d) (hn : n ≤ 64) : SeqAt.shaped d = true := by
  unfold SeqAt.shaped
  rw [h.1, decide_eq_true (Nat.le_trans h.2 hn)]
  rfl
theorem Shp.mono {n m : Nat} {d : PyData} (h : Shp n d) (hn : n ≤ m) : Shp m d := ⟨h.1, Nat.le_trans h.2 hn⟩
theorem canAll : ∀ {ds : List PyData}, (∀ d ∈ ds, d.canLay0 = true) → PyData.canLayAll0 ds = true
  | [], _ => by rw [PyData.canLayAll0]
  | d :: ds, h => by
    rw [PyData.canLayAll0, h d List.mem_cons_self, canAll fun e he => h e (List.mem_cons_of_mem _ he)]
    rfl
theorem depAll {n : Nat} : ∀ {ds : List PyData}, (∀ d ∈ ds, d.depth ≤ n) → PyData.depthAll ds ≤ n
  | [], _ => by rw [PyData.depthAll]; exact Nat.zero_le _
  | d :: ds, h => by
    rw [PyData.depthAll]
    exact Nat.max_le.mpr ⟨h d List.mem_cons_self, depAll fun e he => h e (List.mem_cons_of_mem _ he)⟩
theorem Shp.tuple {n : Nat} {ds : List PyData} (h : ∀ d ∈ ds, Shp n d) : Shp (n + 1) (.tuple ds) := by
  refine ⟨?_, ?_⟩
  · rw [PyData.canLay0]
    exact canAll fun d hd => (h d hd).1
  · rw [PyData.depth]
    exact Nat.succ_le_succ (depAll fun d hd => (h d hd).2)
theorem Shp.list {n : Nat} {ds : List PyData} (h : ∀ d ∈ ds, Shp n d) : Shp (n + 1) (.list ds) := by
  refine ⟨?_, ?_⟩
  · rw [PyData.canLay0]
    exact canAll fun d hd => (h d hd).1
  · rw [PyData.depth]
    exact Nat.succ_le_succ (depAll fun d hd => (h d hd).2)
theorem Shp.none {n : Nat} : Shp n .none := ⟨by rw [PyData.canLay0], by rw [PyData.depth]; exact Nat.zero_le _⟩
theorem Shp.int {n : Nat} {i : Int} : Shp n (.int i) := ⟨by rw [PyData.canLay0], by rw [PyData.depth]; exact Nat.zero_le _⟩
theorem Shp.bool {n : Nat} {i : Bool} : Shp n (.bool i) := ⟨by rw [PyData.canLay0], by rw [PyData.depth]; exact Nat.zero_le _⟩
theorem Shp.str {n : Nat} {x : Str} (h : PyData.strOk x = true) : Shp n (.str x) := ⟨by rw [PyData.canLay0]; exact h, by rw [PyData.depth]; exact Nat.zero_le _⟩
theorem Shp.tup2 {n : Nat} {a b : PyData} (ha : Shp n a) (hb : Shp n b) : Shp (n + 1) (.tuple [a, b]) := .tuple fun d hd => by
  rcases List.mem_cons.mp hd with e | e
  · rw [e]; exact ha
  · rw [List.mem_singleton.mp e]; exact hb
theorem shp_dL {n : Nat} {l : Lk} : Shp n (dL l) := by
  cases l with
  | none => exact .none
  | some i => exact .int
theorem shp_dC (c : Cell) : Shp 1 (dC c) := by
  cases c with
  | row n => exact .tup2 (.str (by decide +kernel)) .int
  | free l => exact .tup2 (.str (by decide +kernel)) shp_dL
theorem shp_cells (cs : List Cell) : Shp 2 (.tuple (cs.map dC)) := .tuple fun d hd => by
  obtain ⟨c, _, rfl⟩ := List.mem_map.mp hd
  exact shp_dC c
theorem shp_dF (f : File) : Shp 3 (dF f) := .tup2 (shp_dL.mono (Nat.zero_le _)) (shp_cells _)
theorem shp_ints (l : List Nat) : Shp 1 (dNats l) := .list fun d hd => by
  obtain ⟨c, _, rfl⟩ := List.mem_map.mp hd
  exact .int
theorem shp_dWh (w : What) : Shp 1 (dWh w) := by
  cases w with
  | link l => exact shp_dL
  | cell c => exact shp_dC c
theorem shp_dW (w : Write) : Shp 2 (dW w) := .tup2 (shp_dL.mono (Nat.zero_le _)) (shp_dWh _)
theorem h_str {x : Str} (h : PyData.strOk x = true) : SeqAt.shaped (.str x) = true := (Shp.str (n := 0) h).shaped (by decide)
theorem h_row : SeqAt.shaped (.str sRow) = true := h_str (by decide +kernel)
theorem h_free : SeqAt.shaped (.str sFree) = true := h_str (by decide +kernel)
theorem h_dL {l : Lk} : SeqAt.shaped (dL l) = true := (shp_dL (n := 0)).shaped (by decide)
theorem h_word (c : Cell) : SeqAt.shaped (.str (wordOf c)) = true := by cases c <;> first | exact h_row | exact h_free
theorem w_rr : (sRow == sRow) = true := by decide +kernel
theorem w_fr : (sFree == sRow) = false := by decide +kernel
theorem w_rf : (sRow == sFree) = false := by decide +kernel
theorem w_ff : (sFree == sFree) = true := by decide +kernel
theorem w_row (c : Cell) : (wordOf c == sRow) = isRow c := by
  cases c with
  | row n => exact w_rr
  | free l => exact w_fr
theorem w_free (c : Cell) : (wordOf c == sFree) = !isRow c := by
  cases c with
  | row n => exact w_rf
  | free l => exact w_ff
/-! ### items -/
theorem atC {cs : List Cell} {i : Nat} {c : Cell} (h : cs[i]? = some c) : atI (cs.map dC) ((i : Nat) : Int) = some (dC c) := atI_nat (by rw [List.getElem?_map, h]; rfl)
theorem atN {l : List Nat} {i : Nat} {c : Nat} (h : l[i]? = some c) : atI (l.map dNat) ((i : Nat) : Int) = some (dNat c) := atI_nat (by rw [List.getElem?_map, h]; rfl)
theorem Fine.at {f : File} (h : Fine f) {i : Nat} (hi : i < f.cells.length) : ∃ c, f.cells[i]? = some c ∧ cellOk f.cells.length c = true :=
  ⟨f.cells[i], List.getElem?_eq_getElem hi, h.cells _ (List.getElem_mem hi)⟩
theorem lt_cast {i n : Nat} : decide ((i : Int) < (n : Int)) = decide (i < n) := by
  rw [Bool.eq_iff_iff, decide_eq_true_iff, decide_eq_true_iff]
  omega
theorem le_cast {i n : Nat} : decide ((i : Int) ≤ (n : Int)) = decide (i ≤ n) := by
  rw [Bool.eq_iff_iff, decide_eq_true_iff, decide_eq_true_iff]
  omega
theorem nn {i : Nat} : decide ((0 : Int) ≤ (i : Int)) = true := decide_eq_true (by omega)
theorem eq_cast {i j : Nat} : ((i : Int) == (j : Int)) = decide (i = j) := by
  rw [Bool.eq_iff_iff, beq_iff_eq, decide_eq_true_iff]
  omega
theorem contains_dNat {l : List Nat} {p : Nat} : ((l.map dNat).any fun z => PyData.eqv z (.int (p : Int))) = l.contains p := by
  induction l with
  | nil => rfl
  | cons a r ih =>
    rw [List.map_cons, List.any_cons, ih, List.contains_cons]
    congr 1
    show PyData.eqv (.int (a : Int)) (.int (p : Int)) = _
    rw [PyData.eqv, eq_cast, Bool.eq_iff_iff, decide_eq_true_iff, beq_iff_eq]
    exact eq_comm
theorem ixN_of {n j : Nat} (h : j < n) : ixN n ((j : Nat) : Int) = some j := by
  unfold ixN
  rw [if_pos (by omega), if_pos (by omega), Int.toNat_natCast]
theorem v_nil {α : Type} {g : α → PyData} {l : List α} : PyData.eqv (.list (l.map g)) (.list []) = l.isEmpty := by
  cases l with
  | nil => rfl
  | cons a r => rfl
theorem h_nil : SeqAt.shaped (.list []) = true := rfl
theorem cast1 {i : Nat} : ((i : Int) + 1) = ((i + 1 : Nat) : Int) := by omega
theorem v_dL {a b : Lk} : PyData.eqv (dL a) (dL b) = decide (a = b) := by
  cases a <;> cases b
  · rfl
  · rfl
  · rfl
  · rename_i x y
    show PyData.eqv (.int (x : Int)) (.int (y : Int)) = _
    rw [PyData.eqv, eq_cast, Bool.eq_iff_iff, decide_eq_true_iff, decide_eq_true_iff]
    exact ⟨fun e => by rw [e], fun e => Option.some.inj e⟩
theorem v_dC {a b : Cell} : PyData.eqv (dC a) (dC b) = decide (a = b) := by
  cases a <;> cases b
  · rename_i x y
    show PyData.eqv (.tuple [.str sRow, .int (x : Int)]) (.tuple [.str sRow, .int (y : Int)]) = _
    simp only [PyData.eqv, PyData.eqvAll, w_rr, eq_cast, Bool.true_and, Bool.and_true]
    rw [Bool.eq_iff_iff, decide_eq_true_iff, decide_eq_true_iff]
    exact ⟨fun e => by rw [e], fun e => by cases e; rfl⟩
  · show PyData.eqv (.tuple [.str sRow, _]) (.tuple [.str sFree, _]) = _
    simp only [PyData.eqv, PyData.eqvAll, w_rf, Bool.false_and]
    exact (decide_eq_false (fun z => by cases z)).symm
  · show PyData.eqv (.tuple [.str sFree, _]) (.tuple [.str sRow, _]) = _
    simp only [PyData.eqv, PyData.eqvAll, w_fr, Bool.false_and]
    exact (decide_eq_false (fun z => by cases z)).symm
  · rename_i x y
    show PyData.eqv (.tuple [.str sFree, dL x]) (.tuple [.str sFree, dL y]) = _
    simp only [PyData.eqv, PyData.eqvAll, w_ff, v_dL, Bool.true_and, Bool.and_true]
    rw [Bool.eq_iff_iff, decide_eq_true_iff, decide_eq_true_iff]
    exact ⟨fun e => by rw [e], fun e => by cases e; rfl⟩
theorem v_mapD {α : Type} [DecidableEq α] {g : α → PyData} (h : ∀ a b, PyData.eqv (g a) (g b) = decide (a = b)) : ∀ {l m : List α}, PyData.eqvAll (l.map g) (m.map g) = decide (l = m)
  | [], [] => rfl
  | [], b :: m => by
    rw [decide_eq_false (fun z => by cases z)]
    rfl
  | a :: l, [] => by
    rw [decide_eq_false (fun z => by cases z)]
    rfl
  | a :: l, b :: m => by
    rw [List.map_cons, List.map_cons, PyData.eqvAll, h, v_mapD h, Bool.eq_iff_iff, Bool.and_eq_true, decide_eq_true_iff, decide_eq_true_iff, decide_eq_true_iff]
    exact ⟨fun ⟨x, y⟩ => by rw [x, y], fun z => by cases z; exact ⟨rfl, rfl⟩⟩
theorem v_dF {a b : File} : PyData.eqv (dF a) (dF b) = decide (a = b) := by
  unfold dF
  rw [PyData.eqv, PyData.eqvAll, PyData.eqvAll, PyData.eqvAll, v_dL, PyData.eqv, v_mapD (fun x y => v_dC), Bool.and_true, Bool.eq_iff_iff, Bool.and_eq_true, decide_eq_true_iff, decide_eq_true_iff, decide_eq_true_iff]
  cases a
  cases b
  exact ⟨fun ⟨x, y⟩ => by simp only at x y; rw [x, y], fun z => by cases z; exact ⟨rfl, rfl⟩⟩
theorem h_dC (c : Cell) : SeqAt.shaped (dC c) = true := (shp_dC c).shaped (by decide)
theorem h_dF (f : File) : SeqAt.shaped (dF f) = true := (shp_dF f).shaped (by decide)
theorem diffs_succ {a b : List Cell} {i : Nat} {c d : Cell} (ha : a[i]? = some c) (hb : b[i]? = some d) : diffs a b (i + 1) = diffs a b i ++ if c = d then [] else [(some i, .cell c)] := by
  unfold diffs
  rw [List.range_succ, List.filter_append, List.map_append]
  congr 1
  rw [List.filter_cons, ha, hb]
  by_cases e : c = d
  · subst e
    rw [if_pos rfl, if_neg (by simp)]
    rfl
  · rw [if_neg e, if_pos (by simpa using e)]
    have hi : i < a.length := (List.getElem?_eq_some_iff.mp ha).1
    show [(some i, What.cell (a.getD i (.row 0)))] = _
    rw [List.getD_eq_getElem?_getD, ha]
    rfl
theorem diffs_len {a b : List Cell} {n : Nat} : (diffs a b n).length ≤ n := by
  unfold diffs
  rw [List.length_map]
  have := List.length_filter_le (fun i => decide (a[i]? ≠ b[i]?)) (List.range n)
  rw [List.length_range] at this
  exact this
/-! ## Deeds -/
abbrev Rule := Bool × Bool
abbrev sHead : Str := Str.ofString "head"
abbrev sSlot : Str := Str.ofString "slot"
def dWd : Bool → PyData
  | true => .str sHead
  | false => .str sSlot
def dRule (r : Rule) : PyData := .tuple [dWd r.1, dWd r.2]
abbrev sTake : Str := Str.ofString "take"
abbrev sGive : Str := Str.ofString "give"
abbrev sMend : Str := Str.ofString "mend"
inductive Deed where
  | take (n : Int) | give (p : Int) | mend | other (w : Str) (n : Int)
  deriving DecidableEq
def dDeed : Deed → PyData
  | .take n => .tuple [.str sTake, .int n]
  | .give n => .tuple [.str sGive, .int n]
  | .mend => .tuple [.str sMend]
  | .other w n => .tuple [.str w, .int n]
def deedOk : Deed → Bool
  | .other w _ => PyData.strOk w && !(w == sTake) && !(w == sGive) && !(w == sMend)
  | _ => true
def inOrder (b : Bool) (h s : Write) : List Write := if b = true then [h, s] else [s, h]
def freeLk (cs : List Cell) (h : Nat) : Lk := match cs[h]? with
  | some (.free l) => l
  | _ => none
def takeW (f : File) (r : Rule) (room n : Nat) : Option (List Write) := match f.head with
  | none => if f.cells.length < room then some [(some f.cells.length, .cell (.row n))] else none
  | some h => some (inOrder r.1 (none, .link (freeLk f.cells h)) (some h, .cell (.row n)))
def writesF (f : File) (r : Rule) (room : Nat) : Deed → Option (List Write)
  | .mend => some (mendsF f)
  | .take n => if 0 ≤ n ∧ n ≤ 999 then takeW f r room n.toNat else none
  | .give p => if 0 ≤ p ∧ p < (f.cells.length : Int) ∧ rowAt f.cells p.toNat = true then some (inOrder r.2 (none, .link (some p.toNat)) (some p.toNat, .cell (.free f.head))) else none
  | .other _ _ => none
def optW : Option (List Write) → Res
  | none => .dat .none
  | some ws => .lst (ws.map dW)
def put (f : File) : Write → File
  | (none, .link l) => ⟨l, f.cells⟩
  | (some p, .cell c) => if p = f.cells.length then ⟨f.head, f.cells ++ [c]⟩ else ⟨f.head, f.cells.set p c⟩
  | _ => f
theorem put_cell {f : File} {p : Nat} {c : Cell} : put f (some p, .cell c) = if p = f.cells.length then ⟨f.head, f.cells ++ [c]⟩ else ⟨f.head, f.cells.set p c⟩ := rfl
theorem put_link {f : File} {l : Lk} : put f (none, .link l) = ⟨l, f.cells⟩ := rfl
/-- a write that can be done upon n cells -/
def wOk (n : Nat) : Write → Bool
  | (none, .link l) => linkOk n l
  | (some p, .cell c) => decide (p < n) && cellOk n c
  | _ => false
/-- .. or a row behind the last one -/
def wEnd (n : Nat) : Write → Bool
  | (some p, .cell (.row k)) => decide (p = n) && decide (n < 12) && decide (k ≤ 999)
  | _ => false
theorem linkOk_mono {n m : Nat} (h : n ≤ m) {l : Lk} (k : linkOk n l = true) : linkOk m l = true := by
  cases l with
  | none => rfl
  | some i => exact decide_eq_true (Nat.lt_of_lt_of_le (of_decide_eq_true k) h)
theorem cellOk_mono {n m : Nat} (h : n ≤ m) {c : Cell} (k : cellOk n c = true) : cellOk m c = true := by
  cases c with
  | row n => exact k
  | free l => exact linkOk_mono h k
theorem put_fine {f : File} {w : Write} (h : Fine f) (hw : wOk f.cells.length w = true) : Fine (put f w) ∧ (put f w).cells.length = f.cells.length := by
  obtain ⟨p, q⟩ := w
  cases p with
  | none =>
    cases q with
    | link l => exact ⟨⟨hw, h.few, h.cells⟩, rfl⟩
    | cell c => cases hw
  | some p =>
    cases q with
    | link l => cases hw
    | cell c =>
      have hw : (decide (p < f.cells.length) && cellOk f.cells.length c) = true := hw
      rw [Bool.and_eq_true, decide_eq_true_iff] at hw
      have e : put f (some p, .cell c) = ⟨f.head, f.cells.set p c⟩ := by
        rw [put_cell, if_neg (by omega)]
      rw [e]
      refine ⟨⟨?_, ?_, ?_⟩, ?_⟩
      · show linkOk (f.cells.set p c).length f.head = true
        rw [List.length_set]
        exact h.head
      · show (f.cells.set p c).length ≤ 12
        rw [List.length_set]
        exact h.few
      · show ∀ d ∈ f.cells.set p c, cellOk (f.cells.set p c).length d = true
        rw [List.length_set]
        intro d hd
        rcases List.mem_or_eq_of_mem_set hd with z | z
        · exact h.cells d z
        · rw [z]; exact hw.2
      · show (f.cells.set p c).length = _
        rw [List.length_set]
theorem putEnd_fine {f : File} {w : Write} (h : Fine f) (hw : wEnd f.cells.length w = true) : Fine (put f w) ∧ (put f w).cells.length = f.cells.length + 1 := by
  obtain ⟨p, q⟩ := w
  cases p with
  | none => cases q <;> cases hw
  | some p =>
    cases q with
    | link l => cases hw
    | cell c =>
      cases c with
      | free l => cases hw
      | row k =>
        have hw : (decide (p = f.cells.length) && decide (f.cells.length < 12) && decide (k ≤ 999)) = true := hw
        rw [Bool.and_eq_true, Bool.and_eq_true, decide_eq_true_iff, decide_eq_true_iff, decide_eq_true_iff] at hw
        obtain ⟨⟨e1, e2⟩, e3⟩ := hw
        have e : put f (some p, .cell (.row k)) = ⟨f.head, f.cells ++ [.row k]⟩ := by
          rw [put_cell, if_pos e1]
        rw [e]
        have el : (f.cells ++ [Cell.row k]).length = f.cells.length + 1 := by rw [List.length_append]; rfl
        refine ⟨⟨?_, ?_, ?_⟩, el⟩
        · show linkOk (f.cells ++ [Cell.row k]).length f.head = true
          rw [el]
          exact linkOk_mono (Nat.le_succ _) h.head
        · show (f.cells ++ [Cell.row k]).length ≤ 12
          omega
        · show ∀ d ∈ f.cells ++ [Cell.row k], cellOk (f.cells ++ [Cell.row k]).length d = true
          rw [el]
          intro d hd
          rcases List.mem_append.mp hd with z | z
          · exact cellOk_mono (Nat.le_succ _) (h.cells d z)
          · rw [List.mem_singleton.mp z]
            exact decide_eq_true e3
/-- the writes of a deed upon n cells -/
def wsOk (n : Nat) (ws : List Write) : Prop := (∀ w ∈ ws, wOk n w = true) ∨ ∃ w, ws = [w] ∧ wEnd n w = true
theorem diffs_ok {a b : List Cell} {n m : Nat} (hl : a.length ≤ m) (h : ∀ c ∈ a, cellOk m c = true) (hn : n ≤ a.length) : ∀ w ∈ diffs a b n, wOk m w = true := fun w hw => by
  unfold diffs at hw
  obtain ⟨i, hi, rfl⟩ := List.mem_map.mp hw
  have hin : i < n := List.mem_range.mp (List.mem_filter.mp hi).1
  show (decide (i < m) && cellOk m (a.getD i (.row 0))) = true
  rw [Bool.and_eq_true, decide_eq_true_iff]
  refine ⟨by omega, ?_⟩
  rw [List.getD_eq_getElem?_getD, List.getElem?_eq_getElem (by omega)]
  exact h _ (List.getElem_mem _)
theorem mendsF_ok {f : File} (h : Fine f) : ∀ w ∈ mendsF f, wOk f.cells.length w = true := by
  unfold mendsF
  split
  · intro w hw
    cases hw
  · intro w hw
    have hf2 := mendF_fine h
    have hl := mendF_len f
    rcases List.mem_append.mp hw with z | z
    · rcases List.mem_append.mp z with y | y
      · rw [List.mem_singleton.mp y]
        rfl
      · exact diffs_ok (by omega) (by rw [← hl]; exact hf2.cells) (Nat.le_refl _) w y
    · rw [List.mem_singleton.mp z]
      show linkOk f.cells.length (mendF f).head = true
      rw [← hl]
      exact hf2.head
theorem freeLk_ok {f : File} (h : Fine f) (p : Nat) : linkOk f.cells.length (freeLk f.cells p) = true := by
  unfold freeLk
  cases e : f.cells[p]? with
  | none => rfl
  | some c =>
    cases c with
    | row n => rfl
    | free l => exact h.cells _ (List.mem_of_getElem? e)
theorem inOrder_mem {b : Bool} {h s w : Write} (hw : w ∈ inOrder b h s) : w = h ∨ w = s := by
  unfold inOrder at hw
  cases b with
  | true =>
    rw [if_pos rfl] at hw
    rcases List.mem_cons.mp hw with z | z
    · exact .inl z
    · exact .inr (List.mem_singleton.mp z)
  | false =>
    rw [if_neg (by decide)] at hw
    rcases List.mem_cons.mp hw with z | z
    · exact .inr z
    · exact .inl (List.mem_singleton.mp z)
theorem writesF_ok {f : File} {r : Rule} {room : Nat} {d : Deed} {ws : List Write} (h : Fine f) (hr : room ≤ 12) (e : writesF f r room d = some ws) : wsOk f.cells.length ws := by
  cases d with
  | mend =>
    cases e
    exact .inl (mendsF_ok h)
  | other w n => cases e
  | give p =>
    have e : (if 0 ≤ p ∧ p < (f.cells.length : Int) ∧ rowAt f.cells p.toNat = true then some (inOrder r.2 (none, .link (some p.toNat)) (some p.toNat, .cell (.free f.head))) else none) = some ws := e
    split at e
    · rename_i hp
      cases e
      refine .inl fun w hw => ?_
      rcases inOrder_mem hw with z | z
      · rw [z]
        exact decide_eq_true (by omega)
      · rw [z]
        show (decide (p.toNat < f.cells.length) && linkOk f.cells.length f.head) = true
        rw [h.head, Bool.and_true]
        exact decide_eq_true (by omega)
    · cases e
  | take n =>
    have e : (if 0 ≤ n ∧ n ≤ 999 then takeW f r room n.toNat else none) = some ws := e
    split at e
    · rename_i hn
      unfold takeW at e
      cases hh : f.head with
      | none =>
        rw [hh] at e
        have e : (if f.cells.length < room then some [((some f.cells.length, .cell (.row n.toNat)) : Write)] else none) = some ws := e
        split at e
        · cases e
          refine .inr ⟨_, rfl, ?_⟩
          show (decide (f.cells.length = f.cells.length) && decide (f.cells.length < 12) && decide (n.toNat ≤ 999)) = true
          rw [decide_eq_true rfl, decide_eq_true (by omega), decide_eq_true (by omega)]
          rfl
        · cases e
      | some p =>
        rw [hh] at e
        have e : some (inOrder r.1 (none, .link (freeLk f.cells p)) (some p, .cell (.row n.toNat))) = some ws := e
        cases e
        refine .inl fun w hw => ?_
        rcases inOrder_mem hw with z | z
        · rw [z]
          exact freeLk_ok h p
        · rw [z]
          have hd := h.head
          rw [hh] at hd
          show (decide (p < f.cells.length) && decide (n.toNat ≤ 999)) = true
          rw [show decide (p < f.cells.length) = true from hd, decide_eq_true (by omega)]
          rfl
    · cases e
theorem foldPut_fine : ∀ {ws : List Write} {f : File}, Fine f → (∀ w ∈ ws, wOk f.cells.length w = true) → Fine (ws.foldl put f) ∧ (ws.foldl put f).cells.length = f.cells.length
  | [], f, h, _ => ⟨h, rfl⟩
  | w :: ws, f, h, hw => by
    obtain ⟨h1, h2⟩ := put_fine h (hw w List.mem_cons_self)
    obtain ⟨h3, h4⟩ := foldPut_fine (ws := ws) h1 fun v hv => by rw [h2]; exact hw v (List.mem_cons_of_mem _ hv)
    exact ⟨h3, by rw [List.foldl_cons, h4, h2]⟩
abbrev Many := Option Int
def dMany : Many → PyData
  | none => .none
  | some i => .int i
abbrev Step := Deed × Many
def dStep (s : Step) : PyData := .tuple [dDeed s.1, dMany s.2]
def isOther : Deed → Bool
  | .other _ _ => true
  | _ => false
def doneF (f : File) (ws : List Write) : Many → Option File
  | none => some (ws.foldl put f)
  | some k => if 0 ≤ k ∧ k ≤ (ws.length : Int) then some ((ws.take k.toNat).foldl put f) else none
def steppedF (f : File) (r : Rule) (room : Nat) (s : Step) : Option File := match writesF f r room s.1 with
  | none => none
  | some ws => doneF f ws s.2
def playedF (f : File) (r : Rule) (room : Nat) : List Step → Option (List File)
  | [] => some []
  | s :: ss => match steppedF f r room s with
    | none => none
    | some g => (playedF g r room ss).map (g :: ·)
theorem wsOk_fold {f : File} {ws : List Write} (h : Fine f) (hw : wsOk f.cells.length ws) : Fine (ws.foldl put f) := by
  rcases hw with hw | ⟨w, rfl, hw⟩
  · exact (foldPut_fine h hw).1
  · exact (putEnd_fine h hw).1
theorem wsOk_take {n k : Nat} {ws : List Write} (hw : wsOk n ws) : wsOk n (ws.take k) := by
  rcases hw with hw | ⟨w, rfl, hw⟩
  · exact .inl fun w h => hw w (List.mem_of_mem_take h)
  · cases k with
    | zero => exact .inl fun w h => by simp at h
    | succ k => exact .inr ⟨w, by simp, hw⟩
theorem doneF_fine {f g : File} {ws : List Write} {m : Many} (h : Fine f) (hw : wsOk f.cells.length ws) (e : doneF f ws m = some g) : Fine g := by
  cases m with
  | none =>
    cases e
    exact wsOk_fold h hw
  | some k =>
    have e : (if 0 ≤ k ∧ k ≤ (ws.length : Int) then some ((ws.take k.toNat).foldl put f) else none) = some g := e
    split at e
    · cases e
      exact wsOk_fold h (wsOk_take hw)
    · cases e
theorem steppedF_fine {f g : File} {r : Rule} {room : Nat} {s : Step} (h : Fine f) (hr : room ≤ 12) (e : steppedF f r room s = some g) : Fine g := by
  unfold steppedF at e
  cases hw : writesF f r room s.1 with
  | none => rw [hw] at e; cases e
  | some ws =>
    rw [hw] at e
    exact doneF_fine h (writesF_ok h hr hw) e
theorem hs_row : SeqAt.shaped (.str (Str.ofString "row")) = true := h_str (by decide +kernel)
theorem ws_row : (Str.ofString "row" == Str.ofString "row") = true := by decide +kernel
theorem hs_free : SeqAt.shaped (.str (Str.ofString "free")) = true := h_str (by decide +kernel)
theorem ws_free : (Str.ofString "free" == Str.ofString "free") = true := by decide +kernel
theorem hs_head : SeqAt.shaped (.str (Str.ofString "head")) = true := h_str (by decide +kernel)
theorem ws_head : (Str.ofString "head" == Str.ofString "head") = true := by decide +kernel
theorem hs_slot : SeqAt.shaped (.str (Str.ofString "slot")) = true := h_str (by decide +kernel)
theorem ws_slot : (Str.ofString "slot" == Str.ofString "slot") = true := by decide +kernel
theorem hs_take : SeqAt.shaped (.str (Str.ofString "take")) = true := h_str (by decide +kernel)
theorem ws_take : (Str.ofString "take" == Str.ofString "take") = true := by decide +kernel
theorem hs_give : SeqAt.shaped (.str (Str.ofString "give")) = true := h_str (by decide +kernel)
theorem ws_give : (Str.ofString "give" == Str.ofString "give") = true := by decide +kernel
theorem hs_mend : SeqAt.shaped (.str (Str.ofString "mend")) = true := h_str (by decide +kernel)
theorem ws_mend : (Str.ofString "mend" == Str.ofString "mend") = true := by decide +kernel
theorem hs_whole : SeqAt.shaped (.str (Str.ofString "whole")) = true := h_str (by decide +kernel)
theorem ws_whole : (Str.ofString "whole" == Str.ofString "whole") = true := by decide +kernel
theorem hs_broken : SeqAt.shaped (.str (Str.ofString "broken")) = true := h_str (by decide +kernel)
theorem ws_broken : (Str.ofString "broken" == Str.ofString "broken") = true := by decide +kernel
theorem hs_loose : SeqAt.shaped (.str (Str.ofString "loose")) = true := h_str (by decide +kernel)
theorem ws_loose : (Str.ofString "loose" == Str.ofString "loose") = true := by decide +kernel
theorem hs_end : SeqAt.shaped (.str (Str.ofString "end")) = true := h_str (by decide +kernel)
theorem ws_end : (Str.ofString "end" == Str.ofString "end") = true := by decide +kernel
theorem hs_ring : SeqAt.shaped (.str (Str.ofString "ring")) = true := h_str (by decide +kernel)
theorem ws_ring : (Str.ofString "ring" == Str.ofString "ring") = true := by decide +kernel
theorem we_take_give : (Str.ofString "take" == Str.ofString "give") = false := by decide +kernel
theorem we_give_take : (Str.ofString "give" == Str.ofString "take") = false := by decide +kernel
theorem we_take_mend : (Str.ofString "take" == Str.ofString "mend") = false := by decide +kernel
theorem we_mend_take : (Str.ofString "mend" == Str.ofString "take") = false := by decide +kernel
theorem we_give_mend : (Str.ofString "give" == Str.ofString "mend") = false := by decide +kernel
theorem we_mend_give : (Str.ofString "mend" == Str.ofString "give") = false := by decide +kernel
theorem we_head_slot : (Str.ofString "head" == Str.ofString "slot") = false := by decide +kernel
theorem we_slot_head : (Str.ofString "slot" == Str.ofString "head") = false := by decide +kernel
theorem we_whole_broken : (Str.ofString "whole" == Str.ofString "broken") = false := by decide +kernel
theorem we_broken_whole : (Str.ofString "broken" == Str.ofString "whole") = false := by decide +kernel
theorem we_whole_loose : (Str.ofString "whole" == Str.ofString "loose") = false := by decide +kernel
theorem we_loose_whole : (Str.ofString "loose" == Str.ofString "whole") = false := by decide +kernel
theorem h_dWd {b : Bool} : SeqAt.shaped (dWd b) = true := by cases b; exact hs_slot; exact hs_head
theorem v_dWdH {b : Bool} : PyData.eqv (dWd b) (.str (Str.ofString "head")) = b := by
  cases b
  · show PyData.eqv (.str (Str.ofString "slot")) _ = _
    rw [v_str, we_slot_head]
  · show PyData.eqv (.str (Str.ofString "head")) _ = _
    rw [v_str, ws_head]
theorem sc_dWd {b : Bool} : isSc (dWd b) = true := by cases b <;> rfl
theorem in_firsts {b : Bool} : ([PyData.str (Str.ofString "head"), .str (Str.ofString "slot")].any fun z => PyData.eqv z (dWd b)) = true := by
  cases b
  · show (PyData.eqv (.str (Str.ofString "head")) (.str (Str.ofString "slot")) || (PyData.eqv (.str (Str.ofString "slot")) (.str (Str.ofString "slot")) || false)) = true
    rw [v_str, v_str, ws_slot]
    simp
  · show (PyData.eqv (.str (Str.ofString "head")) (.str (Str.ofString "head")) || _) = true
    rw [v_str, ws_head]
    rfl
theorem set_split {α : Type} : ∀ {l : List α} {p : Nat} {c : α}, p < l.length → l.take p ++ [c] ++ l.drop (p + 1) = l.set p c
  | [], p, c, h => by simp at h
  | a :: l, 0, c, h => rfl
  | a :: l, p + 1, c, h => by
    have ih := set_split (l := l) (p := p) (c := c) (by simpa using h)
    show a :: (l.take p ++ [c] ++ l.drop (p + 1)) = a :: l.set p c
    rw [ih]
theorem cut_to {α : Type} {l : List α} {p : Nat} (h : p ≤ l.length) : cutD l none (some (p : Int)) = l.take p := by
  unfold cutD
  rw [HT.sIx_nat, HT.sIx_none, Nat.min_eq_left h]
  simp
theorem cut_from {α : Type} {l : List α} {p : Nat} (h : p ≤ l.length) : cutD l (some (p : Int)) none = l.drop p := by
  unfold cutD
  rw [HT.sIx_nat, HT.sIx_none, Nat.min_eq_left h]
  exact List.take_of_length_le (by rw [List.length_drop]; exact Nat.le_refl _)
end SF

/-! ## The law's own def: its row is made first -/
namespace SF
open PySem PySem.Spec PyProof.Rows L2
def spL (K : PySem.W.Frag) : Sp := fun vs H Q _ => ∃ (a : Addr) (ns : List Int), vs = [.ref a] ∧ Only H ∧ SqL K H a (ns.map V.int) ∧ ∀ H', Q (.bl true) H'
section
variable {P : Program} {w : World} {K : PySem.W.Frag} {mg : Str → Option Value} {base : Heap}
theorem law_slot {n : Nat} {i : Nat} {u : Ent} (h : (Ent.no :: .row :: List.replicate n .no)[i]? = some u) : u = .no ∨ (i = 1 ∧ u = .row) := by
  match i with
  | 0 => cases h; exact .inl rfl
  | 1 => cases h; exact .inr ⟨rfl, rfl⟩
  | i + 2 =>
    have h : (List.replicate n Ent.no)[i]? = some u := by simpa using h
    exact .inl (List.eq_of_mem_replicate (List.mem_of_getElem? h))
theorem sat_law {n : Nat} {H : Hp} {a p : Addr} {ns : List Int} (ho : Only H) (hS : SqL K H a (ns.map V.int)) (hp : H p = none) : Sat K ⟨none, H, H⟩ (.no :: .row :: List.replicate n .no) (some (.ref a) :: some (.ref p) :: List.replicate n none) H (upd H p (.lst [.ref a, .int 0, .int 0])) where
  ex1 := .refl _
  ex2 := .new hp
  keep := fun b o h _ _ => Ex.new hp b o h
  tbl := .new hp
  there := fun b h => by
    rw [upd_ne (show b ≠ p from fun e => h (e ▸ hp))]
    exact h
  avoid := fun _ h _ => h
  mrow := fun _ h => by cases h
  mhe := fun _ h => by cases h
  len := by simp
  slot := fun i u o h1 h2 => by
    rcases law_slot h1 with rfl | ⟨rfl, rfl⟩
    · trivial
    · cases h2
      exact ⟨p, rfl, hp, a, ns, 0, 0, upd_same, ScrAt.of hS ho, Int.le_refl _, Int.le_refl _, by decide⟩
  own := fun i u l h1 hm h2 => by
    rcases law_slot h1 with rfl | ⟨rfl, rfl⟩
    · cases hm
    · cases h2
      exact .inl hp
  ne := fun i j u f l hne h1 h2 m1 m2 h3 => by
    rcases law_slot h1 with rfl | ⟨rfl, rfl⟩
    · cases m1
    · rcases law_slot h2 with rfl | ⟨rfl, rfl⟩
      · cases m2
      · exact absurd rfl hne
/-- THE RULE for the law -/
theorem okLaw {x qual : Str} {st : Stmt} {f : Addr} {fd : FuncData} {N : List Str} {k n : Nat} (F : Fun K x qual st f fd) (S : FnScope N ["_law_script"] (defScope st)) (hn : N.length = n + 2)
    (hbody : ∀ (cdv : Value) (A : Around) (outer : List Env) (s : Shared) (H : Hp) (E : XK), Room k (A.deeper (envOfC qual (defScope st) s.heap.objs.size f cdv)) →
      ∃ (st1 : Stmt) (rest : List Stmt) (wS : WS), defBody st = st1 :: rest ∧ PS (cxOf CX0 P w K mg base N qual (defScope st) f cdv A outer s H E).nox st1 (tAsg (tLst (tCons (tVar 0) (tCons (tC (.int 0)) (tCons (tC (.int 0)) tNil)))) (gName 1)) ∧
        PSsI (cxOf CX0 P w K mg base N qual (defScope st) f cdv A outer s H E).nox ⟨XR0, E⟩ rest wS ∧ wS (.no :: .row :: List.replicate n .no) (endP (fun r => r = .dat (.bool true)) (fun _ => False))) : FnOk P w K mg base CX0 (k + 1) f fd ["_law_script"] (spL K) :=
  F.ok S (fun vs H Q E ⟨a, ns, e, _⟩ => by rw [e]; rfl) fun cdv A outer s H vs Q E hr ⟨a, ns, e, ho, hS, q⟩ => by
    obtain ⟨st1, rest, wS, e1, h1, h2, hw⟩ := hbody cdv A outer s H E hr
    subst e
    rw [e1]
    refine ⟨_, pss_cons h1 h2, ?_⟩
    rw [start_len (n := n + 1) (by rw [hn]; show n + 2 = 1 + (n + 1); omega)]
    refine ⟨.ref a, rfl, (by show 3 ≤ sizeLine; decide), fun p hp => ?_⟩
    refine ⟨⟨none, H, H⟩, _, H, _, sat_law ho hS hp, hw, post_end (fun v r G' H' _ o e => ?_) fun _ _ _ _ _ _ _ h => h.elim⟩
    subst e
    have o : Im K G' (.bool true) v := o
    rw [im_bool] at o
    subst o
    exact q H'
end
end SF

/-! ## Chains, mending: plain laws -/
namespace SF
open PySem PySem.Spec PyProof.Rows L2
/-- from l the places ps in order, then the end -/
def Links (cs : List Cell) : Lk → List Nat → Prop
  | l, [] => l = none
  | l, p :: ps => l = some p ∧ ∃ m, cs[p]? = some (.free m) ∧ Links cs m ps
theorem Links.mono {cs cs' : List Cell} : ∀ {ps : List Nat} {l : Lk}, Links cs l ps → (∀ i ∈ ps, cs'[i]? = cs[i]?) → Links cs' l ps
  | [], l, h, _ => h
  | p :: ps, l, ⟨e, m, hm, h⟩, q => ⟨e, m, by rw [q p List.mem_cons_self]; exact hm, h.mono fun i hi => q i (List.mem_cons_of_mem _ hi)⟩
theorem Links.walk {cs : List Cell} : ∀ {ps : List Nat} {l : Lk} {k : Nat} {found : List Nat}, Links cs l ps → (found ++ ps).Nodup → ps.length ≤ k → SF.walk cs k found l = (found ++ ps, none)
  | [], l, k, found, h, _, _ => by
    cases h
    rw [List.append_nil]
    cases k <;> rfl
  | p :: ps, l, 0, found, h, _, hk => by simp at hk
  | p :: ps, l, k + 1, found, ⟨e, m, hm, h⟩, nd, hk => by
    subst e
    rw [SF.walk, hm]
    have hp : found.contains p = false := by
      rw [Bool.eq_false_iff]
      intro z
      rw [List.contains_iff_mem] at z
      rw [List.nodup_append] at nd
      exact nd.2.2 p z p List.mem_cons_self rfl
    show (if found.contains p = true then _ else _) = _
    rw [if_neg (by rw [hp]; decide), Links.walk h (by rw [List.append_assoc]; exact nd) (by simpa using hk), List.append_assoc]
    rfl
theorem nodup_le {n : Nat} {ps : List Nat} (nd : ps.Nodup) (h : ∀ p ∈ ps, p < n) : ps.length ≤ n := by
  have h2 := List.Nodup.length_le_of_subset nd (l₂ := List.range n) fun p hp => List.mem_range.mpr (h p hp)
  rwa [List.length_range] at h2
theorem Links.lt {cs : List Cell} : ∀ {ps : List Nat} {l : Lk}, Links cs l ps → ∀ p ∈ ps, p < cs.length
  | p :: ps, l, ⟨e, m, hm, h⟩, q, hq => by
    rcases List.mem_cons.mp hq with z | z
    · rw [z]
      exact (List.getElem?_eq_some_iff.mp hm).1
    · exact h.lt q z
theorem Links.gone {f : File} {ps : List Nat} (h : Links f.cells f.head ps) (nd : ps.Nodup) : gone f = (ps, none) := by
  unfold SF.gone
  have hl := nodup_le nd h.lt
  rw [Links.walk h (by rw [List.nil_append]; exact nd) (by omega)]
  rfl
/-- and the other way -/
theorem walk_links {cs : List Cell} : ∀ {k : Nat} {found : List Nat} {l : Lk}, found.Nodup → (walk cs k found l).2 = none → ∃ ps, Links cs l ps ∧ (found ++ ps).Nodup ∧ (walk cs k found l).1 = found ++ ps
  | 0, found, l, nd, h => by
    cases h
    exact ⟨[], rfl, by rw [List.append_nil]; exact nd, by rw [List.append_nil]; rfl⟩
  | k + 1, found, none, nd, h => ⟨[], rfl, by rw [List.append_nil]; exact nd, by rw [List.append_nil]; rfl⟩
  | k + 1, found, some p, nd, h => by
    rw [walk] at h ⊢
    cases hc : cs[p]? with
    | none => rw [hc] at h; cases h
    | some c =>
      rw [hc] at h
      cases c with
      | row n => cases h
      | free l =>
        have h : (if found.contains p = true then (found, some p) else walk cs k (found ++ [p]) l).2 = none := h
        show ∃ ps, _ ∧ _ ∧ (if found.contains p = true then (found, some p) else walk cs k (found ++ [p]) l).1 = _
        by_cases q : found.contains p = true
        · rw [if_pos q] at h
          cases h
        · rw [if_neg q] at h ⊢
          have nd2 : (found ++ [p]).Nodup := by
            rw [List.nodup_append]
            refine ⟨nd, by simp, fun a ha b hb e => ?_⟩
            rw [List.mem_singleton] at hb
            subst hb
            subst e
            exact q (List.contains_iff_mem.mpr ha)
          obtain ⟨ps, h1, h2, h3⟩ := walk_links nd2 h
          exact ⟨p :: ps, ⟨rfl, l, hc, h1⟩, by rw [List.append_assoc] at h2; exact h2, by rw [h3, List.append_assoc]; rfl⟩
theorem stop_links {f : File} (h : stop f = none) : Links f.cells f.head (chain f) ∧ (chain f).Nodup := by
  obtain ⟨ps, h1, h2, h3⟩ := walk_links (cs := f.cells) (k := f.cells.length + 1) (found := []) (l := f.head) List.nodup_nil h
  have e : chain f = ps := h3
  rw [e]
  exact ⟨h1, h2⟩
/-! ### relinking -/
theorem relink_out : ∀ {ps : List Nat} {cs : List Cell} {i : Nat}, i ∉ ps → (relink cs ps)[i]? = cs[i]?
  | [], cs, i, _ => rfl
  | p :: ps, cs, i, h => by
    rw [List.mem_cons, not_or] at h
    rw [relink, relink_out h.2, List.getElem?_set_ne (Ne.symm h.1)]
theorem relink_links : ∀ {ps : List Nat} {cs : List Cell}, ps.Nodup → (∀ p ∈ ps, p < cs.length) → Links (relink cs ps) ps.head? ps
  | [], cs, _, _ => rfl
  | p :: ps, cs, nd, h => by
    rw [List.nodup_cons] at nd
    refine ⟨rfl, ps.head?, ?_, ?_⟩
    · rw [relink, relink_out nd.1, List.getElem?_set_self (h p List.mem_cons_self)]
    · rw [relink]
      exact relink_links nd.2 fun q hq => by rw [List.length_set]; exact h q (List.mem_cons_of_mem _ hq)
theorem relink_congr : ∀ {ps : List Nat} {cs cs' : List Cell}, cs.length = cs'.length → (∀ i, i ∉ ps → cs[i]? = cs'[i]?) → relink cs ps = relink cs' ps
  | [], cs, cs', hl, h => List.ext_getElem? fun i => h i (by simp)
  | p :: ps, cs, cs', hl, h => by
    rw [relink, relink]
    refine relink_congr (by rw [List.length_set, List.length_set, hl]) fun i hi => ?_
    rw [List.getElem?_set, List.getElem?_set, hl]
    by_cases q : p = i
    · rw [if_pos q, if_pos q]
    · rw [if_neg q, if_neg q]
      exact h i fun z => by
        rcases List.mem_cons.mp z with y | y
        · exact q y.symm
        · exact hi y
theorem freeL_nodup {cs : List Cell} : (freeL cs).Nodup := List.Pairwise.filter _ List.nodup_range
theorem mem_freeL {cs : List Cell} {i : Nat} : i ∈ freeL cs ↔ freeAt cs i = true := by
  unfold freeL
  rw [List.mem_filter, List.mem_range]
  refine ⟨fun h => h.2, fun h => ⟨?_, h⟩⟩
  unfold freeAt at h
  cases e : cs[i]? with
  | none => rw [e] at h; cases h
  | some c => exact (List.getElem?_eq_some_iff.mp e).1
/-- free where the other is free, else the same -/
structure Sim (cs b : List Cell) : Prop where
  len : cs.length = b.length
  out : ∀ i, i ∉ freeL b → cs[i]? = b[i]?
  inn : ∀ i, i ∈ freeL b → freeAt cs i = true
theorem Sim.refl (b : List Cell) : Sim b b := ⟨rfl, fun _ _ => rfl, fun _ h => mem_freeL.mp h⟩
theorem Sim.freeAt {cs b : List Cell} (h : Sim cs b) (i : Nat) : freeAt cs i = freeAt b i := by
  by_cases q : i ∈ freeL b
  · rw [h.inn i q, mem_freeL.mp q]
  · unfold SF.freeAt
    rw [h.out i q]
theorem Sim.freeL {cs b : List Cell} (h : Sim cs b) : freeL cs = freeL b := by
  unfold SF.freeL
  rw [h.len, show SF.freeAt cs = SF.freeAt b from funext h.freeAt]
theorem Sim.rowAt {cs b : List Cell} (h : Sim cs b) (i : Nat) : rowAt cs i = rowAt b i := by
  by_cases q : i ∈ SF.freeL b
  · have h1 := h.inn i q
    have h2 := mem_freeL.mp q
    unfold SF.freeAt at h1 h2
    unfold SF.rowAt
    cases e1 : cs[i]? with
    | none => rw [e1] at h1; cases h1
    | some c =>
      rw [e1] at h1
      cases e2 : b[i]? with
      | none => rw [e2] at h2; cases h2
      | some d =>
        rw [e2] at h2
        cases c with
        | row n => cases h1
        | free l =>
          cases d with
          | row n => cases h2
          | free m => rfl
  · unfold SF.rowAt
    rw [h.out i q]
theorem row_not_free {cs : List Cell} {i : Nat} (h : rowAt cs i = true) : i ∉ freeL cs := fun z => by
  have z := mem_freeL.mp z
  unfold freeAt at z
  unfold rowAt at h
  cases e : cs[i]? with
  | none => rw [e] at z; cases z
  | some c => rw [e] at z h; cases c with
    | row n => cases z
    | free l => cases h
theorem Sim.rows {cs b : List Cell} (h : Sim cs b) : dRows cs = dRows b := by
  have e : rowsL cs = rowsL b := by
    unfold rowsL
    rw [h.len, show SF.rowAt cs = SF.rowAt b from funext h.rowAt]
  unfold dRows
  rw [e]
  refine congrArg PyData.list (List.map_congr_left fun i hi => ?_)
  have hr : SF.rowAt b i = true := (List.mem_filter.mp hi).2
  unfold dRow numAt
  rw [h.out i (row_not_free hr)]
theorem Sim.relink {cs b : List Cell} (h : Sim cs b) : relink cs (SF.freeL cs) = SF.relink b (SF.freeL b) := by
  rw [h.freeL]
  exact relink_congr h.len h.out
theorem links_free {cs : List Cell} : ∀ {ps : List Nat} {l : Lk}, Links cs l ps → ∀ p ∈ ps, freeAt cs p = true
  | p :: ps, l, ⟨e, m, hm, h⟩, q, hq => by
    rcases List.mem_cons.mp hq with z | z
    · rw [z]
      unfold freeAt
      rw [hm]
    · exact links_free h q z
theorem sim_relink (b : List Cell) : Sim (relink b (freeL b)) b :=
  ⟨relink_len _ _, fun i h => relink_out h, fun i h => links_free (relink_links freeL_nodup fun p hp => freeL_lt hp) i h⟩
/-- writes that put cells of a into b -/
theorem sim_put {a b cs : List Cell} {l : Lk} {i : Nat} (h : Sim cs b) (ha : Sim a b) (hi : i < a.length) : ∃ cs', put ⟨l, cs⟩ (some i, .cell (a.getD i (.row 0))) = ⟨l, cs'⟩ ∧ Sim cs' b ∧ cs' = cs.set i (a.getD i (.row 0)) := by
  have hlen : i < cs.length := by rw [h.len, ← ha.len]; exact hi
  have hg : a[i]? = some (a.getD i (.row 0)) := by
    rw [List.getD_eq_getElem?_getD, List.getElem?_eq_getElem hi]
    rfl
  refine ⟨cs.set i (a.getD i (.row 0)), by rw [put_cell]; show (if i = cs.length then _ else _) = _; rw [if_neg (by omega)], ⟨by rw [List.length_set, h.len], fun j hj => ?_, fun j hj => ?_⟩, rfl⟩
  · rw [List.getElem?_set]
    by_cases q : i = j
    · rw [if_pos q, if_pos hlen, ← hg, q]
      exact ha.out j hj
    · rw [if_neg q]
      exact h.out j hj
  · unfold SF.freeAt
    rw [List.getElem?_set]
    by_cases q : i = j
    · rw [if_pos q, if_pos hlen, ← hg, q]
      exact ha.inn j hj
    · rw [if_neg q]
      exact h.inn j hj
theorem sim_fold {a b : List Cell} (ha : Sim a b) {l : Lk} : ∀ {js : List Nat} {cs : List Cell}, Sim cs b → (∀ i ∈ js, i < a.length) →
    ∃ cs', (js.map fun i => ((some i, .cell (a.getD i (.row 0))) : Write)).foldl put ⟨l, cs⟩ = ⟨l, cs'⟩ ∧ Sim cs' b ∧ ∀ i, cs'[i]? = if i ∈ js then a[i]? else cs[i]?
  | [], cs, h, _ => ⟨cs, rfl, h, fun i => by simp⟩
  | j :: js, cs, h, hj => by
    obtain ⟨c1, e1, h1, e2⟩ := sim_put (l := l) h ha (hj j List.mem_cons_self)
    obtain ⟨c2, e3, h2, e4⟩ := sim_fold ha (l := l) (js := js) h1 fun i hi => hj i (List.mem_cons_of_mem _ hi)
    refine ⟨c2, by rw [List.map_cons, List.foldl_cons, e1, e3], h2, fun i => ?_⟩
    rw [e4 i]
    by_cases q : i ∈ js
    · rw [if_pos q, if_pos (List.mem_cons_of_mem _ q)]
    · rw [if_neg q, e2, List.getElem?_set]
      by_cases q2 : j = i
      · subst q2
        have hja := hj j List.mem_cons_self
        rw [if_pos rfl, if_pos (by rw [h.len, ← ha.len]; exact hja), if_pos List.mem_cons_self, List.getD_eq_getElem?_getD, List.getElem?_eq_getElem hja]
        rfl
      · rw [if_neg q2, if_neg]
        exact fun z => by
          rcases List.mem_cons.mp z with y | y
          · exact q2 y.symm
          · exact q y
/-- what a mending leaves at any place of its writes -/
theorem mend_cases {f : File} (hw : whole f = false) {k : Nat} (hk : k ≤ (mendsF f).length) : ((mendsF f).take k).foldl put f = f ∧ k = 0 ∨ (∃ cs, ((mendsF f).take k).foldl put f = ⟨none, cs⟩ ∧ Sim cs f.cells ∧ 0 < k ∧ k < (mendsF f).length) ∨ ((mendsF f).take k).foldl put f = mendF f ∧ k = (mendsF f).length := by
  have em : mendsF f = (none, .link none) :: (diffs (mendF f).cells f.cells (mendF f).cells.length ++ [(none, .link (mendF f).head)]) := by
    unfold mendsF
    rw [if_neg (by rw [hw]; decide)]
    rfl
  have hc : (mendF f).cells = relink f.cells (freeL f.cells) := by
    unfold mendF
    rw [if_neg (by rw [hw]; decide)]
  have ha : Sim (mendF f).cells f.cells := by rw [hc]; exact sim_relink _
  have hlt : ∀ i ∈ (List.range (mendF f).cells.length).filter (fun i => decide ((mendF f).cells[i]? ≠ f.cells[i]?)), i < (mendF f).cells.length := fun i hi => List.mem_range.mp (List.mem_filter.mp hi).1
  rw [em] at hk ⊢
  cases k with
  | zero => exact .inl ⟨rfl, rfl⟩
  | succ k =>
    right
    rw [List.take_succ_cons, List.foldl_cons, put_link]
    generalize hD : diffs (mendF f).cells f.cells (mendF f).cells.length = D at hk ⊢
    unfold diffs at hD
    by_cases q : k ≤ D.length
    · left
      rw [List.take_append_of_le_length q, ← hD, ← List.map_take]
      obtain ⟨cs, e1, e2, _⟩ := sim_fold ha (l := none) (js := ((List.range (mendF f).cells.length).filter (fun i => decide ((mendF f).cells[i]? ≠ f.cells[i]?))).take k) (Sim.refl f.cells) fun i hi => hlt i (List.mem_of_mem_take hi)
      refine ⟨cs, e1, e2, Nat.succ_pos _, ?_⟩
      rw [hD, List.length_cons, List.length_append]
      show k + 1 < D.length + 1 + 1
      omega
    · right
      have ek : k = D.length + 1 := by
        rw [List.length_cons, List.length_append] at hk
        have hk : k + 1 ≤ D.length + 1 + 1 := hk
        omega
      rw [List.take_of_length_le (by rw [List.length_append, ek]; exact Nat.le_refl _), List.foldl_append, ← hD]
      obtain ⟨cs, e1, e2, e3⟩ := sim_fold ha (l := none) (js := ((List.range (mendF f).cells.length).filter (fun i => decide ((mendF f).cells[i]? ≠ f.cells[i]?)))) (Sim.refl f.cells) hlt
      refine ⟨?_, ?_⟩
      · rw [e1]
        show (⟨(mendF f).head, cs⟩ : File) = mendF f
        have ec : cs = (mendF f).cells := List.ext_getElem? fun i => by
          rw [e3 i]
          by_cases q1 : i < (mendF f).cells.length
          · by_cases q2 : (mendF f).cells[i]? = f.cells[i]?
            · rw [if_neg (show ¬ i ∈ _ from fun z => absurd q2 (of_decide_eq_true (p := (mendF f).cells[i]? ≠ f.cells[i]?) (List.mem_filter.mp z).2)), q2]
            · rw [if_pos (List.mem_filter.mpr ⟨List.mem_range.mpr q1, decide_eq_true q2⟩)]
          · rw [if_neg (fun z => q1 (List.mem_range.mp (List.mem_filter.mp z).1)), List.getElem?_eq_none (by rw [mendF_len] at q1; omega), List.getElem?_eq_none (by omega)]
        rw [ec]
      · rw [hD, ek, List.length_cons, List.length_append]
        rfl
theorem mendF_links {f : File} (hw : whole f = false) : Links (mendF f).cells (mendF f).head (freeL f.cells) := by
  unfold mendF
  rw [if_neg (by rw [hw]; decide)]
  exact relink_links freeL_nodup fun p hp => freeL_lt hp
theorem mendF_whole (f : File) : whole (mendF f) = true := by
  cases hw : whole f with
  | true =>
    unfold mendF
    rw [if_pos hw]
    exact hw
  | false =>
    have hl := mendF_links hw
    have hg := hl.gone freeL_nodup
    have hs : Sim (mendF f).cells f.cells := by
      unfold mendF
      rw [if_neg (by rw [hw]; decide)]
      exact sim_relink _
    unfold whole looseL stop chain
    rw [hg, hs.freeL, decide_eq_true rfl, Bool.true_and]
    refine decide_eq_true (List.filter_eq_nil_iff.mpr fun p hp => ?_)
    rw [show (freeL f.cells).contains p = true from List.contains_iff_mem.mpr hp]
    decide
theorem whole_stop {f : File} (h : whole f = true) : stop f = none := by
  unfold whole at h
  rw [Bool.and_eq_true] at h
  exact of_decide_eq_true h.1
theorem mendF_of {g : File} (h : whole g = true) : mendF g = g := by
  unfold mendF
  rw [if_pos h]
theorem mend_law {f : File} {k : Nat} (hk : k ≤ (mendsF f).length) : dRows (((mendsF f).take k).foldl put f).cells = dRows f.cells ∧ (0 < k → stop (((mendsF f).take k).foldl put f) = none) ∧
    mendF (((mendsF f).take k).foldl put f) = (if whole (((mendsF f).take k).foldl put f) = true then ((mendsF f).take k).foldl put f else mendF f) ∧ (k = (mendsF f).length → ((mendsF f).take k).foldl put f = mendF f) := by
  cases hw : whole f with
  | true =>
    have e : mendsF f = [] := by
      unfold mendsF
      rw [if_pos hw]
    have em : mendF f = f := by
      unfold mendF
      rw [if_pos hw]
    rw [e] at hk ⊢
    have hk : k ≤ 0 := hk
    have hk : k = 0 := by omega
    subst hk
    refine ⟨rfl, fun h => absurd h (by decide), ?_, fun _ => em.symm⟩
    show mendF f = if whole f = true then f else mendF f
    rw [if_pos hw, em]
  | false =>
    have hself : mendF (mendF f) = mendF f := by
      exact mendF_of (mendF_whole f)
    rcases mend_cases hw hk with ⟨e, e0⟩ | ⟨cs, e, hs, h0, hlt⟩ | ⟨e, e0⟩
    · rw [e]
      refine ⟨rfl, fun h => by omega, ?_, fun h => ?_⟩
      · rw [if_neg (by rw [hw]; decide)]
      · exfalso
        have hz : 0 < (mendsF f).length := by
          unfold mendsF
          rw [if_neg (by rw [hw]; decide)]
          simp
        omega
    · rw [e]
      refine ⟨hs.rows, fun _ => ?_, ?_, fun h => by omega⟩
      · unfold stop gone
        rfl
      · by_cases q : whole ⟨none, cs⟩ = true
        · rw [if_pos q]
          unfold mendF
          rw [if_pos q]
        · rw [if_neg q]
          unfold mendF
          rw [if_neg q, if_neg (by rw [hw]; decide)]
          show (⟨(freeL cs).head?, relink cs (freeL cs)⟩ : File) = _
          rw [hs.relink, hs.freeL]
    · rw [e]
      refine ⟨?_, fun _ => whole_stop (mendF_whole f), ?_, fun _ => rfl⟩
      · have hs : Sim (mendF f).cells f.cells := by
          unfold mendF
          rw [if_neg (by rw [hw]; decide)]
          exact sim_relink _
        exact hs.rows
      · rw [if_pos (mendF_whole f), hself]
theorem we_loose_broken : (Str.ofString "loose" == Str.ofString "broken") = false := by decide +kernel
theorem we_broken_loose : (Str.ofString "broken" == Str.ofString "loose") = false := by decide +kernel
theorem shp_ws (ws : List Write) : Shp 3 (.list (ws.map dW)) := .list fun d hd => by
  obtain ⟨c, _, rfl⟩ := List.mem_map.mp hd
  exact shp_dW c
theorem shp_rows (cs : List Cell) : Shp 2 (dRows cs) := .list fun d hd => by
  obtain ⟨c, _, rfl⟩ := List.mem_map.mp hd
  exact .tup2 .int .int
theorem mends_few {f : File} (h : Fine f) : (mendsF f).length ≤ 14 := by
  unfold mendsF
  split
  · simp
  · have h1 := diffs_len (a := (mendF f).cells) (b := f.cells) (n := (mendF f).cells.length)
    have h2 := mendF_len f
    have h3 := h.few
    rw [List.length_append, List.length_append]
    show 1 + _ + 1 ≤ 14
    omega
theorem word_broken {f : File} : (word f == Str.ofString "broken") = decide (stop f ≠ none) := by
  unfold word
  by_cases h : stop f = none
  · rw [if_neg (fun q => q h), decide_eq_false (fun q => q h)]
    split
    · exact we_loose_broken
    · exact we_whole_broken
  · rw [if_pos h, decide_eq_true h]
    exact ws_broken
theorem h_wordF {f : File} : SeqAt.shaped (.str (word f)) = true := by
  unfold word
  split
  · exact hs_broken
  · split
    · exact hs_loose
    · exact hs_whole
theorem eqv_ws {ws : List Write} : PyData.eqv (.list (ws.map dW)) (.list (ws.map dW)) = true := SeqAt.eqv_refl _ (shp_ws ws).1
theorem eqv_rows {cs : List Cell} : PyData.eqv (dRows cs) (dRows cs) = true := SeqAt.eqv_refl _ (shp_rows cs).1
theorem h_ws {ws : List Write} : SeqAt.shaped (.list (ws.map dW)) = true := (shp_ws ws).shaped (by decide)
theorem h_rows {cs : List Cell} : SeqAt.shaped (dRows cs) = true := (shp_rows cs).shaped (by decide)
theorem stepped_mend {f : File} {r : Rule} {n k : Nat} (hk : k ≤ (mendsF f).length) : playedF f r n [(.mend, some (k : Int))] = some [((mendsF f).take k).foldl put f] := by
  have e : steppedF f r n (.mend, some (k : Int)) = some (((mendsF f).take k).foldl put f) := by
    show (if 0 ≤ (k : Int) ∧ (k : Int) ≤ ((mendsF f).length : Int) then some (((mendsF f).take (k : Int).toNat).foldl put f) else none) = _
    rw [if_pos ⟨by omega, by omega⟩, Int.toNat_natCast]
  unfold playedF
  rw [e]
  rfl
end SF

/-! ## Deeds that are never stopped -/
namespace SF
open PySem PySem.Spec PyProof.Rows L2
theorem whole_links {f : File} (h : whole f = true) : Links f.cells f.head (chain f) ∧ (chain f).Nodup ∧ ∀ i, freeAt f.cells i = true → i ∈ chain f := by
  obtain ⟨h1, h2⟩ := stop_links (whole_stop h)
  refine ⟨h1, h2, fun i hi => ?_⟩
  unfold whole at h
  rw [Bool.and_eq_true] at h
  have h3 : looseL f = [] := of_decide_eq_true h.2
  have h4 := List.filter_eq_nil_iff.mp h3 i (mem_freeL.mpr hi)
  cases q : (chain f).contains i with
  | true => exact List.contains_iff_mem.mp q
  | false => rw [q] at h4; exact absurd rfl h4
theorem whole_of {f : File} {ps : List Nat} (h : Links f.cells f.head ps) (nd : ps.Nodup) (hf : ∀ i, freeAt f.cells i = true → i ∈ ps) : whole f = true := by
  unfold whole looseL stop chain
  rw [h.gone nd, decide_eq_true rfl, Bool.true_and]
  refine decide_eq_true (List.filter_eq_nil_iff.mpr fun p hp => ?_)
  rw [show ps.contains p = true from List.contains_iff_mem.mpr (hf p (mem_freeL.mp hp))]
  decide
theorem put_two {f : File} {b : Bool} {l : Lk} {p : Nat} {c : Cell} (hp : p < f.cells.length) : (inOrder b (none, .link l) (some p, .cell c)).foldl put f = ⟨l, f.cells.set p c⟩ := by
  unfold inOrder
  cases b with
  | true =>
    rw [if_pos rfl]
    show put (put f (none, .link l)) (some p, .cell c) = _
    rw [put_link, put_cell]
    show (if p = f.cells.length then _ else (⟨l, f.cells.set p c⟩ : File)) = _
    rw [if_neg (by omega)]
  | false =>
    rw [if_neg (by decide)]
    show put (put f (some p, .cell c)) (none, .link l) = _
    rw [put_cell, if_neg (by omega), put_link]
/-- what a whole deed leaves: no rule in it -/
theorem writes_rule {f : File} {r : Rule} {room : Nat} {d : Deed} {ws : List Write} (hf : Fine f) (h : writesF f r room d = some ws) (r' : Rule) : ∃ ws', writesF f r' room d = some ws' ∧ ws'.foldl put f = ws.foldl put f := by
  cases d with
  | mend => cases h; exact ⟨_, rfl, rfl⟩
  | other w n => cases h
  | give p =>
    have h : (if 0 ≤ p ∧ p < (f.cells.length : Int) ∧ rowAt f.cells p.toNat = true then some (inOrder r.2 (none, .link (some p.toNat)) (some p.toNat, .cell (.free f.head))) else none) = some ws := h
    split at h
    · rename_i hp
      cases h
      refine ⟨_, if_pos hp, ?_⟩
      rw [put_two (by omega), put_two (by omega)]
    · cases h
  | take n =>
    have h : (if 0 ≤ n ∧ n ≤ 999 then takeW f r room n.toNat else none) = some ws := h
    split at h
    · rename_i hn
      show ∃ ws', (if 0 ≤ n ∧ n ≤ 999 then takeW f r' room n.toNat else none) = some ws' ∧ _
      rw [if_pos hn]
      unfold takeW at h ⊢
      cases hh : f.head with
      | none =>
        rw [hh] at h
        exact ⟨ws, h, rfl⟩
      | some p =>
        rw [hh] at h
        have h : some (inOrder r.1 (none, .link (freeLk f.cells p)) (some p, .cell (.row n.toNat))) = some ws := h
        cases h
        have hp : p < f.cells.length := of_decide_eq_true (by have := hf.head; rw [hh] at this; exact this)
        exact ⟨_, rfl, by rw [put_two hp, put_two hp]⟩
    · cases h
theorem free_set {cs : List Cell} {p i : Nat} {c : Cell} (h : freeAt (cs.set p c) i = true) : i = p ∨ freeAt cs i = true := by
  by_cases q : p = i
  · exact .inl q.symm
  · right
    unfold freeAt at h ⊢
    rw [List.getElem?_set_ne q] at h
    exact h
theorem free_set_row {cs : List Cell} {p i n : Nat} (h : freeAt (cs.set p (.row n)) i = true) : i ≠ p ∧ freeAt cs i = true := by
  by_cases q : p = i
  · subst q
    unfold freeAt at h
    rw [List.getElem?_set] at h
    rw [if_pos rfl] at h
    by_cases k : p < cs.length
    · rw [if_pos k] at h; cases h
    · rw [if_neg k] at h; cases h
  · refine ⟨fun e => q e.symm, ?_⟩
    unfold freeAt at h ⊢
    rw [List.getElem?_set_ne q] at h
    exact h
/-- giving back a row -/
theorem give_links {f : File} {p : Nat} (hw : whole f = true) (hp : rowAt f.cells p = true) : Links (f.cells.set p (.free f.head)) (some p) (p :: chain f) ∧ (p :: chain f).Nodup ∧ ∀ i, freeAt (f.cells.set p (.free f.head)) i = true → i ∈ p :: chain f := by
  obtain ⟨h1, h2, h3⟩ := whole_links hw
  have hpl : p < f.cells.length := by
    unfold rowAt at hp
    cases e : f.cells[p]? with
    | none => rw [e] at hp; cases hp
    | some c => exact (List.getElem?_eq_some_iff.mp e).1
  have hpc : p ∉ chain f := fun z => row_not_free hp (mem_freeL.mpr (links_free h1 p z))
  refine ⟨⟨rfl, f.head, List.getElem?_set_self hpl, h1.mono fun i hi => List.getElem?_set_ne (show p ≠ i from fun e => hpc (by rw [e]; exact hi))⟩, List.nodup_cons.mpr ⟨hpc, h2⟩, fun i hi => ?_⟩
  rcases free_set hi with z | z
  · rw [z]; exact List.mem_cons_self
  · exact List.mem_cons_of_mem _ (h3 i z)
theorem whole_deed {f : File} {r : Rule} {room : Nat} {d : Deed} {ws : List Write} (hf : Fine f) (hw : whole f = true) (h : writesF f r room d = some ws) : whole (ws.foldl put f) = true := by
  cases d with
  | mend =>
    cases h
    have e : mendsF f = [] := by
      unfold mendsF
      rw [if_pos hw]
    rw [e]
    exact hw
  | other w n => cases h
  | give p =>
    have h : (if 0 ≤ p ∧ p < (f.cells.length : Int) ∧ rowAt f.cells p.toNat = true then some (inOrder r.2 (none, .link (some p.toNat)) (some p.toNat, .cell (.free f.head))) else none) = some ws := h
    split at h
    · rename_i hp
      cases h
      rw [put_two (by omega)]
      obtain ⟨h1, h2, h3⟩ := give_links hw hp.2.2
      exact whole_of h1 h2 h3
    · cases h
  | take n =>
    have h : (if 0 ≤ n ∧ n ≤ 999 then takeW f r room n.toNat else none) = some ws := h
    obtain ⟨h1, h2, h3⟩ := whole_links hw
    split at h
    · unfold takeW at h
      cases hh : f.head with
      | none =>
        rw [hh] at h h1
        have h : (if f.cells.length < room then some [((some f.cells.length, .cell (.row n.toNat)) : Write)] else none) = some ws := h
        split at h
        · cases h
          have ec : chain f = [] := by
            cases e : chain f with
            | nil => rfl
            | cons q qs => rw [e] at h1; cases h1.1
          have e : [((some f.cells.length, .cell (.row n.toNat)) : Write)].foldl put f = ⟨none, f.cells ++ [.row n.toNat]⟩ := by
            show put f (some f.cells.length, .cell (.row n.toNat)) = _
            rw [put_cell, if_pos rfl, hh]
          rw [e]
          refine whole_of (ps := []) rfl List.nodup_nil fun i hi => ?_
          rw [← ec]
          refine h3 i ?_
          have hi : freeAt (f.cells ++ [.row n.toNat]) i = true := hi
          unfold freeAt at hi ⊢
          by_cases q : i < f.cells.length
          · rw [List.getElem?_append_left q] at hi
            exact hi
          · by_cases q2 : i = f.cells.length
            · subst q2
              rw [List.getElem?_append_right (Nat.le_refl _), Nat.sub_self] at hi
              cases hi
            · rw [List.getElem?_eq_none (by rw [List.length_append]; show f.cells.length + 1 ≤ i; omega)] at hi
              cases hi
        · cases h
      | some p =>
        rw [hh] at h h1
        have h : some (inOrder r.1 (none, .link (freeLk f.cells p)) (some p, .cell (.row n.toNat))) = some ws := h
        cases h
        cases e : chain f with
        | nil => rw [e] at h1; cases h1
        | cons q qs =>
          rw [e] at h1 h2 h3
          obtain ⟨e1, m, hm, hl⟩ := h1
          cases e1
          have hp : p < f.cells.length := (List.getElem?_eq_some_iff.mp hm).1
          rw [List.nodup_cons] at h2
          have em : freeLk f.cells p = m := by
            unfold freeLk
            rw [hm]
          rw [put_two hp, em]
          refine whole_of (ps := qs) (hl.mono fun i hi => List.getElem?_set_ne (show p ≠ i from fun z => h2.1 (by rw [z]; exact hi))) h2.2 fun i hi => ?_
          obtain ⟨z1, z2⟩ := free_set_row hi
          rcases List.mem_cons.mp (h3 i z2) with y | y
          · exact absurd y z1
          · exact y
    · cases h
/-- deeds, each whole -/
def wholeS (ds : List Deed) : List Step := ds.map fun d => (d, none)
theorem stepped_none {f : File} {r : Rule} {room : Nat} {d : Deed} {ws : List Write} (h : writesF f r room d = some ws) : steppedF f r room (d, none) = some (ws.foldl put f) := by
  unfold steppedF
  rw [show writesF f r room (d, (none : Many)).1 = some ws from h]
  rfl
theorem stepped_rule {f g : File} {r : Rule} {room : Nat} {d : Deed} (hf : Fine f) (h : steppedF f r room (d, none) = some g) (r' : Rule) : steppedF f r' room (d, none) = some g := by
  unfold steppedF at h
  cases hw : writesF f r room d with
  | none => rw [show writesF f r room (d, (none : Many)).1 = none from hw] at h; cases h
  | some ws =>
    rw [show writesF f r room (d, (none : Many)).1 = some ws from hw] at h
    cases h
    obtain ⟨ws', h1, h2⟩ := writes_rule hf hw r'
    rw [stepped_none h1, h2]
theorem played_cons {f g : File} {r : Rule} {room : Nat} {s : Step} {ss : List Step} {fs : List File} (h : playedF f r room (s :: ss) = some fs) : ∃ g gs, steppedF f r room s = some g ∧ playedF g r room ss = some gs ∧ fs = g :: gs := by
  unfold playedF at h
  cases e : steppedF f r room s with
  | none => rw [e] at h; cases h
  | some g =>
    rw [e] at h
    have h : (playedF g r room ss).map (g :: ·) = some fs := h
    cases e2 : playedF g r room ss with
    | none => rw [e2] at h; cases h
    | some gs =>
      rw [e2] at h
      cases h
      exact ⟨g, gs, rfl, e2, rfl⟩
theorem played_mk {f g : File} {r : Rule} {room : Nat} {s : Step} {ss : List Step} {gs : List File} (h1 : steppedF f r room s = some g) (h2 : playedF g r room ss = some gs) : playedF f r room (s :: ss) = some (g :: gs) := by
  unfold playedF
  rw [h1]
  show (playedF g r room ss).map (g :: ·) = _
  rw [h2]
  rfl
theorem played_rule {r : Rule} {room : Nat} (hro : room ≤ 12) (r' : Rule) : ∀ {ds : List Deed} {f : File} {fs : List File}, Fine f → playedF f r room (wholeS ds) = some fs → playedF f r' room (wholeS ds) = some fs
  | [], f, fs, _, h => h
  | d :: ds, f, fs, hf, h => by
    obtain ⟨g, gs, h1, h2, e⟩ := played_cons (g := f) (s := (d, none)) (ss := wholeS ds) h
    subst e
    exact played_mk (s := (d, none)) (ss := wholeS ds) (stepped_rule hf h1 r') (played_rule hro r' (steppedF_fine hf hro h1) h2)
theorem stepped_ws {f g : File} {r : Rule} {room : Nat} {d : Deed} (h : steppedF f r room (d, none) = some g) : ∃ ws, writesF f r room d = some ws ∧ g = ws.foldl put f := by
  unfold steppedF at h
  cases hw : writesF f r room d with
  | none => rw [show writesF f r room (d, (none : Many)).1 = none from hw] at h; cases h
  | some ws =>
    rw [show writesF f r room (d, (none : Many)).1 = some ws from hw] at h
    cases h
    exact ⟨ws, rfl, rfl⟩
theorem played_whole {r : Rule} {room : Nat} (hro : room ≤ 12) : ∀ {ds : List Deed} {f : File} {fs : List File}, Fine f → whole f = true → playedF f r room (wholeS ds) = some fs → ∀ g ∈ fs, Fine g ∧ whole g = true
  | [], f, fs, _, _, h => by cases h; intro g hg; cases hg
  | d :: ds, f, fs, hf, hw, h => by
    obtain ⟨g, gs, h1, h2, e⟩ := played_cons (g := f) (s := (d, none)) (ss := wholeS ds) h
    subst e
    obtain ⟨ws, w1, w2⟩ := stepped_ws h1
    have hg : Fine g := steppedF_fine hf hro h1
    have hgw : whole g = true := by rw [w2]; exact whole_deed hf hw w1
    intro k hk
    rcases List.mem_cons.mp hk with z | z
    · rw [z]; exact ⟨hg, hgw⟩
    · exact played_whole hro hg hgw h2 k z
theorem played_snoc {r : Rule} {room : Nat} {s : Step} {g : File} : ∀ {ss : List Step} {f : File} {fs : List File}, playedF f r room ss = some fs → steppedF ((f :: fs).getLast (List.cons_ne_nil _ _)) r room s = some g → playedF f r room (ss ++ [s]) = some (fs ++ [g])
  | [], f, fs, h, h2 => by
    cases h
    exact played_mk h2 rfl
  | t :: ss, f, fs, h, h2 => by
    obtain ⟨k, gs, h1, h3, e⟩ := played_cons (g := f) h
    subst e
    refine played_mk h1 (played_snoc h3 ?_)
    rw [List.getLast_cons (List.cons_ne_nil _ _)] at h2
    exact h2
/-- given back, taken in, given back -/
theorem round_trip {f : File} {r : Rule} {room : Nat} {p n : Nat} (hf : Fine f) (hc : f.cells[p]? = some (.row n)) : playedF f r room [(.give (p : Int), none), (.take (n : Int), none), (.give (p : Int), none)] = some [⟨some p, f.cells.set p (.free f.head)⟩, f, ⟨some p, f.cells.set p (.free f.head)⟩] := by
  have hp : p < f.cells.length := (List.getElem?_eq_some_iff.mp hc).1
  have hr : rowAt f.cells p = true := by unfold rowAt; rw [hc]
  have hn : n ≤ 999 := of_decide_eq_true (hf.cells _ (List.mem_of_getElem? hc))
  have s1 : steppedF f r room (.give (p : Int), none) = some ⟨some p, f.cells.set p (.free f.head)⟩ := by
    have hw : writesF f r room (.give (p : Int)) = some (inOrder r.2 (none, .link (some p)) (some p, .cell (.free f.head))) := by
      show (if 0 ≤ (p : Int) ∧ (p : Int) < (f.cells.length : Int) ∧ rowAt f.cells (p : Int).toNat = true then some (inOrder r.2 (none, .link (some (p : Int).toNat)) (some (p : Int).toNat, .cell (.free f.head))) else none) = _
      rw [Int.toNat_natCast, if_pos ⟨by omega, by omega, hr⟩]
    rw [stepped_none hw, put_two hp]
  have s2 : steppedF ⟨some p, f.cells.set p (.free f.head)⟩ r room (.take (n : Int), none) = some f := by
    have hw : writesF ⟨some p, f.cells.set p (.free f.head)⟩ r room (.take (n : Int)) = some (inOrder r.1 (none, .link f.head) (some p, .cell (.row n))) := by
      show (if 0 ≤ (n : Int) ∧ (n : Int) ≤ 999 then takeW ⟨some p, f.cells.set p (.free f.head)⟩ r room (n : Int).toNat else none) = _
      rw [if_pos ⟨by omega, by omega⟩, Int.toNat_natCast]
      show some (inOrder r.1 (none, .link (freeLk (f.cells.set p (.free f.head)) p)) (some p, .cell (.row n))) = _
      unfold freeLk
      rw [List.getElem?_set_self hp]
    rw [stepped_none hw, put_two (by show p < (f.cells.set p (.free f.head)).length; rw [List.length_set]; exact hp)]
    show some (⟨f.head, (f.cells.set p (.free f.head)).set p (.row n)⟩ : File) = some f
    have e : f.cells.set p (.row n) = f.cells := List.ext_getElem? fun i => by
      rw [List.getElem?_set]
      by_cases q : p = i
      · subst q
        rw [if_pos rfl, if_pos hp, hc]
      · rw [if_neg q]
    rw [List.set_set, e]
  exact played_mk s1 (played_mk s2 (played_mk s1 rfl))
theorem deed_room {f : File} {r : Rule} {room : Nat} {d : Deed} {ws : List Write} (hf : Fine f) (hl : f.cells.length ≤ room) (h : writesF f r room d = some ws) : (ws.foldl put f).cells.length ≤ room := by
  cases d with
  | mend =>
    cases h
    rw [(foldPut_fine hf (mendsF_ok hf)).2]
    exact hl
  | other w n => cases h
  | give p =>
    have h : (if 0 ≤ p ∧ p < (f.cells.length : Int) ∧ rowAt f.cells p.toNat = true then some (inOrder r.2 (none, .link (some p.toNat)) (some p.toNat, .cell (.free f.head))) else none) = some ws := h
    split at h
    · cases h
      rw [put_two (by omega)]
      show (f.cells.set p.toNat (.free f.head)).length ≤ room
      rw [List.length_set]
      exact hl
    · cases h
  | take n =>
    have h : (if 0 ≤ n ∧ n ≤ 999 then takeW f r room n.toNat else none) = some ws := h
    split at h
    · unfold takeW at h
      cases hh : f.head with
      | none =>
        rw [hh] at h
        have h : (if f.cells.length < room then some [((some f.cells.length, .cell (.row n.toNat)) : Write)] else none) = some ws := h
        split at h
        · rename_i hlt
          cases h
          show (put f (some f.cells.length, .cell (.row n.toNat))).cells.length ≤ room
          rw [put_cell, if_pos rfl]
          show (f.cells ++ [Cell.row n.toNat]).length ≤ room
          rw [List.length_append]
          exact hlt
        · cases h
      | some p =>
        rw [hh] at h
        have h : some (inOrder r.1 (none, .link (freeLk f.cells p)) (some p, .cell (.row n.toNat))) = some ws := h
        cases h
        have hp : p < f.cells.length := of_decide_eq_true (by have := hf.head; rw [hh] at this; exact this)
        rw [put_two hp]
        show (f.cells.set p (.row n.toNat)).length ≤ room
        rw [List.length_set]
        exact hl
    · cases h
theorem played_room {r : Rule} {room : Nat} (hro : room ≤ 12) : ∀ {ds : List Deed} {f : File} {fs : List File}, Fine f → f.cells.length ≤ room → playedF f r room (wholeS ds) = some fs → ∀ g ∈ fs, g.cells.length ≤ room
  | [], f, fs, _, _, h => by cases h; intro g hg; cases hg
  | d :: ds, f, fs, hf, hw, h => by
    obtain ⟨g, gs, h1, h2, e⟩ := played_cons (g := f) (s := (d, none)) (ss := wholeS ds) h
    subst e
    obtain ⟨ws, w1, w2⟩ := stepped_ws h1
    have hg : Fine g := steppedF_fine hf hro h1
    have hgl : g.cells.length ≤ room := by rw [w2]; exact deed_room hf hw w1
    intro k hk
    rcases List.mem_cons.mp hk with z | z
    · rw [z]; exact hgl
    · exact played_room hro hg hgl h2 k z
theorem last_all {P : File → Prop} {f : File} {fs : List File} (h0 : P f) (h : ∀ g ∈ fs, P g) : P ((f :: fs).getLast (List.cons_ne_nil _ _)) := by
  rcases List.mem_cons.mp (List.getLast_mem (List.cons_ne_nil f fs)) with z | z
  · rw [z]; exact h0
  · exact h _ z
theorem last_snoc {f g : File} {fs : List File} : (f :: (fs ++ [g])).getLast (List.cons_ne_nil _ _) = g := by
  show ((f :: fs) ++ [g]).getLast _ = g
  exact List.getLast_concat
theorem at_last {f : File} {fs : List File} : atI ((f :: fs).map dF) (-1) = some (dF ((f :: fs).getLast (List.cons_ne_nil _ _))) := by
  have e : (f :: fs).map dF = ((f :: fs).dropLast.map dF) ++ [dF ((f :: fs).getLast (List.cons_ne_nil _ _))] := by
    rw [← List.map_singleton, ← List.map_append, List.dropLast_concat_getLast]
  rw [e]
  exact atI_last _ _
theorem nol_dL {l : Lk} : nol (dL l) = true := by cases l <;> rfl
theorem nol_dC {c : Cell} : nol (dC c) = true := by
  cases c with
  | row n => rfl
  | free l => cases l <;> rfl
theorem nol_dF {f : File} : nol (dF f) = true := by
  have e : ∀ cs : List Cell, nolL (cs.map dC) = true := fun cs => by
    rw [nolL_all, List.all_eq_true]
    intro d hd
    obtain ⟨c, _, rfl⟩ := List.mem_map.mp hd
    exact nol_dC
  show (nol (dL f.head) && (nolL (f.cells.map dC) && true)) = true
  rw [nol_dL, e]
  rfl
theorem shp_fs (fs : List File) : Shp 4 (.list (fs.map dF)) := .list fun d hd => by
  obtain ⟨c, _, rfl⟩ := List.mem_map.mp hd
  exact shp_dF c
theorem eqv_fs {fs : List File} : PyData.eqv (.list (fs.map dF)) (.list (fs.map dF)) = true := SeqAt.eqv_refl _ (shp_fs fs).1
theorem h_fs {fs : List File} : SeqAt.shaped (.list (fs.map dF)) = true := (shp_fs fs).shaped (by decide)
end SF

/-! ## isinstance; items of lists or tuples; defs by what they are handed -/
namespace SF
open PySem PySem.Spec PyProof.Rows L2
def tyName : PyData → String
  | .none => "NoneType"
  | .bool _ => "bool"
  | .int _ => "int"
  | .str _ => "str"
  | .list _ => "list"
  | .tuple _ => "tuple"
  | .dict _ => "dict"
theorem Im.ty {K : PySem.W.Frag} {G H : Hp} (e : Ex G H) {d : PyData} {v : V} (h : Im K G d v) : TyX K H v (.type (tyName d)) := by
  cases d with
  | none => rw [im_none] at h; subst h; exact .base .non
  | bool b => rw [im_bool] at h; subst h; exact .base (.bl _)
  | int i => rw [im_int] at h; subst h; exact .base (.int _)
  | str s => rw [im_str] at h; subst h; exact .base (.str _)
  | list ds =>
    rw [im_list] at h
    obtain ⟨a, xs, rfl, h1, _⟩ := h
    exact .base (.lst (e a _ h1))
  | tuple ds =>
    rw [im_tuple] at h
    obtain ⟨a, xs, rfl, h1, _⟩ := h
    rcases h1 with (h1 | ⟨o, h1⟩) | ⟨o, its, n, h1, h2, _⟩
    · exact .base (.tup (e a _ h1))
    · exact .fTuple (e a _ h1)
    · exact .kTuple h1 h2
  | dict _ => rw [im_dict] at h; exact h.elim
def sIs (T : String) : Sem1 := fun d Φ => ∃ k, kitB (tyName d) T = some k ∧ Φ (.dat (.bool k))
def isSeq : PyData → Bool
  | .list _ => true
  | .tuple _ => true
  | _ => false
def sIsTL : Sem1 := fun d Φ => (∀ es, d ≠ .dict es) ∧ Φ (.dat (.bool (isSeq d)))
section
variable {X : Cx} {b : Bs} {x y : Expr} {pos : Pos} {wx wy : WE}
theorem pei_isi {p p2 : Pos} {nm : Str} {T : String} (hm : X.mg "isinstance" = none) (hg : Gl X "isinstance") (hm2 : X.mg nm = none) (hg2 : Gl X nm) (hb : bootBuiltins nm = some (.type T)) (hx : PEI X b x wx)
    (hn1 : nm ≠ Str.ofString "__name__" := by decide) (hn2 : (nm == Str.ofString "__debug__") = false := by decide)
    (he : starEach [x, .Name nm p2] X.env = (false, eval x X.env) :: starEach [.Name nm p2] X.env := by rfl) (he2 : starEach [.Name nm p2] X.env = (false, eval (.Name nm p2) X.env) :: starEach [] X.env := by rfl)
    (hpl : ((backTo pos (starEach [.Name nm p2] X.env)).any fun z => z.1) = false := by rfl) : PEI X b (.Call (.Name "isinstance" p) [x, .Name nm p2] [] pos) (wUn (sIs T) wx) :=
  pei_un (r := fun v H Q => rIsi X.K [v, .ty T] H Q) (pe_callB call_isi hg hm (by rfl) (pa_cons hx (pa_cons (pe_bltn hg2 hm2 hb (v := .ty T) rfl hn1 hn2) pa_nil he2) he) (by decide) (by decide) he hpl) fun c ρ σ G H d v Φ Q S i hs p => by
    obtain ⟨k, hk, h⟩ := hs
    exact ⟨v, .ty T, .type (tyName d), .type T, k, rfl, .ty T, i.ty S.ex2, kit_ty hk, p _ (.dat (.bool k)) G H (.refl S) (by show Im _ _ _ _; rw [im_bool]) h⟩
theorem kit_seq {K : PySem.W.Frag} {d : PyData} (h : ∀ es, d ≠ .dict es) : PySem.W.kitAny K (.type (tyName d)) [.type "tuple", .type "list"] = some (isSeq d) := by
  have go : ∀ {r1 r2 : Bool}, kitB (tyName d) "tuple" = some r1 → kitB (tyName d) "list" = some r2 → PySem.W.kitAny K (.type (tyName d)) [.type "tuple", .type "list"] = some (r1 || r2) := fun {r1 r2} e1 e2 => by
    rw [PySem.W.kitAny.eq_2, kit_ty e1]
    cases r1 with
    | true => rfl
    | false =>
      show PySem.W.kitAny K (.type (tyName d)) [.type "list"] = _
      rw [PySem.W.kitAny.eq_2, kit_ty e2]
      cases r2 with
      | true => rfl
      | false =>
        show PySem.W.kitAny K (.type (tyName d)) [] = _
        rw [PySem.W.kitAny.eq_1]
        rfl
  cases d with
  | dict es => exact absurd rfl (h es)
  | none => exact go (r1 := false) (r2 := false) (by decide +kernel) (by decide +kernel)
  | bool b => exact go (r1 := false) (r2 := false) (by show kitB "bool" _ = _; decide +kernel) (by show kitB "bool" _ = _; decide +kernel)
  | int b => exact go (r1 := false) (r2 := false) (by show kitB "int" _ = _; decide +kernel) (by show kitB "int" _ = _; decide +kernel)
  | str b => exact go (r1 := false) (r2 := false) (by show kitB "str" _ = _; decide +kernel) (by show kitB "str" _ = _; decide +kernel)
  | list b => exact go (r1 := false) (r2 := true) (by show kitB "list" _ = _; decide +kernel) (by show kitB "list" _ = _; decide +kernel)
  | tuple b => exact go (r1 := true) (r2 := false) (by show kitB "tuple" _ = _; decide +kernel) (by show kitB "tuple" _ = _; decide +kernel)
theorem pei_isiTL {p p2 p3 p4 : Pos} {k0 : Nat} (hm : X.mg "isinstance" = none) (hg : Gl X "isinstance") (hm2 : X.mg "tuple" = none) (hg2 : Gl X "tuple") (hm3 : X.mg "list" = none) (hg3 : Gl X "list") (hx : PEI X b x wx)
    (he : starEach [x, .Tuple [.Name "tuple" p2, .Name "list" p3] k0 p4] X.env = (false, eval x X.env) :: starEach [.Tuple [.Name "tuple" p2, .Name "list" p3] k0 p4] X.env := by rfl)
    (he2 : starEach [.Tuple [.Name "tuple" p2, .Name "list" p3] k0 p4] X.env = (false, eval (.Tuple [.Name "tuple" p2, .Name "list" p3] k0 p4) X.env) :: starEach [] X.env := by rfl)
    (he3 : starEach [.Name "tuple" p2, .Name "list" p3] X.env = (false, eval (.Name "tuple" p2) X.env) :: starEach [.Name "list" p3] X.env := by rfl)
    (he4 : starEach [.Name "list" p3] X.env = (false, eval (.Name "list" p3) X.env) :: starEach [] X.env := by rfl)
    (hpl : ((backTo pos (starEach [.Tuple [.Name "tuple" p2, .Name "list" p3] k0 p4] X.env)).any fun z => z.1) = false := by rfl) : PEI X b (.Call (.Name "isinstance" p) [x, .Tuple [.Name "tuple" p2, .Name "list" p3] k0 p4] [] pos) (wUn sIsTL wx) :=
  pei_un (r := fun v H Q => 2 ≤ sizeLine ∧ ∀ q, H q = none → rIsiT X.K [v, .ref q] (upd H q (.tup [.ty "tuple", .ty "list"])) Q)
    (pe_callB call_isiT hg hm (by rfl) (pa_cons hx (pa_cons (pe_tup (pa_cons (pe_bltn hg2 hm2 (by rfl) (v := .ty "tuple") rfl) (pa_cons (pe_bltn hg3 hm3 (by rfl) (v := .ty "list") rfl) pa_nil he4) he3)) pa_nil he2) he) (by decide) (by decide) he hpl) fun c ρ σ G H d v Φ Q S i hs p => by
    refine ⟨by decide, fun q hq => ?_⟩
    obtain ⟨hd, h⟩ := hs
    exact ⟨v, q, _, .type (tyName d), _, isSeq d, rfl, upd_same, .cons (.ty _) (.cons (.ty _) .nil), i.ty (S.ex2.out (S.ex2.back hq)), kit_seq hd, p _ (.dat (.bool _)) G _ (.newH S hq) (by show Im _ _ _ _; rw [im_bool]) h⟩
/-! items of a list or a tuple -/
def sIxA : Sem2 := fun a i Φ => ∃ ds j d, (a = .list ds ∨ a = .tuple ds) ∧ i = .int j ∧ atI ds j = some d ∧ Φ (.dat d)
theorem op2_ixA : Op2 X (rIx X.K) sIxA := fun c ρ σ G H d1 d2 x y Φ Q S i1 i2 hs p => by
  obtain ⟨ds, j, d, h0, rfl, e, h⟩ := hs
  rcases h0 with rfl | rfl
  · exact .inl (op2_ixL c ρ σ G H _ _ x y Φ Q S i1 i2 ⟨ds, j, d, rfl, rfl, e, h⟩ p)
  · exact .inr (.inl (op2_ixT c ρ σ G H _ _ x y Φ Q S i1 i2 ⟨ds, j, d, rfl, rfl, e, h⟩ p))
theorem pei_ixA (hx : PEI X b x wx) (hy : PEI X b y wy) (hs : PlainIx y := by intro _ _; rfl) : PEI X b (.Subscript x y pos) (wOp sIxA wx wy) := pei_op (pe_ix ix_seq hx hy hs) op2_ixA
end
theorem r_sIs {d : PyData} {T : String} {k : Bool} {Φ : Res → Prop} (h : kitB (tyName d) T = some k) : sIs T d Φ = Φ (.dat (.bool k)) := by
  unfold sIs
  rw [h]
  simp
theorem is_none_tuple {Φ : Res → Prop} : sIs "tuple" (.none) Φ = Φ (.dat (.bool false)) := r_sIs (by show kitB "NoneType" "tuple" = some false; decide +kernel)
theorem is_none_list {Φ : Res → Prop} : sIs "list" (.none) Φ = Φ (.dat (.bool false)) := r_sIs (by show kitB "NoneType" "list" = some false; decide +kernel)
theorem is_none_bool {Φ : Res → Prop} : sIs "bool" (.none) Φ = Φ (.dat (.bool false)) := r_sIs (by show kitB "NoneType" "bool" = some false; decide +kernel)
theorem is_none_str {Φ : Res → Prop} : sIs "str" (.none) Φ = Φ (.dat (.bool false)) := r_sIs (by show kitB "NoneType" "str" = some false; decide +kernel)
theorem is_none_int {Φ : Res → Prop} : sIs "int" (.none) Φ = Φ (.dat (.bool false)) := r_sIs (by show kitB "NoneType" "int" = some false; decide +kernel)
theorem isTL_none {Φ : Res → Prop} : sIsTL (.none) Φ = Φ (.dat (.bool false)) := by simp [sIsTL, isSeq]
theorem is_bool_tuple {Φ : Res → Prop} {k : Bool} : sIs "tuple" (.bool k) Φ = Φ (.dat (.bool false)) := r_sIs (by show kitB "bool" "tuple" = some false; decide +kernel)
theorem is_bool_list {Φ : Res → Prop} {k : Bool} : sIs "list" (.bool k) Φ = Φ (.dat (.bool false)) := r_sIs (by show kitB "bool" "list" = some false; decide +kernel)
theorem is_bool_bool {Φ : Res → Prop} {k : Bool} : sIs "bool" (.bool k) Φ = Φ (.dat (.bool true)) := r_sIs (by show kitB "bool" "bool" = some true; decide +kernel)
theorem is_bool_str {Φ : Res → Prop} {k : Bool} : sIs "str" (.bool k) Φ = Φ (.dat (.bool false)) := r_sIs (by show kitB "bool" "str" = some false; decide +kernel)
theorem is_bool_int {Φ : Res → Prop} {k : Bool} : sIs "int" (.bool k) Φ = Φ (.dat (.bool true)) := r_sIs (by show kitB "bool" "int" = some true; decide +kernel)
theorem isTL_bool {Φ : Res → Prop} {k : Bool} : sIsTL (.bool k) Φ = Φ (.dat (.bool false)) := by simp [sIsTL, isSeq]
theorem is_int_tuple {Φ : Res → Prop} {i : Int} : sIs "tuple" (.int i) Φ = Φ (.dat (.bool false)) := r_sIs (by show kitB "int" "tuple" = some false; decide +kernel)
theorem is_int_list {Φ : Res → Prop} {i : Int} : sIs "list" (.int i) Φ = Φ (.dat (.bool false)) := r_sIs (by show kitB "int" "list" = some false; decide +kernel)
theorem is_int_bool {Φ : Res → Prop} {i : Int} : sIs "bool" (.int i) Φ = Φ (.dat (.bool false)) := r_sIs (by show kitB "int" "bool" = some false; decide +kernel)
theorem is_int_str {Φ : Res → Prop} {i : Int} : sIs "str" (.int i) Φ = Φ (.dat (.bool false)) := r_sIs (by show kitB "int" "str" = some false; decide +kernel)
theorem is_int_int {Φ : Res → Prop} {i : Int} : sIs "int" (.int i) Φ = Φ (.dat (.bool true)) := r_sIs (by show kitB "int" "int" = some true; decide +kernel)
theorem isTL_int {Φ : Res → Prop} {i : Int} : sIsTL (.int i) Φ = Φ (.dat (.bool false)) := by simp [sIsTL, isSeq]
theorem is_str_tuple {Φ : Res → Prop} {s : Str} : sIs "tuple" (.str s) Φ = Φ (.dat (.bool false)) := r_sIs (by show kitB "str" "tuple" = some false; decide +kernel)
theorem is_str_list {Φ : Res → Prop} {s : Str} : sIs "list" (.str s) Φ = Φ (.dat (.bool false)) := r_sIs (by show kitB "str" "list" = some false; decide +kernel)
theorem is_str_bool {Φ : Res → Prop} {s : Str} : sIs "bool" (.str s) Φ = Φ (.dat (.bool false)) := r_sIs (by show kitB "str" "bool" = some false; decide +kernel)
theorem is_str_str {Φ : Res → Prop} {s : Str} : sIs "str" (.str s) Φ = Φ (.dat (.bool true)) := r_sIs (by show kitB "str" "str" = some true; decide +kernel)
theorem is_str_int {Φ : Res → Prop} {s : Str} : sIs "int" (.str s) Φ = Φ (.dat (.bool false)) := r_sIs (by show kitB "str" "int" = some false; decide +kernel)
theorem isTL_str {Φ : Res → Prop} {s : Str} : sIsTL (.str s) Φ = Φ (.dat (.bool false)) := by simp [sIsTL, isSeq]
theorem is_list_tuple {Φ : Res → Prop} {ds : List PyData} : sIs "tuple" (.list ds) Φ = Φ (.dat (.bool false)) := r_sIs (by show kitB "list" "tuple" = some false; decide +kernel)
theorem is_list_list {Φ : Res → Prop} {ds : List PyData} : sIs "list" (.list ds) Φ = Φ (.dat (.bool true)) := r_sIs (by show kitB "list" "list" = some true; decide +kernel)
theorem is_list_bool {Φ : Res → Prop} {ds : List PyData} : sIs "bool" (.list ds) Φ = Φ (.dat (.bool false)) := r_sIs (by show kitB "list" "bool" = some false; decide +kernel)
theorem is_list_str {Φ : Res → Prop} {ds : List PyData} : sIs "str" (.list ds) Φ = Φ (.dat (.bool false)) := r_sIs (by show kitB "list" "str" = some false; decide +kernel)
theorem is_list_int {Φ : Res → Prop} {ds : List PyData} : sIs "int" (.list ds) Φ = Φ (.dat (.bool false)) := r_sIs (by show kitB "list" "int" = some false; decide +kernel)
theorem isTL_list {Φ : Res → Prop} {ds : List PyData} : sIsTL (.list ds) Φ = Φ (.dat (.bool true)) := by simp [sIsTL, isSeq]
theorem is_tuple_tuple {Φ : Res → Prop} {ds : List PyData} : sIs "tuple" (.tuple ds) Φ = Φ (.dat (.bool true)) := r_sIs (by show kitB "tuple" "tuple" = some true; decide +kernel)
theorem is_tuple_list {Φ : Res → Prop} {ds : List PyData} : sIs "list" (.tuple ds) Φ = Φ (.dat (.bool false)) := r_sIs (by show kitB "tuple" "list" = some false; decide +kernel)
theorem is_tuple_bool {Φ : Res → Prop} {ds : List PyData} : sIs "bool" (.tuple ds) Φ = Φ (.dat (.bool false)) := r_sIs (by show kitB "tuple" "bool" = some false; decide +kernel)
theorem is_tuple_str {Φ : Res → Prop} {ds : List PyData} : sIs "str" (.tuple ds) Φ = Φ (.dat (.bool false)) := r_sIs (by show kitB "tuple" "str" = some false; decide +kernel)
theorem is_tuple_int {Φ : Res → Prop} {ds : List PyData} : sIs "int" (.tuple ds) Φ = Φ (.dat (.bool false)) := r_sIs (by show kitB "tuple" "int" = some false; decide +kernel)
theorem isTL_tuple {Φ : Res → Prop} {ds : List PyData} : sIsTL (.tuple ds) Φ = Φ (.dat (.bool true)) := by simp [sIsTL, isSeq]
theorem v_bool {a b : Bool} : PyData.eqv (.bool a) (.bool b) = (a == b) := by cases a <;> cases b <;> rfl
theorem r_sIxAT {ds : List PyData} {i : Int} {Φ : Res → Prop} : sIxA (.tuple ds) (.int i) Φ = ∃ d, atI ds i = some d ∧ Φ (.dat d) := by simp [sIxA]
theorem r_sIxAL {ds : List PyData} {i : Int} {Φ : Res → Prop} : sIxA (.list ds) (.int i) Φ = ∃ d, atI ds i = some d ∧ Φ (.dat d) := by simp [sIxA]
end SF

/-! ## Texts -/
namespace SF
open PySem PySem.Spec PyProof.Rows L2
def dStr (s : Str) : PyData := .str s
theorem imL_strs {K : PySem.W.Frag} {G : Hp} {ss : List Str} : ImL K G (ss.map PyData.str) (ss.map V.str) := by
  refine .of_get (by simp) fun i d x h1 h2 => ?_
  rw [List.getElem?_map] at h1 h2
  cases e : ss[i]? with
  | none => rw [e] at h1; cases h1
  | some n =>
    rw [e] at h1 h2
    cases h1
    cases h2
    rw [im_str]
theorem imL_strs' {K : PySem.W.Frag} {G : Hp} : ∀ {ss : List Str} {xs : List V}, ImL K G (ss.map PyData.str) xs → xs = ss.map V.str
  | [], xs, h => by rw [List.map_nil, imL_nil] at h; exact h
  | s :: ss, xs, h => by
    rw [List.map_cons, imL_cons] at h
    obtain ⟨x, r, rfl, h1, h2⟩ := h
    rw [im_str] at h1
    rw [h1, imL_strs' h2]
    rfl
section
variable {X : Cx} {b : Bs} {x y e : Expr} {pos : Pos} {wx wy we : WE}
def sStrI : SemA := fun ds Φ => ∃ i, ds = [.int i] ∧ i.natAbs.log2 < 1920 ∧ Φ (.dat (.str (Str.ofString (toString i))))
theorem pei_strI {p : Pos} {wa : WA} (hm : X.mg "str" = none) (hg : Gl X "str") (h : PAI X b 1 [x] wa) (he : starEach [x] X.env = (false, eval x X.env) :: starEach [] X.env := by rfl) (hpl : ((backTo pos (starEach [] X.env)).any fun z => z.1) = false := by rfl) : PEI X b (.Call (.Name "str" p) [x] [] pos) (wCall sStrI wa) :=
  pei_cb (pe_callTy call_str_int hg hm (by rfl) h (by decide) (by decide) he hpl) fun c ρ σ G H ds xs Φ Q S il hs p => by
    obtain ⟨i, rfl, hz, h⟩ := hs
    obtain ⟨v, rfl, im⟩ := imL_1 il
    rw [im_int] at im
    subst im
    exact ⟨i, rfl, hz, p _ (.dat (.str _)) G H (.refl S) (by show Im _ _ _ _; rw [im_str]) h⟩
def sIntS : SemA := fun ds Φ => ∃ s n, ds = [.str s] ∧ intText? s = some n ∧ s.length ≤ 640 ∧ Φ (.dat (.int n))
theorem pei_intS {p : Pos} {wa : WA} (hm : X.mg "int" = none) (hg : Gl X "int") (h : PAI X b 1 [x] wa) (he : starEach [x] X.env = (false, eval x X.env) :: starEach [] X.env := by rfl) (hpl : ((backTo pos (starEach [] X.env)).any fun z => z.1) = false := by rfl) : PEI X b (.Call (.Name "int" p) [x] [] pos) (wCall sIntS wa) :=
  pei_cb (pe_callTy call_int_str hg hm (by rfl) h (by decide) (by decide) he hpl) fun c ρ σ G H ds xs Φ Q S il hs p => by
    obtain ⟨s, n, rfl, h1, h2, h⟩ := hs
    obtain ⟨v, rfl, im⟩ := imL_1 il
    rw [im_str] at im
    subst im
    exact ⟨s, n, rfl, h1, h2, p _ (.dat (.int _)) G H (.refl S) (by show Im _ _ _ _; rw [im_int]) h⟩
def sLenS : SemA := fun ds Φ => ∃ s, ds = [.str s] ∧ s.length ≤ 1000000 ∧ Φ (.dat (.int ((s.length : Nat) : Int)))
/-- a text's own method with one argument -/
def wOpS (sem : Str → PyData → (Res → Prop) → Prop) (w u : WE) : WE := fun ρ Φ Ξ => w ρ (fun r => ∃ s, r.frz = .str s ∧ u ρ (fun q => sem s q.frz Φ) Ξ) Ξ
def sSplit : Str → PyData → (Res → Prop) → Prop := fun s c Φ => ∃ t, c = .str t ∧ (t.length == 0) = false ∧ s.length ≤ 1000000 ∧ Φ (.lst ((Txt.split s t).map PyData.str))
theorem pei_split {apos : Pos} (hx : PEI X b x wx) (hy : PEI X b y wy) (h1 : starEach [y] X.env = [(false, eval y X.env)] := by rfl) (h2 : attributeBase x "split" X.env (eval x X.env) = eval x X.env := by rfl) (h3 : (apos.endLine == pos.line) = true := by rfl) :
    PEI X b (.Call (.Attribute x "split" apos) [y] [] pos) (wOpS sSplit wx wy) := pei_of (pe_split hx hy h1 h2 h3) fun c ρ σ G H Φ Ξ Q S hw p ex => by
  refine ⟨c, ρ, G, _, Ξ, S, hw, fun v1 r1 G1 H1 t1 o1 h1 => ?_, ex⟩
  obtain ⟨G1', t1', i1⟩ := freeze S t1 o1
  obtain ⟨s0, e0, h1⟩ := h1
  rw [e0, im_str] at i1
  subst i1
  refine ⟨⟨s0, rfl⟩, c, ρ, G1', _, Ξ, S.tr t1', h1, fun v2 r2 G2 H2 t2 o2 h2 => ?_, ex.tr t1'⟩
  obtain ⟨G2', t2', i2⟩ := freeze (S.tr t1') t2 o2
  obtain ⟨t, e2, hz, hl, h⟩ := h2
  rw [e2, im_str] at i2
  subst i2
  refine ⟨_, _, rfl, rfl, hz, ?_, fun q hq => ?_⟩
  · rw [sizeLine_eq]
    omega
  · have S2 := (S.tr t1').tr t2'
    exact p _ (.lst _) _ _ ((t1'.trans t2').trans (.newH S2 hq)) ⟨q, _, rfl, (t1'.trans t2').back hq, S2.ex2.back hq, upd_same, imL_strs⟩ h
def sJoin : Str → PyData → (Res → Prop) → Prop := fun s c Φ => ∃ ts, c = .list (ts.map PyData.str) ∧ (ts.map (·.length)).sum + ts.length * s.length ≤ 16777216 ∧ Φ (.dat (.str (Txt.join s ts)))
theorem pei_join {apos : Pos} (hx : PEI X b x wx) (hy : PEI X b y wy) (h1 : starEach [y] X.env = [(false, eval y X.env)] := by rfl) (h2 : attributeBase x "join" X.env (eval x X.env) = eval x X.env := by rfl) (h3 : (apos.endLine == pos.line) = true := by rfl) :
    PEI X b (.Call (.Attribute x "join" apos) [y] [] pos) (wOpS sJoin wx wy) := pei_of (pe_join hx hy h1 h2 h3) fun c ρ σ G H Φ Ξ Q S hw p ex => by
  refine ⟨c, ρ, G, _, Ξ, S, hw, fun v1 r1 G1 H1 t1 o1 h1 => ?_, ex⟩
  obtain ⟨G1', t1', i1⟩ := freeze S t1 o1
  obtain ⟨s0, e0, h1⟩ := h1
  rw [e0, im_str] at i1
  subst i1
  refine ⟨⟨s0, rfl⟩, c, ρ, G1', _, Ξ, S.tr t1', h1, fun v2 r2 G2 H2 t2 o2 h2 => ?_, ex.tr t1'⟩
  obtain ⟨G2', t2', i2⟩ := freeze (S.tr t1') t2 o2
  obtain ⟨ts, e2, hz, h⟩ := h2
  rw [e2, im_list] at i2
  obtain ⟨a, xs, rfl, ha, il⟩ := i2
  have S2 := (S.tr t1').tr t2'
  rw [imL_strs' il] at ha
  exact ⟨_, a, ts, rfl, rfl, .inl (sq_of (S2.ex2 a _ ha)), hz, p _ (.dat (.str _)) _ _ (t1'.trans t2') (by show Im _ _ _ _; rw [im_str]) h⟩
/-! a sign of a text -/
def sInS (f : Bool → Bool) : Sem2 := fun a c Φ => ∃ k z, a = .str ⟨#[k]⟩ ∧ c = .str z ∧ Φ (.dat (.bool (f (decide (k ∈ z.cps.toList)))))
theorem op2_inS : Op2 X (fun x y H Q => ∃ c z, x = V.str ⟨#[c]⟩ ∧ y = V.str z ∧ Q (V.bl (decide (c ∈ z.cps.toList))) H) (sInS fun k => k) := fun c ρ σ G H d1 d2 x y Φ Q S i1 i2 hs p => by
  obtain ⟨k, z, rfl, rfl, h⟩ := hs
  rw [im_str] at i1 i2
  exact ⟨k, z, i1, i2, p _ (.dat (.bool _)) G H (.refl S) (by show Im _ _ _ _; rw [im_bool]) h⟩
theorem op2_notInS : Op2 X (fun x y H Q => ∃ c z, x = V.str ⟨#[c]⟩ ∧ y = V.str z ∧ Q (V.bl (!decide (c ∈ z.cps.toList))) H) (sInS not) := fun c ρ σ G H d1 d2 x y Φ Q S i1 i2 hs p => by
  obtain ⟨k, z, rfl, rfl, h⟩ := hs
  rw [im_str] at i1 i2
  exact ⟨k, z, i1, i2, p _ (.dat (.bool _)) G H (.refl S) (by show Im _ _ _ _; rw [im_bool]) h⟩
theorem pei_lenS {p : Pos} {wa : WA} (hm : X.mg "len" = none) (hg : Gl X "len") (h : PAI X b 1 [x] wa) (he : starEach [x] X.env = (false, eval x X.env) :: starEach [] X.env := by rfl) (hpl : ((backTo pos (starEach [] X.env)).any fun z => z.1) = false := by rfl) : PEI X b (.Call (.Name "len" p) [x] [] pos) (wCall sLenS wa) :=
  pei_cb (pe_callB call_len_str hg hm PySem.boot_len h (by decide) (by decide) he hpl) fun c ρ σ G H ds xs Φ Q S il hs p => by
    obtain ⟨s, rfl, hz, h⟩ := hs
    obtain ⟨v, rfl, im⟩ := imL_1 il
    rw [im_str] at im
    subst im
    exact ⟨s, rfl, by rw [sizeLine_eq]; omega, p _ (.dat (.int _)) G H (.refl S) (by show Im _ _ _ _; rw [im_int]) h⟩
/-! x.extend(e) -/
def wExt (i : Nat) (w : WE) : WS := fun ρ Ψ => ∃ ds, ρ[i]? = some (.ls ds) ∧ w ρ (fun r => ∃ es, r.frz = .list es ∧ ds.length + es.length ≤ 1000000 ∧ Ψ.nx (ρ.set i (.ls (ds ++ es)))) Ψ.xc
theorem psi_ext (i : Nat) {nm : Str} {np apos cpos : Pos} (he : PEI X b e we) (hN : X.N[i]? = some nm := by rfl) (hv : Vis X.env.scope nm := by first | exact Or.inl rfl | exact Or.inr (Or.inl rfl) | exact Or.inr (Or.inr rfl)) (hd : (nm == ("__debug__" : Str)) = false := by decide)
    (hcd : (nm == ("__classdict__" : Str)) = false := by decide) (hb : attributeBase (.Name nm np) "extend" X.env (eval (.Name nm np) X.env) = eval (.Name nm np) X.env := by rfl)
    (hfew : ((backTo cpos (starEach [e] X.env)).all (fun x => !x.1) && (backToKw cpos (keywordEach [] X.env)).all (fun x => x.1.isSome) && decide ([e].length + ([] : List Keyword).length + (if ([] : List Keyword).isEmpty then 0 else 1) < 30)) = true := by rfl)
    (hline : (apos.endLine == cpos.line) = true := by rfl) (hse : starEach [e] X.env = (false, eval e X.env) :: starEach [] X.env := by rfl) (hpl : (backTo cpos (starEach [] X.env)).any (·.1) = false := by rfl)
    (hs : swapsWith (.Call (.Attribute (.Name nm np) "extend" apos) [e] [] cpos) none pos.line X.env = pure false := by rfl) :
    PSI X b (.Expr (.Call (.Attribute (.Name nm np) "extend" apos) [e] [] cpos) pos) (wExt i we) :=
  psi_of (ps_expr (pe_bm PySem.F.plainAttrs_list PySem.F.slot_list_extend PySem.F.type_list_extend mt_extend (pe_var hN hv hd hcd) (pa_cons he pa_nil hse) hb hfew hline hse hpl) hs) fun c ρ σ G H Ψ D S hw p => by
    obtain ⟨ds, h1, hw⟩ := hw
    obtain ⟨l, xs, h2, h3, h4, h5⟩ := S.mutAt h1
    refine ⟨.ref l, h2, .inl ⟨rfl, xs, sq_of h3⟩, c, ρ, G, _, Ψ.xc, S, hw, fun v r G1 H1 t1 o1 hn => ?_, p.exc S⟩
    obtain ⟨G2, t2, im⟩ := freeze S t1 o1
    obtain ⟨es, e0, hz, hn⟩ := hn
    rw [e0, im_list] at im
    obtain ⟨a, ys, rfl, ha, il⟩ := im
    have S2 := S.tr t2
    have k3 := t2.keep l _ h3 (S.neRow h1 h2) ntL
    refine ⟨l, a, xs, ys, rfl, rfl, k3, S2.ex2 a _ ha, ?_, ?_⟩
    · rw [← h5.len, ← il.len]
      exact Nat.le_trans hz (by decide)
    · exact p.nx _ _ G2 _ (S2.write h1 h2 ((h5.mono t2.eg).append il)) hn
end
/-! ### comprehensions over a text -/
theorem lc_str {x : Str} {g : TG} {tt : TT} {te : TE} {vs : List Nat} {σ : L2.St} {H1 : Hp} {D : Addr} {Qd : Hp → Prop} (Pv : Nat → Hp → Prop) (h0 : Pv 0 (upd H1 D (.lst [])))
    (hs : ∀ i k H, x.cps[i]? = some k → Pv i H → g (.str ⟨#[k]⟩) (wipe σ vs) H fun σ2 H2 => wipe σ2 vs = wipe σ vs ∧ tt σ2 H2 fun b H3 =>
      if b = true then te σ2 H3 fun y H4 => ∃ acc, H4 D = some (.lst acc) ∧ acc.length < sizeLine ∧ Pv (i + 1) (upd H4 D (.lst (acc ++ [y]))) else Pv (i + 1) H3) (hd : ∀ H, Pv x.cps.size H → Qd H) :
    ∃ W : Nat → Nat → Hp → Prop, (∃ m, W 0 m (upd H1 D (.lst []))) ∧ ∀ i m H, W i m H →
      ((Its x).stop i H ∧ Qd H) ∨ ((Its x).go i H ∧ ∃ Nx : Hp → Prop, (∀ H', Nx H' → ∃ m', m' < m ∧ W (i + 1) m' H') ∧ ∀ v H', (Its x).yld i H v H' → g v (wipe σ vs) H' fun σ2 H2 => wipe σ2 vs = wipe σ vs ∧ tt σ2 H2 fun b H3 =>
        if b = true then te σ2 H3 fun y H4 => ∃ acc, H4 D = some (.lst acc) ∧ acc.length < sizeLine ∧ Nx (upd H4 D (.lst (acc ++ [y]))) else Nx H3) := by
  refine ⟨fun i m H => m = x.cps.size - i ∧ i ≤ x.cps.size ∧ Pv i H, ⟨x.cps.size, by simp, Nat.zero_le _, h0⟩, ?_⟩
  rintro i m H ⟨rfl, hi, p⟩
  by_cases hlt : i < x.cps.size
  · refine .inr ⟨hlt, Pv (i + 1), fun H' p' => ⟨x.cps.size - (i + 1), by omega, rfl, hlt, p'⟩, fun v H' y => ?_⟩
    obtain ⟨e, k, hk, y⟩ := y
    subst e y
    exact hs i k _ hk p
  · have e : i = x.cps.size := by omega
    subst e
    exact .inl ⟨Nat.le_refl _, hd H p⟩
/-- the signs of a text, each as a text -/
def signs (s : Str) : List PyData := s.cps.toList.map fun k => PyData.str ⟨#[k]⟩
def wLcS (tgt : Tgt) (vs : List Nat) (wi : WE) (wt : WT) (w : WE) : WE := fun ρ Φ Ξ => wi ρ (fun r => ∃ s, r.frz = .str s ∧ LcI tgt vs wt w (signs s) ρ Φ) Ξ
section
variable {X : Cx} {b : Bs} {tgt : Tgt} {wt : WT} {w we : WE} {own : List (Str × Nat)} {scope : Scope} {tg e elt : Expr} {ifs : List Expr} {pos : Pos} {K : PySem.W.Frag}
theorem lcS_ok (hts : ∀ n ∈ tgt.slots, n ∈ own.map (·.2)) (σ : L2.St) (H : Hp) (Q : VK) (h : teOf K b (wLcS tgt (own.map (·.2)) we wt w) σ H Q) : tLc (iStr (teOf K b we)) (tgOf K tgt) (ttOf K b wt) (teOf K b w) (own.map (·.2)) σ H Q := by
  obtain ⟨c, ρ, G, Φ, Ξ, S, hw, p, ex⟩ := h
  refine ⟨c, ρ, G, _, Ξ, S, hw, fun v r G1 H1 t1 o1 h1 => ?_, ex⟩
  obtain ⟨G2, t2, im⟩ := freeze S t1 o1
  obtain ⟨s, e, hn, I, h0, hI, hd⟩ := h1
  rw [e, im_str] at im
  subst im
  have S2 := S.tr t2
  refine ⟨s, rfl, fun D hD => ?_⟩
  have hlen : (signs s).length = s.cps.size := by unfold signs; rw [List.length_map, Array.length_toList]
  refine lc_str (x := s) (PvLc K ρ σ G2 H1 D I) ⟨G2, [], [], Tr.newH S2 hD, upd_same, S2.ex2.back hD, .nil, h0⟩ (fun i k H' hk ⟨G', acc, ys, t, k1, k2, k3, k4⟩ => ?_) (fun H' ⟨G', acc, ys, t, k1, k2, k3, k4⟩ => ?_)
  · have hk2 : (signs s)[i]? = some (.str ⟨#[k]⟩) := by
      unfold signs
      rw [List.getElem?_map, Array.getElem?_toList, hk]
      rfl
    exact lc_turn (b := b) (Pv := PvLc K ρ σ G2 H1 D I) hts S2 hn t hD k1 k2 k3 k4 (by rw [im_str]) (hI i _ hk2) fun G' H' acc' xs' q1 q2 q3 q4 q5 => ⟨G', acc', xs', q1, q2, q3, q4, q5⟩
  · exact p _ (.lst acc) G' H' (t2.trans t) ⟨D, ys, rfl, t2.back hD, k2, k1, k3⟩ (hd acc (by rw [hlen]; exact k4))
theorem pei_lcS (hc : X.calm = true) (hN : X.N.Nodup) (hi : PEI X b e we) (B : Blk X b scope own tg ifs elt tgt wt w) (hs : ∀ x, foldedSetIterable e X.env x = pure x := by intro _; rfl) : PEI X b (.ListComp elt [⟨tg, e, ifs, 0⟩] scope pos) (wLcS tgt (own.map (·.2)) we wt w) :=
  pe_imp (pe_lc hc hN (pi_str hi) B.ok B.hg B.ht B.he hs) (lcS_ok B.sl)
/-! ### a table of the top, its keys texts -/
def sKdIn (g : Str → Bool) : Sem1 := fun d Φ => ∃ z, d = .str z ∧ Φ (.dat (.bool (g z)))
def sKdAt (g : Str → Option Str) : Sem1 := fun d Φ => ∃ z u, d = .str z ∧ g z = some u ∧ Φ (.dat (.str u))
/-- what the table tells of a text -/
def KdAs (K : PySem.W.Frag) (d : Addr) (g : Str → Option Str) : Prop := ∀ z, PySem.W.nsIn K d z = some none ∧ g z = none ∨ ∃ u t, PySem.W.nsIn K d z = some (some (.str u t)) ∧ g z = some u
variable {d : Addr} {es : Array DictEntry} {n : Nat} {x : Expr} {wx : WE} {nm : Str} {np : Pos}
theorem pei_notInKd {g : Str → Option Str} (D : KDict X.K X.w d es n) (hk : KdAs X.K d g) (hg : Gl X nm) (hm : X.mg nm = some (.ref d)) (hx : PEI X b x wx) (hn2 : (nm == Str.ofString "__debug__") = false := by decide) : PTI X b (.Compare x [.NotIn] [.Name nm np] pos) (wTest (wUn (sKdIn fun z => !(g z).isSome) wx)) :=
  pti_of (pt_cmpR (op_notIn_kd D) hx (pe_glob hg hm (v := .ref d) rfl hn2) (by rfl)) fun c ρ σ G H Φ Ξ Q S hw p ex => by
    refine ⟨c, ρ, G, _, Ξ, S, hw, fun v1 r1 G1 H1 t1 o1 h1 => ?_, ex⟩
    obtain ⟨G1', t1', i1⟩ := freeze S t1 o1
    obtain ⟨z, e0, k, e1, h⟩ := h1
    rw [e0, im_str] at i1
    cases e1
    have h : Φ (!(g z).isSome) := h
    rcases hk z with ⟨h1, h2⟩ | ⟨u, t, h1, h2⟩
    · exact ⟨z, none, i1, rfl, h1, _, rfl, p _ G1' H1 t1' (by rw [h2] at h; exact h)⟩
    · exact ⟨z, _, i1, rfl, h1, _, rfl, p _ G1' H1 t1' (by rw [h2] at h; exact h)⟩
theorem pei_ixKd {g : Str → Option Str} (D : KDict X.K X.w d es n) (hk : KdAs X.K d g) (hg : Gl X nm) (hm : X.mg nm = some (.ref d)) (hx : PEI X b x wx) (hn2 : (nm == Str.ofString "__debug__") = false := by decide) (hs : PlainIx x := by intro _ _; rfl) : PEI X b (.Subscript (.Name nm np) x pos) (wUn (sKdAt g) wx) :=
  pei_un (r := fun v H Q => rIxD X.K X.w (.ref d) v H Q) (pe_ix ix_kdict (pe_glob hg hm (v := .ref d) rfl hn2) hx hs) fun c ρ σ G H dd v Φ Q S i hs p => by
    obtain ⟨z, u, rfl, hz, h⟩ := hs
    rw [im_str] at i
    rcases hk z with ⟨h1, h2⟩ | ⟨u2, t, h1, h2⟩
    · rw [h2] at hz; cases hz
    · rw [h2] at hz
      cases hz
      exact ⟨d, z, .str u, rfl, i, ⟨es, n, _, D.at_, D.lit, h1, ⟨t, rfl⟩⟩, p _ (.dat (.str _)) G H (.refl S) (by show Im _ _ _ _; rw [im_str]) h⟩
end
/-! ### the signs of kinds of cells -/
def signsG (z : Str) : Option Str := if (Str.ofString "r" == z) = true then some (Str.ofString "row") else if (Str.ofString "f" == z) = true then some (Str.ofString "free") else none
theorem kd_signs {K : PySem.W.Frag} {a : Addr} {ha hb : Int} {ta tb tc td} {n : Nat} {oc : Value} {od : Option Addr} {sl : Array (Option Value)} (h : K.lookup a = some ⟨oc, od, .dict #[⟨ha, .str (Str.ofString "r") ta, .str (Str.ofString "row") tb⟩, ⟨hb, .str (Str.ofString "f") tc, .str (Str.ofString "free") td⟩] n, sl⟩) : KdAs K a signsG := fun z => by
  rw [PySem.W.nsIn, h]
  have e1 : (Value.str (Str.ofString "r") ta).isStr z = (Str.ofString "r" == z) := rfl
  have e2 : (Value.str (Str.ofString "f") tc).isStr z = (Str.ofString "f" == z) := rfl
  unfold signsG
  cases h1 : (Str.ofString "r" == z) with
  | true =>
    right
    refine ⟨_, tb, ?_, by rw [if_pos rfl]⟩
    show (match List.find? (fun x : DictEntry => x.key.isStr z) [⟨ha, .str (Str.ofString "r") ta, .str (Str.ofString "row") tb⟩, ⟨hb, .str (Str.ofString "f") tc, .str (Str.ofString "free") td⟩] with | some e => some (some e.val) | none => _) = _
    rw [List.find?_cons_of_pos (by rw [e1]; exact h1)]
  | false =>
    rw [if_neg (by decide)]
    cases h2 : (Str.ofString "f" == z) with
    | true =>
      right
      refine ⟨_, td, ?_, by rw [if_pos rfl]⟩
      show (match List.find? (fun x : DictEntry => x.key.isStr z) [⟨ha, .str (Str.ofString "r") ta, .str (Str.ofString "row") tb⟩, ⟨hb, .str (Str.ofString "f") tc, .str (Str.ofString "free") td⟩] with | some e => some (some e.val) | none => _) = _
      rw [List.find?_cons_of_neg (by rw [e1, h1]; decide), List.find?_cons_of_pos (by rw [e2]; exact h2)]
    | false =>
      left
      refine ⟨?_, by rw [if_neg (by decide)]⟩
      show (match List.find? (fun x : DictEntry => x.key.isStr z) [⟨ha, .str (Str.ofString "r") ta, .str (Str.ofString "row") tb⟩, ⟨hb, .str (Str.ofString "f") tc, .str (Str.ofString "free") td⟩] with | some e => some (some e.val) | none => if ([⟨ha, .str (Str.ofString "r") ta, .str (Str.ofString "row") tb⟩, ⟨hb, .str (Str.ofString "f") tc, .str (Str.ofString "free") td⟩] : List DictEntry).any (·.refKey) = true then none else some none) = _
      rw [List.find?_cons_of_neg (by rw [e1, h1]; decide), List.find?_cons_of_neg (by rw [e2, h2]; decide), List.find?_nil]
      rfl
/-! ### what texts tell of cells -/
def numS : Lk → Str
  | none => Str.ofString "-"
  | some n => Str.ofString (toString (n : Int))
def headS : Cell → Str
  | .row _ => Str.ofString "r"
  | .free _ => Str.ofString "f"
def whatL : Cell → Lk
  | .row n => some n
  | .free l => l
def cellS (c : Cell) : Str := headS c ++ numS (whatL c)
def wordsF (f : File) : List Str := numS f.head :: f.cells.map cellS
def textF (f : File) : Str := Txt.join (Str.ofString " ") (wordsF f)
/-- a number's text, looked through -/
def numOk (n : Nat) : Bool :=
  let s := Str.ofString (toString (n : Int))
  (intText? s == some (n : Int)) && decide (1 ≤ s.length) && decide (s.length ≤ 3) && (s.cps.toList.all fun k => decide (k ∈ (Str.ofString "0123456789").cps.toList)) && (!(s == Str.ofString "-")) && (match s.cps.toList with | k :: _ => !((⟨#[k]⟩ : Str) == Str.ofString "0") || (s == Str.ofString "0") | [] => false) && (s.cps.toList.all fun k => !(k == 32)) && PyData.strOk s && PyData.strOk (Str.ofString "r" ++ s) && !(Str.ofString "r" ++ s == Str.ofString "r-")
theorem numOk_all : ((List.range 1000).all numOk) = true := by decide +kernel
section
variable {Φ : Res → Prop} {s t z : Str} {i : Int} {k : Nat}
theorem r_sIxS : sIxS (.str s) (.int i) Φ = (s.length ≤ 1000000 ∧ ∃ k, atI s.cps.toList i = some k ∧ Φ (.dat (.str ⟨#[k]⟩))) := by simp [sIxS]
theorem r_sStrI : sStrI [.int i] Φ = (i.natAbs.log2 < 1920 ∧ Φ (.dat (.str (Str.ofString (toString i))))) := by simp [sStrI]
theorem r_sIntS : sIntS [.str s] Φ = ∃ n, intText? s = some n ∧ s.length ≤ 640 ∧ Φ (.dat (.int n)) := by simp [sIntS]
theorem r_sLenS : sLenS [.str s] Φ = (s.length ≤ 1000000 ∧ Φ (.dat (.int ((s.length : Nat) : Int)))) := by simp [sLenS]
theorem r_sInS {f : Bool → Bool} : sInS f (.str ⟨#[k]⟩) (.str z) Φ = Φ (.dat (.bool (f (decide (k ∈ z.cps.toList))))) := by simp [sInS]
theorem r_sCatS : sCatS (.str s) (.str t) Φ = (s.length + t.length ≤ 1000000 ∧ Φ (.dat (.str (s ++ t)))) := by simp [sCatS]
theorem r_sSlS {lo hi : Option Int} : sSlS (.str s) lo hi Φ = (s.length ≤ 1000000 ∧ Φ (.dat (.str (cutS s lo hi)))) := by simp [sSlS]
theorem r_exs {p : Str → Prop} : (∃ x, PyData.str s = PyData.str x ∧ p x) = p s := by simp
theorem r_sSplit : sSplit s (.str t) Φ = ((t.length == 0) = false ∧ s.length ≤ 1000000 ∧ Φ (.lst ((Txt.split s t).map PyData.str))) := by simp [sSplit]
theorem r_sKdIn {g : Str → Bool} : sKdIn g (.str z) Φ = Φ (.dat (.bool (g z))) := by simp [sKdIn]
theorem r_sKdAt {g : Str → Option Str} : sKdAt g (.str z) Φ = ∃ u, g z = some u ∧ Φ (.dat (.str u)) := by simp [sKdAt]
end
/-- what is known of a number's text -/
structure NumF (n : Nat) : Prop where
  val : intText? (numS (some n)) = some (n : Int)
  lo : 1 ≤ (numS (some n)).length
  hi : (numS (some n)).length ≤ 3
  fig : ∀ k ∈ (numS (some n)).cps.toList, k ∈ (Str.ofString "0123456789").cps.toList
  ne : (numS (some n) == Str.ofString "-") = false
  fst : ∃ k r, (numS (some n)).cps.toList = k :: r ∧ (((⟨#[k]⟩ : Str) == Str.ofString "0") && !(numS (some n) == Str.ofString "0")) = false
  sp : 32 ∉ (numS (some n)).cps.toList
  ok : PyData.strOk (numS (some n)) = true
  rok : PyData.strOk (Str.ofString "r" ++ numS (some n)) = true
  rne : (Str.ofString "r" ++ numS (some n) == Str.ofString "r-") = false
theorem numF {n : Nat} (h : n ≤ 999) : NumF n := by
  have h := List.all_eq_true.mp numOk_all n (List.mem_range.mpr (by omega))
  unfold numOk at h
  simp only [Bool.and_eq_true, decide_eq_true_eq, List.all_eq_true, beq_iff_eq, Bool.not_eq_true', beq_eq_false_iff_ne] at h
  obtain ⟨⟨⟨⟨⟨⟨⟨⟨⟨h1, h2⟩, h3⟩, h4⟩, h5⟩, h6⟩, h7⟩, h8⟩, h9⟩, h10⟩ := h
  refine ⟨h1, h2, h3, h4, ?_, ?_, fun z => h7 32 z rfl, h8, h9, ?_⟩
  · rw [Bool.eq_false_iff]
    intro z
    exact h5 (eq_of_beq z)
  · show ∃ k r, (Str.ofString (toString (n : Int))).cps.toList = k :: r ∧ _
    cases e : (Str.ofString (toString (n : Int))).cps.toList with
    | nil => rw [e] at h6; cases h6
    | cons k r =>
      rw [e] at h6
      refine ⟨k, r, rfl, ?_⟩
      have h6 : (!((⟨#[k]⟩ : Str) == Str.ofString "0") || (Str.ofString (toString (n : Int)) == Str.ofString "0")) = true := h6
      show (((⟨#[k]⟩ : Str) == Str.ofString "0") && !(Str.ofString (toString (n : Int)) == Str.ofString "0")) = false
      revert h6
      cases ((⟨#[k]⟩ : Str) == Str.ofString "0") <;> cases (Str.ofString (toString (n : Int)) == Str.ofString "0") <;> decide
  · rw [Bool.eq_false_iff]
    intro z
    exact h10 (eq_of_beq z)
end SF

/-! ## What is told is changed behind: old data, new data -/
namespace SF
open PySem PySem.Spec PyProof.Rows L2
/-- a heap's part without lists -/
def noLst (G : Hp) : Hp := fun a => match G a with
  | some (.lst _) => none
  | o => o
theorem noLst_ex {G : Hp} : Ex (noLst G) G := fun a o h => by
  unfold noLst at h
  cases e : G a with
  | none => rw [e] at h; cases h
  | some u =>
    rw [e] at h
    cases u <;> first | exact h | cases h
theorem noLst_t {G : Hp} : ExT G (noLst G) := fun a xs r => by
  rcases r with r | ⟨o, r⟩
  · refine .inl ?_
    unfold noLst
    rw [r]
  · refine .inr ⟨o, ?_⟩
    unfold noLst
    rw [r]
theorem noLst_l {G : Hp} {a : Addr} {xs : List V} : noLst G a ≠ some (.lst xs) := fun h => by
  unfold noLst at h
  cases e : G a with
  | none => rw [e] at h; cases h
  | some u =>
    rw [e] at h
    cases u <;> cases h
theorem noLst_none {G : Hp} {a : Addr} (h : G a = none) : noLst G a = none := by
  unfold noLst
  rw [h]
def uni (G G' : Hp) : Hp := fun a => match G a with
  | some o => some o
  | none => G' a
theorem uni_l {G G' : Hp} : Ex G (uni G G') := fun a o h => by
  unfold uni
  rw [h]
section
variable {K : PySem.W.Frag} {c : Cn} {ρ : Rho} {σ : L2.St} {G H G' H' : Hp}
/-- a call over what is no list: all lists of the answer are new -/
theorem call_new (S : Sat K c ρ σ G H) (f : Fin' K ⟨none, noLst G, H⟩ G' H') {r : Res} {v : V} (o : Out K H G' H' r v) :
    ∃ G2 Gn, Tr K ρ σ G H G2 H' ∧ Im K Gn r.frz v ∧ Ex Gn G2 ∧ ∀ a xs, Gn a = some (.lst xs) → H a = none := by
  obtain ⟨Gn, hn, im, hnH, hav, hEx⟩ : ∃ Gn, Ex G' Gn ∧ Im K Gn r.frz v ∧ Ex Gn H' ∧ (∀ a, noLst G a = none → H a ≠ none → Gn a = none) ∧ Ex (noLst G) Gn := by
    cases r with
    | dat d => exact ⟨G', .refl _, o, f.ex2, f.avoid, f.ex1⟩
    | lst ds =>
      obtain ⟨l, xs, rfl, o1, o2, o3, o4⟩ := o
      have hx : Ex G' (upd G' l (.lst xs)) := .new o2
      refine ⟨upd G' l (.lst xs), hx, ?_, fun a u h => ?_, fun a h h' => ?_, f.ex1.trans hx⟩
      · show Im K _ (.list ds) _
        rw [im_list]
        exact ⟨l, xs, rfl, upd_same, o4.mono hx⟩
      · by_cases q : a = l
        · subst q
          rw [upd_same] at h
          cases h
          exact o3
        · rw [upd_ne q] at h
          exact f.ex2 a u h
      · rw [upd_ne (show a ≠ l from fun e => h' (by rw [e]; exact o1))]
        exact f.avoid a h h'
  have hkeep : ∀ a o, G a = some o → H' a = some o := fun a o h => by
    by_cases q : ∃ xs, o = .lst xs
    · obtain ⟨xs, rfl⟩ := q
      exact f.keep a _ (S.ex2 a _ h) (by intro z; cases z) ntL
    · refine f.ex2 a o (f.ex1 a o ?_)
      show noLst G a = some o
      unfold noLst
      rw [h]
      cases o with
      | lst xs => exact absurd ⟨xs, rfl⟩ q
      | _ => rfl
  have new : ∀ a xs, Gn a = some (.lst xs) → H a = none := fun a xs h => by
    cases e : H a with
    | none => rfl
    | some u =>
      cases e2 : noLst G a with
      | none => rw [hav a e2 (by rw [e]; exact fun z => by cases z)] at h; cases h
      | some w =>
        rw [hEx a w e2] at h
        cases h
        exact absurd e2 noLst_l
  have same : ∀ a o o', Gn a = some o → G a = some o' → o' = o := fun a o o' h h' => by
    have h1 := hkeep a o' h'
    have h2 := hnH a o h
    rw [h1] at h2
    exact Option.some.inj h2
  refine ⟨uni G Gn, Gn, ⟨uni_l, fun a o h => ?_, fun a o h _ m => f.keep a o h (by intro z; cases z) m, f.tbl, fun a h h' => ?_, fun q hq => ?_⟩, im, fun a o h => ?_, new⟩
  · unfold uni at h
    cases e : G a with
    | some u =>
      rw [e] at h
      cases h
      exact hkeep a _ e
    | none =>
      rw [e] at h
      exact hnH a o h
  · unfold uni
    rw [h]
    exact hav a (noLst_none h) h'
  · have z := S.rowAt hq
    refine z.go uni_l ?_ fun o e => f.keep q _ e (by intro z; cases z) ntL
    unfold uni
    rw [z.1]
    exact hav q (noLst_none z.1) z.there
  · unfold uni
    cases e : G a with
    | none => exact h
    | some u => rw [same a o u h e]
/-- a slot's entry that tells less -/
theorem Sat.reent (S : Sat K c ρ σ G H) {i : Nat} {e' : Ent} (h : ∀ o, σ[i]? = some o → SlotOk K G H e' o) (hm : e'.isM = false) : Sat K c (ρ.set i e') σ G H := by
  have gt : ∀ {j : Nat} {e : Ent}, (ρ.set i e')[j]? = some e → e.isM = true → ρ[j]? = some e := fun {j e} h1 h2 => by
    by_cases q : i = j
    · subst q
      by_cases k : i < ρ.length
      · rw [List.getElem?_set_self k] at h1
        cases h1
        rw [hm] at h2
        cases h2
      · rw [List.getElem?_eq_none (by rw [List.length_set]; omega)] at h1
        cases h1
    · rw [List.getElem?_set_ne q] at h1
      exact h1
  refine ⟨S.ex1, S.ex2, S.keep, S.tbl, S.there, S.avoid, S.mrow, S.mhe, by rw [List.length_set, S.len], fun j e o h1 h2 => ?_, fun j e l h1 h2 h3 => S.own j e l (gt h1 h2) h2 h3, fun j k e f l hne h1 h2 m1 m2 h3 => S.ne j k e f l hne (gt h1 m1) (gt h2 m2) m1 m2 h3⟩
  by_cases q : i = j
  · subst q
    have k : i < ρ.length := by
      have := (List.getElem?_eq_some_iff.mp h1).1
      rwa [List.length_set] at this
    rw [List.getElem?_set_self k] at h1
    cases h1
    exact h o h2
  · rw [List.getElem?_set_ne q] at h1
    exact S.slot j e o h1 h2
end
end SF

/-! ## for s in x[1:]: s.append(0) -/
namespace SF
open PySem PySem.Spec PyProof.Rows L2
def tSpoil (K : PySem.W.Frag) (i s : Nat) : TS := fun D σ H => ∃ (t : Addr) (v0 : V) (ls : List Addr), σ[i]? = some (some (.ref t)) ∧ SqT K H t (v0 :: ls.map V.ref) ∧ (∀ l ∈ ls, ∃ xs, H l = some (.lst xs) ∧ xs.length ≤ 1000) ∧ ls.length ≤ 10 ∧ s < σ.length ∧
  ∀ (o : Option V) H', (∀ a u, a ∉ ls → H a = some u → H' a = some u) → (∀ a, H a ≠ none → H' a ≠ none) → D.nx (σ.set s o) H'
section
variable {X : Cx} {pos p1 p2 p3 pn ps pi p0 apos cpos epos : Pos} {ni ns : Str} {j1 j0 : Nat}
theorem ps_spoil (i s : Nat) (hp : PassesOwn (model X.prog X.w) X.A X.env X.xe) (hc : X.calm = true) (hN : X.N.Nodup) (hi : X.N[i]? = some ni := by rfl) (hsn : X.N[s]? = some ns := by rfl) (hvi : Vis X.env.scope ni := by first | exact Or.inl rfl | exact Or.inr (Or.inl rfl) | exact Or.inr (Or.inr rfl))
    (hvs : Vis X.env.scope ns := by first | exact Or.inl rfl | exact Or.inr (Or.inl rfl) | exact Or.inr (Or.inr rfl)) (hls : L2.Loc X.env.scope ns := by first | exact Or.inl rfl | exact Or.inr rfl)
    (d1 : (ni == ("__debug__" : Str)) = false := by decide) (d2 : (ni == ("__classdict__" : Str)) = false := by decide) (d3 : (ns == ("__debug__" : Str)) = false := by decide) (d4 : (ns == ("__classdict__" : Str)) = false := by decide)
    (hf : X.fn ns = true ∨ X.env.scope.names.lookup ns = some .local := by first | exact .inl rfl | exact .inr rfl)
    (hb : attributeBase (.Name ns pn) "append" X.env (eval (.Name ns pn) X.env) = eval (.Name ns pn) X.env := by rfl)
    (hfew : ((backTo cpos (starEach [.Constant (.int 0) j0 p0] X.env)).all (fun x => !x.1) && (backToKw cpos (keywordEach [] X.env)).all (fun x => x.1.isSome) && decide ([Expr.Constant (.int 0) j0 p0].length + ([] : List Keyword).length + (if ([] : List Keyword).isEmpty then 0 else 1) < 30)) = true := by rfl)
    (hline : (apos.endLine == cpos.line) = true := by rfl) (hse : starEach [.Constant (.int 0) j0 p0] X.env = (false, eval (.Constant (.int 0) j0 p0) X.env) :: starEach [] X.env := by rfl) (hpl : (backTo cpos (starEach [] X.env)).any (·.1) = false := by rfl)
    (hs : swapsWith (.Call (.Attribute (.Name ns pn) "append" apos) [.Constant (.int 0) j0 p0] [] cpos) none epos.line X.env = pure false := by rfl)
    (hfs : ∀ x, foldedSetIterable (.Subscript (.Name ni pi) (.Slice (some (.Constant (.int 1) j1 p1)) none none p2) p3) X.env x = pure x := by intro _; rfl) :
    PS X (.For (.Name ns ps) (.Subscript (.Name ni pi) (.Slice (some (.Constant (.int 1) j1 p1)) none none p2) p3) [.Expr (.Call (.Attribute (.Name ns pn) "append" apos) [.Constant (.int 0) j0 p0] [] cpos) epos] [] pos) (tSpoil X.K i s) :=
  ps_imp (ps_for hp hc (pi_tup (pe_slice sl_tupA (pe_var hi hvi d1 d2) (po_some pe_int) po_none)) (pg_name hN hsn hls hf) (pss_one (ps_expr (pe_bm PySem.F.plainAttrs_list PySem.F.slot_list_append PySem.F.type_list_append mt_append (pe_var hsn hvs d3 d4) (pa_cons pe_int pa_nil hse) hb hfew hline hse hpl) hs)) hfs) fun D σ H h => by
    obtain ⟨t, v0, ls, h1, h2, h3, h4, h5, q⟩ := h
    have ec : cutV (v0 :: ls.map V.ref) (some 1) none = ls.map V.ref := by
      unfold cutV
      rw [HT.sIx_none, show HT.sIx (v0 :: ls.map V.ref).length 0 (some 1) = min 1 (v0 :: ls.map V.ref).length from HT.sIx_nat _ _ 1]
      rw [show min 1 (v0 :: ls.map V.ref).length = 1 by rw [List.length_cons]; omega]
      show ((v0 :: ls.map V.ref).drop 1).take ((v0 :: ls.map V.ref).length - 1) = _
      rw [List.drop_succ_cons, List.drop_zero, List.length_cons, Nat.add_sub_cancel, List.take_length]
    refine ⟨.ref t, h1, 1, rfl, t, _, rfl, h2, fun z => ?_, fun _ p hpn => ?_⟩
    · exfalso
      have z1 := z.1
      rw [show HT.sIx (v0 :: ls.map V.ref).length 0 (some 1) = min 1 (v0 :: ls.map V.ref).length from HT.sIx_nat _ _ 1, List.length_cons] at z1
      omega
    · rw [ec]
      have hpl' : p ∉ ls := fun z => by
        obtain ⟨xs, hx, _⟩ := h3 p z
        rw [hpn] at hx
        cases hx
      refine ⟨p, rfl, ⟨_, st_of upd_same⟩, for_tup (xs := ls.map V.ref) (fun k σ' H' => ∃ o, σ' = σ.set s o ∧ H' p = some (.tup (ls.map V.ref)) ∧ (∀ a u, a ∉ ls → H a = some u → H' a = some u) ∧ (∀ a, H a ≠ none → H' a ≠ none) ∧ ∀ l ∈ ls, ∃ xs, H' l = some (.lst xs) ∧ xs.length ≤ 1000 + k) ?_ (fun k σ' H' _ ⟨o, _, e, _⟩ => st_of e) (fun k x σ' H' hx ⟨o, e1, e2, e3, e4, e5⟩ => ?_) (fun σ' H' ⟨o, e1, e2, e3, e4, e5⟩ => by rw [e1]; exact q o H' e3 e4)⟩
      · refine ⟨(σ[s]?).getD none, List.ext_getElem? fun n => ?_, upd_same, fun a u _ h => ?_, fun a h => ?_, fun l hl => ?_⟩
        · rw [List.getElem?_set]
          by_cases z : s = n
          · subst z
            rw [if_pos rfl]
            by_cases y : s < σ.length
            · rw [if_pos y, List.getElem?_eq_getElem y]
              rfl
            · rw [if_neg y, List.getElem?_eq_none (by omega)]
          · rw [if_neg z]
        · rw [upd_ne (ne_of_none h hpn)]
          exact h
        · rw [upd_ne (show a ≠ p from fun e => h (e ▸ hpn))]
          exact h
        · obtain ⟨xs, hx, hz⟩ := h3 l hl
          exact ⟨xs, by rw [upd_ne (ne_of_none hx hpn)]; exact hx, by omega⟩
      · rw [List.getElem?_map] at hx
        cases hk : ls[k]? with
        | none => rw [hk] at hx; cases hx
        | some l =>
          rw [hk] at hx
          cases hx
          have hlm : l ∈ ls := List.mem_of_getElem? hk
          have hkl : k < ls.length := (List.getElem?_eq_some_iff.mp hk).1
          obtain ⟨xs, hx, hz⟩ := e5 l hlm
          have hget : (σ'.set s (some (.ref l)))[s]? = some (some (.ref l)) ∨ σ.length ≤ s := by
            by_cases y : s < σ.length
            · left
              rw [e1, List.set_set, List.getElem?_set_self y]
            · exact .inr (by omega)
          rcases hget with hget | hbad
          · refine ⟨.ref l, hget, .inl ⟨rfl, xs, sq_of hx⟩, l, xs, .int 0, rfl, rfl, hx, Nat.lt_of_le_of_lt hz (by rw [sizeLine_eq]; omega), some (.ref l), by rw [e1, List.set_set], ?_, fun a u ha h => ?_, fun a h => ?_, fun m hm => ?_⟩
            · rw [upd_ne (show p ≠ l from fun e => hpl' (e ▸ hlm))]
              exact e2
            · rw [upd_ne (show a ≠ l from fun e => ha (e ▸ hlm))]
              exact e3 a u ha h
            · by_cases y : a = l
              · rw [y, upd_same]
                exact fun z => by cases z
              · rw [upd_ne y]
                exact e4 a h
            · by_cases y : m = l
              · subst y
                exact ⟨_, upd_same, by rw [List.length_append]; show xs.length + 1 ≤ _; omega⟩
              · obtain ⟨ys, hy, hz2⟩ := e5 m hm
                exact ⟨ys, by rw [upd_ne y]; exact hy, by omega⟩
          · exact absurd h5 (by omega)
end
end SF

/-! ## the state behind a change of what was told -/
namespace SF
open PySem PySem.Spec PyProof.Rows L2
def cutL (G : Hp) (ls : List Addr) : Hp := fun a => if a ∈ ls then none else G a
theorem cutL_none {G : Hp} {ls : List Addr} {a : Addr} (h : G a = none) : cutL G ls a = none := by
  unfold cutL
  split
  · rfl
  · exact h
theorem cutL_in {G : Hp} {ls : List Addr} {a : Addr} (h : a ∈ ls) : cutL G ls a = none := if_pos h
theorem cutL_out {G : Hp} {ls : List Addr} {a : Addr} (h : a ∉ ls) : cutL G ls a = G a := if_neg h
section
variable {K : PySem.W.Frag} {c : Cn} {ρ : Rho} {σ : L2.St} {G1 H1 G4 H4 H5 : Hp}
theorem spoil_sat {ls : List Addr} {i k s : Nat} {d : PyData} {es : List PyData} {o1 o2 o : Option V} (S1 : Sat K c ρ σ G1 H1) (S4 : Sat K c ((ρ.set i (.dat d)).set k (.ls es)) ((σ.set i o1).set k o2) G4 H4) (e14 : Ex G1 G4)
    (k14 : ∀ a u, H1 a = some u → ¬ IsRow ρ σ a → NTbl u → H4 a = some u) (t14 : TblK K H1 H4) (a14 : AvT H1 G1 G4) (hnew : ∀ l ∈ ls, H1 l = none) (hG4 : ∀ l ∈ ls, ∃ xs, G4 l = some (.lst xs)) (hes : nolL es = true)
    (h45 : ∀ a u, a ∉ ls → H4 a = some u → H5 a = some u) (h45' : ∀ a, H4 a ≠ none → H5 a ≠ none) (t45 : TblK K H4 H5) : Sat K c (((ρ.set i .no).set k (.ls es)).set s .no) (((σ.set i o1).set k o2).set s o) (cutL G4 ls) H5 := by
  have hHe : ∀ a, c.He a ≠ none → a ∉ ls := fun a h z => S1.there a h (hnew a z)
  have hG1 : ∀ a u, G1 a = some u → a ∉ ls := fun a u h z => by
    have := S1.ex2 a u h
    rw [hnew a z] at this
    cases this
  have e15 : Ex G1 (cutL G4 ls) := fun a u h => by
    rw [cutL_out (hG1 a u h)]
    exact e14 a u h
  have x45 : ExT G4 (cutL G4 ls) := fun a xs r => by
    have q : a ∉ ls := fun z => by
      obtain ⟨ys, hy⟩ := hG4 a z
      rcases r with r | ⟨o, r⟩ <;> rw [hy] at r <;> cases r
    rcases r with r | ⟨o, r⟩
    · exact .inl (by rw [cutL_out q]; exact r)
    · exact .inr ⟨o, by rw [cutL_out q]; exact r⟩
  have rowOk : ∀ r, RowAt K G4 H4 r → RowAt K (cutL G4 ls) H5 r := fun r z => by
    obtain ⟨z1, sc, ns, i, x, z2, z3, z4⟩ := z
    have q : r ∉ ls := fun y => by
      obtain ⟨ys, hy⟩ := hG4 r y
      rw [z1] at hy
      cases hy
    refine ⟨by rw [cutL_out q]; exact z1, sc, ns, i, x, h45 r _ q z2, ?_, z4⟩
    rcases z3 with ⟨oo, z3⟩ | z3
    · refine .inl ⟨oo, ?_⟩
      rw [cutL_out (fun y => by obtain ⟨ys, hy⟩ := hG4 sc y; rw [z3] at hy; cases hy)]
      exact z3
    · exact .inr z3
  have S5 : Sat K c ((ρ.set i .no).set k (.ls es)) ((σ.set i o1).set k o2) (cutL G4 ls) H5 := by
    have gt : ∀ {j : Nat} {e : Ent}, ((ρ.set i .no).set k (.ls es))[j]? = some e → e.isM = true → ((ρ.set i (.dat d)).set k (.ls es))[j]? = some e := fun {j e} h1 h2 => by
      by_cases q : k = j
      · subst q
        by_cases y : k < ρ.length
        · rw [List.getElem?_set_self (by rw [List.length_set]; exact y)] at h1 ⊢
          exact h1
        · rw [List.getElem?_eq_none (by rw [List.length_set, List.length_set]; omega)] at h1
          cases h1
      · rw [List.getElem?_set_ne q] at h1 ⊢
        by_cases q2 : i = j
        · subst q2
          by_cases y : i < ρ.length
          · rw [List.getElem?_set_self y] at h1
            cases h1
            cases h2
          · rw [List.getElem?_eq_none (by rw [List.length_set]; omega)] at h1
            cases h1
        · rw [List.getElem?_set_ne q2] at h1 ⊢
          exact h1
    refine ⟨fun a u h => e15 a u (S1.ex1 a u h), fun a u h => ?_, fun a u h hm m => h45 a u (hHe a (by rw [h]; exact fun z => by cases z)) (S4.keep a u h hm m), S4.tbl.trans t45, fun a h => h45' a (S4.there a h), fun a h h' => ?_, fun r h => rowOk r (S4.mrow r h), S4.mhe, ?_, fun j e u q1 q2 => ?_, fun j e l q1 q2 q3 => S4.own j e l (gt q1 q2) q2 q3, fun j m e f l hne q1 q2 m1 m2 q3 => S4.ne j m e f l hne (gt q1 m1) (gt q2 m2) m1 m2 q3⟩
    · by_cases q : a ∈ ls
      · rw [cutL_in q] at h
        cases h
      · rw [cutL_out q] at h
        exact h45 a u q (S4.ex2 a u h)
    · by_cases q : a ∈ ls
      · exact cutL_in q
      · rw [cutL_out q]
        exact S4.avoid a h h'
    · rw [List.length_set, List.length_set, List.length_set, List.length_set, S1.len]
    · by_cases q : k = j
      · subst q
        have hk : k < ρ.length := by
          have := (List.getElem?_eq_some_iff.mp q1).1
          rwa [List.length_set, List.length_set] at this
        rw [List.getElem?_set_self (by rw [List.length_set]; exact hk)] at q1
        cases q1
        obtain ⟨l, ys, e1, e2, e3, e4⟩ := S4.slot k (.ls es) u (by rw [List.getElem?_set_self (by rw [List.length_set]; exact hk)]) q2
        have hl : l ∉ ls := fun z => by
          obtain ⟨zs, hz⟩ := hG4 l z
          rw [e3] at hz
          cases hz
        exact ⟨l, ys, e1, h45 l _ hl e2, by rw [cutL_out hl]; exact e3, e4.monoT x45 hes⟩
      · by_cases q3 : i = j
        · subst q3
          have hi : i < ρ.length := by
            have := (List.getElem?_eq_some_iff.mp q1).1
            rwa [List.length_set, List.length_set] at this
          rw [List.getElem?_set_ne q, List.getElem?_set_self hi] at q1
          cases q1
          trivial
        · have q1' := q1
          have q2' := q2
          rw [List.getElem?_set_ne q, List.getElem?_set_ne q3] at q1 q2
          have z := S1.slot j e u q1 q2
          have z4 := S4.slot j e u (by rw [List.getElem?_set_ne q, List.getElem?_set_ne q3]; exact q1) q2'
          cases e with
          | no => trivial
          | dat d =>
            obtain ⟨v, e1, im⟩ := z
            exact ⟨v, e1, im.mono e15⟩
          | ls ds =>
            obtain ⟨l, xs, e1, e2, e3, e4⟩ := z
            subst e1
            have hl : l ∉ ls := fun y => by rw [hnew l y] at e2; cases e2
            obtain ⟨l', xs', f1, f2, f3, f4⟩ := z4
            cases f1
            exact ⟨l, xs, rfl, h45 l _ hl (k14 l _ e2 (S1.neRow q1 q2) ntL), by rw [cutL_out hl]; exact f3, e4.mono e15⟩
          | row =>
            obtain ⟨r, e1, e2⟩ := z4
            exact ⟨r, e1, rowOk r e2⟩
          | ob k2 =>
            obtain ⟨l, u2, e1, e2, e3, e4⟩ := z
            subst e1
            have hl : l ∉ ls := fun y => by rw [hnew l y] at e2; cases e2
            obtain ⟨l', u3, f1, f2, f3, f4⟩ := z4
            cases f1
            exact ⟨l, u2, rfl, h45 l _ hl (k14 l _ e2 (S1.neRowM q1 rfl (fun z => by cases z) q2) (k2.nt _ _ _ _ e4)), by rw [cutL_out hl]; exact f3, k2.mono _ _ _ _ _ e15 e4⟩
          | val k2 => exact ⟨z.1, k2.mono _ _ _ _ _ e15 (t14.trans t45) (fun a ps q n => cutL_none (a14 a ps q n)) z.2⟩
  exact S5.setNo
end
end SF

/-! ## x = f(..); y = g(..); if ..: return; for s in x[1:]: s.append(0) -/
namespace SF
open PySem PySem.Spec PyProof.Rows L2
theorem isRow_setD {ρ : Rho} {σ : L2.St} {i : Nat} {e : Ent} {o : Option V} (hm : e ≠ .row) {r : Addr} (h : IsRow (ρ.set i e) (σ.set i o) r) : IsRow ρ σ r := by
  obtain ⟨j, e1, e2⟩ := h
  by_cases q : i = j
  · subst q
    by_cases k : i < ρ.length
    · rw [List.getElem?_set_self k] at e1
      exact absurd (Option.some.inj e1) hm
    · rw [List.getElem?_eq_none (by rw [List.length_set]; omega)] at e1
      cases e1
  · rw [List.getElem?_set_ne q] at e1 e2
    exact ⟨j, e1, e2⟩
theorem imL_refs {K : PySem.W.Frag} {G : Hp} : ∀ {dss : List (List PyData)} {xs : List V}, ImL K G (dss.map PyData.list) xs → ∃ ls : List Addr, xs = ls.map V.ref ∧ ls.length = dss.length ∧ ∀ l ∈ ls, ∃ ys, G l = some (.lst ys) ∧ ∃ ds ∈ dss, ds.length = ys.length
  | [], xs, h => by
    rw [List.map_nil, imL_nil] at h
    subst h
    exact ⟨[], rfl, rfl, fun l hl => by cases hl⟩
  | ds :: dss, xs, h => by
    rw [List.map_cons, imL_cons] at h
    obtain ⟨x, r, rfl, h1, h2⟩ := h
    rw [im_list] at h1
    obtain ⟨a, ys, rfl, h3, h4⟩ := h1
    obtain ⟨ls, e1, e2, e3⟩ := imL_refs h2
    refine ⟨a :: ls, by rw [e1]; rfl, by rw [List.length_cons, List.length_cons, e2], fun l hl => ?_⟩
    rcases List.mem_cons.mp hl with z | z
    · rw [z]
      exact ⟨ys, h3, ds, List.mem_cons_self, h4.len⟩
    · obtain ⟨zs, q1, es, q2, q3⟩ := e3 l z
      exact ⟨zs, q1, es, List.mem_cons_of_mem _ q2, q3⟩
section
variable {X : Cx} {b : Bs} {st1 st2 st3 st4 : Stmt} {rest : List Stmt} {t1 t2 t3 : TS} {w2 : WE} {wt : WT} {wa : WA} {w5 : WS}
def wSpoil (i k s : Nat) (T : Tf) (wa : WA) (w2 : WE) (wt : WT) (w5 : WS) : WS := fun ρ Ψ => (i < ρ.length ∧ s < ρ.length) ∧ wa ρ (fun ds => nolL ds = true ∧ T ds (fun r1 => w2 (ρ.set i (.dat r1.frz)) (fun r2 => wt ((ρ.set i (.dat r1.frz)).set k r2.ent) (fun q => q = false ∧
  (∃ (d0 : PyData) (dss : List (List PyData)), r1.frz = .tuple (d0 :: dss.map PyData.list) ∧ dss.length ≤ 10 ∧ ∀ ds ∈ dss, ds.length ≤ 1000) ∧ (∃ es, r2 = .lst es ∧ nolL es = true) ∧ w5 (((ρ.set i .no).set k r2.ent).set s .no) Ψ) (fun _ => False)) (fun _ => False)) (fun _ => False)) Ψ.xc
theorem psis_spoil (i k s : Nat) {T : Tf} {n : Nat} (hik : i ≠ k)
    (h1 : PS X st1 t1) (H1 : ∀ D σ H, taOf X.K b n wa σ H (fun vs H1 => spP X.K b.XR T (vs ++ []) H1 (fun v H2 => D.nx (σ.set i (some v)) H2) b.E) → t1 D σ H)
    (h2 : PS X st2 t2) (H2 : ∀ D σ H, teOf X.K b w2 σ H (fun v H1 => D.nx (σ.set k (some v)) H1) → t2 D σ H)
    (h3 : PS X st3 t3) (H3 : ∀ D σ H, ttOf X.K b wt σ H (fun q H1 => q = false ∧ D.nx σ H1) → t3 D σ H)
    (h4 : PS X st4 (tSpoil X.K i s)) (h5 : PSsI X b rest w5) : PSsI X b (st1 :: st2 :: st3 :: st4 :: rest) (wSpoil i k s T wa w2 wt w5) :=
  pss_imp (pss_cons h1 (pss_cons h2 (pss_cons h3 (pss_cons h4 h5)))) fun D σ H ⟨c, ρ, G, Ψ, S, ⟨⟨hi, hsl⟩, hw⟩, p⟩ => by
    refine H1 _ _ _ ⟨c, ρ, G, _, Ψ.xc, S, hw, fun vs ds G1 H1' t1' il hl hh => ?_, p.exc S⟩
    have S1 := S.tr t1'
    obtain ⟨hnl, hT⟩ := hh
    show spP X.K b.XR T (vs ++ []) H1' _ b.E
    rw [List.append_nil]
    refine ⟨noLst G1, ds, _, _, noLst_ex.trans S1.ex2, il.monoT noLst_t hnl, hT, fun v1 r1 G' H' fi o hΦ => ?_, fun exn cls d G' H' fi xr hΞ => hΞ.elim⟩
    obtain ⟨G2, Gn, tr2, im, hx2, hnew⟩ := call_new S1 fi o
    have S2 := (S1.tr tr2).setDat (i := i) (im.mono hx2)
    refine H2 _ _ _ ⟨c, _, G2, _, _, S2, hΦ, fun v2 r2 G3 H3' tr3 o3 h3' => ?_, fun _ _ _ _ _ _ _ z => z.elim⟩
    have S3 := S2.setOut tr3 (i := k) o3
    refine H3 _ _ _ ⟨c, _, G3, _, _, S3, h3', fun q G4 H4 tr4 h4' => ?_, fun _ _ _ _ _ _ _ z => z.elim⟩
    obtain ⟨hq, ⟨d0, dss, er, hdl, hds⟩, ⟨es, e2, hnles⟩, hw5⟩ := h4'
    have S4 := S3.tr tr4
    refine ⟨hq, ?_⟩
    subst e2
    have x34 : Ex G2 G4 := tr3.eg.trans tr4.eg
    have xH : Ex Gn H4 := (hx2.trans x34).trans S4.ex2
    rw [er, im_tuple] at im
    obtain ⟨t, xs, ev, ht, il2⟩ := im
    rw [imL_cons] at il2
    obtain ⟨x0, r, rfl, _, il3⟩ := il2
    obtain ⟨ls, rfl, hll, hls⟩ := imL_refs il3
    have hlen := S.len
    have hiσ : i < σ.length := by omega
    show tSpoil X.K i s _ ((σ.set i (some v1)).set k (some v2)) H4
    refine ⟨t, x0, ls, ?_, ex_t xH ht, fun l hl => ?_, by omega, by rw [List.length_set, List.length_set]; omega, fun o H5 k1 k2 => ?_⟩
    · rw [List.getElem?_set_ne (Ne.symm hik), List.getElem?_set_self hiσ, ev]
    · obtain ⟨ys, q1, ds, q2, q3⟩ := hls l hl
      exact ⟨ys, xH l _ q1, by rw [← q3]; exact hds ds q2⟩
    · refine ⟨c, _, cutL G4 ls, Ψ, spoil_sat (d := r1.frz) S1 S4 (tr2.eg.trans x34) (fun a u h n m => ?_) (tr2.tbl.trans (tr3.tbl.trans tr4.tbl)) (fun a ps q n => tr4.avoid a (tr3.avoid a (tr2.avoid a n (by rw [q]; exact fun z => by cases z)) (tr2.there (by rw [q]; exact fun z => by cases z))) (tr3.there (tr2.there (by rw [q]; exact fun z => by cases z)))) (fun l hl => ?_) (fun l hl => ?_) hnles k1 k2 (.of fun a u h n => k1 a u (fun z => ?_) h), hw5, p⟩
      · have q1 := tr2.keep a u h n m
        have n2 : ¬ IsRow (ρ.set i (.dat r1.frz)) (σ.set i (some v1)) a := fun z => n (isRow_setD (by intro z; cases z) z)
        have q2 := tr3.keep a u q1 n2 m
        exact tr4.keep a u q2 (fun z => n2 (isRow_setD (by intro z; cases z) z)) m
      · obtain ⟨ys, q1, _⟩ := hls l hl
        exact hnew l ys q1
      · obtain ⟨ys, q1, _⟩ := hls l hl
        exact ⟨ys, x34 l _ (hx2 l _ q1)⟩
      · obtain ⟨ys, q1, _⟩ := hls a z
        have := xH a _ q1
        rw [h] at this
        exact n ys (Option.some.inj this)
theorem if_pass {K : PySem.W.Frag} {b : Bs} {wt : WT} {D : Ends} {σ : L2.St} {H : Hp} (h : ttOf K b wt σ H (fun q H1 => q = false ∧ D.nx σ H1)) {A : Hp → Prop} : ttOf K b wt σ H (fun q H1 => if q = true then A H1 else D.nx σ H1) := by
  obtain ⟨c, ρ, G, Φ, Ξ, S, hw, p, x⟩ := h
  refine ⟨c, ρ, G, Φ, Ξ, S, hw, fun k G' H' t h => ?_, x⟩
  obtain ⟨e, q⟩ := p k G' H' t h
  rw [e, if_neg (by decide)]
  exact q
end
end SF

/-! ## dicts of one's own whose keys are data (tuples, texts, ints, None): which keys they hold -/
namespace SF
open PySem PySem.Spec PyProof.Rows L2
/-- the dict at a holds these keys, the tuples at these addresses -/
def dictN (P : Program) (w : World) (a : Addr) (ks : List (NestedKey × Addr)) : HO := .ext fun h => (a == sysModules) = false ∧ ks.length ≤ sizeLine ∧
  ∃ (xs : List (NestedKey × Addr × Value)) (o : Obj) (es : Array DictEntry) (ep : Nat), xs.map (fun x => (x.1, x.2.1)) = ks ∧ h.get? a = some o ∧ o.ExactDict ∧ o.data = .dict es ep ∧ es.toList = xs.map (entryOfKey (nestedKind P w)) ∧ (xs.map (·.1)).Nodup
theorem dictN_ok {P : Program} {w : World} {H : Hp} {h : Heap} {a : Addr} {xs : List (NestedKey × Addr × Value)} (hb : (a == sysModules) = false) (hz : xs.length ≤ sizeLine) (D : h.DictOfH (nestedKind P w) a xs) : ObjOk P w H h a (dictN P w a (xs.map fun x => (x.1, x.2.1))) := by
  obtain ⟨o, es, ep, h1, h2, h3, h4, _, h5⟩ := D
  refine ⟨⟨hb, by rw [List.length_map]; exact hz, xs, o, es, ep, rfl, h1, h2, h3, h4, h5⟩, ⟨o, h1⟩, fun g1 g2 p k => ?_⟩
  obtain ⟨q1, q2, xs', o', es', ep', e0, e1, e2, e3, e4, e5⟩ := p
  exact ⟨q1, q2, xs', o', es', ep', e0, k _ e1, e2, e3, e4, e5⟩
section
variable {X : Cx} {pins : List (Addr × Obj)} {σ : L2.St} {H : Hp} {s : Shared}
mutual
/-- data that is a key is that key -/
theorem key_is (I : Inv X pins σ H s) : ∀ {k : NestedKey} {v : V} {u : Value}, Im X.K H k.data v → RelV v u → NestedIs s.heap k u
  | .none, v, u, h, r => by
    have h : Im X.K H .none v := h
    rw [im_none] at h
    subst h
    cases (show u = Value.none from r)
    exact .none
  | .num i, v, u, h, r => by
    have h : Im X.K H (.int i) v := h
    rw [im_int] at h
    subst h
    obtain ⟨t, rfl⟩ := (show ∃ t, u = Value.int i t from r)
    exact .int _ _
  | .text x, v, u, h, r => by
    have h : Im X.K H (.str x) v := h
    rw [im_str] at h
    subst h
    obtain ⟨t, rfl⟩ := (show ∃ t, u = Value.str x t from r)
    exact .text _ _
  | .tup ks, v, u, h, r => by
    have h : Im X.K H (.tuple (NestedKey.datas ks)) v := h
    rw [im_tuple] at h
    obtain ⟨a, xs, rfl, h1, h2⟩ := h
    cases (show u = Value.ref a from r)
    obtain ⟨its, rv, ⟨o, e1, e2, n, e3⟩, _⟩ := I.tuple h1
    exact .tup e1 e2 e3 (by simpa using keys_are I h2 rv)
theorem keys_are (I : Inv X pins σ H s) : ∀ {ks : List NestedKey} {vs : List V} {us : List Value}, ImL X.K H (NestedKey.datas ks) vs → Vals vs us → NestedAll s.heap ks us
  | [], vs, us, h, r => by
    have h : ImL X.K H [] vs := h
    rw [imL_nil] at h
    subst h
    cases r
    exact .nil
  | k :: ks, vs, us, h, r => by
    have h : ImL X.K H (k.data :: NestedKey.datas ks) vs := h
    rw [imL_cons] at h
    obtain ⟨x, q, rfl, h1, h2⟩ := h
    cases r with
    | cons r1 r2 => exact .cons (key_is I h1 r1) (keys_are I h2 r2)
end
/-- the dict as the library tells it -/
theorem dictN_at (I : Inv X pins σ H s) {a : Addr} {ks : List (NestedKey × Addr)} (h : H a = some (dictN X.prog X.w a ks)) (hk : ∀ x ∈ ks, Im X.K H x.1.data (.ref x.2) ∧ x.1.depth ≤ 8) :
    (a == sysModules) = false ∧ ks.length ≤ sizeLine ∧ ∃ xs : List (NestedKey × Addr × Value), xs.map (fun x => (x.1, x.2.1)) = ks ∧ s.heap.DictOfH (nestedKind X.prog X.w) a xs := by
  obtain ⟨⟨h1, h2, xs, o, es, ep, e0, e1, e2, e3, e4, e5⟩, _⟩ := (show ObjOk X.prog X.w H s.heap a (dictN X.prog X.w a ks) from I.hok a _ h)
  refine ⟨h1, h2, xs, e0, o, es, ep, e1, e2, e3, e4, fun x hx => ?_, e5⟩
  have := hk (x.1, x.2.1) (by rw [← e0]; exact List.mem_map.mpr ⟨x, hx, rfl⟩)
  exact ⟨key_is I this.1 rfl, this.2⟩
theorem atKey_isSome {xs : List (NestedKey × Addr × Value)} {k : NestedKey} : (atKey xs k).isSome = decide (k ∈ xs.map (·.1)) := by
  induction xs with
  | nil => rfl
  | cons x xs ih =>
    by_cases e : x.1 = k
    · have h1 : atKey (x :: xs) k = some x.2 := by simp [atKey, e]
      rw [h1]
      simp [e]
    · have h1 : atKey (x :: xs) k = atKey xs k := by simp [atKey, e]
      rw [h1, ih]
      have : ¬ k = x.1 := fun z => e z.symm
      simp [this]
/-! ### k not in d -/
def rNotInN (X : Cx) : R2 := fun x y H Q => ∃ (a b : Addr) (k : NestedKey) (ks : List (NestedKey × Addr)), y = .ref a ∧ x = .ref b ∧ H a = some (dictN X.prog X.w a ks) ∧ (∀ x ∈ ks, Im X.K H x.1.data (.ref x.2) ∧ x.1.depth ≤ 8) ∧ Im X.K H k.data (.ref b) ∧ k.depth ≤ 8 ∧
  Q (.bl (!decide (k ∈ ks.map (·.1)))) H
theorem or_notInN (hu : X.A.units + 9 < cLine) : OpR X (compareOp .NotIn) (rNotInN X) := by
  intro pins s σ H x y v u Q I rx ry h
  obtain ⟨a, b, k, ks, rfl, rfl, ha, hks, hk, hd, q⟩ := h
  cases rx
  cases ry
  obtain ⟨h1, h2, xs, e0, D⟩ := dictN_at I ha hks
  refine wpAny_notIn_heap (knd := nestedKind X.prog X.w) (by show X.A.in1.units + 8 < cLine; simp only [Around.in1_units]; omega) ⟨key_is I hk rfl, hd⟩ h1 D ?_
  refine ⟨.bl (!decide (k ∈ ks.map (·.1))), H, I.tok _, ?_, q⟩
  have e : (atKey xs k).isSome = decide (k ∈ ks.map (·.1)) := by
    rw [atKey_isSome, ← e0, List.map_map]
    rfl
  rw [e]
  rfl
/-! ### d[k] = v, k new -/
def rSetN (X : Cx) : TSet := fun o i v H Q => ∃ (a b : Addr) (k : NestedKey) (ks : List (NestedKey × Addr)), o = .ref a ∧ i = .ref b ∧ H a = some (dictN X.prog X.w a ks) ∧ (∀ x ∈ ks, Im X.K H x.1.data (.ref x.2) ∧ x.1.depth ≤ 8) ∧ Im X.K H k.data (.ref b) ∧ k.depth ≤ 8 ∧ ks.length < sizeLine ∧
  k ∉ ks.map (·.1) ∧ Q (upd H a (dictN X.prog X.w a (ks ++ [(k, b)])))
theorem set_N (hu : X.A.units + 9 < cLine) : PSet X (rSetN X) := by
  intro pins s σ H o i v ov iv u Q I ro ri rv h
  obtain ⟨a, b, k, ks, rfl, rfl, ha, hks, hk, hd, hz, hn, q⟩ := h
  cases ro
  cases ri
  obtain ⟨h1, h2, xs, e0, D⟩ := dictN_at I ha hks
  have hl : xs.length = ks.length := by rw [← e0, List.length_map]
  refine wpAny_setItem_heap (knd := nestedKind X.prog X.w) (hsz := by omega) (by show X.A.in1.units + 8 < cLine; simp only [Around.in1_units]; omega) ⟨key_is I hk rfl, hd⟩ D fun h' D' hs => ?_
  have es : storedH xs k b u = xs ++ [(k, b, u)] := by
    unfold storedH
    rw [if_neg]
    rw [atKey_isSome, decide_eq_true_iff]
    intro z
    apply hn
    rw [← e0, List.map_map]
    exact z
  rw [es] at D'
  have he : ∃ q, h'.get? a = some q := let ⟨q, _, _, hq, _⟩ := D'; ⟨q, hq⟩
  have new := dictN_ok (H := upd H a (dictN X.prog X.w a (ks ++ [(k, b)]))) h1 (by rw [List.length_append, hl]; exact hz) D'
  rw [List.map_append, e0] at new
  exact ⟨_, I.write (e := a) (by rw [ha]; trivial) (.inl rfl) (fun c w' hc hw => (hs.2 c hc).trans hw) he new, q⟩
/-! ### {}, {k: v} -/
theorem notMods (I : Inv X pins σ H s) : (s.heap.objs.size == sysModules) = false := beq_eq_false_iff_ne.mpr (Ne.symm (Nat.ne_of_lt I.big))
def tNewN (X : Cx) : TE := fun _ H Q => ∀ p, H p = none → Q (.ref p) (upd H p (dictN X.prog X.w p []))
theorem pe_newN {pos : Pos} : PE X (.Dict [] [] pos) (tNewN X) := ⟨fun pins s σ H Q I h =>
  wpAny_Dict_empty ⟨.ref s.heap.objs.size, _, I.laid (a := s.heap.objs.size) (o := dictN X.prog X.w s.heap.objs.size []) (t' := s.toks) (fun _ _ q => Heap.get?_push_of_some _ q) (Nat.le_refl _) (dictN_ok (xs := []) (notMods I) (Nat.zero_le _) (Heap.DictOfH.new s.heap)), rfl, h _ (I.hok.fresh (Nat.le_refl _))⟩⟩
def tDisN (X : Cx) (k : NestedKey) (b : Addr) : TE := fun _ H Q => ∀ p, H p = none → Q (.ref p) (upd H p (dictN X.prog X.w p [(k, b)]))
theorem pe_disN {ke ve : Expr} {pos : Pos} {k : NestedKey} {b : Addr} {y : V} (hu : X.A.units + 9 < cLine) (hk : PE X ke (tC (.ref b))) (hv : PE X ve (tC y)) (him : ∀ H, Im X.K H k.data (.ref b)) (hd : k.depth ≤ 8) : PE X (.Dict [some ke] [ve] pos) (tDisN X k b) := by
  refine ⟨fun pins s σ H Q I h => ?_⟩
  have hb := notMods I
  have I1 := I.laid (a := s.heap.objs.size) (o := dictN X.prog X.w s.heap.objs.size []) (h' := s.heap.push { cls := .type "dict", data := .dict #[] }) (t' := s.toks) (fun _ _ q => Heap.get?_push_of_some _ q) (Nat.le_refl _) (dictN_ok (xs := []) hb (Nat.zero_le _) (Heap.DictOfH.new s.heap))
  have hn := I.hok.fresh (Nat.le_refl s.heap.objs.size)
  refine wpAny_Dict_any (by rfl) (by rfl) (by intro z; cases z) (by show 1 ≤ 15; decide) (pairTrees_cons_walk (thn (hk.run pins _ σ _ (fun x H1 => x = .ref b ∧ H1 = upd H s.heap.objs.size (dictN X.prog X.w s.heap.objs.size [])) I1 ⟨rfl, rfl⟩) fun u s1 ⟨x, H1, J1, rx, ex, eH⟩ => ?_))
  subst ex eH
  cases rx
  refine thn (hv.run pins _ σ _ (fun x H1 => H1 = upd H s.heap.objs.size (dictN X.prog X.w s.heap.objs.size [])) J1 rfl) fun u2 s2 ⟨x2, H2, J2, rx2, eH⟩ => ?_
  subst eH
  refine pairTrees_nil_walk ?_
  obtain ⟨_, _, xs, e0, D⟩ := dictN_at J2 (a := s.heap.objs.size) (ks := []) upd_same (fun _ z => nomatch z)
  have e1 : xs = [] := List.map_eq_nil_iff.mp e0
  subst e1
  unfold storeAll
  rw [List.forIn_cons]
  refine wpAny_bind (wpAny_bind (wpAny_dictSet_heap (knd := nestedKind X.prog X.w) (by show X.A.units + 8 < cLine; omega) ⟨key_is J2 (him _) rfl, hd⟩ D fun h' D' hs => wpAny_pure ?_))
  show wpAny _ _ (forIn ([] : List (Value × Value)) PUnit.unit _) _ _ _
  rw [List.forIn_nil]
  refine wpAny_pure ?_
  have he : ∃ q, h'.get? s.heap.objs.size = some q := let ⟨q, _, _, hq, _⟩ := D'; ⟨q, hq⟩
  have e2 : storedH ([] : List (NestedKey × Addr × Value)) k b u2 = [(k, b, u2)] := by unfold storedH; rw [if_neg (by intro z; cases z)]; rfl
  rw [e2] at D'
  have new := dictN_ok (H := upd (upd H s.heap.objs.size (dictN X.prog X.w s.heap.objs.size [])) s.heap.objs.size (dictN X.prog X.w s.heap.objs.size [(k, b)])) hb (by show 1 ≤ sizeLine; decide) D'
  have J := J2.write (e := s.heap.objs.size) (t' := s2.toks + (nestedKind X.prog X.w).draws k) (by rw [upd_same]; trivial) (.inl rfl) (fun c w' hc hw => (hs.2 c hc).trans hw) he new
  rw [upd_upd] at J
  exact ⟨.ref s.heap.objs.size, _, J, rfl, h _ hn⟩
end
end SF

/-! ## .. as entries (for laws without lambdas: lamDefs = []) -/
namespace SF
open PySem PySem.Spec PyProof.Rows L2
theorem tblK0 {K : PySem.W.Frag} {H : Hp} {l : Addr} {u o : HO} (h : H l = some u) (n : NTbl u) : TblK K H (upd H l o) := by
  refine ⟨fun a ps e => ⟨ps, ?_⟩, fun _ p hp => ?_⟩
  · rw [upd_ne (fun z => by rw [z, h] at e; exact n ps (Option.some.inj e))]
    exact e
  · exact absurd hp (by unfold tabsOf lamDefs; exact List.not_mem_nil)
def dkN (P : Program) (w : World) (ks : List NestedKey) : ObK := ⟨fun K a G o => ∃ kas : List (NestedKey × Addr), kas.map (·.1) = ks ∧ o = dictN P w a kas ∧ ∀ x ∈ kas, Im K G x.1.data (.ref x.2) ∧ x.1.depth ≤ 8,
  fun K a G G' o e ⟨kas, h1, h2, h3⟩ => ⟨kas, h1, h2, fun x hx => ⟨(h3 x hx).1.mono e, (h3 x hx).2⟩⟩, fun K a G o ⟨kas, h1, h2, h3⟩ ps z => by rw [h2] at z; unfold dictN at z; cases z⟩
section
variable {X : Cx} {b : Bs} {x e : Expr} {pos : Pos} {we w : WE} {Pz : Program} {wz : World}
/-! ### y = {}, y = {k: v} -/
def wSetNewN (P : Program) (w : World) (i : Nat) : WS := fun ρ Ψ => Ψ.nx (ρ.set i (.ob (dkN P w [])))
theorem psi_setNewN (eP : X.prog = Pz) (eW : X.w = wz) (i : Nat) {nm : Str} {np dpos : Pos} (hN : X.N.Nodup) (hi : X.N[i]? = some nm := by rfl) (hx : L2.Loc X.env.scope nm := by first | exact Or.inl rfl | exact Or.inr rfl)
    (hs : swapsWithSole [Expr.Name nm np] (.Dict [] [] dpos) pos.line X.env = pure false := by rfl) (hw : swappedStores [Expr.Name nm np] (.Dict [] [] dpos) X.env = pure none := by rfl) (h1 : (assignEach [Expr.Name nm np] X.env).map (·.2) = [assign (Expr.Name nm np) X.env] := by rfl)
    (hf : X.fn nm = true ∨ X.env.scope.names.lookup nm = some .local := by first | exact .inl rfl | exact .inr rfl) : PSI X b (.Assign [.Name nm np] (.Dict [] [] dpos) pos) (wSetNewN Pz wz i) := by
  subst eP eW
  exact psi_of (ps_asg pe_newN (pg_name hN hi hx hf) hs hw h1) fun c ρ σ G H Ψ D S hw p q hq =>
    p.nx _ _ G _ (S.setOb (k := dkN X.prog X.w []) hq ⟨[], rfl, rfl, fun _ z => nomatch z⟩) hw
def wSetDisN (P : Program) (w : World) (i : Nat) (k : NestedKey) : WS := fun ρ Ψ => Ψ.nx (ρ.set i (.ob (dkN P w [k])))
theorem psi_setDisN (eP : X.prog = Pz) (eW : X.w = wz) (i : Nat) {ke ve : Expr} {k : NestedKey} {a : Addr} {y : V} {nm : Str} {np dpos : Pos} (hu : X.A.units + 9 < cLine) (hk : PE X ke (tC (.ref a))) (hv : PE X ve (tC y)) (him : ∀ H, Im X.K H k.data (.ref a)) (hd : k.depth ≤ 8) (hN : X.N.Nodup) (hi : X.N[i]? = some nm := by rfl) (hx : L2.Loc X.env.scope nm := by first | exact Or.inl rfl | exact Or.inr rfl)
    (hs : swapsWithSole [Expr.Name nm np] (.Dict [some ke] [ve] dpos) pos.line X.env = pure false := by rfl) (hw : swappedStores [Expr.Name nm np] (.Dict [some ke] [ve] dpos) X.env = pure none := by rfl) (h1 : (assignEach [Expr.Name nm np] X.env).map (·.2) = [assign (Expr.Name nm np) X.env] := by rfl)
    (hf : X.fn nm = true ∨ X.env.scope.names.lookup nm = some .local := by first | exact .inl rfl | exact .inr rfl) : PSI X b (.Assign [.Name nm np] (.Dict [some ke] [ve] dpos) pos) (wSetDisN Pz wz i k) := by
  subst eP eW
  exact psi_of (ps_asg (pe_disN hu hk hv him hd) (pg_name hN hi hx hf) hs hw h1) fun c ρ σ G H Ψ D S hw p q hq =>
    p.nx _ _ G _ (S.setOb (k := dkN X.prog X.w [k]) hq ⟨[(k, a)], rfl, rfl, fun x hx => by rw [List.mem_singleton.mp hx]; exact ⟨him G, hd⟩⟩) hw
/-! ### e not in y -/
def wNotInN (P : Program) (w : World) (j : Nat) (we : WE) : WT := fun ρ Φ Ξ => ∃ ks, ρ[j]? = some (.ob (dkN P w ks)) ∧ we ρ (fun r => ∃ qs, r = .dat (NestedKey.tup qs).data ∧ (NestedKey.tup qs).depth ≤ 8 ∧ Φ (!decide (NestedKey.tup qs ∈ ks))) Ξ
theorem im_tupRef {K : PySem.W.Frag} {G : Hp} {qs : List NestedKey} {v : V} (h : Im K G (NestedKey.tup qs).data v) : ∃ c, v = .ref c := by
  have h : Im K G (.tuple (NestedKey.datas qs)) v := h
  rw [im_tuple] at h
  obtain ⟨c, _, e, _⟩ := h
  exact ⟨c, e⟩
theorem pti_notInN (eP : X.prog = Pz) (eW : X.w = wz) (j : Nat) {nm : Str} {np : Pos} (hu : X.A.units + 9 < cLine) (he : PEI X b e we) (hN : X.N[j]? = some nm := by rfl) (hv : Vis X.env.scope nm := by first | exact Or.inl rfl | exact Or.inr (Or.inl rfl) | exact Or.inr (Or.inr rfl)) (hd : (nm == ("__debug__" : Str)) = false := by decide)
    (hcd : (nm == ("__classdict__" : Str)) = false := by decide) (hm : behindInMarks .NotIn (.Name nm np) = false := by rfl) : PTI X b (.Compare e [.NotIn] [.Name nm np] pos) (wNotInN Pz wz j we) := by
  subst eP eW
  exact pti_of (pt_cmpR (or_notInN hu) he (pe_var hN hv hd hcd) hm) fun c ρ σ G H Φ Ξ Q S hw p ex => by
    obtain ⟨ks, h1, hw⟩ := hw
    obtain ⟨l, u, h2, h3, h4, h5⟩ := S.obAt h1
    have nr := S.neRowM h1 rfl (fun z => by cases z) h2
    refine ⟨c, ρ, G, _, Ξ, S, hw, fun v r G1 H1 t1 o1 hn => ?_, ex⟩
    obtain ⟨qs, rfl, hdp, hn⟩ := hn
    have o1 : Im X.K G1 (NestedKey.tup qs).data v := o1
    obtain ⟨d, rfl⟩ := im_tupRef o1
    have S1 := S.tr t1
    have k3 := t1.keep l _ h3 nr ((dkN X.prog X.w ks).nt X.K l G _ h5)
    obtain ⟨kas, e1, e2, e3⟩ := h5
    subst e2
    refine ⟨.ref l, h2, l, d, _, kas, rfl, rfl, k3, fun x hx => ⟨((e3 x hx).1.mono t1.eg).mono S1.ex2, (e3 x hx).2⟩, o1.mono S1.ex2, hdp, _, rfl, ?_⟩
    rw [e1]
    exact p _ G1 H1 t1 hn
/-! ### y[e] = v, e new -/
def wSetItN (P : Program) (w : World) (j : Nat) (we : WE) : WS := fun ρ Ψ => ∃ ks, ρ[j]? = some (.ob (dkN P w ks)) ∧ we ρ (fun r => ∃ qs, r = .dat (NestedKey.tup qs).data ∧ (NestedKey.tup qs).depth ≤ 8 ∧ ks.length < sizeLine ∧ NestedKey.tup qs ∉ ks ∧ Ψ.nx (ρ.set j (.ob (dkN P w (ks ++ [NestedKey.tup qs]))))) Ψ.xc
theorem psi_setItN (eP : X.prog = Pz) (eW : X.w = wz) (j : Nat) {ve : Expr} {y : V} {nm : Str} {np spos : Pos} (hu : X.A.units + 9 < cLine) (hve : PE X ve (tC y)) (he : PEI X b e we) (hN : X.N[j]? = some nm := by rfl) (hv : Vis X.env.scope nm := by first | exact Or.inl rfl | exact Or.inr (Or.inl rfl) | exact Or.inr (Or.inr rfl)) (hd : (nm == ("__debug__" : Str)) = false := by decide)
    (hcd : (nm == ("__classdict__" : Str)) = false := by decide)
    (ha : ∀ v, assign (.Subscript (.Name nm np) e spos) X.env v = (do
      let ov ← holding [v] (eval (.Name nm np) X.env)
      let iv ← holding [v, ov] (eval e X.env)
      standAt spos
      holding [v, ov, iv] (setItem ov iv v)
      release [v, ov, iv] []) := by intro _; rfl)
    (hs : swapsWithSole [Expr.Subscript (.Name nm np) e spos] ve pos.line X.env = pure false := by rfl) (hw : swappedStores [Expr.Subscript (.Name nm np) e spos] ve X.env = pure none := by rfl) (h1 : (assignEach [Expr.Subscript (.Name nm np) e spos] X.env).map (·.2) = [assign (Expr.Subscript (.Name nm np) e spos) X.env] := by rfl) :
    PSI X b (.Assign [.Subscript (.Name nm np) e spos] ve pos) (wSetItN Pz wz j we) := by
  subst eP eW
  exact psi_of (ps_asg hve (pg_sub (pe_var hN hv hd hcd) he (set_N hu) ha) hs hw h1) fun c ρ σ G H Ψ D S hw p => by
    obtain ⟨ks, h1, hw⟩ := hw
    obtain ⟨l, u, h2, h3, h4, h5⟩ := S.obAt h1
    have nr := S.neRowM h1 rfl (fun z => by cases z) h2
    refine ⟨.ref l, h2, c, ρ, G, _, Ψ.xc, S, hw, fun v r G1 H1 t1 o1 hn => ?_, p.exc S⟩
    obtain ⟨qs, rfl, hdp, hz, hnew, hn⟩ := hn
    have o1 : Im X.K G1 (NestedKey.tup qs).data v := o1
    obtain ⟨d, rfl⟩ := im_tupRef o1
    have S1 := S.tr t1
    have k3 := t1.keep l _ h3 nr ((dkN X.prog X.w ks).nt X.K l G _ h5)
    have g3 := t1.avoid l h4 (by rw [h3]; exact fun z => by cases z)
    have nt := (dkN X.prog X.w ks).nt X.K l G _ h5
    obtain ⟨kas, e1, e2, e3⟩ := h5
    subst e2
    have all : ∀ x ∈ kas, Im X.K G1 x.1.data (.ref x.2) ∧ x.1.depth ≤ 8 := fun x hx => ⟨(e3 x hx).1.mono t1.eg, (e3 x hx).2⟩
    refine ⟨l, d, _, kas, rfl, rfl, k3, fun x hx => ⟨(all x hx).1.mono S1.ex2, (all x hx).2⟩, o1.mono S1.ex2, hdp, by rw [← e1, List.length_map] at hz; exact hz, by rw [e1]; exact hnew, ?_⟩
    refine p.nx _ _ G1 _ (S1.writeM (e' := .ob (dkN X.prog X.w (ks ++ [NestedKey.tup qs]))) h1 rfl (fun z => by cases z) h2 k3 g3 rfl (tblK0 k3 nt) fun H' hH' => ?_) hn
    refine ⟨l, _, rfl, hH', g3, kas ++ [(NestedKey.tup qs, d)], by rw [List.map_append, e1]; rfl, rfl, fun x hx => ?_⟩
    rcases List.mem_append.mp hx with z | z
    · exact all x z
    · rw [List.mem_singleton.mp z]
      exact ⟨o1, hdp⟩
end
end SF

namespace SF
open PySem PySem.Spec PyProof.Rows L2
theorem hu9 {k : Nat} {A : Around} (hr : Room k A) : A.units + 9 < cLine := by have := hr.un; omega
theorem itF {b : Bool} (e : b = false) {p q : Prop} (h : q) : if b = true then p else q := by subst e; exact h
theorem itT {b : Bool} (e : b = true) {p q : Prop} (h : p) : if b = true then p else q := by subst e; exact h
/-- a comprehension over data that stand for things -/
theorem lcI_map {α : Type} {tgt : Tgt} {vs : List Nat} {wt : WT} {w : WE} {ρ : Rho} {Φ : Res → Prop} (enc : α → PyData) (l : List α) (p : α → Bool) (g : α → PyData) (hn : noRow ρ vs = true) (hz : l.length ≤ 50000)
    (h : ∀ x, x ∈ l → ∀ (A : PyData → Prop) (B : Prop), (p x = true → A (g x)) → (p x = false → B) → bindT tgt (enc x) (wipeE ρ vs) (fun ρ2 => wt ρ2 (fun k => if k = true then w ρ2 (fun r => A r.frz) (fun _ => False) else B) (fun _ => False)))
    (hΦ : Φ (.lst ((l.filter p).map g))) : LcI tgt vs wt w (l.map enc) ρ Φ := by
  refine ⟨hn, fun i acc => acc = ((l.take i).filter p).map g, rfl, fun i d hd acc ha => ⟨?_, ?_⟩, fun acc ha => by rw [ha, List.length_map, List.take_length]; exact hΦ⟩
  · have h1 := List.length_filter_le p (l.take i)
    have h3 : i < l.length := by have := (List.getElem?_eq_some_iff.mp hd).1; rwa [List.length_map] at this
    rw [List.length_take] at h1
    rw [ha, List.length_map]
    omega
  · rw [List.getElem?_map] at hd
    cases hx : l[i]? with
    | none => rw [hx] at hd; cases hd
    | some x =>
      rw [hx] at hd
      cases hd
      refine h x (List.mem_of_getElem? hx) (fun z => acc ++ [z] = ((l.take (i + 1)).filter p).map g) (acc = ((l.take (i + 1)).filter p).map g) (fun hp => ?_) (fun hp => ?_)
      · show acc ++ [g x] = _
        rw [List.take_add_one, hx, List.filter_append, List.map_append, ha]
        show _ = _ ++ (List.filter p [x]).map g
        rw [List.filter_cons, if_pos hp]
        rfl
      · rw [List.take_add_one, hx, List.filter_append, List.map_append, ha]
        show _ = _ ++ (List.filter p [x]).map g
        rw [List.filter_cons, if_neg (by rw [hp]; decide)]
        show _ = _ ++ []
        rw [List.append_nil]
theorem mem_rowsL {cs : List Cell} {p : Nat} : (rowsL cs).contains p = rowAt cs p := by
  rw [Bool.eq_iff_iff, List.contains_iff_mem]
  constructor
  · exact fun z => (List.mem_filter.mp z).2
  · refine fun z => List.mem_filter.mpr ⟨List.mem_range.mpr ?_, z⟩
    unfold rowAt at z
    cases h : cs[p]? with
    | none => rw [h] at z; cases z
    | some c => exact (List.getElem?_eq_some_iff.mp h).1
theorem in_rows {cs : List Cell} {l : Lk} : ((rowsL cs).map dNat).any (fun z => PyData.eqv z (dL l)) = (match l with
    | none => false
    | some p => rowAt cs p) := by
  cases l with
  | none =>
    rw [List.any_eq_false]
    intro z hz
    obtain ⟨i, _, rfl⟩ := List.mem_map.mp hz
    show ¬ PyData.eqv (.int (i : Int)) .none = true
    rw [v_intnone]
    decide
  | some p =>
    show ((rowsL cs).map dNat).any (fun z => PyData.eqv z (.int (p : Int))) = _
    rw [contains_dNat, mem_rowsL]
/-! ### what a name of the top holds, told by a Bool -/
mutual
def imB (K : PySem.W.Frag) : PyData → Value → Bool
  | .none, .none => true
  | .int i, .int j _ => decide (i = j)
  | .str x, .str y _ => decide (x = y)
  | .tuple ds, .ref a => (match K.lookup a with
    | some ⟨.type c, _, .seq its _, _⟩ => decide (c = "tuple") && (decide (its.size ≤ sizeLine) && imBs K ds its.toList)
    | _ => false)
  | _, _ => false
def imBs (K : PySem.W.Frag) : List PyData → List Value → Bool
  | [], [] => true
  | d :: ds, u :: us => imB K d u && imBs K ds us
  | _, _ => false
end
theorem bb {a b : Bool} (h : (a && b) = true) : a = true ∧ b = true := Bool.and_eq_true_iff.mp h
mutual
theorem imB_ok {K : PySem.W.Frag} : ∀ (d : PyData) (u : Value), imB K d u = true → ∃ v, RelV v u ∧ ∀ G, Im K G d v
  | .none, u, h => by
    cases u <;> first | exact ⟨.non, rfl, fun G => by rw [im_none]⟩ | (unfold imB at h; cases h)
  | .int i, u, h => by
    cases u with
    | int j t =>
      unfold imB at h
      have e := of_decide_eq_true h
      subst e
      exact ⟨.int i, ⟨t, rfl⟩, fun G => by rw [im_int]⟩
    | _ => unfold imB at h; cases h
  | .str x, u, h => by
    cases u with
    | str y t =>
      unfold imB at h
      have e := of_decide_eq_true h
      subst e
      exact ⟨.str x, ⟨t, rfl⟩, fun G => by rw [im_str]⟩
    | _ => unfold imB at h; cases h
  | .bool b, u, h => by cases u <;> (unfold imB at h; cases h)
  | .list ds, u, h => by cases u <;> (unfold imB at h; cases h)
  | .dict ds, u, h => by cases u <;> (unfold imB at h; cases h)
  | .tuple ds, u, h => by
    cases u with
    | ref a =>
      unfold imB at h
      split at h
      · rename_i c od its n sl e
        obtain ⟨h1, h⟩ := bb h
        obtain ⟨h2, h3⟩ := bb h
        obtain ⟨vs, r, im⟩ := imBs_ok ds its.toList h3
        refine ⟨.ref a, rfl, fun G => ?_⟩
        rw [im_tuple]
        exact ⟨a, vs, rfl, .inr ⟨_, its, n, e, congrArg Value.type (of_decide_eq_true h1), rfl, of_decide_eq_true h2, r⟩, im G⟩
      · cases h
    | _ => unfold imB at h; cases h
theorem imBs_ok {K : PySem.W.Frag} : ∀ (ds : List PyData) (us : List Value), imBs K ds us = true → ∃ vs, Vals vs us ∧ ∀ G, ImL K G ds vs
  | [], us, h => by
    cases us with
    | nil => exact ⟨[], .nil, fun G => .nil⟩
    | cons u us => unfold imBs at h; cases h
  | d :: ds, us, h => by
    cases us with
    | nil => unfold imBs at h; cases h
    | cons u us =>
      unfold imBs at h
      obtain ⟨h1, h2⟩ := bb h
      obtain ⟨v, r, im⟩ := imB_ok d u h1
      obtain ⟨vs, rs, ims⟩ := imBs_ok ds us h2
      exact ⟨v :: vs, .cons r rs, fun G => .cons (im G) (ims G)⟩
end
theorem imB_ref {K : PySem.W.Frag} {d : PyData} {a : Addr} (h : imB K d (.ref a) = true) : ∀ G, Im K G d (.ref a) := fun G => by
  obtain ⟨v, r, im⟩ := imB_ok d _ h
  have e : v = .ref a := by
    cases v <;> first | (cases r; rfl) | (obtain ⟨_, z⟩ := r; cases z; done) | (cases r; done)
  rw [← e]
  exact im G
end SF

/-! ## Judged: all that may come, plain -/
namespace SF
open PySem PySem.Spec PyProof.Rows L2
def deedsOf (f : File) : List Deed := Deed.take 0 :: (rowsL f.cells).map fun (p : Nat) => Deed.give (p : Int)
def manyOf (f : File) (r : Rule) (room : Nat) (d : Deed) : List Step := match writesF f r room d with
  | none => []
  | some ws => (List.range (ws.length + 1)).map fun (m : Nat) => (d, some (m : Int))
def stepsOf (f : File) (r : Rule) (room : Nat) : List Step := (deedsOf f).flatMap (manyOf f r room)
def hitW (cs : List Cell) : Write → Bool
  | (some p, .cell (.row _)) => rowAt cs p
  | _ => false
def overF (f : File) (r : Rule) (room : Nat) (s : Step) : Bool := match s.1 with
  | .take n => (match writesF f r room (.take n), s.2 with
    | some ws, some m => (ws.take m.toNat).any (hitW f.cells)
    | _, _ => false)
  | _ => false
section
variable {α : Type} (ext : α → Step → α) (r : Rule) (room : Nat)
abbrev Lv (α : Type) := List (File × α)
def visit (f : File) (st : α) : List Step → List File → Lv α → Option (α ⊕ (List File × Lv α))
  | [], met, lg => some (.inr (met, lg))
  | s :: ss, met, lg => if overF f r room s = true then some (.inl (ext st s)) else match steppedF f r room s with
    | none => none
    | some g => if g ∈ met then visit f st ss met lg else if met.length < 10000 then visit f st ss (met ++ [g]) (lg ++ [(g, ext st s)]) else none
def visits : Lv α → List File → Lv α → Option (α ⊕ (List File × Lv α))
  | [], met, lg => some (.inr (met, lg))
  | (f, st) :: rest, met, lg => match visit ext r room f st (stepsOf f r room) met lg with
    | none => none
    | some (.inl x) => some (.inl x)
    | some (.inr (met', lg')) => visits rest met' lg'
/-- level by level: how many levels, what was found -/
def search : Nat → Nat → Lv α → List File → Option (Option (Nat × α))
  | _, _, [], _ => some none
  | 0, _, _ :: _, _ => none
  | n + 1, k, lv :: lvs, met => match visits ext r room (lv :: lvs) met [] with
    | none => none
    | some (.inl x) => some (some (k + 1, x))
    | some (.inr (met', lg)) => search n (k + 1) lg met'
end
/-! ### the files that may come -/
def ZeroC (cs : List Cell) : Prop := ∀ c ∈ cs, ∀ n, c = .row n → n = 0
structure Good (room : Nat) (f : File) : Prop where
  fine : Fine f
  small : f.cells.length ≤ room
  zero : ZeroC f.cells
def eF : File := ⟨none, []⟩
theorem good_e {room : Nat} : Good room eF := ⟨⟨rfl, by decide, fun c h => by cases h⟩, Nat.zero_le _, fun c h => by cases h⟩
theorem zero_put {f : File} {w : Write} (h : ZeroC f.cells) (hw : ∀ n, w.2 = .cell (.row n) → n = 0) : ZeroC (put f w).cells := by
  obtain ⟨l, x⟩ := w
  cases l with
  | none => cases x <;> exact h
  | some p =>
    cases x with
    | link l => exact h
    | cell c =>
      have hc : ∀ n, c = .row n → n = 0 := fun n e => hw n (by rw [e])
      rw [put_cell]
      split
      · intro x hx
        rcases List.mem_append.mp hx with z | z
        · exact h x z
        · rw [List.mem_singleton.mp z]; exact hc
      · intro x hx
        rcases List.mem_or_eq_of_mem_set hx with z | z
        · exact h x z
        · rw [z]; exact hc
theorem zero_fold : ∀ {ws : List Write} {f : File}, ZeroC f.cells → (∀ w ∈ ws, ∀ n, w.2 = .cell (.row n) → n = 0) → ZeroC (ws.foldl put f).cells
  | [], f, h, _ => h
  | w :: ws, f, h, hw => zero_fold (ws := ws) (f := put f w) (zero_put h (hw w List.mem_cons_self)) fun v hv => hw v (List.mem_cons_of_mem _ hv)
theorem writes_zero {f : File} {r : Rule} {room : Nat} {d : Deed} {ws : List Write} (hd : d ∈ deedsOf f) (e : writesF f r room d = some ws) : ∀ w ∈ ws, ∀ n, w.2 = .cell (.row n) → n = 0 := by
  unfold deedsOf at hd
  rcases List.mem_cons.mp hd with z | z
  · subst z
    have e : takeW f r room 0 = some ws := by
      have e : (if (0 : Int) ≤ 0 ∧ (0 : Int) ≤ 999 then takeW f r room (0 : Int).toNat else none) = some ws := e
      rw [if_pos (by omega)] at e
      exact e
    unfold takeW at e
    split at e
    · split at e
      · cases e
        intro w hw n hn
        rw [List.mem_singleton.mp hw] at hn
        cases hn
        rfl
      · cases e
    · cases e
      intro w hw n hn
      rcases inOrder_mem hw with z | z
      · rw [z] at hn; cases hn
      · rw [z] at hn; cases hn; rfl
  · obtain ⟨p, _, rfl⟩ := List.mem_map.mp z
    have e : (if 0 ≤ (p : Int) ∧ (p : Int) < (f.cells.length : Int) ∧ rowAt f.cells ((p : Int)).toNat = true then some (inOrder r.2 (none, .link (some ((p : Int)).toNat)) (some ((p : Int)).toNat, .cell (.free f.head))) else none) = some ws := e
    split at e
    · cases e
      intro w hw n hn
      rcases inOrder_mem hw with z | z
      · rw [z] at hn; cases hn
      · rw [z] at hn; cases hn
    · cases e
theorem mem_steps {f : File} {r : Rule} {room : Nat} {s : Step} (h : s ∈ stepsOf f r room) : ∃ (d : Deed) (ws : List Write) (m : Nat), s = (d, some (m : Int)) ∧ d ∈ deedsOf f ∧ writesF f r room d = some ws ∧ m ≤ ws.length := by
  unfold stepsOf at h
  obtain ⟨d, hd, hs⟩ := List.mem_flatMap.mp h
  unfold manyOf at hs
  cases hw : writesF f r room d with
  | none => rw [hw] at hs; cases hs
  | some ws =>
    rw [hw] at hs
    obtain ⟨m, hm, rfl⟩ := List.mem_map.mp hs
    exact ⟨d, ws, m, rfl, hd, hw, by have := List.mem_range.mp hm; omega⟩
theorem stepped_some {f : File} {r : Rule} {room : Nat} {d : Deed} {ws : List Write} {m : Nat} (hw : writesF f r room d = some ws) (hm : m ≤ ws.length) : steppedF f r room (d, some (m : Int)) = some ((ws.take m).foldl put f) := by
  unfold steppedF
  show (match writesF f r room d with | none => none | some ws => doneF f ws (some (m : Int))) = _
  rw [hw]
  show (if 0 ≤ (m : Int) ∧ (m : Int) ≤ (ws.length : Int) then some ((ws.take (m : Int).toNat).foldl put f) else none) = _
  rw [if_pos (by omega), Int.toNat_natCast]
theorem writesF_room {f : File} {r : Rule} {room : Nat} {d : Deed} {ws : List Write} (h : Fine f) (hr : room ≤ 12) (e : writesF f r room d = some ws) : (∀ w ∈ ws, wOk f.cells.length w = true) ∨ ∃ w, ws = [w] ∧ wEnd f.cells.length w = true ∧ f.cells.length < room := by
  rcases writesF_ok h hr e with h1 | ⟨w, rfl, hw⟩
  · exact .inl h1
  · refine .inr ⟨w, rfl, hw, ?_⟩
    cases d with
    | mend =>
      have e : mendsF f = [w] := Option.some.inj e
      have e2 := congrArg List.length e
      unfold mendsF at e2
      split at e2
      · cases e2
      · rw [List.length_append, List.length_append] at e2
        simp at e2
    | other w n => cases e
    | give p =>
      have e : (if 0 ≤ p ∧ p < (f.cells.length : Int) ∧ rowAt f.cells p.toNat = true then some (inOrder r.2 (none, .link (some p.toNat)) (some p.toNat, .cell (.free f.head))) else none) = some [w] := e
      split at e
      · have e2 := congrArg List.length (Option.some.inj e)
        unfold inOrder at e2
        split at e2 <;> cases e2
      · cases e
    | take n =>
      have e : (if 0 ≤ n ∧ n ≤ 999 then takeW f r room n.toNat else none) = some [w] := e
      split at e
      · unfold takeW at e
        cases hh : f.head with
        | none =>
          rw [hh] at e
          have e : (if f.cells.length < room then some [((some f.cells.length, .cell (.row n.toNat)) : Write)] else none) = some [w] := e
          split at e
          · assumption
          · cases e
        | some p =>
          rw [hh] at e
          have e2 := congrArg List.length (Option.some.inj e)
          unfold inOrder at e2
          split at e2 <;> cases e2
      · cases e
theorem stepped_room {f g : File} {r : Rule} {room : Nat} {s : Step} (hf : Fine f) (hr : room ≤ 12) (hl : f.cells.length ≤ room) (e : steppedF f r room s = some g) : g.cells.length ≤ room := by
  unfold steppedF at e
  cases hw : writesF f r room s.1 with
  | none => rw [hw] at e; cases e
  | some ws =>
    rw [hw] at e
    have hk : ∃ vs : List Write, g = vs.foldl put f ∧ ∃ k, vs = ws.take k := by
      have e : doneF f ws s.2 = some g := e
      unfold doneF at e
      split at e
      · cases e
        exact ⟨ws, rfl, ws.length, (List.take_length).symm⟩
      · split at e
        · cases e
          exact ⟨_, rfl, _, rfl⟩
        · cases e
    obtain ⟨vs, rfl, k, rfl⟩ := hk
    rcases writesF_room hf hr hw with h1 | ⟨w, rfl, hw2, hlt⟩
    · rw [(foldPut_fine hf fun w hw => h1 w (List.mem_of_mem_take hw)).2]
      exact hl
    · cases k with
      | zero => exact hl
      | succ k =>
        have e1 : [w].take (k + 1) = [w] := by simp
        rw [e1]
        show (put f w).cells.length ≤ room
        rw [(putEnd_fine hf hw2).2]
        exact hlt
theorem good_step {f : File} {r : Rule} {room : Nat} {s : Step} (h : Good room f) (hr : room ≤ 12) (hs : s ∈ stepsOf f r room) : ∃ g, steppedF f r room s = some g ∧ Good room g := by
  obtain ⟨d, ws, m, rfl, hd, hw, hm⟩ := mem_steps hs
  have e := stepped_some hw hm
  exact ⟨_, e, steppedF_fine h.fine hr e, stepped_room h.fine hr h.small e, zero_fold h.zero fun w hw' => writes_zero hd hw w (List.mem_of_mem_take hw')⟩
/-! ### how many they are -/
def linksU (n : Nat) : List Lk := none :: (List.range n).map some
def cellsU (n : Nat) : List Cell := .row 0 :: (linksU n).map .free
def listsU (n : Nat) : Nat → List (List Cell)
  | 0 => [[]]
  | k + 1 => (listsU n k).flatMap fun l => (cellsU n).map fun c => c :: l
def allU : List File := (List.range 5).flatMap fun n => (linksU n).flatMap fun h => (listsU n n).map fun cs => ⟨h, cs⟩
theorem allU_len : allU.length = 7035 := by decide +kernel
theorem mem_links {n : Nat} {l : Lk} (h : linkOk n l = true) : l ∈ linksU n := by
  cases l with
  | none => exact List.mem_cons_self
  | some i => exact List.mem_cons_of_mem _ (List.mem_map.mpr ⟨i, List.mem_range.mpr (of_decide_eq_true h), rfl⟩)
theorem mem_lists {n : Nat} : ∀ {cs : List Cell}, ZeroC cs → (∀ c ∈ cs, cellOk n c = true) → cs ∈ listsU n cs.length
  | [], _, _ => List.mem_singleton.mpr rfl
  | c :: cs, hz, h => by
    refine List.mem_flatMap.mpr ⟨cs, mem_lists (fun x hx => hz x (List.mem_cons_of_mem _ hx)) (fun x hx => h x (List.mem_cons_of_mem _ hx)), List.mem_map.mpr ⟨c, ?_, rfl⟩⟩
    cases c with
    | row k => rw [hz _ List.mem_cons_self k rfl]; exact List.mem_cons_self
    | free l => exact List.mem_cons_of_mem _ (List.mem_map.mpr ⟨l, mem_links (h _ List.mem_cons_self), rfl⟩)
theorem mem_allU {room : Nat} (hr : room ≤ 4) {f : File} (h : Good room f) : f ∈ allU := by
  have hs := h.small
  refine List.mem_flatMap.mpr ⟨f.cells.length, List.mem_range.mpr (by omega), List.mem_flatMap.mpr ⟨f.head, mem_links h.fine.head, List.mem_map.mpr ⟨f.cells, mem_lists h.zero h.fine.cells, rfl⟩⟩⟩
theorem few_met {room : Nat} (hr : room ≤ 4) {met : List File} (nd : met.Nodup) (h : ∀ f ∈ met, Good room f) : met.length ≤ 7035 := by
  have := List.Nodup.length_le_of_subset nd (l₂ := allU) fun f hf => mem_allU hr (h f hf)
  rwa [allU_len] at this
/-! ### the search ends -/
section
variable {α : Type} {ext : α → Step → α} {r : Rule} {room : Nat}
theorem visit_ends (hr : room ≤ 4) {f : File} {st : α} (hf : Good room f) : ∀ {ss : List Step} {met : List File} {lg : Lv α}, (∀ s ∈ ss, s ∈ stepsOf f r room) → met.Nodup → (∀ f ∈ met, Good room f) → (∀ x ∈ lg, Good room x.1) →
    (∃ x, visit ext r room f st ss met lg = some (.inl x) ∧ ∃ s ∈ ss, overF f r room s = true) ∨ ∃ met' lg', visit ext r room f st ss met lg = some (.inr (met', lg')) ∧ met'.Nodup ∧ (∀ f ∈ met', Good room f) ∧ (∀ x ∈ lg', Good room x.1) ∧ met'.length + lg.length = met.length + lg'.length ∧ (∀ x ∈ lg', x ∈ lg ∨ ∃ s ∈ ss, steppedF f r room s = some x.1)
  | [], met, lg, _, nd, hm, hl => .inr ⟨met, lg, rfl, nd, hm, hl, rfl, fun x hx => .inl hx⟩
  | s :: ss, met, lg, hs, nd, hm, hl => by
    have hs2 : ∀ s ∈ ss, s ∈ stepsOf f r room := fun t ht => hs t (List.mem_cons_of_mem _ ht)
    rw [visit]
    cases ho : overF f r room s with
    | true => exact .inl ⟨_, by rw [if_pos rfl], s, List.mem_cons_self, ho⟩
    | false =>
      rw [if_neg (by decide)]
      obtain ⟨g, hg, hgg⟩ := good_step hf (by omega) (hs s List.mem_cons_self)
      rw [hg]
      dsimp only
      by_cases q : g ∈ met
      · rw [if_pos q]
        rcases visit_ends hr hf (st := st) hs2 nd hm hl with ⟨x, e, t, ht, h⟩ | ⟨met', lg', e, h1, h2, h3, h4, h5⟩
        · exact .inl ⟨x, e, t, List.mem_cons_of_mem _ ht, h⟩
        · refine .inr ⟨met', lg', e, h1, h2, h3, h4, fun x hx => ?_⟩
          rcases h5 x hx with z | ⟨t, ht, z⟩
          · exact .inl z
          · exact .inr ⟨t, List.mem_cons_of_mem _ ht, z⟩
      · have hlen := few_met hr nd hm
        rw [if_neg q, if_pos (by omega)]
        have nd2 : (met ++ [g]).Nodup := List.nodup_append.mpr ⟨nd, by simp, fun a ha b hb e => q (by rw [List.mem_singleton.mp hb] at e; rw [← e]; exact ha)⟩
        have hm2 : ∀ f ∈ met ++ [g], Good room f := fun x hx => by
          rcases List.mem_append.mp hx with z | z
          · exact hm x z
          · rw [List.mem_singleton.mp z]; exact hgg
        have hl2 : ∀ x ∈ lg ++ [(g, ext st s)], Good room x.1 := fun x hx => by
          rcases List.mem_append.mp hx with z | z
          · exact hl x z
          · rw [List.mem_singleton.mp z]; exact hgg
        rcases visit_ends hr hf (st := st) hs2 nd2 hm2 hl2 with ⟨x, e, t, ht, h⟩ | ⟨met', lg', e, h1, h2, h3, h4, h5⟩
        · exact .inl ⟨x, e, t, List.mem_cons_of_mem _ ht, h⟩
        · refine .inr ⟨met', lg', e, h1, h2, h3, by rw [List.length_append, List.length_append] at h4; simp only [List.length_singleton] at h4; omega, fun x hx => ?_⟩
          rcases h5 x hx with z | ⟨t, ht, z⟩
          · rcases List.mem_append.mp z with z | z
            · exact .inl z
            · rw [List.mem_singleton.mp z]
              exact .inr ⟨s, List.mem_cons_self, hg⟩
          · exact .inr ⟨t, List.mem_cons_of_mem _ ht, z⟩
/-- a property of files that all steps keep, by which nothing is written over -/
def Closed (r : Rule) (room : Nat) (S : File → Prop) : Prop := ∀ f, Good room f → S f → ∀ s ∈ stepsOf f r room, overF f r room s = false ∧ ∀ g, steppedF f r room s = some g → S g
theorem visits_ends (hr : room ≤ 4) (S : File → Prop) : ∀ {lv : Lv α} {met : List File} {lg : Lv α}, (∀ x ∈ lv, Good room x.1) → met.Nodup → (∀ f ∈ met, Good room f) → (∀ x ∈ lg, Good room x.1) →
    (∃ x, visits ext r room lv met lg = some (.inl x) ∧ ¬ (Closed r room S ∧ ∀ x ∈ lv, S x.1)) ∨ ∃ met' lg', visits ext r room lv met lg = some (.inr (met', lg')) ∧ met'.Nodup ∧ (∀ f ∈ met', Good room f) ∧ (∀ x ∈ lg', Good room x.1) ∧ met'.length + lg.length = met.length + lg'.length ∧
      (Closed r room S → (∀ x ∈ lv, S x.1) → (∀ x ∈ lg, S x.1) → ∀ x ∈ lg', S x.1)
  | [], met, lg, _, nd, hm, hl => .inr ⟨met, lg, rfl, nd, hm, hl, rfl, fun _ _ h => h⟩
  | (f, st) :: rest, met, lg, hv, nd, hm, hl => by
    have hf := hv _ List.mem_cons_self
    have hv2 : ∀ x ∈ rest, Good room x.1 := fun x hx => hv x (List.mem_cons_of_mem _ hx)
    rw [visits]
    rcases visit_ends (ext := ext) (r := r) hr hf (st := st) (fun s hs => hs) nd hm hl with ⟨x, e, t, ht, h⟩ | ⟨met', lg', e, h1, h2, h3, h4, h5⟩
    · rw [e]
      refine .inl ⟨x, rfl, fun ⟨c, hS⟩ => ?_⟩
      have := (c f hf (hS _ List.mem_cons_self) t ht).1
      rw [h] at this
      cases this
    · rw [e]
      show (∃ x, visits ext r room rest met' lg' = some (.inl x) ∧ _) ∨ ∃ met2 lg2, visits ext r room rest met' lg' = some (.inr (met2, lg2)) ∧ _
      rcases visits_ends hr S (lv := rest) hv2 h1 h2 h3 with ⟨x, e, h⟩ | ⟨met2, lg2, e, k1, k2, k3, k4, k5⟩
      · exact .inl ⟨x, e, fun ⟨c, hS⟩ => h ⟨c, fun x hx => hS x (List.mem_cons_of_mem _ hx)⟩⟩
      · refine .inr ⟨met2, lg2, e, k1, k2, k3, by omega, fun c hS hl' => k5 c (fun x hx => hS x (List.mem_cons_of_mem _ hx)) fun x hx => ?_⟩
        rcases h5 x hx with z | ⟨t, ht, z⟩
        · exact hl' x z
        · exact (c f hf (hS _ List.mem_cons_self) t ht).2 _ z
theorem search_ends (hr : room ≤ 4) (S : File → Prop) : ∀ {n k : Nat} {lv : Lv α} {met : List File}, (∀ x ∈ lv, Good room x.1) → met.Nodup → (∀ f ∈ met, Good room f) → 7035 < n + met.length →
    ∃ R, search ext r room n k lv met = some R ∧ (Closed r room S → (∀ x ∈ lv, S x.1) → R = none)
  | n, k, [], met, _, _, _, _ => by
    refine ⟨none, ?_, fun _ _ => rfl⟩
    cases n <;> rfl
  | 0, k, lv :: lvs, met, _, nd, hm, h => by
    have := few_met hr nd hm
    omega
  | n + 1, k, lv :: lvs, met, hv, nd, hm, h => by
    rw [search]
    rcases visits_ends (ext := ext) (r := r) hr S (lg := []) hv nd hm (fun x hx => by cases hx) with ⟨x, e, h⟩ | ⟨met', lg', e, h1, h2, h3, h4, h5⟩
    · rw [e]
      exact ⟨_, rfl, fun c hS => absurd ⟨c, hS⟩ h⟩
    · rw [e]
      show ∃ R, search ext r room n (k + 1) lg' met' = some R ∧ _
      have h4 : met'.length + 0 = met.length + lg'.length := h4
      cases lg' with
      | nil =>
        refine ⟨none, ?_, fun _ _ => rfl⟩
        cases n <;> rfl
      | cons x xs =>
        rw [List.length_cons] at h4
        obtain ⟨R, e2, hR⟩ := search_ends hr S (n := n) (k := k + 1) h3 h1 h2 (by omega)
        exact ⟨R, e2, fun c hS => hR c (h5 c hS fun x hx => by cases hx)⟩
end
/-! ### the safe rule -/
def Chn (f : File) : Prop := ∃ ps, Links f.cells f.head ps ∧ ps.Nodup
theorem chn_e : Chn eF := ⟨[], rfl, List.nodup_nil⟩
theorem safe_closed {room : Nat} : Closed (true, false) room Chn := by
  intro f hf ⟨ps, hl, nd⟩ s hs
  obtain ⟨d, ws, m, rfl, hd, hw, hm⟩ := mem_steps hs
  have e := stepped_some hw hm
  unfold deedsOf at hd
  rcases List.mem_cons.mp hd with z | z
  · subst z
    have hw2 : takeW f (true, false) room 0 = some ws := by
      have e : (if (0 : Int) ≤ 0 ∧ (0 : Int) ≤ 999 then takeW f (true, false) room (0 : Int).toNat else none) = some ws := hw
      rw [if_pos (by omega)] at e
      exact e
    have eo : overF f (true, false) room (.take 0, some (m : Int)) = (ws.take m).any (hitW f.cells) := by
      show (match writesF f (true, false) room (.take 0), (some (m : Int) : Many) with | some ws, some m => (ws.take m.toNat).any (hitW f.cells) | _, _ => false) = _
      rw [hw]
      show (ws.take (m : Int).toNat).any (hitW f.cells) = _
      rw [Int.toNat_natCast]
    unfold takeW at hw2
    cases hh : f.head with
    | none =>
      rw [hh] at hw2
      have hw2 : (if f.cells.length < room then some [((some f.cells.length, .cell (.row 0)) : Write)] else none) = some ws := hw2
      split at hw2
      · cases hw2
        refine ⟨?_, fun g hg => ?_⟩
        · rw [eo, List.any_eq_false]
          intro w hw'
          rw [List.mem_singleton.mp (List.mem_of_mem_take hw')]
          show ¬ rowAt f.cells f.cells.length = true
          unfold rowAt
          rw [List.getElem?_eq_none (Nat.le_refl _)]
          decide
        · rw [e] at hg
          cases hg
          match m, hm with
          | 0, _ => exact ⟨ps, hl, nd⟩
          | 1, _ =>
            have e : ([((some f.cells.length, .cell (.row 0)) : Write)].take 1).foldl put f = ⟨f.head, f.cells ++ [.row 0]⟩ := by
              show put f (some f.cells.length, .cell (.row 0)) = _
              rw [put_cell, if_pos rfl]
            rw [e, hh]
            exact ⟨[], rfl, List.nodup_nil⟩
          | k + 2, hk => simp at hk
      · cases hw2
    | some p =>
      rw [hh] at hw2 hl
      have hw2 : some [((none, .link (freeLk f.cells p)) : Write), (some p, .cell (.row 0))] = some ws := hw2
      cases hw2
      cases ps with
      | nil => cases (show (some p : Lk) = none from hl)
      | cons p' ps =>
        obtain ⟨e0, l, hm0, hl2⟩ := hl
        cases e0
        rw [List.nodup_cons] at nd
        have e1 : freeLk f.cells p = l := by unfold freeLk; rw [hm0]
        have hp : p < f.cells.length := (List.getElem?_eq_some_iff.mp hm0).1
        refine ⟨?_, fun g hg => ?_⟩
        · rw [eo, List.any_eq_false]
          intro w hw'
          rcases List.mem_cons.mp (List.mem_of_mem_take hw') with z | z
          · rw [z]; show ¬ false = true; decide
          · rw [List.mem_singleton.mp z]
            show ¬ rowAt f.cells p = true
            unfold rowAt
            rw [hm0]
            show ¬ false = true
            decide
        · rw [e] at hg
          cases hg
          match m, hm with
          | 0, _ => exact ⟨p :: ps, by rw [show ([((none, .link (freeLk f.cells p)) : Write), (some p, .cell (.row 0))].take 0).foldl put f = f from rfl, hh]; exact ⟨rfl, l, hm0, hl2⟩, List.nodup_cons.mpr nd⟩
          | 1, _ =>
            show Chn ⟨freeLk f.cells p, f.cells⟩
            rw [e1]
            exact ⟨ps, hl2, nd.2⟩
          | 2, _ =>
            have e : ([((none, .link (freeLk f.cells p)) : Write), (some p, .cell (.row 0))].take 2).foldl put f = ⟨l, f.cells.set p (.row 0)⟩ := by
              rw [← e1]
              exact put_two (b := true) hp
            rw [e]
            exact ⟨ps, hl2.mono fun i hi => List.getElem?_set_ne (fun z => nd.1 (by rw [z]; exact hi)), nd.2⟩
          | k + 3, hk => simp at hk
  · obtain ⟨N, hN0, rfl⟩ := List.mem_map.mp z
    refine ⟨rfl, fun g hg => ?_⟩
    rw [e] at hg
    cases hg
    have hw : (if 0 ≤ (N : Int) ∧ (N : Int) < (f.cells.length : Int) ∧ rowAt f.cells (N : Int).toNat = true then some (inOrder false (none, .link (some (N : Int).toNat)) (some (N : Int).toNat, .cell (.free f.head))) else none) = some ws := hw
    split at hw
    · rename_i hp
      rw [Int.toNat_natCast] at hw hp
      have hN : N < f.cells.length := by omega
      have hnc : N ∉ ps := fun z => row_not_free hp.2.2 (mem_freeL.mpr (links_free hl N z))
      have hlm : Links (f.cells.set N (.free f.head)) f.head ps := hl.mono fun i hi => List.getElem?_set_ne (fun z => hnc (by rw [z]; exact hi))
      have hw : some [((some N, .cell (.free f.head)) : Write), (none, .link (some N))] = some ws := hw
      cases hw
      have e1 : put f (some N, .cell (.free f.head)) = ⟨f.head, f.cells.set N (.free f.head)⟩ := by
        rw [put_cell, if_neg (by omega)]
      match m, hm with
      | 0, _ => exact ⟨ps, hl, nd⟩
      | 1, _ =>
        show Chn (put f (some N, .cell (.free f.head)))
        rw [e1]
        exact ⟨ps, hlm, nd⟩
      | 2, _ =>
        show Chn (put (put f (some N, .cell (.free f.head))) (none, .link (some N)))
        rw [e1]
        exact ⟨N :: ps, ⟨rfl, f.head, List.getElem?_set_self hN, hlm⟩, List.nodup_cons.mpr ⟨hnc, nd⟩⟩
      | k + 3, hk => simp at hk
    · cases hw
/-! ### what is judged -/
def extS (st : List Step) (s : Step) : List Step := st ++ [s]
def extU (_ : Unit) (_ : Step) : Unit := ()
def judgeF (r : Rule) (room : Nat) : Option (Option (Nat × List Step)) := search extS r room 7100 0 [(eF, [])] [eF]
def fewestF (r : Rule) (room : Nat) : Option (Option (Nat × Unit)) := search extU r room 7100 0 [(eF, ())] []
theorem judge_ends (r : Rule) {room : Nat} (hr : room ≤ 4) : ∃ R, judgeF r room = some R := by
  obtain ⟨R, e, _⟩ := search_ends (ext := extS) (r := r) hr (fun _ => True) (n := 7100) (k := 0) (lv := [(eF, [])]) (met := [eF]) (fun x hx => by rw [List.mem_singleton.mp hx]; exact good_e) (by simp) (fun f hf => by rw [List.mem_singleton.mp hf]; exact good_e) (by decide)
  exact ⟨R, e⟩
theorem judge_safe {room : Nat} (hr : room ≤ 4) : judgeF (true, false) room = some none ∧ fewestF (true, false) room = some none := by
  constructor
  · obtain ⟨R, e, h⟩ := search_ends (ext := extS) (r := (true, false)) hr Chn (n := 7100) (k := 0) (lv := [(eF, [])]) (met := [eF]) (fun x hx => by rw [List.mem_singleton.mp hx]; exact good_e) (by simp) (fun f hf => by rw [List.mem_singleton.mp hf]; exact good_e) (by decide)
    have := h safe_closed fun x hx => by rw [List.mem_singleton.mp hx]; exact chn_e
    rw [this] at e
    exact e
  · obtain ⟨R, e, h⟩ := search_ends (ext := extU) (r := (true, false)) hr Chn (n := 7100) (k := 0) (lv := [(eF, ())]) (met := []) (fun x hx => by rw [List.mem_singleton.mp hx]; exact good_e) (by simp) (fun f hf => by cases hf) (by decide)
    have := h safe_closed fun x hx => by rw [List.mem_singleton.mp hx]; exact chn_e
    rw [this] at e
    exact e
/-- told: steps that may come one behind the other, the last one alone writes over -/
def toldF (r : Rule) (room : Nat) : File → List Step → Bool
  | _, [] => true
  | f, s :: ss => decide (s ∈ stepsOf f r room) && (overF f r room s == ss.isEmpty) && (match steppedF f r room s with
    | none => false
    | some g => toldF r room g ss)
def lostOk (r : Rule) (room : Nat) : Bool := match judgeF r room, fewestF r room with
  | some (some (_, st)), some (some (k, _)) => decide (st.length = k) && decide (0 < k ∧ k ≤ 100) && toldF r room eF st
  | _, _ => false
theorem lost_ok : (([(true, true), (false, true), (false, false)] : List Rule).all fun r => ([1, 2, 3, 4] : List Nat).all fun room => lostOk r room) = true := by decide +kernel
/-! ### files as keys -/
def keyL : Lk → NestedKey
  | none => .none
  | some i => .num (i : Int)
def keyC : Cell → NestedKey
  | .row n => .tup [.text sRow, .num (n : Int)]
  | .free l => .tup [.text sFree, keyL l]
def keysF (f : File) : List NestedKey := [keyL f.head, .tup (f.cells.map keyC)]
def keyF (f : File) : NestedKey := .tup (keysF f)
theorem keyL_data (l : Lk) : (keyL l).data = dL l := by cases l <;> rfl
theorem keyC_data (c : Cell) : (keyC c).data = dC c := by
  cases c with
  | row n => rfl
  | free l => cases l <;> rfl
theorem keyCs_data : ∀ cs : List Cell, NestedKey.datas (cs.map keyC) = cs.map dC
  | [] => rfl
  | c :: cs => by
    show (keyC c).data :: NestedKey.datas (cs.map keyC) = _
    rw [keyC_data, keyCs_data cs]
    rfl
theorem keyF_data (f : File) : (NestedKey.tup (keysF f)).data = dF f := by
  show PyData.tuple [(keyL f.head).data, .tuple (NestedKey.datas (f.cells.map keyC))] = _
  rw [keyL_data, keyCs_data]
  rfl
theorem keyC_depth (c : Cell) : (keyC c).depth ≤ 1 := by
  cases c with
  | row n => exact Nat.le_refl 1
  | free l => cases l <;> exact Nat.le_refl 1
theorem keyCs_depth : ∀ cs : List Cell, NestedKey.depthAll (cs.map keyC) ≤ 1
  | [] => Nat.zero_le _
  | c :: cs => by
    show max (keyC c).depth (NestedKey.depthAll (cs.map keyC)) ≤ 1
    have h1 := keyC_depth c
    have h2 := keyCs_depth cs
    omega
theorem keyF_depth (f : File) : (NestedKey.tup (keysF f)).depth ≤ 8 := by
  show max (keyL f.head).depth (max (NestedKey.depthAll (f.cells.map keyC) + 1) 0) + 1 ≤ 8
  have h1 : (keyL f.head).depth = 0 := by cases f.head <;> rfl
  have h2 := keyCs_depth f.cells
  omega
theorem keyF_inj {f g : File} (h : keyF f = keyF g) : f = g := by
  have e := congrArg NestedKey.data h
  rw [show (keyF f).data = dF f from keyF_data f, show (keyF g).data = dF g from keyF_data g] at e
  have v := v_dF (a := f) (b := g)
  rw [e, SeqAt.eqv_refl _ (shp_dF g).1] at v
  exact of_decide_eq_true v.symm
theorem keyF_mem {f : File} {met : List File} : decide (NestedKey.tup (keysF f) ∈ met.map keyF) = decide (f ∈ met) := by
  rw [decide_eq_decide]
  constructor
  · intro h
    obtain ⟨g, hg, e⟩ := List.mem_map.mp h
    rw [← keyF_inj e]
    exact hg
  · exact fun h => List.mem_map.mpr ⟨f, h, rfl⟩
end SF

/-! ## x = f(..); if ..: .. else: .. x[1].append(()) -/
namespace SF
open PySem PySem.Spec PyProof.Rows L2
def tApp1 (K : PySem.W.Frag) (i : Nat) : TS := fun D σ H => ∃ (t : Addr) (v0 : V) (l : Addr) (xs : List V), σ[i]? = some (some (.ref t)) ∧ SqT K H t [v0, .ref l] ∧ H l = some (.lst xs) ∧ xs.length ≤ 100000 ∧
  ∀ H', (∀ a u, a ∉ [l] → H a = some u → H' a = some u) → (∀ a, H a ≠ none → H' a ≠ none) → D.nx σ H'
section
variable {X : Cx} {pos p1 p2 p3 apos cpos epos : Pos} {ni : Str} {j1 k : Nat}
theorem ps_app1 (i : Nat) (hi : X.N[i]? = some ni := by rfl) (hvi : Vis X.env.scope ni := by first | exact Or.inl rfl | exact Or.inr (Or.inl rfl) | exact Or.inr (Or.inr rfl))
    (d1 : (ni == ("__debug__" : Str)) = false := by decide) (d2 : (ni == ("__classdict__" : Str)) = false := by decide) (hpi : PlainIx (.Constant (.int 1) j1 p2) := by intro _ _; rfl)
    (hb : attributeBase (.Subscript (.Name ni p1) (.Constant (.int 1) j1 p2) p3) "append" X.env (eval (.Subscript (.Name ni p1) (.Constant (.int 1) j1 p2) p3) X.env) = eval (.Subscript (.Name ni p1) (.Constant (.int 1) j1 p2) p3) X.env := by rfl)
    (hfew : ((backTo cpos (starEach [.Tuple [] k epos] X.env)).all (fun x => !x.1) && (backToKw cpos (keywordEach [] X.env)).all (fun x => x.1.isSome) && decide ([Expr.Tuple [] k epos].length + ([] : List Keyword).length + (if ([] : List Keyword).isEmpty then 0 else 1) < 30)) = true := by rfl)
    (hline : (apos.endLine == cpos.line) = true := by rfl) (hse : starEach [.Tuple [] k epos] X.env = (false, eval (.Tuple [] k epos) X.env) :: starEach [] X.env := by rfl) (hpl : (backTo cpos (starEach [] X.env)).any (·.1) = false := by rfl)
    (hs : swapsWith (.Call (.Attribute (.Subscript (.Name ni p1) (.Constant (.int 1) j1 p2) p3) "append" apos) [.Tuple [] k epos] [] cpos) none pos.line X.env = pure false := by rfl) :
    PS X (.Expr (.Call (.Attribute (.Subscript (.Name ni p1) (.Constant (.int 1) j1 p2) p3) "append" apos) [.Tuple [] k epos] [] cpos) pos) (tApp1 X.K i) :=
  ps_imp (ps_expr (pe_bm PySem.F.plainAttrs_list PySem.F.slot_list_append PySem.F.type_list_append mt_append (pe_ix ix_tup (pe_var hi hvi d1 d2) pe_int hpi) (pa_cons (pe_tup pa_nil) pa_nil hse) hb hfew hline hse hpl) hs) fun D σ H h => by
    obtain ⟨t, v0, l, xs, h1, h2, h3, h4, q⟩ := h
    refine ⟨.ref t, h1, t, [v0, .ref l], 1, .ref l, rfl, rfl, h2, rfl, .inl ⟨rfl, xs, sq_of h3⟩, (by show 0 ≤ sizeLine; exact Nat.zero_le _), fun p hp => ?_⟩
    have hlp : l ≠ p := fun e => by rw [e, hp] at h3; cases h3
    refine ⟨l, xs, .ref p, rfl, rfl, by rw [upd_ne hlp]; exact h3, Nat.lt_of_le_of_lt h4 (by rw [sizeLine_eq]; omega), q _ (fun a u ha hu => ?_) fun a ha => ?_⟩
    · rw [upd_ne (fun e => ha (List.mem_singleton.mpr e)), upd_ne (fun e => by rw [e, hp] at hu; cases hu)]
      exact hu
    · by_cases e : a = l
      · rw [e, upd_same]
        exact fun z => by cases z
      · rw [upd_ne e, upd_ne (show a ≠ p from fun e2 => ha (by rw [e2]; exact hp))]
        exact ha
end
section
variable {K : PySem.W.Frag} {c : Cn} {ρ : Rho} {σ : L2.St} {G1 H1 G4 H4 H5 : Hp}
/-- the state behind a change of what was told, one slot -/
theorem spoil_one {ls : List Addr} {i : Nat} {d : PyData} {o1 : Option V} (S1 : Sat K c ρ σ G1 H1) (S4 : Sat K c (ρ.set i (.dat d)) (σ.set i o1) G4 H4) (e14 : Ex G1 G4)
    (k14 : ∀ a u, H1 a = some u → ¬ IsRow ρ σ a → NTbl u → H4 a = some u) (t14 : TblK K H1 H4) (a14 : AvT H1 G1 G4) (hnew : ∀ l ∈ ls, H1 l = none) (hG4 : ∀ l ∈ ls, ∃ xs, G4 l = some (.lst xs))
    (h45 : ∀ a u, a ∉ ls → H4 a = some u → H5 a = some u) (h45' : ∀ a, H4 a ≠ none → H5 a ≠ none) (t45 : TblK K H4 H5) : Sat K c (ρ.set i .no) (σ.set i o1) (cutL G4 ls) H5 := by
  have hl := S1.len
  have e1 : ∀ (l : List Ent) (x : Ent), l.length = ρ.length → l.set ρ.length x = l := fun l x h => List.set_eq_of_length_le (by omega)
  have e2 : ∀ (l : List (Option V)) (x : Option V), l.length = σ.length → l.set ρ.length x = l := fun l x h => List.set_eq_of_length_le (by omega)
  have l1 : (ρ.set i (.dat d)).length = ρ.length := List.length_set ..
  have l2 : (ρ.set i Ent.no).length = ρ.length := List.length_set ..
  have l3 : (σ.set i o1).length = σ.length := List.length_set ..
  have := spoil_sat (ls := ls) (i := i) (k := ρ.length) (s := ρ.length) (d := d) (es := []) (o1 := o1) (o2 := none) (o := none) S1 (by rw [e1 _ _ l1, e2 _ _ l3]; exact S4) e14 k14 t14 a14 hnew hG4 rfl h45 h45' t45
  rw [e1 _ _ l2, e1 _ _ l2, e2 _ _ l3, e2 _ _ l3] at this
  exact this
end
section
variable {X : Cx} {b : Bs} {st1 stA : Stmt} {e0 eA eB eC : Expr} {rA rB rC : Stmt} {pa p0 pb pc : Pos} {t1 : TS} {w0 wA wB wC : WT} {wa : WA}
def wLost (i : Nat) (T : Tf) (wa : WA) (w0 wA wB wC : WT) : WS := fun ρ Ψ => i < ρ.length ∧ wa ρ (fun ds => nolL ds = true ∧ T ds (fun r1 => w0 (ρ.set i (.dat r1.frz)) (fun q => if q = true then wA (ρ.set i (.dat r1.frz)) (fun q => q = false ∧ Ψ.nx (ρ.set i (.dat r1.frz))) (fun _ => False)
  else wB (ρ.set i (.dat r1.frz)) (fun q => q = false ∧ wC (ρ.set i (.dat r1.frz)) (fun q => q = false ∧ (∃ (d0 : PyData) (ds : List PyData), r1.frz = .tuple [d0, .list ds] ∧ ds.length ≤ 100000) ∧ Ψ.nx (ρ.set i .no)) (fun _ => False)) (fun _ => False)) (fun _ => False)) (fun _ => False)) Ψ.xc
theorem psis_lost (i : Nat) {T : Tf} {n : Nat}
    (h1 : PS X st1 t1) (H1 : ∀ D σ H, taOf X.K b n wa σ H (fun vs H1 => spP X.K b.XR T (vs ++ []) H1 (fun v H2 => D.nx (σ.set i (some v)) H2) b.E) → t1 D σ H)
    (h0 : PTI X b e0 w0) (hA : PTI X b eA wA) (hB : PTI X b eB wB) (hC : PTI X b eC wC) (nA : PS X rA (fun _ _ _ => False)) (nB : PS X rB (fun _ _ _ => False)) (nC : PS X rC (fun _ _ _ => False)) (ha : PS X stA (tApp1 X.K i)) : PSsI X b [st1, .If e0 [.If eA [rA] [] pa] [.If eB [rB] [] pb, .If eC [rC] [] pc, stA] p0] (wLost i T wa w0 wA wB wC) :=
  pss_imp (pss_cons h1 (pss_one (ps_if h0 (pss_one (ps_if hA (pss_one nA) pss_nil)) (pss_cons (ps_if hB (pss_one nB) pss_nil) (pss_cons (ps_if hC (pss_one nC) pss_nil) (pss_one ha)))))) fun D σ H ⟨c, ρ, G, Ψ, S, ⟨hi, hw⟩, p⟩ => by
    refine H1 _ _ _ ⟨c, ρ, G, _, Ψ.xc, S, hw, fun vs ds G1 H1' t1' il hl hh => ?_, p.exc S⟩
    have S1 := S.tr t1'
    obtain ⟨hnl, hT⟩ := hh
    show spP X.K b.XR T (vs ++ []) H1' _ b.E
    rw [List.append_nil]
    refine ⟨noLst G1, ds, _, _, noLst_ex.trans S1.ex2, il.monoT noLst_t hnl, hT, fun v1 r1 G' H' fi o hΦ => ?_, fun exn cls d G' H' fi xr hΞ => hΞ.elim⟩
    obtain ⟨G2, Gn, tr2, im, hx2, hnew⟩ := call_new S1 fi o
    have S2 := (S1.tr tr2).setDat (i := i) (im.mono hx2)
    refine ⟨c, _, G2, _, _, S2, hΦ, fun q0 G3 H3 tr3 h3 => ?_, fun _ _ _ _ _ _ _ z => z.elim⟩
    have S3 := S2.tr tr3
    have h3 : if q0 = true then _ else _ := h3
    cases q0 with
    | true =>
      refine ⟨c, _, G3, _, _, S3, h3, fun q G4 H4 tr4 h4 => ?_, fun _ _ _ _ _ _ _ z => z.elim⟩
      obtain ⟨hq, hn⟩ := h4
      subst hq
      exact p.nx _ _ G4 _ (S3.tr tr4) hn
    | false =>
      refine ⟨c, _, G3, _, _, S3, h3, fun q G4 H4 tr4 h4 => ?_, fun _ _ _ _ _ _ _ z => z.elim⟩
      obtain ⟨hq, h4⟩ := h4
      subst hq
      have S4 := S3.tr tr4
      refine ⟨c, _, G4, _, _, S4, h4, fun q G5 H5 tr5 h5 => ?_, fun _ _ _ _ _ _ _ z => z.elim⟩
      obtain ⟨hq, ⟨d0, ds, er, hdl⟩, hn⟩ := h5
      subst hq
      have S5 := S4.tr tr5
      have x25 : Ex G2 G5 := tr3.eg.trans (tr4.eg.trans tr5.eg)
      have xH : Ex Gn H5 := (hx2.trans x25).trans S5.ex2
      rw [er, im_tuple] at im
      obtain ⟨t, xs, ev, ht, il2⟩ := im
      obtain ⟨x0, x1, rfl, i1, i2⟩ := imL_2 il2
      rw [im_list] at i2
      obtain ⟨l, ys, rfl, hly, il3⟩ := i2
      have hiσ : i < σ.length := by have := S.len; omega
      show tApp1 X.K i D (σ.set i (some v1)) H5
      refine ⟨t, x0, l, ys, by rw [List.getElem?_set_self hiσ, ev], ex_t xH ht, xH l _ hly, by rw [← il3.len]; exact hdl, fun H6 k1 k2 => ?_⟩
      have there2 : ∀ a, H1' a ≠ none → H' a ≠ none := fun a h => tr2.there h
      have keep : ∀ a u, H1' a = some u → ¬ IsRow ρ σ a → NTbl u → H5 a = some u := fun a u h n m => by
        have n2 : ¬ IsRow (ρ.set i (.dat r1.frz)) (σ.set i (some v1)) a := fun z => n (isRow_setD (by intro z; cases z) z)
        exact tr5.keep a u (tr4.keep a u (tr3.keep a u (tr2.keep a u h n m) n2 m) n2 m) n2 m
      refine p.nx _ _ (cutL G5 [l]) _ (spoil_one (d := r1.frz) S1 S5 (tr2.eg.trans x25) keep (tr2.tbl.trans (tr3.tbl.trans (tr4.tbl.trans tr5.tbl))) (fun a ps q n => ?_) (fun x hx => ?_) (fun x hx => ?_) k1 k2 (.of fun a u h n => k1 a u (fun z => ?_) h)) hn
      · have q0 : H1' a ≠ none := by rw [q]; exact fun z => by cases z
        exact tr5.avoid a (tr4.avoid a (tr3.avoid a (tr2.avoid a n q0) (tr2.there q0)) (tr3.there (tr2.there q0))) (tr4.there (tr3.there (tr2.there q0)))
      · rw [List.mem_singleton.mp hx]
        exact hnew l ys hly
      · rw [List.mem_singleton.mp hx]
        exact ⟨ys, x25 l _ (hx2 l _ hly)⟩
      · rw [List.mem_singleton.mp z] at h
        rw [xH l _ hly] at h
        exact n ys (Option.some.inj h).symm
end
end SF

/-! ## x = f(..); if ..: return; for y in x: if isinstance(y, list): y.append(7); y.reverse(); x.append(7) -/
namespace SF
open PySem PySem.Spec PyProof.Rows L2
/-! ### a def whose last argument is not looked at -/
def spPA (K : PySem.W.Frag) (XR : Exn → Value → Option Addr → Hp → Prop) (T : Tf) : Sp := fun vs H Q E => ∃ us v, vs = us ++ [v] ∧ spP K XR T us H Q E
section
variable {P : Program} {w : World} {K : PySem.W.Frag} {mg : Str → Option Value} {base : Heap}
theorem okPA {x qual : Str} {st : Stmt} {f : Addr} {fd : FuncData} {N ps : List Str} {k n : Nat} {XR : Exn → Value → Option Addr → Hp → Prop} {T : Tf} (F : Fun K x qual st f fd) (S : FnScope N ps (defScope st)) (hn : N.length = ps.length + n) (hT : ∀ ds Φ Ξ, T ds Φ Ξ → ds.length + 1 = ps.length)
    (hbody : ∀ (cdv : Value) (A : Around) (outer : List Env) (s : Shared) (H : Hp) (E : XK), Room k (A.deeper (envOfC qual (defScope st) s.heap.objs.size f cdv)) →
      ∃ wS, PSsI (cxOf CX0 P w K mg base N qual (defScope st) f cdv A outer s H E).nox ⟨XR, E⟩ (defBody st) wS ∧ ∀ ds Φ Ξ, T ds Φ Ξ → wS (startE (ds.map .dat) (n + 1)) (endP Φ Ξ)) : FnOk P w K mg base CX0 (k + 1) f fd ps (spPA K XR T) :=
  F.ok S (fun vs H Q E ⟨us, v, ev, G, ds, Φ, Ξ, e, il, hT', _⟩ => by rw [ev, List.length_append, ← il.len]; exact hT ds Φ Ξ hT') fun cdv A outer s H vs Q E hr ⟨us, v, ev, G, ds, Φ, Ξ, e, il, hT', q, ex⟩ => by
    obtain ⟨wS, h1, h2⟩ := hbody cdv A outer s H E hr
    subst ev
    refine ⟨_, h1, ⟨none, G, H⟩, _, G, _, ?_, h2 ds Φ Ξ hT', post_end q ex⟩
    have hl : ps.length = (us ++ [v]).length := by rw [List.length_append, ← il.len]; exact (hT ds Φ Ξ hT').symm
    rw [start_len (n := n) (by rw [hn, hl])]
    have S0 := (sat_startP (n := n + 1) e il).setNo (i := us.length) (o := some v)
    have e1 : (us.map some ++ List.replicate (n + 1) none).set us.length (some v) = (us ++ [v]).map some ++ List.replicate n none := by
      rw [List.set_append_right _ _ (by rw [List.length_map]; exact Nat.le_refl _), List.length_map, Nat.sub_self, List.map_append, List.append_assoc]
      rfl
    have e2 : (startE (ds.map .dat) (n + 1)).set us.length .no = startE (ds.map .dat) (n + 1) := by
      unfold startE
      rw [List.set_append_right _ _ (by rw [List.length_map, il.len]; exact Nat.le_refl _), List.length_map, il.len, Nat.sub_self]
      rfl
    rw [e1, e2] at S0
    exact S0
theorem fnOk_or {k : Nat} {f : Addr} {fd : FuncData} {ps : List Str} {s1 s2 : Sp} (F1 : FnOk P w K mg base CX0 k f fd ps s1) (F2 : FnOk P w K mg base CX0 k f fd ps s2) : FnOk P w K mg base CX0 k f fd ps (fun vs H Q E => s1 vs H Q E ∨ s2 vs H Q E) :=
  ⟨fun vs H Q E h => h.elim (F1.len vs H Q E) (F2.len vs H Q E), fun A outer s H args us vs Q E hr he hb hv h => h.elim (F1.run A outer s H args us vs Q E hr he hb hv) (F2.run A outer s H args us vs Q E hr he hb hv)⟩
end
/-! ### heaps -/
section
variable {K : PySem.W.Frag} {c : Cn} {ρ : Rho} {σ : L2.St} {G H G' H' G1 H1 G4 H4 H6 : Hp}
/-- a call over what is no list: what it froze goes beside what was frozen -/
theorem call_uni (S : Sat K c ρ σ G H) (f : Fin' K ⟨none, noLst G, H⟩ G' H') : Tr K ρ σ G H (uni G G') H' ∧ Ex G' (uni G G') ∧ ∀ a xs, G' a = some (.lst xs) → H a = none := by
  have hkeep : ∀ a o, G a = some o → H' a = some o := fun a o h => by
    by_cases q : ∃ xs, o = .lst xs
    · obtain ⟨xs, rfl⟩ := q
      exact f.keep a _ (S.ex2 a _ h) (by intro z; cases z) ntL
    · refine f.ex2 a o (f.ex1 a o ?_)
      show noLst G a = some o
      unfold noLst
      rw [h]
      cases o with
      | lst xs => exact absurd ⟨xs, rfl⟩ q
      | _ => rfl
  have new : ∀ a xs, G' a = some (.lst xs) → H a = none := fun a xs h => by
    cases e : H a with
    | none => rfl
    | some u =>
      cases e2 : noLst G a with
      | none => rw [f.avoid a e2 (show H a ≠ none by rw [e]; exact fun z => by cases z)] at h; cases h
      | some w =>
        rw [f.ex1 a w e2] at h
        cases h
        exact absurd e2 noLst_l
  have same : ∀ a o o', G' a = some o → G a = some o' → o' = o := fun a o o' h h' => by
    have h1 := hkeep a o' h'
    have h2 := f.ex2 a o h
    rw [h1] at h2
    exact Option.some.inj h2
  refine ⟨⟨uni_l, fun a o h => ?_, fun a o h _ m => f.keep a o h (by intro z; cases z) m, f.tbl, fun a h h' => ?_, fun q hq => ?_⟩, fun a o h => ?_, new⟩
  · unfold uni at h
    cases e : G a with
    | some u =>
      rw [e] at h
      cases h
      exact hkeep a _ e
    | none =>
      rw [e] at h
      exact f.ex2 a o h
  · unfold uni
    rw [h]
    exact f.avoid a (noLst_none h) h'
  · have z := S.rowAt hq
    refine z.go uni_l ?_ fun o e => f.keep q _ e (by intro z; cases z) ntL
    unfold uni
    rw [z.1]
    exact f.avoid q (noLst_none z.1) z.there
  · unfold uni
    cases e : G a with
    | none => exact h
    | some u => rw [same a o u h e]
theorem isRow_setU {i : Nat} {e : Ent} {o : Option V} (hi : ρ[i]? ≠ some .row) {r : Addr} (h : IsRow ρ σ r) : IsRow (ρ.set i e) (σ.set i o) r := by
  obtain ⟨j, e1, e2⟩ := h
  have q : i ≠ j := fun z => hi (by rw [z]; exact e1)
  exact ⟨j, by rw [List.getElem?_set_ne q]; exact e1, by rw [List.getElem?_set_ne q]; exact e2⟩
theorem Tr.unset {i : Nat} {e : Ent} {o : Option V} (hm : e ≠ .row) (hi : ρ[i]? ≠ some .row) (t : Tr K (ρ.set i e) (σ.set i o) G H G' H') : Tr K ρ σ G H G' H' :=
  ⟨t.eg, t.eh, fun a u h n m => t.keep a u h (fun z => n (isRow_setD hm z)) m, t.tbl, t.avoid, fun r h => t.row r (isRow_setU hi h)⟩
/-- lists that are new have changed -/
theorem spoil_new {ls : List Addr} (S1 : Sat K c ρ σ G1 H1) (t : Tr K ρ σ G1 H1 G4 H4) (hnew : ∀ l ∈ ls, H1 l = none) (hG4 : ∀ l ∈ ls, G4 l = none ∨ ∃ xs, G4 l = some (.lst xs))
    (h46 : ∀ a u, a ∉ ls → H4 a = some u → H6 a = some u) (t46 : TblK K H4 H6) : Tr K ρ σ G1 H1 (cutL G4 ls) H6 := by
  have hH1 : ∀ a, H1 a ≠ none → a ∉ ls := fun a h z => h (hnew a z)
  refine ⟨fun a u h => ?_, fun a u h => ?_, fun a u h n m => ?_, t.tbl.trans t46, fun a h h' => cutL_none (t.avoid a h h'), fun r h => ?_⟩
  · rw [cutL_out (hH1 a (by rw [S1.ex2 a u h]; exact fun z => by cases z))]
    exact t.eg a u h
  · by_cases q : a ∈ ls
    · rw [cutL_in q] at h
      cases h
    · rw [cutL_out q] at h
      exact h46 a u q (t.eh a u h)
  · exact h46 a u (hH1 a (by rw [h]; exact fun z => by cases z)) (t.keep a u h n m)
  · obtain ⟨z1, sc, ns, i, x, z2, z3, z4⟩ := t.row r h
    have q : r ∉ ls := hH1 r (S1.rowAt h).there
    refine ⟨cutL_none z1, sc, ns, i, x, h46 r _ q z2, ?_, z4⟩
    rcases z3 with ⟨oo, z3⟩ | z3
    · refine .inl ⟨oo, ?_⟩
      rw [cutL_out (fun y => by
        rcases hG4 sc y with k | ⟨xs, k⟩ <;> rw [z3] at k <;> cases k)]
      exact z3
    · exact .inr z3
theorem imL_snoc : ∀ {us : List PyData} {d : PyData} {vs : List V}, ImL K G (us ++ [d]) vs → ∃ us' v', vs = us' ++ [v'] ∧ ImL K G us us'
  | [], d, vs, h => by
    have h : ImL K G [d] vs := h
    rw [imL_cons] at h
    obtain ⟨x, r, rfl, h1, h2⟩ := h
    rw [imL_nil] at h2
    subst h2
    exact ⟨[], x, rfl, .nil⟩
  | u :: us, d, vs, h => by
    have h : ImL K G (u :: (us ++ [d])) vs := h
    rw [imL_cons] at h
    obtain ⟨x, r, rfl, h1, h2⟩ := h
    obtain ⟨us', v', rfl, h3⟩ := imL_snoc h2
    exact ⟨x :: us', v', rfl, .cons h1 h3⟩
/-- the lists among the items -/
theorem imL_lists : ∀ {es : List PyData} {xs : List V}, ImL K G es xs → ∃ ls : List Addr, (∀ a ∈ ls, ∃ (j : Nat) (q : List PyData), es[j]? = some (.list q) ∧ xs[j]? = some (.ref a)) ∧ ∀ (j : Nat) q x, es[j]? = some (.list q) → xs[j]? = some x → ∃ a, x = .ref a ∧ a ∈ ls
  | [], xs, h => ⟨[], (fun a h => by cases h), fun j q x h _ => by simp at h⟩
  | d :: es, xs, h => by
    rw [imL_cons] at h
    obtain ⟨x, r, rfl, h1, h2⟩ := h
    obtain ⟨ls, k1, k2⟩ := imL_lists h2
    have up : ∀ a ∈ ls, ∃ (j : Nat) (q : List PyData), (d :: es)[j]? = some (.list q) ∧ (x :: r)[j]? = some (.ref a) := fun a ha => by
      obtain ⟨j, q, e1, e2⟩ := k1 a ha
      exact ⟨j + 1, q, by simpa using e1, by simpa using e2⟩
    by_cases hd : ∃ q, d = .list q
    · obtain ⟨q, rfl⟩ := hd
      rw [im_list] at h1
      obtain ⟨a, ys, rfl, _, _⟩ := h1
      refine ⟨a :: ls, fun b hb => ?_, fun j q' x' e1 e2 => ?_⟩
      · rcases List.mem_cons.mp hb with z | z
        · exact ⟨0, q, rfl, by rw [z]; rfl⟩
        · exact up b z
      · cases j with
        | zero =>
          have e2 : some (V.ref a) = some x' := e2
          cases e2
          exact ⟨a, rfl, List.mem_cons_self⟩
        | succ j =>
          obtain ⟨b, e, hb⟩ := k2 j q' x' (by simpa using e1) (by simpa using e2)
          exact ⟨b, e, List.mem_cons_of_mem _ hb⟩
    · refine ⟨ls, up, fun j q' x' e1 e2 => ?_⟩
      cases j with
      | zero =>
        have e1 : some d = some (.list q') := e1
        cases e1
        exact absurd ⟨q', rfl⟩ hd
      | succ j => exact k2 j q' x' (by simpa using e1) (by simpa using e2)
end
/-! ### the loop -/
def tTold3 (K : PySem.W.Frag) (i s : Nat) : TS := fun D σ H => ∃ (l : Addr) (xs : List V) (ls : List Addr), σ[i]? = some (some (.ref l)) ∧ H l = some (.lst xs) ∧ xs.length ≤ 10000 ∧ s < σ.length ∧ l ∉ ls ∧
  (∀ x ∈ xs, (∀ H', (∀ a u, a ∉ ls → H a = some u → H' a = some u) → ∃ T, TyX K H' x (.type T) ∧ kitB T "list" = some false) ∨ ∃ a, x = .ref a ∧ a ∈ ls) ∧ (∀ a ∈ ls, ∃ ys, H a = some (.lst ys) ∧ ys.length ≤ 10000) ∧
  ∀ (o : Option V) H', (∀ a u, a ∉ ls → H a = some u → H' a = some u) → (∀ a, H a ≠ none → H' a ≠ none) → (∀ a ∈ ls, ∃ ys, H' a = some (.lst ys)) → D.nx (σ.set s o) H'
section
variable {X : Cx} {pos pi ps pa pl pc p pn pn2 apos apos2 cpos cpos2 epos epos2 pif p7 : Pos} {ni ns : Str} {j7 : Nat}
theorem ps_told3 (i s : Nat) (hp : PassesOwn (model X.prog X.w) X.A X.env X.xe) (hc : X.calm = true) (hN : X.N.Nodup) (hm : X.mg "isinstance" = none) (hg : Gl X "isinstance") (hm2 : X.mg "list" = none) (hg2 : Gl X "list") (hi : X.N[i]? = some ni := by rfl) (hsn : X.N[s]? = some ns := by rfl) (hvi : Vis X.env.scope ni := by first | exact Or.inl rfl | exact Or.inr (Or.inl rfl) | exact Or.inr (Or.inr rfl))
    (hvs : Vis X.env.scope ns := by first | exact Or.inl rfl | exact Or.inr (Or.inl rfl) | exact Or.inr (Or.inr rfl)) (hls : L2.Loc X.env.scope ns := by first | exact Or.inl rfl | exact Or.inr rfl)
    (d1 : (ni == ("__debug__" : Str)) = false := by decide) (d2 : (ni == ("__classdict__" : Str)) = false := by decide) (d3 : (ns == ("__debug__" : Str)) = false := by decide) (d4 : (ns == ("__classdict__" : Str)) = false := by decide)
    (hf : X.fn ns = true ∨ X.env.scope.names.lookup ns = some .local := by first | exact .inl rfl | exact .inr rfl)
    (he : starEach [.Name ns pa, .Name "list" pl] X.env = (false, eval (.Name ns pa) X.env) :: starEach [.Name "list" pl] X.env := by rfl) (he2 : starEach [.Name "list" pl] X.env = (false, eval (.Name "list" pl) X.env) :: starEach [] X.env := by rfl)
    (hpl : ((backTo pc (starEach [.Name "list" pl] X.env)).any fun z => z.1) = false := by rfl)
    (hti : ∀ whole, PySem.isTrue (.Call (.Name "isinstance" p) [.Name ns pa, .Name "list" pl] [] pc) X.env whole = (do let v ← whole; standAt (Expr.Call (.Name "isinstance" p) [.Name ns pa, .Name "list" pl] [] pc).pos; holding [v] (truthy v)) := by intro _; rfl)
    (hb : attributeBase (.Name ns pn) "append" X.env (eval (.Name ns pn) X.env) = eval (.Name ns pn) X.env := by rfl)
    (hfew : ((backTo cpos (starEach [.Constant (.int 7) j7 p7] X.env)).all (fun x => !x.1) && (backToKw cpos (keywordEach [] X.env)).all (fun x => x.1.isSome) && decide ([Expr.Constant (.int 7) j7 p7].length + ([] : List Keyword).length + (if ([] : List Keyword).isEmpty then 0 else 1) < 30)) = true := by rfl)
    (hline : (apos.endLine == cpos.line) = true := by rfl) (hse : starEach [.Constant (.int 7) j7 p7] X.env = (false, eval (.Constant (.int 7) j7 p7) X.env) :: starEach [] X.env := by rfl) (hpl2 : (backTo cpos (starEach [] X.env)).any (·.1) = false := by rfl)
    (hsw : swapsWith (.Call (.Attribute (.Name ns pn) "append" apos) [.Constant (.int 7) j7 p7] [] cpos) none epos.line X.env = pure false := by rfl)
    (hb2 : attributeBase (.Name ns pn2) "reverse" X.env (eval (.Name ns pn2) X.env) = eval (.Name ns pn2) X.env := by rfl) (hline2 : (apos2.endLine == cpos2.line) = true := by rfl) (hsw2 : swapsWith (.Call (.Attribute (.Name ns pn2) "reverse" apos2) [] [] cpos2) none epos2.line X.env = pure false := by rfl)
    (hfs : ∀ x, foldedSetIterable (.Name ni pi) X.env x = pure x := by intro _; rfl) :
    PS X (.For (.Name ns ps) (.Name ni pi) [.If (.Call (.Name "isinstance" p) [.Name ns pa, .Name "list" pl] [] pc) [.Expr (.Call (.Attribute (.Name ns pn) "append" apos) [.Constant (.int 7) j7 p7] [] cpos) epos, .Expr (.Call (.Attribute (.Name ns pn2) "reverse" apos2) [] [] cpos2) epos2] [] pif] [] pos) (tTold3 X.K i s) :=
  ps_imp (ps_for hp hc (pi_list (pe_var hi hvi d1 d2)) (pg_name hN hsn hls hf) (pss_one (ps_if (pt_val (pe_callB call_isi hg hm (by rfl) (pa_cons (pe_var hsn hvs d3 d4) (pa_cons (pe_bltn hg2 hm2 (by rfl) (v := .ty "list") rfl) pa_nil he2) he) (by decide) (by decide) he hpl) hti)
    (pss_cons (ps_expr (pe_bm PySem.F.plainAttrs_list PySem.F.slot_list_append PySem.F.type_list_append mt_append (pe_var hsn hvs d3 d4) (pa_cons pe_int pa_nil hse) hb hfew hline hse hpl2) hsw) (pss_one (ps_expr (pe_bm0 PySem.F.plainAttrs_list PySem.F.slot_list_reverse PySem.F.type_list_reverse mt_reverse (pe_var hsn hvs d3 d4) hb2 hline2) hsw2))) pss_nil)) hfs) fun D σ H h => by
    obtain ⟨l, xs, ls, h1, h2, h3, h4, h5, h6, h7, q⟩ := h
    refine ⟨.ref l, h1, l, rfl, ⟨xs, sq_of h2⟩, for_list (xs := xs) (fun k σ' H' => ∃ o, σ' = σ.set s o ∧ (∀ a u, a ∉ ls → H a = some u → H' a = some u) ∧ (∀ a, H a ≠ none → H' a ≠ none) ∧ ∀ a ∈ ls, ∃ ys, H' a = some (.lst ys) ∧ ys.length ≤ 10000 + k) ?_ (fun k σ' H' _ ⟨o, _, e, _⟩ => sq_of (e l _ h5 h2)) (fun k x σ' H' hx ⟨o, e1, e2, e3, e4⟩ => ?_) (fun σ' H' ⟨o, e1, e2, e3, e4⟩ => by rw [e1]; exact q o H' e2 e3 fun a ha => let ⟨ys, hy, _⟩ := e4 a ha; ⟨ys, hy⟩)⟩
    · refine ⟨(σ[s]?).getD none, List.ext_getElem? fun n => ?_, fun a u _ h => h, fun a h => h, fun a ha => ?_⟩
      · rw [List.getElem?_set]
        by_cases z : s = n
        · subst z
          rw [if_pos rfl, if_pos h4, List.getElem?_eq_getElem h4]
          rfl
        · rw [if_neg z]
      · obtain ⟨ys, hy, hz⟩ := h7 a ha
        exact ⟨ys, hy, by omega⟩
    · have hget : (σ'.set s (some x))[s]? = some (some x) := by
        rw [e1, List.set_set, List.getElem?_set_self h4]
      have hkl : k < xs.length := (List.getElem?_eq_some_iff.mp hx).1
      rcases h6 x (List.mem_of_getElem? hx) with hn | ⟨a, rfl, ha⟩
      · obtain ⟨T, ty, hk⟩ := hn H' e2
        refine ⟨x, hget, x, .ty "list", .type T, .type "list", false, rfl, .ty _, ty, kit_ty hk, false, rfl, ?_⟩
        show ∃ o, _ ∧ _
        exact ⟨some x, by rw [e1, List.set_set], e2, e3, fun a ha => by obtain ⟨ys, hy, hz⟩ := e4 a ha; exact ⟨ys, hy, by omega⟩⟩
      · obtain ⟨ys, hy, hz⟩ := e4 a ha
        refine ⟨.ref a, hget, .ref a, .ty "list", .type "list", .type "list", true, rfl, .ty _, .base (.lst hy), kit_ty (by decide +kernel), true, rfl, ?_⟩
        refine ⟨.ref a, hget, .inl ⟨rfl, ys, sq_of hy⟩, a, ys, .int 7, rfl, rfl, hy, Nat.lt_of_le_of_lt hz (by rw [sizeLine_eq]; omega), .ref a, hget, .inl ⟨rfl, _, sq_of upd_same⟩, a, _, rfl, rfl, upd_same, some (.ref a), by rw [e1, List.set_set], fun b u hb hu => ?_, fun b hb => ?_, fun b hb => ?_⟩
        · rw [upd_ne (fun z => hb (by rw [z]; exact ha)), upd_ne (fun z => hb (by rw [z]; exact ha))]
          exact e2 b u hb hu
        · by_cases z : b = a
          · rw [z, upd_same]; exact fun z => by cases z
          · rw [upd_ne z, upd_ne z]; exact e3 b hb
        · by_cases z : b = a
          · subst z
            exact ⟨_, upd_same, by rw [List.length_reverse, List.length_append, List.length_singleton]; omega⟩
          · obtain ⟨zs, hz1, hz2⟩ := e4 b hb
            exact ⟨zs, by rw [upd_ne z, upd_ne z]; exact hz1, by omega⟩
/-- x.append(7) -/
def tApp7 (i : Nat) : TS := fun D σ H => ∃ (l : Addr) (xs : List V), σ[i]? = some (some (.ref l)) ∧ H l = some (.lst xs) ∧ xs.length ≤ 100000 ∧ D.nx σ (upd H l (.lst (xs ++ [.int 7])))
theorem ps_app7 (i : Nat) (hi : X.N[i]? = some ni := by rfl) (hvi : Vis X.env.scope ni := by first | exact Or.inl rfl | exact Or.inr (Or.inl rfl) | exact Or.inr (Or.inr rfl)) (d1 : (ni == ("__debug__" : Str)) = false := by decide) (d2 : (ni == ("__classdict__" : Str)) = false := by decide)
    (hb : attributeBase (.Name ni pn) "append" X.env (eval (.Name ni pn) X.env) = eval (.Name ni pn) X.env := by rfl)
    (hfew : ((backTo cpos (starEach [.Constant (.int 7) j7 p7] X.env)).all (fun x => !x.1) && (backToKw cpos (keywordEach [] X.env)).all (fun x => x.1.isSome) && decide ([Expr.Constant (.int 7) j7 p7].length + ([] : List Keyword).length + (if ([] : List Keyword).isEmpty then 0 else 1) < 30)) = true := by rfl)
    (hline : (apos.endLine == cpos.line) = true := by rfl) (hse : starEach [.Constant (.int 7) j7 p7] X.env = (false, eval (.Constant (.int 7) j7 p7) X.env) :: starEach [] X.env := by rfl) (hpl2 : (backTo cpos (starEach [] X.env)).any (·.1) = false := by rfl)
    (hsw : swapsWith (.Call (.Attribute (.Name ni pn) "append" apos) [.Constant (.int 7) j7 p7] [] cpos) none epos.line X.env = pure false := by rfl) : PS X (.Expr (.Call (.Attribute (.Name ni pn) "append" apos) [.Constant (.int 7) j7 p7] [] cpos) epos) (tApp7 i) :=
  ps_imp (ps_expr (pe_bm PySem.F.plainAttrs_list PySem.F.slot_list_append PySem.F.type_list_append mt_append (pe_var hi hvi d1 d2) (pa_cons pe_int pa_nil hse) hb hfew hline hse hpl2) hsw) fun D σ H h => by
    obtain ⟨l, xs, h1, h2, h3, q⟩ := h
    exact ⟨.ref l, h1, .inl ⟨rfl, xs, sq_of h2⟩, l, xs, .int 7, rfl, rfl, h2, Nat.lt_of_le_of_lt h3 (by rw [sizeLine_eq]; omega), q⟩
end
end SF

/-! ## the rule for that turn -/
namespace SF
open PySem PySem.Spec PyProof.Rows L2
/-- what the answer must be, what follows -/
def ToldP (i s : Nat) (wt : WT) (ρ : Rho) (Ψ : Pst) (es : List PyData) : Prop := es.length ≤ 10000 ∧ (∀ d ∈ es, (∀ q, d ≠ .dict q) ∧ ∀ q, d = .list q → q.length ≤ 10000) ∧ wt (ρ.set i (.ls es)) (fun q => q = false ∧ Ψ.nx ((ρ.set i .no).set s .no)) (fun _ => False)
def wTold (i s : Nat) (T1 T2 : Tf) (wa : WA) (wt : WT) : WS := fun ρ Ψ => (i < ρ.length ∧ s < ρ.length ∧ i ≠ s ∧ ρ[i]? ≠ some .row) ∧ wa ρ (fun ds => T1 ds (fun r => ∃ es, r = .lst es ∧ nolL es = true ∧ ToldP i s wt ρ Ψ es) (fun _ => False) ∨
  ∃ us d, ds = us ++ [d] ∧ nolL us = true ∧ T2 us (fun r => ∃ es, r = .lst es ∧ ToldP i s wt ρ Ψ es) (fun _ => False)) Ψ.xc
theorem nol_at : ∀ {es : List PyData} {j : Nat} {q : List PyData}, nolL es = true → es[j]? = some (.list q) → False
  | [], j, q, _, h => by simp at h
  | d :: es, 0, q, h, e => by
    have e : some d = some (.list q) := e
    cases e
    have h : (nol (.list q) && nolL es) = true := h
    rw [show nol (.list q) = false from rfl] at h
    cases h
  | d :: es, j + 1, q, h, e => by
    have h : (nol d && nolL es) = true := h
    exact nol_at (Bool.and_eq_true_iff.mp h).2 (by simpa using e)
section
variable {K : PySem.W.Frag} {G4 H4 : Hp}
/-- an item that is no list stays what it is -/
theorem stay_ty {d : PyData} {x : V} {ls : List Addr} (ex : Ex G4 H4) (im : Im K G4 d x) (hl : ∀ q, d ≠ .list q) (hd : ∀ q, d ≠ .dict q) (hls : ∀ a ∈ ls, ∃ ys, H4 a = some (.lst ys)) :
    ∀ H', (∀ a u, a ∉ ls → H4 a = some u → H' a = some u) → ∃ T, TyX K H' x (.type T) ∧ kitB T "list" = some false := fun H' k => by
  cases d with
  | none => rw [im_none] at im; subst im; exact ⟨"NoneType", .base .non, by decide +kernel⟩
  | bool b => rw [im_bool] at im; subst im; exact ⟨"bool", .base (.bl _), by decide +kernel⟩
  | int i => rw [im_int] at im; subst im; exact ⟨"int", .base (.int _), by decide +kernel⟩
  | str s => rw [im_str] at im; subst im; exact ⟨"str", .base (.str _), by decide +kernel⟩
  | list q => exact absurd rfl (hl q)
  | dict q => exact absurd rfl (hd q)
  | tuple q =>
    rw [im_tuple] at im
    obtain ⟨a, xs, rfl, h1, _⟩ := im
    have up : ∀ u, G4 a = some u → (∀ ys, u ≠ .lst ys) → H' a = some u := fun u h n => by
      have h4 := ex a u h
      refine k a u (fun z => ?_) h4
      obtain ⟨ys, hy⟩ := hls a z
      rw [h4] at hy
      exact n ys (Option.some.inj hy)
    rcases h1 with (h1 | ⟨o, h1⟩) | ⟨o, its, n, h1, h2, _⟩
    · exact ⟨"tuple", .base (.tup (up _ h1 fun ys z => by cases z)), by decide +kernel⟩
    · exact ⟨"tuple", .fTuple (up _ h1 fun ys z => by cases z), by decide +kernel⟩
    · exact ⟨"tuple", .kTuple h1 h2, by decide +kernel⟩
end
section
variable {X : Cx} {b : Bs} {st1 st2 st3 st4 : Stmt} {t1 t2 : TS} {wt : WT} {wa : WA}
theorem psis_told (i s : Nat) {T1 T2 : Tf} {n : Nat}
    (h1 : PS X st1 t1) (H1 : ∀ D σ H, taOf X.K b n wa σ H (fun vs H1 => (spP X.K b.XR T1 (vs ++ []) H1 (fun v H2 => D.nx (σ.set i (some v)) H2) b.E ∨ spPA X.K b.XR T2 (vs ++ []) H1 (fun v H2 => D.nx (σ.set i (some v)) H2) b.E)) → t1 D σ H)
    (h2 : PS X st2 t2) (H2 : ∀ D σ H, ttOf X.K b wt σ H (fun q H1 => q = false ∧ D.nx σ H1) → t2 D σ H) (h3 : PS X st3 (tTold3 X.K i s)) (h4 : PS X st4 (tApp7 i)) : PSsI X b [st1, st2, st3, st4] (wTold i s T1 T2 wa wt) :=
  pss_imp (pss_cons h1 (pss_cons h2 (pss_cons h3 (pss_one h4)))) fun D σ H ⟨c, ρ, G, Ψ, S, ⟨⟨hi, hs, his, hir⟩, hw⟩, p⟩ => by
    refine H1 _ _ _ ⟨c, ρ, G, _, Ψ.xc, S, hw, fun vs ds G1 H1' t1' il hl hh => ?_, p.exc S⟩
    have S1 := S.tr t1'
    have hlen := S.len
    have hiσ : i < σ.length := by omega
    have hsσ : s < σ.length := by omega
    show spP X.K b.XR T1 (vs ++ []) H1' _ b.E ∨ spPA X.K b.XR T2 (vs ++ []) H1' _ b.E
    rw [List.append_nil]
    have key : ∀ (v : V) (es : List PyData) (G2 H2' : Hp), Tr X.K ρ σ G1 H1' G2 H2' → Out X.K H1' G2 H2' (.lst es) v → (∀ l xs, v = .ref l → H2' l = some (.lst xs) → ∀ (j : Nat) q a, es[j]? = some (.list q) → xs[j]? = some (.ref a) → H1' a = none) → ToldP i s wt ρ Ψ es →
        t2 { D with nx := fun σ H => tTold3 X.K i s { D with nx := fun σ H => tApp7 i D σ H } σ H } (σ.set i (some v)) H2' := fun v es G2 H2' tr o hnew hpost => by
      obtain ⟨hz, hit, hwt⟩ := hpost
      have S2 := S1.setOut tr (i := i) o
      obtain ⟨l, xs2, rfl, o1, o2, o3, o4⟩ := o
      have hρi : (ρ.set i (.ls es))[i]? = some (.ls es) := List.getElem?_set_self hi
      have hσi : (σ.set i (some (.ref l)))[i]? = some (some (.ref l)) := List.getElem?_set_self hiσ
      refine H2 _ _ _ ⟨c, _, G2, _, _, S2, hwt, fun q G4 H4 tr4 hq => ?_, fun _ _ _ _ _ _ _ z => z.elim⟩
      obtain ⟨hq, hn⟩ := hq
      refine ⟨hq, ?_⟩
      have S4 := S2.tr tr4
      obtain ⟨l', xs, e1, e2, e3, e4⟩ := S4.mutAt hρi
      rw [hσi] at e1
      cases e1
      have exs : xs = xs2 := by
        have k := tr4.keep l _ o3 (S2.neRow hρi hσi) ntL
        rw [e2] at k
        cases k
        rfl
      subst exs
      obtain ⟨ls, k1, k2⟩ := imL_lists e4
      have inner : ∀ a ∈ ls, H1' a = none ∧ ∃ ys, G4 a = some (.lst ys) ∧ ys.length ≤ 10000 := fun a ha => by
        obtain ⟨j, q, q1, q2⟩ := k1 a ha
        refine ⟨hnew l xs rfl o3 j q a q1 q2, ?_⟩
        obtain ⟨x, hx, im⟩ := e4.get q1
        rw [q2] at hx
        cases hx
        rw [im_list] at im
        obtain ⟨a', ys, e, ha', il'⟩ := im
        cases e
        exact ⟨ys, ha', by rw [← il'.len]; exact (hit _ (List.mem_of_getElem? q1)).2 q rfl⟩
      have hlls : l ∉ ls := fun z => by
        obtain ⟨_, ys, hy, _⟩ := inner l z
        rw [e3] at hy
        cases hy
      refine ⟨l, xs, ls, hσi, e2, by rw [← e4.len]; exact hz, by rw [List.length_set]; exact hsσ, hlls, fun x hx => ?_, fun a ha => ?_, fun o H5 k5 t5 l5 => ?_⟩
      · obtain ⟨j, hj⟩ := List.mem_iff_getElem?.mp hx
        have hjl : j < es.length := by rw [e4.len]; exact (List.getElem?_eq_some_iff.mp hj).1
        have hd := List.getElem?_eq_getElem hjl
        obtain ⟨x', hx', im⟩ := e4.get hd
        rw [hj] at hx'
        cases hx'
        by_cases hq : ∃ q, es[j] = .list q
        · obtain ⟨q, hq⟩ := hq
          rw [hq] at hd
          obtain ⟨a, e, ha⟩ := k2 j q x hd hj
          exact .inr ⟨a, e, ha⟩
        · refine .inl (stay_ty S4.ex2 im (fun q z => hq ⟨q, z⟩) (hit _ (List.mem_of_getElem? hd)).1 fun a ha => ?_)
          obtain ⟨_, ys, hy, _⟩ := inner a ha
          exact ⟨ys, S4.ex2 a _ hy⟩
      · obtain ⟨_, ys, hy, hyl⟩ := inner a ha
        exact ⟨ys, S4.ex2 a _ hy, hyl⟩
      · have h5l : H5 l = some (.lst xs) := k5 l _ hlls e2
        refine ⟨l, xs, by rw [List.getElem?_set_ne (Ne.symm his)]; exact hσi, h5l, by rw [← e4.len]; omega, ?_⟩
        have tr14 : Tr X.K ρ σ G1 H1' G4 H4 := tr.trans (tr4.unset (by intro z; cases z) hir)
        have isL : ∀ a ∈ l :: ls, ∃ ys, H4 a = some (.lst ys) := fun a ha => by
          rcases List.mem_cons.mp ha with z | z
          · rw [z]; exact ⟨xs, e2⟩
          · obtain ⟨_, ys, hy, _⟩ := inner a z
            exact ⟨ys, S4.ex2 a _ hy⟩
        have h46 : ∀ a u, a ∉ l :: ls → H4 a = some u → upd H5 l (.lst (xs ++ [.int 7])) a = some u := fun a u ha hu => by
          rw [upd_ne (fun z => ha (by rw [z]; exact List.mem_cons_self))]
          exact k5 a u (fun z => ha (List.mem_cons_of_mem _ z)) hu
        have tr16 := spoil_new (ls := l :: ls) S1 tr14 (fun a ha => by
          rcases List.mem_cons.mp ha with z | z
          · rw [z]; exact o1
          · exact (inner a z).1) (fun a ha => by
          rcases List.mem_cons.mp ha with z | z
          · rw [z]; exact .inl e3
          · obtain ⟨_, ys, hy, _⟩ := inner a z
            exact .inr ⟨ys, hy⟩) h46 (.of fun a u h nl => h46 a u (fun z => by
          obtain ⟨ys, hy⟩ := isL a z
          rw [h] at hy
          exact nl ys (Option.some.inj hy)) h)
        exact p.nx _ _ _ _ (((S1.tr tr16).setNo (i := i) (o := some (.ref l))).setNo (i := s) (o := o)) hn
    rcases hh with hT | ⟨us, d, rfl, hnl, hT⟩
    · refine .inl ⟨G1, ds, _, _, S1.ex2, il, hT, fun v r G' H' fi o hΦ => ?_, fun _ _ _ _ _ _ _ z => z.elim⟩
      obtain ⟨es, rfl, hno, hpost⟩ := hΦ
      exact key v es G' H' (Fin'.tr S1 fi) o (fun l xs _ _ j q a h _ => (nol_at hno h).elim) hpost
    · obtain ⟨us', v', ev, il2⟩ := imL_snoc il
      refine .inr ⟨us', v', ev, noLst G1, us, _, _, noLst_ex.trans S1.ex2, il2.monoT noLst_t hnl, hT, fun v r G' H' fi o hΦ => ?_, fun _ _ _ _ _ _ _ z => z.elim⟩
      obtain ⟨es, rfl, hpost⟩ := hΦ
      obtain ⟨tr, hx, hnw⟩ := call_uni S1 fi
      obtain ⟨l, xs, rfl, o1, o2, o3, o4⟩ := o
      refine key _ es _ H' tr ⟨l, xs, rfl, o1, ?_, ?_, ?_⟩ (fun l2 xs2 e h2 j q a hq ha => ?_) hpost
      all_goals first
        | (unfold uni; rw [S1.ex2.back o1]; exact o2)
        | exact o3
        | exact o4.mono hx
        | skip
      cases e
      rw [o3] at h2
      cases h2
      obtain ⟨x, hx2, im⟩ := o4.get hq
      rw [ha] at hx2
      cases hx2
      rw [im_list] at im
      obtain ⟨a', ys, e, ha', _⟩ := im
      cases e
      exact hnw a ys ha'
end
end SF

namespace SF
open PySem PySem.Spec PyProof.Rows L2
local macro_rules | `(tactic| walk_at "sf") => `(tactic| simp only [wSetNewN, wSetDisN, wNotInN, wSetItN, wTold, wRet, wOr, wAnd, wNot, wOp, wUn, wVar, wC, wChain, wCall, wCons, wNil, wTup, wLst, wIf, wTest, wNotT, wAndT, wOrT, wDef, wDefR, wSl, wNoP, wPart, wPeek, wPeekT, wLstRg, wSeq, wSkip, wSet, wSetF, wUnpack, wRetM, wDrop, wIfS, wFrz, wApp, wStore, wPopAt, wForL, wForT, wForR1, wForR2, wLcL, wLcT, wLcR1, wYes, endP, startE, bindT, setsE, wipeE, nolR, nol, nolL,
  r_sII, r_sIIc, r_sIsN, r_sNotN, r_sInL, r_sInT, r_sIxT, r_sIxL, r_sSlT, r_sSlL, r_sCatL, r_sCatT, r_sLenT, r_sLenL, r_sMax2, r_sMin2, r_sListT, r_sListL, r_sTupL, r_sIntB, r_sIxS, r_sStrI, r_sIntS, r_sLenS, r_sInS, r_sCatS, r_sSlS, r_exs, r_sSplit, r_sKdIn, r_sKdAt, wOpS, wLcS, wExt, is_none_tuple, is_none_list, is_none_bool, is_none_str, is_none_int, isTL_none, is_bool_tuple, is_bool_list, is_bool_bool, is_bool_str, is_bool_int, isTL_bool, is_int_tuple, is_int_list, is_int_bool, is_int_str, is_int_int, isTL_int, is_str_tuple, is_str_list, is_str_bool, is_str_str, is_str_int, isTL_str, is_list_tuple, is_list_list, is_list_bool, is_list_str, is_list_int, isTL_list, is_tuple_tuple, is_tuple_list, is_tuple_bool, is_tuple_str, is_tuple_int, isTL_tuple, v_bool, r_sIxAT, r_sIxAL, r_isB, r_rev, r_neg, r_at0, r_at1, r_at2, r_at3, r_ex, r_exr, r_exl, r_ext, r_exL, r_exi, r_exI, r_exII,
  nn, lt_cast, le_cast, h_row, h_free, h_dL, wNever, h_dWd, v_dWdH, hs_row, ws_row, hs_free, ws_free, hs_head, ws_head, hs_slot, ws_slot, hs_take, ws_take, hs_give, ws_give, hs_mend, ws_mend, hs_whole, ws_whole, hs_broken, ws_broken, hs_loose, ws_loose, hs_end, ws_end, hs_ring, ws_ring, we_take_give, we_give_take, we_take_mend, we_mend_take, we_give_mend, we_mend_give, we_head_slot, we_slot_head, we_whole_broken, we_broken_whole, we_whole_loose, we_loose_whole, Nat.reduceAdd, Int.cast_ofNat_Int, beq_self_eq_true, v_dC, v_dL, h_dC, h_nil, v_nil, Int.zero_add, Int.toNat_natCast, n_none, n_int, n_tuple, n_list, n_str, v_str, v_int, v_noneint, v_intnone, v_none, h_int, h_none, h_bool, r_fd, r_fl, r_ed, r_el, r_sEq, r_sNe, dL_none, dL_some, dC_row, dC_free, w_rr, w_rf, w_fr, w_ff, List.map_cons, List.map_nil, List.cons_append, List.nil_append, List.append_nil, List.replicate_zero, List.replicate_succ, List.getElem?_cons_zero, List.getElem?_cons_succ, List.set_cons_zero, List.set_cons_succ, List.length_cons, List.length_nil, List.length_map,
  Bool.not_true, Bool.not_false, if_true, if_false, ite_true, ite_false, true_and, and_true, Bool.false_eq_true, Nat.zero_add, reduceCtorEq])
def topS (i : Nat) : Stmt := PySem.Challenge.pw_slotfile_k11_asked_again.main.body.getD i (.Pass ⟨0, 0, 0, 0⟩)
abbrev s_is_link : Stmt := topS 12
abbrev n_is_link : List Str := ["cells", "place"]
theorem sc_is_link : FnScope n_is_link ["cells", "place"] (defScope s_is_link) := ⟨rfl, rfl, rfl, by decide +kernel, rfl, by decide +kernel, by decide +kernel⟩
abbrev s_is_cell : Stmt := topS 13
abbrev n_is_cell : List Str := ["cells", "cell"]
theorem sc_is_cell : FnScope n_is_cell ["cells", "cell"] (defScope s_is_cell) := ⟨rfl, rfl, rfl, by decide +kernel, rfl, by decide +kernel, by decide +kernel⟩
abbrev s_need_file : Stmt := topS 14
abbrev n_need_file : List Str := ["file", "head", "cells", "place"]
theorem sc_need_file : FnScope n_need_file ["file"] (defScope s_need_file) := ⟨rfl, rfl, rfl, by decide +kernel, rfl, by decide +kernel, by decide +kernel⟩
abbrev s_chain_of : Stmt := topS 15
abbrev n_chain_of : List Str := ["file", "place", "cells", "found"]
theorem sc_chain_of : FnScope n_chain_of ["file"] (defScope s_chain_of) := ⟨rfl, rfl, rfl, by decide +kernel, rfl, by decide +kernel, by decide +kernel⟩
abbrev s_rows_of : Stmt := topS 16
abbrev n_rows_of : List Str := ["file", "place"]
theorem sc_rows_of : FnScope n_rows_of ["file"] (defScope s_rows_of) := ⟨rfl, rfl, rfl, by decide +kernel, rfl, by decide +kernel, by decide +kernel⟩
abbrev s_looked_over : Stmt := topS 17
abbrev n_looked_over : List Str := ["file", "chain", "end", "free", "loose", "word", "place"]
theorem sc_looked_over : FnScope n_looked_over ["file"] (defScope s_looked_over) := ⟨rfl, rfl, rfl, by decide +kernel, rfl, by decide +kernel, by decide +kernel⟩
abbrev s_checked : Stmt := topS 18
abbrev n_checked : List Str := ["file"]
theorem sc_checked : FnScope n_checked ["file"] (defScope s_checked) := ⟨rfl, rfl, rfl, by decide +kernel, rfl, by decide +kernel, by decide +kernel⟩
abbrev s_chained : Stmt := topS 19
abbrev n_chained : List Str := ["cells", "places", "found", "k"]
theorem sc_chained : FnScope n_chained ["cells", "places"] (defScope s_chained) := ⟨rfl, rfl, rfl, by decide +kernel, rfl, by decide +kernel, by decide +kernel⟩
abbrev s_mended_of : Stmt := topS 20
abbrev n_mended_of : List Str := ["file", "place"]
theorem sc_mended_of : FnScope n_mended_of ["file"] (defScope s_mended_of) := ⟨rfl, rfl, rfl, by decide +kernel, rfl, by decide +kernel, by decide +kernel⟩
abbrev s_mended : Stmt := topS 21
abbrev n_mended : List Str := ["file"]
theorem sc_mended : FnScope n_mended ["file"] (defScope s_mended) := ⟨rfl, rfl, rfl, by decide +kernel, rfl, by decide +kernel, by decide +kernel⟩
abbrev s_mends_of : Stmt := topS 22
abbrev n_mends_of : List Str := ["file", "head", "cells", "found", "place"]
theorem sc_mends_of : FnScope n_mends_of ["file"] (defScope s_mends_of) := ⟨rfl, rfl, rfl, by decide +kernel, rfl, by decide +kernel, by decide +kernel⟩
abbrev s_mends : Stmt := topS 23
abbrev n_mends : List Str := ["file"]
theorem sc_mends : FnScope n_mends ["file"] (defScope s_mends) := ⟨rfl, rfl, rfl, by decide +kernel, rfl, by decide +kernel, by decide +kernel⟩
abbrev s_need_rule : Stmt := topS 26
abbrev n_need_rule : List Str := ["rule", "one"]
theorem sc_need_rule : FnScope n_need_rule ["rule"] (defScope s_need_rule) := ⟨rfl, rfl, rfl, by decide +kernel, rfl, by decide +kernel, by decide +kernel⟩
abbrev s_need_room : Stmt := topS 27
abbrev n_need_room : List Str := ["file", "room"]
theorem sc_need_room : FnScope n_need_room ["file", "room"] (defScope s_need_room) := ⟨rfl, rfl, rfl, by decide +kernel, rfl, by decide +kernel, by decide +kernel⟩
abbrev s_in_order : Stmt := topS 28
abbrev n_in_order : List Str := ["first", "head", "slot"]
theorem sc_in_order : FnScope n_in_order ["first", "head", "slot"] (defScope s_in_order) := ⟨rfl, rfl, rfl, by decide +kernel, rfl, by decide +kernel, by decide +kernel⟩
abbrev s_take_writes : Stmt := topS 29
abbrev n_take_writes : List Str := ["file", "rule", "room", "number", "head", "cells", "word", "follows"]
theorem sc_take_writes : FnScope n_take_writes ["file", "rule", "room", "number"] (defScope s_take_writes) := ⟨rfl, rfl, rfl, by decide +kernel, rfl, by decide +kernel, by decide +kernel⟩
abbrev s_writes_of : Stmt := topS 30
abbrev n_writes_of : List Str := ["file", "rule", "room", "deed", "place"]
theorem sc_writes_of : FnScope n_writes_of ["file", "rule", "room", "deed"] (defScope s_writes_of) := ⟨rfl, rfl, rfl, by decide +kernel, rfl, by decide +kernel, by decide +kernel⟩
abbrev s_written_in : Stmt := topS 31
abbrev n_written_in : List Str := ["file", "write", "place", "what"]
theorem sc_written_in : FnScope n_written_in ["file", "write"] (defScope s_written_in) := ⟨rfl, rfl, rfl, by decide +kernel, rfl, by decide +kernel, by decide +kernel⟩
abbrev s_stepped : Stmt := topS 32
abbrev n_stepped : List Str := ["file", "rule", "room", "step", "deed", "many", "writes", "write"]
theorem sc_stepped : FnScope n_stepped ["file", "rule", "room", "step"] (defScope s_stepped) := ⟨rfl, rfl, rfl, by decide +kernel, rfl, by decide +kernel, by decide +kernel⟩
abbrev s_played : Stmt := topS 33
abbrev n_played : List Str := ["file", "rule", "room", "steps", "found", "number"]
theorem sc_played : FnScope n_played ["file", "rule", "room", "steps"] (defScope s_played) := ⟨rfl, rfl, rfl, by decide +kernel, rfl, by decide +kernel, by decide +kernel⟩
abbrev s_writes : Stmt := topS 34
abbrev n_writes : List Str := ["file", "rule", "room", "deed", "found"]
theorem sc_writes : FnScope n_writes ["file", "rule", "room", "deed"] (defScope s_writes) := ⟨rfl, rfl, rfl, by decide +kernel, rfl, by decide +kernel, by decide +kernel⟩
abbrev s_need_small : Stmt := topS 39
abbrev n_need_small : List Str := ["room"]
theorem sc_need_small : FnScope n_need_small ["room"] (defScope s_need_small) := ⟨rfl, rfl, rfl, by decide +kernel, rfl, by decide +kernel, by decide +kernel⟩
abbrev s_steps_on : Stmt := topS 40
abbrev n_steps_on : List Str := ["file", "rule", "room", "found", "deed", "some", "place", "number", "many"]
theorem sc_steps_on : FnScope n_steps_on ["file", "rule", "room"] (defScope s_steps_on) := ⟨rfl, rfl, rfl, by decide +kernel, rfl, by decide +kernel, by decide +kernel⟩
abbrev s_is_over : Stmt := topS 41
abbrev n_is_over : List Str := ["file", "rule", "room", "step", "deed", "many", "rows", "done", "place", "number", "write"]
theorem sc_is_over : FnScope n_is_over ["file", "rule", "room", "step"] (defScope s_is_over) := ⟨rfl, rfl, rfl, by decide +kernel, rfl, by decide +kernel, by decide +kernel⟩
abbrev s_lost_by : Stmt := topS 42
abbrev n_lost_by : List Str := ["rule", "room", "level", "met", "longer", "file", "steps", "step", "there"]
theorem sc_lost_by : FnScope n_lost_by ["rule", "room"] (defScope s_lost_by) := ⟨rfl, rfl, rfl, by decide +kernel, rfl, by decide +kernel, by decide +kernel⟩
abbrev s_judged : Stmt := topS 43
abbrev n_judged : List Str := ["rule", "room", "found"]
theorem sc_judged : FnScope n_judged ["rule", "room"] (defScope s_judged) := ⟨rfl, rfl, rfl, by decide +kernel, rfl, by decide +kernel, by decide +kernel⟩
abbrev s_written : Stmt := topS 48
abbrev n_written : List Str := ["file", "words", "word", "number"]
theorem sc_written : FnScope n_written ["file"] (defScope s_written) := ⟨rfl, rfl, rfl, by decide +kernel, rfl, by decide +kernel, by decide +kernel⟩
abbrev s_number_of : Stmt := topS 49
abbrev n_number_of : List Str := ["word", "at", "sign"]
theorem sc_number_of : FnScope n_number_of ["word", "at"] (defScope s_number_of) := ⟨rfl, rfl, rfl, by decide +kernel, rfl, by decide +kernel, by decide +kernel⟩
abbrev s_read : Stmt := topS 50
abbrev n_read : List Str := ["text", "words", "head", "cells", "at", "sign", "file"]
theorem sc_read : FnScope n_read ["text"] (defScope s_read) := ⟨rfl, rfl, rfl, by decide +kernel, rfl, by decide +kernel, by decide +kernel⟩
abbrev s__law_taken : Stmt := topS 52
abbrev n__law_taken : List Str := ["_law_row", "_law_many", "_law_cell"]
theorem sc__law_taken : FnScope n__law_taken ["_law_row", "_law_many"] (defScope s__law_taken) := ⟨rfl, rfl, rfl, by decide +kernel, rfl, by decide +kernel, by decide +kernel⟩
abbrev s__law_alike : Stmt := topS 53
abbrev n__law_alike : List Str := ["_law_found", "_law_due", "_law_k"]
theorem sc__law_alike : FnScope n__law_alike ["_law_found", "_law_due"] (defScope s__law_alike) := ⟨rfl, rfl, rfl, by decide +kernel, rfl, by decide +kernel, by decide +kernel⟩
abbrev s__law_rule : Stmt := topS 54
abbrev n__law_rule : List Str := ["_law_row"]
theorem sc__law_rule : FnScope n__law_rule ["_law_row"] (defScope s__law_rule) := ⟨rfl, rfl, rfl, by decide +kernel, rfl, by decide +kernel, by decide +kernel⟩
abbrev s__law_file : Stmt := topS 55
abbrev n__law_file : List Str := ["_law_row", "_law_most", "_law_many", "_law_often", "_law_links", "_law_cells", "_law_place"]
theorem sc__law_file : FnScope n__law_file ["_law_row", "_law_most"] (defScope s__law_file) := ⟨rfl, rfl, rfl, by decide +kernel, rfl, by decide +kernel, by decide +kernel⟩
abbrev s__law_checked : Stmt := topS 56
abbrev n__law_checked : List Str := ["_law_file_here", "_law_head", "_law_cells", "_law_rows", "_law_chain", "_law_here", "_law_loose", "_law_word", "_law_place"]
theorem sc__law_checked : FnScope n__law_checked ["_law_file_here"] (defScope s__law_checked) := ⟨rfl, rfl, rfl, by decide +kernel, rfl, by decide +kernel, by decide +kernel⟩
abbrev s__law_mends : Stmt := topS 57
abbrev n__law_mends : List Str := ["_law_file_here", "_law_free", "_law_found", "_law_k", "_law_due", "_law_place"]
theorem sc__law_mends : FnScope n__law_mends ["_law_file_here"] (defScope s__law_mends) := ⟨rfl, rfl, rfl, by decide +kernel, rfl, by decide +kernel, by decide +kernel⟩
abbrev s__law_writes : Stmt := topS 58
abbrev n__law_writes : List Str := ["_law_file_here", "_law_rule_here", "_law_room", "_law_deed_here", "_law_head", "_law_cells", "_law_follows", "_law_both"]
theorem sc__law_writes : FnScope n__law_writes ["_law_file_here", "_law_rule_here", "_law_room", "_law_deed_here"] (defScope s__law_writes) := ⟨rfl, rfl, rfl, by decide +kernel, rfl, by decide +kernel, by decide +kernel⟩
abbrev s__law_behind : Stmt := topS 59
abbrev n__law_behind : List Str := ["_law_file_here", "_law_rule_here", "_law_room", "_law_step_here", "_law_every", "_law_head", "_law_cells", "_law_place", "_law_what"]
theorem sc__law_behind : FnScope n__law_behind ["_law_file_here", "_law_rule_here", "_law_room", "_law_step_here"] (defScope s__law_behind) := ⟨rfl, rfl, rfl, by decide +kernel, rfl, by decide +kernel, by decide +kernel⟩
abbrev s__law_deed : Stmt := topS 60
abbrev n__law_deed : List Str := ["_law_row", "_law_file_here", "_law_rule_here", "_law_room", "_law_rows", "_law_deed_here", "_law_way", "_law_place"]
theorem sc__law_deed : FnScope n__law_deed ["_law_row", "_law_file_here", "_law_rule_here", "_law_room"] (defScope s__law_deed) := ⟨rfl, rfl, rfl, by decide +kernel, rfl, by decide +kernel, by decide +kernel⟩
abbrev s__law_step : Stmt := topS 61
abbrev n__law_step : List Str := ["_law_row", "_law_file_here", "_law_rule_here", "_law_room", "_law_whole", "_law_deed_here", "_law_many"]
theorem sc__law_step : FnScope n__law_step ["_law_row", "_law_file_here", "_law_rule_here", "_law_room", "_law_whole"] (defScope s__law_step) := ⟨rfl, rfl, rfl, by decide +kernel, rfl, by decide +kernel, by decide +kernel⟩
abbrev s__law_played : Stmt := topS 62
abbrev n__law_played : List Str := ["_law_row", "_law_file_here", "_law_rule_here", "_law_room", "_law_most", "_law_steps", "_law_files", "_law_turn"]
theorem sc__law_played : FnScope n__law_played ["_law_row", "_law_file_here", "_law_rule_here", "_law_room", "_law_most"] (defScope s__law_played) := ⟨rfl, rfl, rfl, by decide +kernel, rfl, by decide +kernel, by decide +kernel⟩
abbrev s__law_answer : Stmt := topS 63
abbrev n__law_answer : List Str := ["_law_way", "_law_file_here", "_law_rule_here", "_law_room", "_law_steps"]
theorem sc__law_answer : FnScope n__law_answer ["_law_way", "_law_file_here", "_law_rule_here", "_law_room", "_law_steps"] (defScope s__law_answer) := ⟨rfl, rfl, rfl, by decide +kernel, rfl, by decide +kernel, by decide +kernel⟩
abbrev s__law_copied : Stmt := topS 64
abbrev n__law_copied : List Str := ["_law_told", "_law_one"]
theorem sc__law_copied : FnScope n__law_copied ["_law_told"] (defScope s__law_copied) := ⟨rfl, rfl, rfl, by decide +kernel, rfl, by decide +kernel, by decide +kernel⟩
abbrev s_law : Stmt := topS 65
abbrev n_law : List Str := ["_law_script", "_law_row", "_law_some", "_law_k", "_law_file_here", "_law_rule_here", "_law_room", "_law_first", "_law_kept", "_law_case", "_law_turn", "_law_way", "_law_told", "_law_one"]
theorem sc_law : FnScope n_law ["_law_script"] (defScope s_law) := ⟨rfl, rfl, rfl, by decide +kernel, rfl, by decide +kernel, by decide +kernel⟩
structure Txt (w : World) (K : PySem.W.Frag) (mg : Str → Option Value) where
  f_is_link : Addr
  fd_is_link : FuncData
  F_is_link : Fun K "is_link" "is_link" s_is_link f_is_link fd_is_link
  b_is_link : Binds K fd_is_link ["cells", "place"] []
  g_is_link : mg "is_link" = some (.ref f_is_link)
  f_is_cell : Addr
  fd_is_cell : FuncData
  F_is_cell : Fun K "is_cell" "is_cell" s_is_cell f_is_cell fd_is_cell
  b_is_cell : Binds K fd_is_cell ["cells", "cell"] []
  g_is_cell : mg "is_cell" = some (.ref f_is_cell)
  f_need_file : Addr
  fd_need_file : FuncData
  F_need_file : Fun K "need_file" "need_file" s_need_file f_need_file fd_need_file
  b_need_file : Binds K fd_need_file ["file"] []
  g_need_file : mg "need_file" = some (.ref f_need_file)
  f_chain_of : Addr
  fd_chain_of : FuncData
  F_chain_of : Fun K "chain_of" "chain_of" s_chain_of f_chain_of fd_chain_of
  b_chain_of : Binds K fd_chain_of ["file"] []
  g_chain_of : mg "chain_of" = some (.ref f_chain_of)
  f_rows_of : Addr
  fd_rows_of : FuncData
  F_rows_of : Fun K "rows_of" "rows_of" s_rows_of f_rows_of fd_rows_of
  b_rows_of : Binds K fd_rows_of ["file"] []
  g_rows_of : mg "rows_of" = some (.ref f_rows_of)
  f_looked_over : Addr
  fd_looked_over : FuncData
  F_looked_over : Fun K "looked_over" "looked_over" s_looked_over f_looked_over fd_looked_over
  b_looked_over : Binds K fd_looked_over ["file"] []
  g_looked_over : mg "looked_over" = some (.ref f_looked_over)
  f_checked : Addr
  fd_checked : FuncData
  F_checked : Fun K "checked" "checked" s_checked f_checked fd_checked
  b_checked : Binds K fd_checked ["file"] []
  g_checked : mg "checked" = some (.ref f_checked)
  f_chained : Addr
  fd_chained : FuncData
  F_chained : Fun K "chained" "chained" s_chained f_chained fd_chained
  b_chained : Binds K fd_chained ["cells", "places"] []
  g_chained : mg "chained" = some (.ref f_chained)
  f_mended_of : Addr
  fd_mended_of : FuncData
  F_mended_of : Fun K "mended_of" "mended_of" s_mended_of f_mended_of fd_mended_of
  b_mended_of : Binds K fd_mended_of ["file"] []
  g_mended_of : mg "mended_of" = some (.ref f_mended_of)
  f_mended : Addr
  fd_mended : FuncData
  F_mended : Fun K "mended" "mended" s_mended f_mended fd_mended
  b_mended : Binds K fd_mended ["file"] []
  g_mended : mg "mended" = some (.ref f_mended)
  f_mends_of : Addr
  fd_mends_of : FuncData
  F_mends_of : Fun K "mends_of" "mends_of" s_mends_of f_mends_of fd_mends_of
  b_mends_of : Binds K fd_mends_of ["file"] []
  g_mends_of : mg "mends_of" = some (.ref f_mends_of)
  f_mends : Addr
  fd_mends : FuncData
  F_mends : Fun K "mends" "mends" s_mends f_mends fd_mends
  b_mends : Binds K fd_mends ["file"] []
  g_mends : mg "mends" = some (.ref f_mends)
  f_need_rule : Addr
  fd_need_rule : FuncData
  F_need_rule : Fun K "need_rule" "need_rule" s_need_rule f_need_rule fd_need_rule
  b_need_rule : Binds K fd_need_rule ["rule"] []
  g_need_rule : mg "need_rule" = some (.ref f_need_rule)
  f_need_room : Addr
  fd_need_room : FuncData
  F_need_room : Fun K "need_room" "need_room" s_need_room f_need_room fd_need_room
  b_need_room : Binds K fd_need_room ["file", "room"] []
  g_need_room : mg "need_room" = some (.ref f_need_room)
  f_in_order : Addr
  fd_in_order : FuncData
  F_in_order : Fun K "in_order" "in_order" s_in_order f_in_order fd_in_order
  b_in_order : Binds K fd_in_order ["first", "head", "slot"] []
  g_in_order : mg "in_order" = some (.ref f_in_order)
  f_take_writes : Addr
  fd_take_writes : FuncData
  F_take_writes : Fun K "take_writes" "take_writes" s_take_writes f_take_writes fd_take_writes
  b_take_writes : Binds K fd_take_writes ["file", "rule", "room", "number"] []
  g_take_writes : mg "take_writes" = some (.ref f_take_writes)
  f_writes_of : Addr
  fd_writes_of : FuncData
  F_writes_of : Fun K "writes_of" "writes_of" s_writes_of f_writes_of fd_writes_of
  b_writes_of : Binds K fd_writes_of ["file", "rule", "room", "deed"] []
  g_writes_of : mg "writes_of" = some (.ref f_writes_of)
  f_written_in : Addr
  fd_written_in : FuncData
  F_written_in : Fun K "written_in" "written_in" s_written_in f_written_in fd_written_in
  b_written_in : Binds K fd_written_in ["file", "write"] []
  g_written_in : mg "written_in" = some (.ref f_written_in)
  f_stepped : Addr
  fd_stepped : FuncData
  F_stepped : Fun K "stepped" "stepped" s_stepped f_stepped fd_stepped
  b_stepped : Binds K fd_stepped ["file", "rule", "room", "step"] []
  g_stepped : mg "stepped" = some (.ref f_stepped)
  f_played : Addr
  fd_played : FuncData
  F_played : Fun K "played" "played" s_played f_played fd_played
  b_played : Binds K fd_played ["file", "rule", "room", "steps"] []
  g_played : mg "played" = some (.ref f_played)
  f_writes : Addr
  fd_writes : FuncData
  F_writes : Fun K "writes" "writes" s_writes f_writes fd_writes
  b_writes : Binds K fd_writes ["file", "rule", "room", "deed"] []
  g_writes : mg "writes" = some (.ref f_writes)
  f_need_small : Addr
  fd_need_small : FuncData
  F_need_small : Fun K "need_small" "need_small" s_need_small f_need_small fd_need_small
  b_need_small : Binds K fd_need_small ["room"] []
  g_need_small : mg "need_small" = some (.ref f_need_small)
  f_steps_on : Addr
  fd_steps_on : FuncData
  F_steps_on : Fun K "steps_on" "steps_on" s_steps_on f_steps_on fd_steps_on
  b_steps_on : Binds K fd_steps_on ["file", "rule", "room"] []
  g_steps_on : mg "steps_on" = some (.ref f_steps_on)
  f_is_over : Addr
  fd_is_over : FuncData
  F_is_over : Fun K "is_over" "is_over" s_is_over f_is_over fd_is_over
  b_is_over : Binds K fd_is_over ["file", "rule", "room", "step"] []
  g_is_over : mg "is_over" = some (.ref f_is_over)
  f_lost_by : Addr
  fd_lost_by : FuncData
  F_lost_by : Fun K "lost_by" "lost_by" s_lost_by f_lost_by fd_lost_by
  b_lost_by : Binds K fd_lost_by ["rule", "room"] []
  g_lost_by : mg "lost_by" = some (.ref f_lost_by)
  f_judged : Addr
  fd_judged : FuncData
  F_judged : Fun K "judged" "judged" s_judged f_judged fd_judged
  b_judged : Binds K fd_judged ["rule", "room"] []
  g_judged : mg "judged" = some (.ref f_judged)
  f_written : Addr
  fd_written : FuncData
  F_written : Fun K "written" "written" s_written f_written fd_written
  b_written : Binds K fd_written ["file"] []
  g_written : mg "written" = some (.ref f_written)
  f_number_of : Addr
  fd_number_of : FuncData
  F_number_of : Fun K "number_of" "number_of" s_number_of f_number_of fd_number_of
  b_number_of : Binds K fd_number_of ["word", "at"] []
  g_number_of : mg "number_of" = some (.ref f_number_of)
  f_read : Addr
  fd_read : FuncData
  F_read : Fun K "read" "read" s_read f_read fd_read
  b_read : Binds K fd_read ["text"] []
  g_read : mg "read" = some (.ref f_read)
  f__law_taken : Addr
  fd__law_taken : FuncData
  F__law_taken : Fun K "_law_taken" "_law_taken" s__law_taken f__law_taken fd__law_taken
  b__law_taken : Binds K fd__law_taken ["_law_row", "_law_many"] []
  g__law_taken : mg "_law_taken" = some (.ref f__law_taken)
  f__law_alike : Addr
  fd__law_alike : FuncData
  F__law_alike : Fun K "_law_alike" "_law_alike" s__law_alike f__law_alike fd__law_alike
  b__law_alike : Binds K fd__law_alike ["_law_found", "_law_due"] []
  g__law_alike : mg "_law_alike" = some (.ref f__law_alike)
  f__law_rule : Addr
  fd__law_rule : FuncData
  F__law_rule : Fun K "_law_rule" "_law_rule" s__law_rule f__law_rule fd__law_rule
  b__law_rule : Binds K fd__law_rule ["_law_row"] []
  g__law_rule : mg "_law_rule" = some (.ref f__law_rule)
  f__law_file : Addr
  fd__law_file : FuncData
  F__law_file : Fun K "_law_file" "_law_file" s__law_file f__law_file fd__law_file
  b__law_file : Binds K fd__law_file ["_law_row", "_law_most"] []
  g__law_file : mg "_law_file" = some (.ref f__law_file)
  f__law_checked : Addr
  fd__law_checked : FuncData
  F__law_checked : Fun K "_law_checked" "_law_checked" s__law_checked f__law_checked fd__law_checked
  b__law_checked : Binds K fd__law_checked ["_law_file_here"] []
  g__law_checked : mg "_law_checked" = some (.ref f__law_checked)
  f__law_mends : Addr
  fd__law_mends : FuncData
  F__law_mends : Fun K "_law_mends" "_law_mends" s__law_mends f__law_mends fd__law_mends
  b__law_mends : Binds K fd__law_mends ["_law_file_here"] []
  g__law_mends : mg "_law_mends" = some (.ref f__law_mends)
  f__law_writes : Addr
  fd__law_writes : FuncData
  F__law_writes : Fun K "_law_writes" "_law_writes" s__law_writes f__law_writes fd__law_writes
  b__law_writes : Binds K fd__law_writes ["_law_file_here", "_law_rule_here", "_law_room", "_law_deed_here"] []
  g__law_writes : mg "_law_writes" = some (.ref f__law_writes)
  f__law_behind : Addr
  fd__law_behind : FuncData
  F__law_behind : Fun K "_law_behind" "_law_behind" s__law_behind f__law_behind fd__law_behind
  b__law_behind : Binds K fd__law_behind ["_law_file_here", "_law_rule_here", "_law_room", "_law_step_here"] []
  g__law_behind : mg "_law_behind" = some (.ref f__law_behind)
  f__law_deed : Addr
  fd__law_deed : FuncData
  F__law_deed : Fun K "_law_deed" "_law_deed" s__law_deed f__law_deed fd__law_deed
  b__law_deed : Binds K fd__law_deed ["_law_row", "_law_file_here", "_law_rule_here", "_law_room"] []
  g__law_deed : mg "_law_deed" = some (.ref f__law_deed)
  f__law_step : Addr
  fd__law_step : FuncData
  F__law_step : Fun K "_law_step" "_law_step" s__law_step f__law_step fd__law_step
  b__law_step : Binds K fd__law_step ["_law_row", "_law_file_here", "_law_rule_here", "_law_room", "_law_whole"] []
  g__law_step : mg "_law_step" = some (.ref f__law_step)
  f__law_played : Addr
  fd__law_played : FuncData
  F__law_played : Fun K "_law_played" "_law_played" s__law_played f__law_played fd__law_played
  b__law_played : Binds K fd__law_played ["_law_row", "_law_file_here", "_law_rule_here", "_law_room", "_law_most"] []
  g__law_played : mg "_law_played" = some (.ref f__law_played)
  f__law_answer : Addr
  fd__law_answer : FuncData
  F__law_answer : Fun K "_law_answer" "_law_answer" s__law_answer f__law_answer fd__law_answer
  b__law_answer : Binds K fd__law_answer ["_law_way", "_law_file_here", "_law_rule_here", "_law_room", "_law_steps"] []
  g__law_answer : mg "_law_answer" = some (.ref f__law_answer)
  f__law_copied : Addr
  fd__law_copied : FuncData
  F__law_copied : Fun K "_law_copied" "_law_copied" s__law_copied f__law_copied fd__law_copied
  b__law_copied : Binds K fd__law_copied ["_law_told"] []
  g__law_copied : mg "_law_copied" = some (.ref f__law_copied)
  f_law : Addr
  fd_law : FuncData
  F_law : Fun K "law" "law" s_law f_law fd_law
  b_law : Binds K fd_law ["_law_script"] []
  g_law : mg "law" = some (.ref f_law)
  m_len : mg "len" = none
  m_range : mg "range" = none
  m_list : mg "list" = none
  m_tuple : mg "tuple" = none
  m_max : mg "max" = none
  m_min : mg "min" = none
  m_isinstance : mg "isinstance" = none
  m_str : mg "str" = none
  m_bool : mg "bool" = none
  m_int : mg "int" = none
  c_MOST_SLOTS : ∃ t, mg "MOST_SLOTS" = some (.int 12 t)
  c_MOST_NUMBER : ∃ t, mg "MOST_NUMBER" = some (.int 999 t)
  c_ROW : ∃ t, mg "ROW" = some (.str (Str.ofString "row") t)
  c_FREE : ∃ t, mg "FREE" = some (.str (Str.ofString "free") t)
  a_FIRSTS : Addr
  c_FIRSTS : mg "FIRSTS" = some (.ref a_FIRSTS)
  i_FIRSTS : ∀ G, Im K G (.tuple [.str (Str.ofString "head"), .str (Str.ofString "slot")]) (.ref a_FIRSTS)
  c_MOST_ROOM : ∃ t, mg "MOST_ROOM" = some (.int 4 t)
  a_EMPTY : Addr
  c_EMPTY : mg "EMPTY" = some (.ref a_EMPTY)
  i_EMPTY : ∀ G, Im K G (.tuple [.none, .tuple []]) (.ref a_EMPTY)
  a_TAKE : Addr
  c_TAKE : mg "TAKE" = some (.ref a_TAKE)
  i_TAKE : ∀ G, Im K G (.tuple [.str (Str.ofString "take"), .int 0]) (.ref a_TAKE)
  c_FIGURES : ∃ t, mg "FIGURES" = some (.str (Str.ofString "0123456789") t)
  c_MOST_FIGURES : ∃ t, mg "MOST_FIGURES" = some (.int 3 t)
  a_SIGNS : Addr
  es_SIGNS : Array DictEntry
  nn_SIGNS : Nat
  c_SIGNS : mg "SIGNS" = some (.ref a_SIGNS)
  D_SIGNS : KDict K w a_SIGNS es_SIGNS nn_SIGNS
  k_SIGNS : KdAs K a_SIGNS signsG
def tf_is_link : Tf := mkT (α := List PyData × Lk) (fun a => [.tuple a.1, dL a.2]) (fun _ => True) (fun a => .dat (.bool (linkOk a.1.length a.2)))
section
variable {P : Program} {w : World} {K : PySem.W.Frag} {mg : Str → Option Value} {base : Heap}
theorem ok_is_link (T : Txt w K mg) : FnOk P w K mg base CX0 1 T.f_is_link T.fd_is_link ["cells", "place"] (spP K XR0 tf_is_link) := by
  refine okP (n := 0) T.F_is_link sc_is_link rfl (fun ds Φ Ξ ⟨_, e, _⟩ => by rw [e]; rfl) fun cdv A outer s H E hr => ⟨_, psis_one (psi_ret (pei_or (pei_cmp op_isN op2_isN (nomark _) (pei_var 1) pei_non) (pei_one _ (pei_chain op_le op_lt op2_le op2_lt pei_int (pei_var 1) (pei_len T.m_len rfl (pai_cons (pei_var 0) pai_nil)))))), fun ds Φ Ξ hT => ?_⟩
  obtain ⟨⟨cs, l⟩, rfl, _, h⟩ := hT
  cases l with
  | none =>
    walk_at "sf"
    exact h
  | some i =>
    walk_at "sf"
    exact h
end
def tf_is_cell : Tf := mkT (α := List PyData × Cell) (fun a => [.tuple a.1, dC a.2]) (fun _ => True) (fun a => .dat (.bool (cellOk a.1.length a.2)))
section
variable {P : Program} {w : World} {K : PySem.W.Frag} {mg : Str → Option Value} {base : Heap}
theorem ok_is_cell (T : Txt w K mg) : FnOk P w K mg base CX0 2 T.f_is_cell T.fd_is_cell ["cells", "cell"] (spP K XR0 tf_is_cell) := by
  refine okP (n := 0) T.F_is_cell sc_is_cell rfl (fun ds Φ Ξ ⟨_, e, _⟩ => by rw [e]; rfl) fun cdv A outer s H E hr => ⟨_, psis_cons (psi_if (pti_cmp (op_eqD (hu64 hr)) op2_eq (nomark _) (pei_ixT (pei_var 1) pei_int) (pei_gstr rfl T.c_ROW))
      (psis_one (psi_ret (pei_chain op_le op_le op2_le op2_le pei_int (pei_ixT (pei_var 1) pei_int) (pei_gint rfl T.c_MOST_NUMBER))))
      (psis_nil))
    (psis_one (psi_ret (pei_and (pei_cmp (op_eqD (hu64 hr)) op2_eq (nomark _) (pei_ixT (pei_var 1) pei_int) (pei_gstr rfl T.c_FREE)) (pei_one _ (pei_def (ok_is_link T) (hr.mono (by decide)) T.g_is_link T.F_is_link.kp T.b_is_link passE (pai_cons (pei_var 0) (pai_cons (pei_ixT (pei_var 1) pei_int) pai_nil)) rfl))))), fun ds Φ Ξ hT => ?_⟩
  obtain ⟨⟨cs, c⟩, rfl, _, h⟩ := hT
  cases c with
  | row n =>
    walk_at "sf"
    have e : decide ((n : Int) ≤ 999) = decide (n ≤ 999) := by
      rw [Bool.eq_iff_iff, decide_eq_true_iff, decide_eq_true_iff]
      omega
    rw [e]
    exact h
  | free l =>
    walk_at "sf"
    exact ⟨(cs, l), rfl, trivial, h⟩
end
def tf_need_file : Tf := mkT (α := File) (fun f => [dF f]) Fine (fun _ => .dat .none)
section
variable {P : Program} {w : World} {K : PySem.W.Frag} {mg : Str → Option Value} {base : Heap}
theorem ok_need_file (T : Txt w K mg) : FnOk P w K mg base CX0 3 T.f_need_file T.fd_need_file ["file"] (spP K XR0 tf_need_file) := by
  refine okP (n := 3) T.F_need_file sc_need_file rfl (fun ds Φ Ξ ⟨_, e, _⟩ => by rw [e]; rfl) fun cdv A outer s H E hr => ⟨_, psis_cons (psi_unpack [1, 2] (pei_var 0) (by exact (pg_tup rfl (pgs_cons (pg_name (i := 1) sc_need_file.nd rfl (by first | exact Or.inl rfl | exact Or.inr rfl)) (pgs_cons (pg_name (i := 2) sc_need_file.nd rfl (by first | exact Or.inl rfl | exact Or.inr rfl)) pgs_nil)))))
    (psis_cons (psi_if (pti_not (pti_val (pei_def (ok_is_link T) (hr.mono (by decide)) T.g_is_link T.F_is_link.kp T.b_is_link passE (pai_cons (pei_var 2) (pai_cons (pei_var 1) pai_nil)) rfl)))
      (psis_one (psi_never))
      (psis_nil))
    (psis_one (psi_forR1 (.nm 3) PassesOwn.never rfl T.m_range rfl (pai_cons (pei_len T.m_len rfl (pai_cons (pei_var 2) pai_nil)) pai_nil) (by exact (pg_name (i := 3) sc_need_file.nd rfl (by first | exact Or.inl rfl | exact Or.inr rfl)))
      (psis_one (psi_if (pti_bool (pwi_or (pti_cmp op_ge op2_ge (nomark _) (pei_var 3) (pei_gint rfl T.c_MOST_SLOTS)) (pwi_one (pti_not (pti_val (pei_def (ok_is_cell T) (hr.mono (by decide)) T.g_is_cell T.F_is_cell.kp T.b_is_cell passE (pai_cons (pei_var 2) (pai_cons (pei_ixT (pei_var 2) (pei_var 3)) pai_nil)) rfl))))))
        (psis_one (psi_never))
        (psis_nil)))))), fun ds Φ Ξ hT => ?_⟩
  obtain ⟨f, rfl, hf, h⟩ := hT
  unfold dF
  walk_at "sf"
  refine ⟨(f.cells.map dC, f.head), rfl, trivial, ?_⟩
  walk_at "sf"
  rw [hf.head]
  have hl := hf.few
  walk_at "sf"
  refine ⟨by omega, by omega, fun _ ρ => ∃ e, ρ = [.dat (dF f), .dat (dL f.head), .dat (.tuple (f.cells.map dC)), e], ⟨_, rfl⟩, fun i ρ' hi hρ => ?_, fun ρ' hρ => h⟩
  obtain ⟨e, rfl⟩ := hρ
  obtain ⟨c, hc, hok⟩ := hf.at hi
  have e12 : decide ((12 : Int) ≤ (i : Int)) = false := decide_eq_false (by omega)
  walk_at "sf"
  rw [e12, atC hc]
  walk_at "sf"
  refine ⟨(f.cells.map dC, c), rfl, trivial, ?_⟩
  walk_at "sf"
  rw [hok]
  walk_at "sf"
  exact ⟨_, rfl⟩
end
def tf_chain_of : Tf := mkT (α := File) (fun f => [dF f]) Fine (fun f => .dat (.tuple [dNats (chain f), .str (endWord f)]))
/-- the loop: what is left of the walk tells the whole walk's end -/
def ChInv (f : File) (m : Nat) (ρ : Rho) : Prop := ∃ (found : List Nat) (l : Lk), ρ = [.dat (dF f), .dat (dL l), .dat (.tuple (f.cells.map dC)), .ls (found.map dNat)] ∧ Told f.cells found ∧ linkOk f.cells.length l = true ∧ m + found.length = f.cells.length + 1 ∧ gone f = walk f.cells m found l
theorem told_snoc {cs : List Cell} {found : List Nat} {p : Nat} (h : Told cs found) (hp : p < cs.length) (hn : found.contains p = false) : Told cs (found ++ [p]) := by
  refine ⟨?_, fun q hq => ?_⟩
  · rw [List.nodup_append]
    refine ⟨h.1, by simp, fun a ha b hb e => ?_⟩
    rw [List.mem_singleton] at hb
    subst hb
    subst e
    have z : found.contains a = true := List.contains_iff_mem.mpr ha
    rw [hn] at z
    cases z
  · rcases List.mem_append.mp hq with z | z
    · exact h.2 q z
    · rw [List.mem_singleton.mp z]; exact hp
section
variable {P : Program} {w : World} {K : PySem.W.Frag} {mg : Str → Option Value} {base : Heap}
theorem ok_chain_of (T : Txt w K mg) : FnOk P w K mg base CX0 1 T.f_chain_of T.fd_chain_of ["file"] (spP K XR0 tf_chain_of) := by
  refine okP (n := 3) T.F_chain_of sc_chain_of rfl (fun ds Φ Ξ ⟨_, e, _⟩ => by rw [e]; rfl) fun cdv A outer s H E hr => ⟨_, psis_cons (psi_unpack [1, 2] (pei_var 0) (by exact (pg_tup rfl (pgs_cons (pg_name (i := 1) sc_chain_of.nd rfl (by first | exact Or.inl rfl | exact Or.inr rfl)) (pgs_cons (pg_name (i := 2) sc_chain_of.nd rfl (by first | exact Or.inl rfl | exact Or.inr rfl)) pgs_nil)))))
    (psis_cons (psi_set 3 (pei_lst pai_nil) sc_chain_of.nd)
    (psis_cons (psi_while PassesOwn.never (pti_cmp op_notN op2_notN (nomark _) (pei_var 1) pei_non)
      (psis_cons (psi_if (pti_cmp (op_eqD (hu64 hr)) op2_eq (nomark _) (pei_ixT (pei_ixT (pei_var 2) (pei_var 1)) pei_int) (pei_gstr rfl T.c_ROW))
        (psis_one (psi_frz 3 (psi_ret (pei_tup (pai_cons (pei_var 3) (pai_cons pei_str pai_nil))))))
        (psis_nil))
      (psis_cons (psi_if (pti_peek 3 (pti_cmp (op_inD (hu65 hr)) op2_inL (by rfl) (pei_var 1) (pei_var 3)))
        (psis_one (psi_frz 3 (psi_ret (pei_tup (pai_cons (pei_var 3) (pai_cons pei_str pai_nil))))))
        (psis_nil))
      (psis_cons (psi_app 3 (pei_var 1))
      (psis_one (psi_setF 1 (pei_ixT (pei_ixT (pei_var 2) (pei_var 1)) pei_int) sc_chain_of.nd))))))
    (psis_one (psi_frz 3 (psi_ret (pei_tup (pai_cons (pei_var 3) (pai_cons pei_str pai_nil)))))))), fun ds Φ Ξ hT => ?_⟩
  obtain ⟨f, rfl, hf, h⟩ := hT
  have hl := hf.few
  unfold dF
  walk_at "sf"
  refine ⟨ChInv f, ⟨f.cells.length + 1, [], f.head, rfl, ⟨List.nodup_nil, fun _ z => by simp at z⟩, hf.head, rfl, rfl⟩, fun m ρ' hρ => ?_⟩
  obtain ⟨found, l, rfl, ht, hlk, hm, hg⟩ := hρ
  have htl := ht.len
  obtain ⟨m, rfl⟩ : ∃ k, m = k + 1 := ⟨m - 1, by omega⟩
  cases l with
  | none =>
    walk_at "sf"
    have e1 : chain f = found := by unfold chain; rw [hg]; rfl
    have e2 : endWord f = Str.ofString "end" := by unfold endWord stop; rw [hg]; rfl
    have h : Φ (.dat (.tuple [dNats (chain f), .str (endWord f)])) := h
    rw [e1, e2] at h
    exact h
  | some p =>
    have hp : p < f.cells.length := of_decide_eq_true hlk
    obtain ⟨c, hc, hok⟩ := hf.at hp
    walk_at "sf"
    rw [atC hc]
    cases c with
    | row n =>
      walk_at "sf"
      have hg2 : gone f = (found, some p) := by
        rw [hg, walk, hc]
      have e1 : chain f = found := by unfold chain; rw [hg2]
      have e2 : endWord f = Str.ofString "row" := by unfold endWord stop; rw [hg2]; show (match f.cells[p]? with | some (.free _) => _ | _ => _) = _; rw [hc]
      have h : Φ (.dat (.tuple [dNats (chain f), .str (endWord f)])) := h
      rw [e1, e2] at h
      exact h
    | free l2 =>
      walk_at "sf"
      refine ⟨(shp_ints found).shaped (by decide), ?_⟩
      rw [contains_dNat]
      cases hcn : found.contains p with
      | true =>
        walk_at "sf"
        have hg2 : gone f = (found, some p) := by
          rw [hg, walk, hc]
          show (if found.contains p = true then _ else _) = _
          rw [if_pos hcn]
        have e1 : chain f = found := by unfold chain; rw [hg2]
        have e2 : endWord f = Str.ofString "ring" := by unfold endWord stop; rw [hg2]; show (match f.cells[p]? with | some (.free _) => _ | _ => _) = _; rw [hc]
        have h : Φ (.dat (.tuple [dNats (chain f), .str (endWord f)])) := h
        rw [e1, e2] at h
        exact h
      | false =>
        walk_at "sf"
        refine ⟨by omega, m, Nat.lt_succ_self _, found ++ [p], l2, ?_, told_snoc ht hp hcn, hok, by rw [List.length_append]; simp only [List.length_cons, List.length_nil]; omega, ?_⟩
        · rw [List.map_append]
          rfl
        · rw [hg, walk, hc]
          show (if found.contains p = true then _ else _) = _
          rw [if_neg (by rw [hcn]; decide)]
end
def tf_rows_of : Tf := mkT (α := File) (fun f => [dF f]) Fine (fun f => .lst ((rowsL f.cells).map (dRow f.cells)))
section
variable {P : Program} {w : World} {K : PySem.W.Frag} {mg : Str → Option Value} {base : Heap}
theorem ok_rows_of (T : Txt w K mg) : FnOk P w K mg base CX0 1 T.f_rows_of T.fd_rows_of ["file"] (spP K XR0 tf_rows_of) := by
  refine okP (n := 1) T.F_rows_of sc_rows_of rfl (fun ds Φ Ξ ⟨_, e, _⟩ => by rw [e]; rfl) fun cdv A outer s H E hr => ⟨_, psis_one (psi_ret (pei_lcR rfl sc_rows_of.nd T.m_range rfl (pai_cons (pei_len T.m_len rfl (pai_cons (pei_ixT (pei_var 0) pei_int) pai_nil)) pai_nil) (Blk.mk (own := [("place", 1)]) (tgt := (.nm 1)) (blkOk_by (N := n_rows_of) (sc := defScope s_rows_of) (by decide +kernel)) (by decide) (fun _ _ _ _ _ => by exact (pg_name (i := 1) sc_rows_of.nd rfl (by first | exact Or.inl rfl | exact Or.inr rfl))) (fun _ _ _ _ _ => (ptsi_one (pti_cmp (op_eqD (hu64 hr)) op2_eq (nomark _) (pei_ixT (pei_ixT (pei_ixT (pei_var 0) pei_int) (pei_var 1)) pei_int) (pei_gstr rfl T.c_ROW)))) (fun _ _ _ _ _ => (pei_tup (pai_cons (pei_var 1) (pai_cons (pei_ixT (pei_ixT (pei_ixT (pei_var 0) pei_int) (pei_var 1)) pei_int) pai_nil))))))), fun ds Φ Ξ hT => ?_⟩
  obtain ⟨f, rfl, hf, h⟩ := hT
  have hl := hf.few
  unfold dF
  walk_at "sf"
  refine ⟨by omega, by omega, ?_⟩
  refine lcR_fm (rowAt f.cells) (dRow f.cells) rfl (by omega) (fun i hi A B hA hB => ?_) h
  obtain ⟨c, hc, hok⟩ := hf.at hi
  walk_at "sf"
  rw [atC hc]
  cases c with
  | row n =>
    have e1 : rowAt f.cells i = true := by unfold rowAt; rw [hc]
    have e2 : numAt f.cells i = n := by unfold numAt; rw [hc]
    walk_at "sf"
    have z := hA e1
    unfold dRow at z
    rw [e2] at z
    exact z
  | free l =>
    have e1 : rowAt f.cells i = false := by unfold rowAt; rw [hc]
    walk_at "sf"
    exact hB e1
end
def tf_looked_over : Tf := mkT (α := File) (fun f => [dF f]) Fine (fun f => .dat (dChecked f))
theorem w_ee : (Str.ofString "end" == Str.ofString "end") = true := by decide +kernel
theorem w_re : (Str.ofString "ring" == Str.ofString "end") = false := by decide +kernel
theorem w_oe : (Str.ofString "row" == Str.ofString "end") = false := by decide +kernel
theorem endWord_end (f : File) : (endWord f == Str.ofString "end") = decide (stop f = none) := by
  unfold endWord
  cases stop f with
  | none => exact w_ee
  | some p =>
    show ((match f.cells[p]? with | some (.free _) => Str.ofString "ring" | _ => Str.ofString "row") == Str.ofString "end") = _
    rw [decide_eq_false (show ¬ some p = none from fun z => by cases z)]
    split
    · exact w_re
    · exact w_oe
theorem endWord_ok (f : File) : PyData.strOk (endWord f) = true := by
  unfold endWord
  split
  · decide +kernel
  · split
    · decide +kernel
    · decide +kernel
theorem wordOf_eq (f : File) : word f = (if (!decide (stop f = none)) = true then Str.ofString "broken" else if (!(looseL f).isEmpty) = true then Str.ofString "loose" else sWhole) := by
  unfold word
  by_cases h : stop f = none
  · rw [decide_eq_true h, if_neg (fun q => q h)]
    cases looseL f with
    | nil => rfl
    | cons a r => rfl
  · rw [decide_eq_false h, if_pos h]
    rfl
theorem filter_dNat {l : List Nat} {q : List Nat} : ((l.map dNat).filter (fun z => !((q.map dNat).any fun y => PyData.eqv y z))) = (l.filter fun p => !q.contains p).map dNat := by
  rw [List.filter_map]
  congr 1
  refine List.filter_congr fun p _ => ?_
  show (!((q.map dNat).any fun y => PyData.eqv y (dNat p))) = _
  rw [show ((q.map dNat).any fun y => PyData.eqv y (dNat p)) = q.contains p from contains_dNat]
section
variable {P : Program} {w : World} {K : PySem.W.Frag} {mg : Str → Option Value} {base : Heap}
theorem ok_looked_over (T : Txt w K mg) : FnOk P w K mg base CX0 2 T.f_looked_over T.fd_looked_over ["file"] (spP K XR0 tf_looked_over) := by
  refine okP (n := 6) T.F_looked_over sc_looked_over rfl (fun ds Φ Ξ ⟨_, e, _⟩ => by rw [e]; rfl) fun cdv A outer s H E hr => ⟨_, psis_cons (psi_unpack [1, 2] (pei_def (ok_chain_of T) (hr.mono (by decide)) T.g_chain_of T.F_chain_of.kp T.b_chain_of passE (pai_cons (pei_var 0) pai_nil) rfl) (by exact (pg_tup rfl (pgs_cons (pg_name (i := 1) sc_looked_over.nd rfl (by first | exact Or.inl rfl | exact Or.inr rfl)) (pgs_cons (pg_name (i := 2) sc_looked_over.nd rfl (by first | exact Or.inl rfl | exact Or.inr rfl)) pgs_nil)))))
    (psis_cons (psi_setFLcR 3 rfl sc_looked_over.nd T.m_range rfl (pai_cons (pei_len T.m_len rfl (pai_cons (pei_ixT (pei_var 0) pei_int) pai_nil)) pai_nil) (Blk.mk (own := [("place", 6)]) (tgt := (.nm 6)) (blkOk_by (N := n_looked_over) (sc := defScope s_looked_over) (by decide +kernel)) (by decide) (fun _ _ _ _ _ => by exact (pg_name (i := 6) sc_looked_over.nd rfl (by first | exact Or.inl rfl | exact Or.inr rfl))) (fun _ _ _ _ _ => (ptsi_one (pti_cmp (op_eqD (hu64 hr)) op2_eq (nomark _) (pei_ixT (pei_ixT (pei_ixT (pei_var 0) pei_int) (pei_var 6)) pei_int) (pei_gstr rfl T.c_FREE)))) (fun _ _ _ _ _ => (pei_var 6))) (sw_true rfl rfl rfl (by decide +kernel)))
    (psis_cons (psi_setFLcL 4 rfl sc_looked_over.nd (pei_var 3) (Blk.mk (own := [("place", 6)]) (tgt := (.nm 6)) (blkOk_by (N := n_looked_over) (sc := defScope s_looked_over) (by decide +kernel)) (by decide) (fun _ _ _ _ _ => by exact (pg_name (i := 6) sc_looked_over.nd rfl (by first | exact Or.inl rfl | exact Or.inr rfl))) (fun _ _ _ _ _ => (ptsi_one (pti_cmp (op_notInD (hu65 hr)) op2_notInL (by rfl) (pei_var 6) (pei_var 1)))) (fun _ _ _ _ _ => (pei_var 6))) (sw_true rfl rfl rfl (by decide +kernel)))
    (psis_cons (psi_setF 5 (pei_if (pti_cmp (op_neD (hu64 hr)) op2_ne (nomark _) (pei_var 2) pei_str) pei_str (pei_if (pti_cmp (op_neD (hu64 hr)) op2_ne (nomark _) (pei_var 4) (pei_lst pai_nil)) pei_str pei_str)) sc_looked_over.nd)
    (psis_one (psi_ret (pei_tup (pai_cons (pei_var 5) (pai_cons (pei_def (ok_rows_of T) (hr.mono (by decide)) T.g_rows_of T.F_rows_of.kp T.b_rows_of passE (pai_cons (pei_var 0) pai_nil) rfl) (pai_cons (pei_var 1) (pai_cons (pei_var 4) pai_nil)))))))))), fun ds Φ Ξ hT => ?_⟩
  obtain ⟨f, rfl, hf, h⟩ := hT
  have hl := hf.few
  have hew : SeqAt.shaped (.str (endWord f)) = true := h_str (endWord_ok f)
  have hee : SeqAt.shaped (.str (Str.ofString "end")) = true := h_str (by decide +kernel)
  have hlo : SeqAt.shaped (.list ((looseL f).map dNat)) = true := (shp_ints (looseL f)).shaped (by decide)
  walk_at "sf"
  refine ⟨f, rfl, hf, ?_⟩
  unfold dF
  walk_at "sf"
  refine ⟨by omega, by omega, lcR_fm (freeAt f.cells) dNat rfl (by omega) (fun i hi A B hA hB => ?_) ?_⟩
  · obtain ⟨c, hc, hok⟩ := hf.at hi
    walk_at "sf"
    rw [atC hc]
    cases c with
    | row n =>
      have e1 : freeAt f.cells i = false := by unfold freeAt; rw [hc]
      walk_at "sf"
      exact hB e1
    | free l =>
      have e1 : freeAt f.cells i = true := by unfold freeAt; rw [hc]
      walk_at "sf"
      exact hA e1
  · walk_at "sf"
    refine lcI_fm (fun z => !(((chain f).map dNat).any fun y => PyData.eqv y z)) (fun z => z) rfl ?_ (fun d hd A B hA hB => ?_) ?_
    · have := List.length_filter_le (freeAt f.cells) (List.range f.cells.length)
      rw [List.length_range] at this
      rw [List.length_map]
      omega
    · obtain ⟨p, _, rfl⟩ := List.mem_map.mp hd
      unfold dNats
      walk_at "sf"
      refine ⟨rfl, (shp_ints (chain f)).shaped (by decide), ?_⟩
      cases hk : (!(((chain f).map dNat).any fun y => PyData.eqv y (dNat p))) with
      | true => exact hA hk
      | false => exact hB hk
    · rw [List.map_id', filter_dNat]
      have hr : ∀ Φ : Res → Prop, Φ (.lst ((rowsL f.cells).map (dRow f.cells))) → tf_rows_of [.tuple [dL f.head, .tuple (f.cells.map dC)]] Φ Ξ := fun Φ q => ⟨f, rfl, hf, q⟩
      have h : Φ (.dat (dChecked f)) := h
      unfold dChecked at h
      rw [wordOf_eq] at h
      walk_at "sf"
      refine ⟨hew, ?_⟩
      rw [endWord_end]
      cases hs : decide (stop f = none) with
      | false =>
        rw [hs] at h
        refine hr _ ?_
        exact h
      | true =>
        rw [hs] at h
        refine ⟨hlo, ?_⟩
        show if (!(looseL f).isEmpty) = true then _ else _
        cases hs2 : (looseL f).isEmpty with
        | false =>
          rw [hs2] at h
          refine hr _ ?_
          exact h
        | true =>
          rw [hs2] at h
          refine hr _ ?_
          exact h
end
def tf_checked : Tf := mkT (α := File) (fun f => [dF f]) Fine (fun f => .dat (dChecked f))
section
variable {P : Program} {w : World} {K : PySem.W.Frag} {mg : Str → Option Value} {base : Heap}
theorem ok_checked (T : Txt w K mg) : FnOk P w K mg base CX0 4 T.f_checked T.fd_checked ["file"] (spP K XR0 tf_checked) := by
  refine okP (n := 0) T.F_checked sc_checked rfl (fun ds Φ Ξ ⟨_, e, _⟩ => by rw [e]; rfl) fun cdv A outer s H E hr => ⟨_, psis_cons (psi_expr (pei_def (ok_need_file T) (hr.mono (by decide)) T.g_need_file T.F_need_file.kp T.b_need_file passE (pai_cons (pei_var 0) pai_nil) rfl))
    (psis_one (psi_ret (pei_def (ok_looked_over T) (hr.mono (by decide)) T.g_looked_over T.F_looked_over.kp T.b_looked_over passE (pai_cons (pei_var 0) pai_nil) rfl))), fun ds Φ Ξ hT => ?_⟩
  obtain ⟨f, rfl, hf, h⟩ := hT
  walk_at "sf"
  refine ⟨f, rfl, hf, ?_⟩
  walk_at "sf"
  exact ⟨f, rfl, hf, h⟩
end
def tf_chained : Tf := mkT (α := List Cell × List Nat) (fun a => [.tuple (a.1.map dC), dNats a.2]) (fun a => a.1.length ≤ 12 ∧ a.2.length ≤ 12 ∧ ∀ p ∈ a.2, p < a.1.length) (fun a => .dat (dF ⟨a.2.head?, relink a.1 a.2⟩))
section
variable {P : Program} {w : World} {K : PySem.W.Frag} {mg : Str → Option Value} {base : Heap}
theorem ok_chained (T : Txt w K mg) : FnOk P w K mg base CX0 1 T.f_chained T.fd_chained ["cells", "places"] (spP K XR0 tf_chained) := by
  refine okP (n := 2) T.F_chained sc_chained rfl (fun ds Φ Ξ ⟨_, e, _⟩ => by rw [e]; rfl) fun cdv A outer s H E hr => ⟨_, psis_cons (psi_set 2 (pei_list T.m_list rfl (pai_cons (pei_var 0) pai_nil)) sc_chained.nd)
    (psis_cons (psi_forR1 (.nm 3) PassesOwn.never rfl T.m_range rfl (pai_cons (pei_len T.m_len rfl (pai_cons (pei_var 1) pai_nil)) pai_nil) (by exact (pg_name (i := 3) sc_chained.nd rfl (by first | exact Or.inl rfl | exact Or.inr rfl)))
      (psis_one (psi_store 2 (pei_tup (pai_cons (pei_gstr rfl T.c_FREE) (pai_cons (pei_if (pti_cmp op_lt op2_lt (nomark _) (pei_add (pei_var 3) pei_int) (pei_len T.m_len rfl (pai_cons (pei_var 1) pai_nil))) (pei_ixL (pei_var 1) (pei_add (pei_var 3) pei_int)) pei_non) pai_nil))) (by exact (pg_sub (pv 2) (pei_ixL (pei_var 1) (pei_var 3)) set_list)))))
    (psis_one (psi_frz 2 (psi_ret (pei_tup (pai_cons (pei_if (pti_cmp (op_neD (hu64 hr)) op2_ne (nomark _) (pei_var 1) (pei_lst pai_nil)) (pei_ixL (pei_var 1) pei_int) pei_non) (pai_cons (pei_tuple T.m_tuple rfl (pai_cons (pei_var 2) pai_nil)) pai_nil))))))), fun ds Φ Ξ hT => ?_⟩
  obtain ⟨⟨cs, ps⟩, rfl, ⟨hl, hl2, hp⟩, h⟩ := hT
  have hl : cs.length ≤ 12 := hl
  have hl2 : ps.length ≤ 12 := hl2
  have hp : ∀ p ∈ ps, p < cs.length := hp
  have hsh : SeqAt.shaped (.list (ps.map dNat)) = true := (shp_ints ps).shaped (by decide)
  unfold dNats
  walk_at "sf"
  refine ⟨by omega, by omega, fun i ρ => ∃ cur e, ρ = [.dat (.tuple (cs.map dC)), .dat (.list (ps.map dNat)), .ls (cur.map dC), e] ∧ cur.length = cs.length ∧ relink cur (ps.drop i) = relink cs ps, ⟨cs, _, rfl, rfl, rfl⟩, fun i ρ' hi hρ => ?_, fun ρ' hρ => ?_⟩
  · obtain ⟨cur, e, rfl, hcl, hr⟩ := hρ
    have hpi : ps[i]? = some ps[i] := List.getElem?_eq_getElem hi
    have hlt : ps[i] < cur.length := by rw [hcl]; exact hp _ (List.getElem_mem hi)
    walk_at "sf"
    rw [cast1, lt_cast, atN hpi]
    by_cases h1 : i + 1 < ps.length
    · have hp1 : ps[i + 1]? = some ps[i + 1] := List.getElem?_eq_getElem h1
      rw [decide_eq_true h1, atN hp1]
      walk_at "sf"
      refine ⟨_, _, rfl, ixN_of hlt, cur.set ps[i] (.free (some ps[i + 1])), _, by rw [List.map_set]; rfl, by rw [List.length_set, hcl], ?_⟩
      rw [← hr, List.drop_eq_getElem_cons hi, relink, List.head?_drop, hp1]
    · have hp1 : ps[i + 1]? = none := List.getElem?_eq_none (by omega)
      rw [decide_eq_false h1]
      walk_at "sf"
      refine ⟨_, _, rfl, ixN_of hlt, cur.set ps[i] (.free none), _, by rw [List.map_set]; rfl, by rw [List.length_set, hcl], ?_⟩
      rw [← hr, List.drop_eq_getElem_cons hi, relink, List.head?_drop, hp1]
  · obtain ⟨cur, e, rfl, hcl, hr⟩ := hρ
    rw [List.drop_length, relink] at hr
    walk_at "sf"
    refine ⟨hsh, ?_⟩
    subst hr
    cases ps with
    | nil => exact h
    | cons p r =>
      walk_at "sf"
      exact h
end
def tf_mended_of : Tf := mkT (α := File) (fun f => [dF f]) Fine (fun f => .dat (dF (mendF f)))
theorem word_ok (f : File) : PyData.strOk (word f) = true := by
  unfold word
  split
  · decide +kernel
  · split
    · decide +kernel
    · decide +kernel
theorem h_wd (f : File) : SeqAt.shaped (.str (word f)) = true := h_str (word_ok f)
theorem h_whole : SeqAt.shaped (.str sWhole) = true := h_str (by decide +kernel)
theorem freeL_len {cs : List Cell} : (freeL cs).length ≤ cs.length := by
  have := List.length_filter_le (freeAt cs) (List.range cs.length)
  rw [List.length_range] at this
  exact this
section
variable {P : Program} {w : World} {K : PySem.W.Frag} {mg : Str → Option Value} {base : Heap}
theorem ok_mended_of (T : Txt w K mg) : FnOk P w K mg base CX0 3 T.f_mended_of T.fd_mended_of ["file"] (spP K XR0 tf_mended_of) := by
  refine okP (n := 1) T.F_mended_of sc_mended_of rfl (fun ds Φ Ξ ⟨_, e, _⟩ => by rw [e]; rfl) fun cdv A outer s H E hr => ⟨_, psis_cons (psi_if (pti_cmp (op_eqD (hu64 hr)) op2_eq (nomark _) (pei_ixT (pei_def (ok_looked_over T) (hr.mono (by decide)) T.g_looked_over T.F_looked_over.kp T.b_looked_over passE (pai_cons (pei_var 0) pai_nil) rfl) pei_int) pei_str)
      (psis_one (psi_ret (pei_var 0)))
      (psis_nil))
    (psis_one (psi_ret (pei_def (ok_chained T) (hr.mono (by decide)) T.g_chained T.F_chained.kp T.b_chained passE (pai_cons (pei_ixT (pei_var 0) pei_int) (pai_cons (pei_lcR rfl sc_mended_of.nd T.m_range rfl (pai_cons (pei_len T.m_len rfl (pai_cons (pei_ixT (pei_var 0) pei_int) pai_nil)) pai_nil) (Blk.mk (own := [("place", 1)]) (tgt := (.nm 1)) (blkOk_by (N := n_mended_of) (sc := defScope s_mended_of) (by decide +kernel)) (by decide) (fun _ _ _ _ _ => by exact (pg_name (i := 1) sc_mended_of.nd rfl (by first | exact Or.inl rfl | exact Or.inr rfl))) (fun _ _ _ _ _ => (ptsi_one (pti_cmp (op_eqD (hu64 hr)) op2_eq (nomark _) (pei_ixT (pei_ixT (pei_ixT (pei_var 0) pei_int) (pei_var 1)) pei_int) (pei_gstr rfl T.c_FREE)))) (fun _ _ _ _ _ => (pei_var 1)))) pai_nil)) rfl))), fun ds Φ Ξ hT => ?_⟩
  obtain ⟨f, rfl, hf, h⟩ := hT
  have hl := hf.few
  have hw := h_wd f
  walk_at "sf"
  refine ⟨f, rfl, hf, ?_⟩
  unfold dChecked
  walk_at "sf"
  refine ⟨hw, ?_⟩
  rw [word_whole]
  have h : Φ (.dat (dF (mendF f))) := h
  unfold mendF at h
  cases hk : whole f with
  | true =>
    rw [hk] at h
    exact h
  | false =>
    rw [hk] at h
    unfold dF
    walk_at "sf"
    refine ⟨by omega, by omega, lcR_fm (freeAt f.cells) dNat rfl (by omega) (fun i hi A B hA hB => ?_) ?_⟩
    · obtain ⟨c, hc, hok⟩ := hf.at hi
      walk_at "sf"
      rw [atC hc]
      cases c with
      | row n =>
        have e1 : freeAt f.cells i = false := by unfold freeAt; rw [hc]
        walk_at "sf"
        exact hB e1
      | free l =>
        have e1 : freeAt f.cells i = true := by unfold freeAt; rw [hc]
        walk_at "sf"
        exact hA e1
    · refine ⟨(f.cells, freeL f.cells), rfl, ⟨hl, Nat.le_trans freeL_len hl, fun p hp => freeL_lt hp⟩, h⟩
end
def tf_mended : Tf := mkT (α := File) (fun f => [dF f]) Fine (fun f => .dat (dF (mendF f)))
section
variable {P : Program} {w : World} {K : PySem.W.Frag} {mg : Str → Option Value} {base : Heap}
theorem ok_mended (T : Txt w K mg) : FnOk P w K mg base CX0 4 T.f_mended T.fd_mended ["file"] (spP K XR0 tf_mended) := by
  refine okP (n := 0) T.F_mended sc_mended rfl (fun ds Φ Ξ ⟨_, e, _⟩ => by rw [e]; rfl) fun cdv A outer s H E hr => ⟨_, psis_cons (psi_expr (pei_def (ok_need_file T) (hr.mono (by decide)) T.g_need_file T.F_need_file.kp T.b_need_file passE (pai_cons (pei_var 0) pai_nil) rfl))
    (psis_one (psi_ret (pei_def (ok_mended_of T) (hr.mono (by decide)) T.g_mended_of T.F_mended_of.kp T.b_mended_of passE (pai_cons (pei_var 0) pai_nil) rfl))), fun ds Φ Ξ hT => ?_⟩
  obtain ⟨f, rfl, hf, h⟩ := hT
  walk_at "sf"
  refine ⟨f, rfl, hf, ?_⟩
  walk_at "sf"
  exact ⟨f, rfl, hf, h⟩
end
def tf_mends_of : Tf := mkT (α := File) (fun f => [dF f]) Fine (fun f => .lst ((mendsF f).map dW))
section
variable {P : Program} {w : World} {K : PySem.W.Frag} {mg : Str → Option Value} {base : Heap}
theorem ok_mends_of (T : Txt w K mg) : FnOk P w K mg base CX0 4 T.f_mends_of T.fd_mends_of ["file"] (spP K XR0 tf_mends_of) := by
  refine okP (n := 4) T.F_mends_of sc_mends_of rfl (fun ds Φ Ξ ⟨_, e, _⟩ => by rw [e]; rfl) fun cdv A outer s H E hr => ⟨_, psis_cons (psi_if (pti_cmp (op_eqD (hu64 hr)) op2_eq (nomark _) (pei_ixT (pei_def (ok_looked_over T) (hr.mono (by decide)) T.g_looked_over T.F_looked_over.kp T.b_looked_over passE (pai_cons (pei_var 0) pai_nil) rfl) pei_int) pei_str)
      (psis_one (psi_ret (pei_lst pai_nil)))
      (psis_nil))
    (psis_cons (psi_unpack [1, 2] (pei_def (ok_mended_of T) (hr.mono (by decide)) T.g_mended_of T.F_mended_of.kp T.b_mended_of passE (pai_cons (pei_var 0) pai_nil) rfl) (by exact (pg_tup rfl (pgs_cons (pg_name (i := 1) sc_mends_of.nd rfl (by first | exact Or.inl rfl | exact Or.inr rfl)) (pgs_cons (pg_name (i := 2) sc_mends_of.nd rfl (by first | exact Or.inl rfl | exact Or.inr rfl)) pgs_nil)))))
    (psis_cons (psi_set 3 (pei_lst (pai_cons (pei_tup (pai_cons pei_non (pai_cons pei_non pai_nil))) pai_nil)) sc_mends_of.nd)
    (psis_cons (psi_forR1 (.nm 4) PassesOwn.never rfl T.m_range rfl (pai_cons (pei_len T.m_len rfl (pai_cons (pei_var 2) pai_nil)) pai_nil) (by exact (pg_name (i := 4) sc_mends_of.nd rfl (by first | exact Or.inl rfl | exact Or.inr rfl)))
      (psis_one (psi_if (pti_cmp (op_neD (hu64 hr)) op2_ne (nomark _) (pei_ixT (pei_var 2) (pei_var 4)) (pei_ixT (pei_ixT (pei_var 0) pei_int) (pei_var 4)))
        (psis_one (psi_app 3 (pei_tup (pai_cons (pei_var 4) (pai_cons (pei_ixT (pei_var 2) (pei_var 4)) pai_nil)))))
        (psis_nil))))
    (psis_one (psi_frz 3 (psi_ret (pei_catL (pei_var 3) (pei_lst (pai_cons (pei_tup (pai_cons pei_non (pai_cons (pei_var 1) pai_nil))) pai_nil))))))))), fun ds Φ Ξ hT => ?_⟩
  obtain ⟨f, rfl, hf, h⟩ := hT
  have hl := hf.few
  have hw := h_wd f
  have hml := mendF_len f
  walk_at "sf"
  refine ⟨f, rfl, hf, ?_⟩
  unfold dChecked
  walk_at "sf"
  refine ⟨hw, ?_⟩
  rw [word_whole]
  have h : Φ (.lst ((mendsF f).map dW)) := h
  unfold mendsF at h
  cases hk : whole f with
  | true =>
    rw [hk] at h
    exact h
  | false =>
    rw [hk] at h
    walk_at "sf"
    refine ⟨f, rfl, hf, ?_⟩
    unfold dF
    walk_at "sf"
    have hf2 := mendF_fine hf
    refine ⟨by omega, by omega, fun i ρ => ∃ e, ρ = [.dat (dF f), .dat (dL (mendF f).head), .dat (.tuple ((mendF f).cells.map dC)), .ls ((((none, .link none) : Write) :: diffs (mendF f).cells f.cells i).map dW), e], ⟨_, rfl⟩, fun i ρ' hi hρ => ?_, fun ρ' hρ => ?_⟩
    · obtain ⟨e, rfl⟩ := hρ
      obtain ⟨c, hc, _⟩ := hf2.at hi
      obtain ⟨d, hd, _⟩ := hf.at (show i < f.cells.length by omega)
      have hdl := diffs_len (a := (mendF f).cells) (b := f.cells) (n := i)
      have hds := diffs_succ hc hd
      unfold dF
      walk_at "sf"
      rw [atC hc, atC hd]
      walk_at "sf"
      by_cases he : c = d
      · rw [decide_eq_true he]
        rw [if_pos he, List.append_nil] at hds
        walk_at "sf"
        exact ⟨_, by rw [hds]⟩
      · rw [decide_eq_false he]
        rw [if_neg he] at hds
        walk_at "sf"
        refine ⟨by omega, .dat (.int (i : Int)), ?_⟩
        rw [hds, List.map_append]
        rfl
    · obtain ⟨e, rfl⟩ := hρ
      have hdl := diffs_len (a := (mendF f).cells) (b := f.cells) (n := (mendF f).cells.length)
      walk_at "sf"
      refine ⟨by omega, ?_⟩
      rw [if_neg (by decide), List.map_append, List.map_append] at h
      exact h
end
def tf_mends : Tf := mkT (α := File) (fun f => [dF f]) Fine (fun f => .lst ((mendsF f).map dW))
section
variable {P : Program} {w : World} {K : PySem.W.Frag} {mg : Str → Option Value} {base : Heap}
theorem ok_mends (T : Txt w K mg) : FnOk P w K mg base CX0 5 T.f_mends T.fd_mends ["file"] (spP K XR0 tf_mends) := by
  refine okP (n := 0) T.F_mends sc_mends rfl (fun ds Φ Ξ ⟨_, e, _⟩ => by rw [e]; rfl) fun cdv A outer s H E hr => ⟨_, psis_cons (psi_expr (pei_def (ok_need_file T) (hr.mono (by decide)) T.g_need_file T.F_need_file.kp T.b_need_file passE (pai_cons (pei_var 0) pai_nil) rfl))
    (psis_one (psi_ret (pei_def (ok_mends_of T) (hr.mono (by decide)) T.g_mends_of T.F_mends_of.kp T.b_mends_of passE (pai_cons (pei_var 0) pai_nil) rfl))), fun ds Φ Ξ hT => ?_⟩
  obtain ⟨f, rfl, hf, h⟩ := hT
  walk_at "sf"
  refine ⟨f, rfl, hf, ?_⟩
  walk_at "sf"
  exact ⟨f, rfl, hf, h⟩
end
def tf_need_rule : Tf := mkT (α := Rule) (fun r => [dRule r]) (fun _ => True) (fun _ => .dat .none)
section
variable {P : Program} {w : World} {K : PySem.W.Frag} {mg : Str → Option Value} {base : Heap}
theorem ok_need_rule (T : Txt w K mg) : FnOk P w K mg base CX0 1 T.f_need_rule T.fd_need_rule ["rule"] (spP K XR0 tf_need_rule) := by
  refine okP (n := 1) T.F_need_rule sc_need_rule rfl (fun ds Φ Ξ ⟨_, e, _⟩ => by rw [e]; rfl) fun cdv A outer s H E hr => ⟨_, psis_one (psi_if (pti_bool (pwi_or (pti_cmp (op_neD (hu64 hr)) op2_ne (nomark _) (pei_len T.m_len rfl (pai_cons (pei_var 0) pai_nil)) pei_int) (pwi_one (pti_cmp (op_neD (hu64 hr)) op2_ne (nomark _) (pei_lcT rfl sc_need_rule.nd (pei_var 0) (Blk.mk (own := [("one", 1)]) (tgt := (.nm 1)) (blkOk_by (N := n_need_rule) (sc := defScope s_need_rule) (by decide +kernel)) (by decide) (fun _ _ _ _ _ => by exact (pg_name (i := 1) sc_need_rule.nd rfl (by first | exact Or.inl rfl | exact Or.inr rfl))) (fun _ _ _ _ _ => (ptsi_one (pti_cmp op_notIn_seq op2_notInT (by rfl) (pei_var 1) (pei_gref rfl T.c_FIRSTS T.i_FIRSTS)))) (fun _ _ _ _ _ => (pei_var 1)))) (pei_lst pai_nil)))))
      (psis_one (psi_never))
      (psis_nil)), fun ds Φ Ξ hT => ?_⟩
  obtain ⟨⟨a, b⟩, rfl, _, h⟩ := hT
  unfold dRule
  walk_at "sf"
  refine lcI_fm (fun _ => false) (fun z => z) rfl (show 2 ≤ 50000 by decide) (fun d hd A B hA hB => ?_) ?_
  · have e : ∃ c, d = dWd c := by
      rcases List.mem_cons.mp hd with z | z
      · exact ⟨a, z⟩
      · exact ⟨b, List.mem_singleton.mp z⟩
    obtain ⟨c, rfl⟩ := e
    walk_at "sf"
    refine ⟨sc_dWd, rfl, ?_⟩
    rw [in_firsts]
    exact hB rfl
  · rw [List.filter_eq_nil_iff.mpr (fun _ _ z => by cases z)]
    exact ⟨rfl, h⟩
end
def tf_need_room : Tf := mkT (α := File × Nat) (fun a => [dF a.1, .int (a.2 : Int)]) (fun a => 1 ≤ a.2 ∧ a.1.cells.length ≤ a.2 ∧ a.2 ≤ 12) (fun _ => .dat .none)
section
variable {P : Program} {w : World} {K : PySem.W.Frag} {mg : Str → Option Value} {base : Heap}
theorem ok_need_room (T : Txt w K mg) : FnOk P w K mg base CX0 1 T.f_need_room T.fd_need_room ["file", "room"] (spP K XR0 tf_need_room) := by
  refine okP (n := 0) T.F_need_room sc_need_room rfl (fun ds Φ Ξ ⟨_, e, _⟩ => by rw [e]; rfl) fun cdv A outer s H E hr => ⟨_, psis_one (psi_if (pti_not (pti_chain op_le op_le op2_le op2_le (pei_max2 T.m_max rfl rfl (pai_cons pei_int (pai_cons (pei_len T.m_len rfl (pai_cons (pei_ixT (pei_var 0) pei_int) pai_nil)) pai_nil))) (pei_var 1) (pei_gint rfl T.c_MOST_SLOTS)))
      (psis_one (psi_never))
      (psis_nil)), fun ds Φ Ξ hT => ?_⟩
  obtain ⟨⟨f, r⟩, rfl, ⟨h1, h2, h3⟩, h⟩ := hT
  have h1 : 1 ≤ r := h1
  have h2 : f.cells.length ≤ r := h2
  have h3 : r ≤ 12 := h3
  unfold dF
  walk_at "sf"
  rw [decide_eq_true (show max 1 (f.cells.length : Int) ≤ (r : Int) by omega), decide_eq_true (show (r : Int) ≤ 12 by omega)]
  exact h
end
def tf_in_order : Tf := mkT (α := Bool × Write × Write) (fun a => [dWd a.1, dW a.2.1, dW a.2.2]) (fun _ => True) (fun a => .lst ((inOrder a.1 a.2.1 a.2.2).map dW))
section
variable {P : Program} {w : World} {K : PySem.W.Frag} {mg : Str → Option Value} {base : Heap}
theorem ok_in_order (T : Txt w K mg) : FnOk P w K mg base CX0 1 T.f_in_order T.fd_in_order ["first", "head", "slot"] (spP K XR0 tf_in_order) := by
  refine okP (n := 0) T.F_in_order sc_in_order rfl (fun ds Φ Ξ ⟨_, e, _⟩ => by rw [e]; rfl) fun cdv A outer s H E hr => ⟨_, psis_one (psi_ret (pei_if (pti_cmp (op_eqD (hu64 hr)) op2_eq (nomark _) (pei_var 0) pei_str) (pei_lst (pai_cons (pei_var 1) (pai_cons (pei_var 2) pai_nil))) (pei_lst (pai_cons (pei_var 2) (pai_cons (pei_var 1) pai_nil))))), fun ds Φ Ξ hT => ?_⟩
  obtain ⟨⟨b, x, y⟩, rfl, _, h⟩ := hT
  walk_at "sf"
  cases b with
  | true => exact h
  | false => exact h
end
def tf_take_writes : Tf := mkT (α := File × Rule × Nat × Nat) (fun a => [dF a.1, dRule a.2.1, .int (a.2.2.1 : Int), .int (a.2.2.2 : Int)]) (fun a => Fine a.1) (fun a => optW (takeW a.1 a.2.1 a.2.2.1 a.2.2.2))
section
variable {P : Program} {w : World} {K : PySem.W.Frag} {mg : Str → Option Value} {base : Heap}
theorem ok_take_writes (T : Txt w K mg) : FnOk P w K mg base CX0 2 T.f_take_writes T.fd_take_writes ["file", "rule", "room", "number"] (spP K XR0 tf_take_writes) := by
  refine okP (n := 4) T.F_take_writes sc_take_writes rfl (fun ds Φ Ξ ⟨_, e, _⟩ => by rw [e]; rfl) fun cdv A outer s H E hr => ⟨_, psis_cons (psi_unpack [4, 5] (pei_var 0) (by exact (pg_tup rfl (pgs_cons (pg_name (i := 4) sc_take_writes.nd rfl (by first | exact Or.inl rfl | exact Or.inr rfl)) (pgs_cons (pg_name (i := 5) sc_take_writes.nd rfl (by first | exact Or.inl rfl | exact Or.inr rfl)) pgs_nil)))))
    (psis_cons (psi_if (pti_cmp op_isN op2_isN (nomark _) (pei_var 4) pei_non)
      (psis_one (psi_ret (pei_if (pti_cmp op_lt op2_lt (nomark _) (pei_len T.m_len rfl (pai_cons (pei_var 5) pai_nil)) (pei_var 2)) (pei_lst (pai_cons (pei_tup (pai_cons (pei_len T.m_len rfl (pai_cons (pei_var 5) pai_nil)) (pai_cons (pei_tup (pai_cons (pei_gstr rfl T.c_ROW) (pai_cons (pei_var 3) pai_nil))) pai_nil))) pai_nil)) pei_non)))
      (psis_nil))
    (psis_cons (psi_unpack [6, 7] (pei_ixT (pei_var 5) (pei_var 4)) (by exact (pg_tup rfl (pgs_cons (pg_name (i := 6) sc_take_writes.nd rfl (by first | exact Or.inl rfl | exact Or.inr rfl)) (pgs_cons (pg_name (i := 7) sc_take_writes.nd rfl (by first | exact Or.inl rfl | exact Or.inr rfl)) pgs_nil)))))
    (psis_one (psi_ret (pei_def (ok_in_order T) (hr.mono (by decide)) T.g_in_order T.F_in_order.kp T.b_in_order passE (pai_cons (pei_ixT (pei_var 1) pei_int) (pai_cons (pei_tup (pai_cons pei_non (pai_cons (pei_if (pti_cmp (op_eqD (hu64 hr)) op2_eq (nomark _) (pei_var 6) (pei_gstr rfl T.c_FREE)) (pei_var 7) pei_non) pai_nil))) (pai_cons (pei_tup (pai_cons (pei_var 4) (pai_cons (pei_tup (pai_cons (pei_gstr rfl T.c_ROW) (pai_cons (pei_var 3) pai_nil))) pai_nil))) pai_nil))) rfl))))), fun ds Φ Ξ hT => ?_⟩
  obtain ⟨⟨f, r, room, n⟩, rfl, hf, h⟩ := hT
  have hf : Fine f := hf
  have h : Φ (optW (takeW f r room n)) := h
  unfold takeW at h
  unfold dF dRule
  cases hh : f.head with
  | none =>
    rw [hh] at h
    have h : Φ (optW (if f.cells.length < room then some [((some f.cells.length, .cell (.row n)) : Write)] else none)) := h
    walk_at "sf"
    rw [hh]
    walk_at "sf"
    by_cases hr : f.cells.length < room
    · rw [if_pos hr] at h
      rw [decide_eq_true hr]
      exact h
    · rw [if_neg hr] at h
      rw [decide_eq_false hr]
      exact h
  | some p =>
    rw [hh] at h
    have h : Φ (.lst ((inOrder r.1 (none, .link (freeLk f.cells p)) (some p, .cell (.row n))).map dW)) := h
    have hp : p < f.cells.length := by
      have := hf.head
      rw [hh] at this
      exact of_decide_eq_true this
    obtain ⟨c, hc, _⟩ := hf.at hp
    walk_at "sf"
    rw [hh]
    walk_at "sf"
    rw [atC hc]
    unfold freeLk at h
    rw [hc] at h
    cases c with
    | row k =>
      walk_at "sf"
      exact ⟨(r.1, (none, .link none), (some p, .cell (.row n))), rfl, trivial, h⟩
    | free l =>
      walk_at "sf"
      exact ⟨(r.1, (none, .link l), (some p, .cell (.row n))), rfl, trivial, h⟩
end
def tf_writes_of : Tf := mkT (α := File × Rule × Nat × Deed) (fun a => [dF a.1, dRule a.2.1, .int (a.2.2.1 : Int), dDeed a.2.2.2]) (fun a => Fine a.1 ∧ isOther a.2.2.2 = false) (fun a => optW (writesF a.1 a.2.1 a.2.2.1 a.2.2.2))
section
variable {P : Program} {w : World} {K : PySem.W.Frag} {mg : Str → Option Value} {base : Heap}
theorem ok_writes_of (T : Txt w K mg) : FnOk P w K mg base CX0 5 T.f_writes_of T.fd_writes_of ["file", "rule", "room", "deed"] (spP K XR0 tf_writes_of) := by
  refine okP (n := 1) T.F_writes_of sc_writes_of rfl (fun ds Φ Ξ ⟨_, e, _⟩ => by rw [e]; rfl) fun cdv A outer s H E hr => ⟨_, psis_cons (psi_if (pti_cmp (op_eqD (hu64 hr)) op2_eq (nomark _) (pei_ixT (pei_var 3) pei_int) pei_str)
      (psis_one (psi_ret (pei_def (ok_mends_of T) (hr.mono (by decide)) T.g_mends_of T.F_mends_of.kp T.b_mends_of passE (pai_cons (pei_var 0) pai_nil) rfl)))
      (psis_nil))
    (psis_cons (psi_if (pti_cmp (op_eqD (hu64 hr)) op2_eq (nomark _) (pei_ixT (pei_var 3) pei_int) pei_str)
      (psis_one (psi_ret (pei_if (pti_chain op_le op_le op2_le op2_le pei_int (pei_ixT (pei_var 3) pei_int) (pei_gint rfl T.c_MOST_NUMBER)) (pei_def (ok_take_writes T) (hr.mono (by decide)) T.g_take_writes T.F_take_writes.kp T.b_take_writes passE (pai_cons (pei_var 0) (pai_cons (pei_var 1) (pai_cons (pei_var 2) (pai_cons (pei_ixT (pei_var 3) pei_int) pai_nil)))) rfl) pei_non)))
      (psis_nil))
    (psis_cons (psi_setF 4 (pei_ixT (pei_var 3) pei_int) sc_writes_of.nd)
    (psis_cons (psi_if (pti_bool (pwi_or (pti_not (pti_chain op_le op_lt op2_le op2_lt pei_int (pei_var 4) (pei_len T.m_len rfl (pai_cons (pei_ixT (pei_var 0) pei_int) pai_nil)))) (pwi_one (pti_cmp (op_neD (hu64 hr)) op2_ne (nomark _) (pei_ixT (pei_ixT (pei_ixT (pei_var 0) pei_int) (pei_var 4)) pei_int) (pei_gstr rfl T.c_ROW)))))
      (psis_one (psi_ret pei_non))
      (psis_nil))
    (psis_one (psi_ret (pei_def (ok_in_order T) (hr.mono (by decide)) T.g_in_order T.F_in_order.kp T.b_in_order passE (pai_cons (pei_ixT (pei_var 1) pei_int) (pai_cons (pei_tup (pai_cons pei_non (pai_cons (pei_var 4) pai_nil))) (pai_cons (pei_tup (pai_cons (pei_var 4) (pai_cons (pei_tup (pai_cons (pei_gstr rfl T.c_FREE) (pai_cons (pei_ixT (pei_var 0) pei_int) pai_nil))) pai_nil))) pai_nil))) rfl)))))), fun ds Φ Ξ hT => ?_⟩
  obtain ⟨⟨f, r, room, d⟩, rfl, ⟨hf, hd⟩, h⟩ := hT
  have hf : Fine f := hf
  cases d with
  | other w n => cases hd
  | mend =>
    unfold dDeed
    walk_at "sf"
    exact ⟨f, rfl, hf, h⟩
  | take n =>
    have h : Φ (optW (if 0 ≤ n ∧ n ≤ 999 then takeW f r room n.toNat else none)) := h
    unfold dDeed
    walk_at "sf"
    by_cases h1 : 0 ≤ n
    · rw [decide_eq_true h1]
      by_cases h2 : n ≤ 999
      · rw [decide_eq_true h2]
        rw [if_pos ⟨h1, h2⟩] at h
        walk_at "sf"
        refine ⟨(f, r, room, n.toNat), ?_, hf, h⟩
        show _ = [dF f, dRule r, .int (room : Int), .int ((n.toNat : Nat) : Int)]
        rw [Int.toNat_of_nonneg h1]
      · rw [decide_eq_false h2]
        rw [if_neg (fun z => h2 z.2)] at h
        exact h
    · rw [decide_eq_false h1]
      rw [if_neg (fun z => h1 z.1)] at h
      exact h
  | give p =>
    have h : Φ (optW (if 0 ≤ p ∧ p < (f.cells.length : Int) ∧ rowAt f.cells p.toNat = true then some (inOrder r.2 (none, .link (some p.toNat)) (some p.toNat, .cell (.free f.head))) else none)) := h
    unfold dDeed dF dRule
    walk_at "sf"
    by_cases h1 : 0 ≤ p
    · rw [decide_eq_true h1]
      by_cases h2 : p < (f.cells.length : Int)
      · rw [decide_eq_true h2]
        obtain ⟨k, rfl⟩ : ∃ k : Nat, p = (k : Int) := ⟨p.toNat, by omega⟩
        obtain ⟨c, hc, _⟩ := hf.at (show k < f.cells.length by omega)
        rw [Int.toNat_natCast] at h
        walk_at "sf"
        rw [atC hc]
        unfold rowAt at h
        rw [hc] at h
        cases c with
        | row n =>
          rw [if_pos ⟨h1, h2, rfl⟩] at h
          walk_at "sf"
          exact ⟨(r.2, (none, .link (some k)), (some k, .cell (.free f.head))), rfl, trivial, h⟩
        | free l =>
          rw [if_neg (fun z => by cases z.2.2)] at h
          walk_at "sf"
          exact h
      · rw [decide_eq_false h2]
        rw [if_neg (fun z => h2 z.2.1)] at h
        exact h
    · rw [decide_eq_false h1]
      rw [if_neg (fun z => h1 z.1)] at h
      exact h
end
def tf_written_in : Tf := mkT (α := File × Write) (fun a => [dF a.1, dW a.2]) (fun a => Fine a.1 ∧ (wOk a.1.cells.length a.2 = true ∨ wEnd a.1.cells.length a.2 = true)) (fun a => .dat (dF (put a.1 a.2)))
theorem writeOk_cases {n : Nat} {p : Lk} {q : What} (hw : wOk n (p, q) = true ∨ wEnd n (p, q) = true) : (∃ l, p = none ∧ q = .link l) ∨ ∃ i c, p = some i ∧ q = .cell c ∧ i ≤ n := by
  cases p with
  | none =>
    cases q with
    | link l => exact .inl ⟨l, rfl, rfl⟩
    | cell c => rcases hw with z | z <;> cases z
  | some i =>
    cases q with
    | link l => rcases hw with z | z <;> cases z
    | cell c =>
      refine .inr ⟨i, c, rfl, rfl, ?_⟩
      rcases hw with z | z
      · have z : (decide (i < n) && cellOk n c) = true := z
        rw [Bool.and_eq_true, decide_eq_true_iff] at z
        omega
      · cases c with
        | free l => cases z
        | row k =>
          have z : (decide (i = n) && decide (n < 12) && decide (k ≤ 999)) = true := z
          rw [Bool.and_eq_true, Bool.and_eq_true, decide_eq_true_iff] at z
          omega
section
variable {P : Program} {w : World} {K : PySem.W.Frag} {mg : Str → Option Value} {base : Heap}
theorem ok_written_in (T : Txt w K mg) : FnOk P w K mg base CX0 1 T.f_written_in T.fd_written_in ["file", "write"] (spP K XR0 tf_written_in) := by
  refine okP (n := 2) T.F_written_in sc_written_in rfl (fun ds Φ Ξ ⟨_, e, _⟩ => by rw [e]; rfl) fun cdv A outer s H E hr => ⟨_, psis_cons (psi_unpack [2, 3] (pei_var 1) (by exact (pg_tup rfl (pgs_cons (pg_name (i := 2) sc_written_in.nd rfl (by first | exact Or.inl rfl | exact Or.inr rfl)) (pgs_cons (pg_name (i := 3) sc_written_in.nd rfl (by first | exact Or.inl rfl | exact Or.inr rfl)) pgs_nil)))))
    (psis_cons (psi_if (pti_cmp op_isN op2_isN (nomark _) (pei_var 2) pei_non)
      (psis_one (psi_ret (pei_tup (pai_cons (pei_var 3) (pai_cons (pei_ixT (pei_var 0) pei_int) pai_nil)))))
      (psis_nil))
    (psis_cons (psi_if (pti_cmp (op_eqD (hu64 hr)) op2_eq (nomark _) (pei_var 2) (pei_len T.m_len rfl (pai_cons (pei_ixT (pei_var 0) pei_int) pai_nil)))
      (psis_one (psi_ret (pei_tup (pai_cons (pei_ixT (pei_var 0) pei_int) (pai_cons (pei_catT (pei_ixT (pei_var 0) pei_int) (pei_tup (pai_cons (pei_var 3) pai_nil))) pai_nil)))))
      (psis_nil))
    (psis_one (psi_ret (pei_tup (pai_cons (pei_ixT (pei_var 0) pei_int) (pai_cons (pei_catT (pei_catT (pei_slT (pei_ixT (pei_var 0) pei_int) poi_none (poi_some (pei_var 2))) (pei_tup (pai_cons (pei_var 3) pai_nil))) (pei_slT (pei_ixT (pei_var 0) pei_int) (poi_some (pei_add (pei_var 2) pei_int)) poi_none)) pai_nil))))))), fun ds Φ Ξ hT => ?_⟩
  obtain ⟨⟨f, p, q⟩, rfl, ⟨hf, hw⟩, h⟩ := hT
  have hl := hf.few
  have hl : f.cells.length ≤ 12 := hl
  have h : Φ (.dat (dF (put f (p, q)))) := h
  rcases writeOk_cases hw with ⟨l, rfl, rfl⟩ | ⟨i, c, rfl, rfl, hi⟩
  · rw [put_link] at h
    unfold dF dW dWh
    walk_at "sf"
    exact h
  · have hi : i ≤ f.cells.length := hi
    rw [put_cell] at h
    unfold dF dW dWh
    walk_at "sf"
    rw [eq_cast]
    by_cases hx : i = f.cells.length
    · rw [if_pos hx] at h
      rw [decide_eq_true hx]
      unfold dF at h
      rw [List.map_append] at h
      walk_at "sf"
      exact ⟨by omega, h⟩
    · rw [if_neg hx] at h
      rw [decide_eq_false hx, cast1, cut_to (by rw [List.length_map]; exact hi), cut_from (by rw [List.length_map]; omega)]
      have h : Φ (.dat (.tuple [dL f.head, .tuple ((f.cells.set i c).map dC)])) := h
      rw [List.map_set, ← set_split (l := f.cells.map dC) (by rw [List.length_map]; omega)] at h
      walk_at "sf"
      refine ⟨?_, ?_, h⟩
      · rw [List.length_take, List.length_map]
        omega
      · rw [List.length_append, List.length_take, List.length_drop, List.length_map]
        simp only [List.length_cons, List.length_nil]
        omega
end
def resF : Option File → Res
  | none => .dat .none
  | some g => .dat (dF g)
def tf_stepped : Tf := mkT (α := File × Rule × Nat × Step) (fun a => [dF a.1, dRule a.2.1, .int (a.2.2.1 : Int), dStep a.2.2.2]) (fun a => Fine a.1 ∧ a.2.2.1 ≤ 12 ∧ deedOk a.2.2.2.1 = true) (fun a => resF (steppedF a.1 a.2.1 a.2.2.1 a.2.2.2))
theorem wsOk_at {f : File} {ws : List Write} (h : Fine f) (hw : wsOk f.cells.length ws) {i : Nat} {w : Write} (hi : ws[i]? = some w) : Fine ((ws.take i).foldl put f) ∧ (wOk ((ws.take i).foldl put f).cells.length w = true ∨ wEnd ((ws.take i).foldl put f).cells.length w = true) := by
  rcases hw with hw | ⟨v, rfl, hw⟩
  · obtain ⟨h1, h2⟩ := foldPut_fine (ws := ws.take i) h fun w hw' => hw w (List.mem_of_mem_take hw')
    exact ⟨h1, .inl (by rw [h2]; exact hw w (List.mem_of_getElem? hi))⟩
  · cases i with
    | zero =>
      cases hi
      exact ⟨h, .inr hw⟩
    | succ i => simp at hi
theorem step_loop {f : File} {ws : List Write} {Φ : Res → Prop} {Ξ : Exn → Prop} {a b c d e g : Ent} (h : Fine f) (hw : wsOk f.cells.length ws) (q : Φ (.dat (dF (ws.foldl put f)))) :
    ForI (.nm 7) (wSetF 0 (wDef tf_written_in (wCons (wVar 0) (wCons (wVar 7) wNil)))) (ws.map dW) [.dat (dF f), a, b, c, d, e, g, .no] { nx := fun ρ' => ∃ d, ρ'[0]? = some (.dat d) ∧ Φ (.dat d), rt := Φ, xc := Ξ } := by
  refine ⟨fun i ρ => ∃ z, ρ = [.dat (dF ((ws.take i).foldl put f)), a, b, c, d, e, g, z], ⟨_, rfl⟩, fun i d' ρ' hd hρ => ?_, fun ρ' hρ => ?_⟩
  · obtain ⟨z, rfl⟩ := hρ
    rw [List.getElem?_map] at hd
    cases hwi : ws[i]? with
    | none => rw [hwi] at hd; cases hd
    | some w =>
      rw [hwi] at hd
      cases hd
      obtain ⟨h1, h2⟩ := wsOk_at h hw hwi
      walk_at "sf"
      refine ⟨((ws.take i).foldl put f, w), rfl, ⟨h1, h2⟩, ?_⟩
      walk_at "sf"
      refine ⟨.dat (dW w), ?_⟩
      rw [List.take_add_one, hwi, List.foldl_append]
      rfl
  · obtain ⟨z, rfl⟩ := hρ
    rw [List.length_map, List.take_length]
    exact ⟨_, rfl, q⟩
theorem in_deeds {w : Str} : ([PyData.str (Str.ofString "take"), PyData.str (Str.ofString "give"), PyData.str (Str.ofString "mend")].any fun z => z.eqv (.str w)) = ((w == sTake) || (w == sGive) || (w == sMend)) := by
  show (PyData.eqv _ _ || (PyData.eqv _ _ || (PyData.eqv _ _ || false))) = _
  rw [v_str, v_str, v_str, Bool.or_false, Bool.or_assoc]
  congr 1
  · exact BEq.comm
  · congr 1
    · exact BEq.comm
    · exact BEq.comm
def dwd : Deed → Str
  | .take _ => sTake
  | .give _ => sGive
  | .mend => sMend
  | .other w _ => w
def drest : Deed → List PyData
  | .take n => [.int n]
  | .give n => [.int n]
  | .mend => []
  | .other _ n => [.int n]
theorem dDeed_eq (d : Deed) : dDeed d = .tuple (.str (dwd d) :: drest d) := by cases d <;> rfl
theorem dwd_in {d : Deed} (h : deedOk d = true) : ((dwd d == sTake) || (dwd d == sGive) || (dwd d == sMend)) = !isOther d := by
  cases d with
  | take n => show ((sTake == sTake) || _ || _) = true; rw [ws_take]; rfl
  | give n => show (_ || (sGive == sGive) || _) = true; rw [ws_give, Bool.or_true]; rfl
  | mend => show (_ || _ || (sMend == sMend)) = true; rw [ws_mend, Bool.or_true]
  | other w n =>
    have h : (PyData.strOk w && !(w == sTake) && !(w == sGive) && !(w == sMend)) = true := h
    show ((w == sTake) || (w == sGive) || (w == sMend)) = false
    revert h
    cases (w == sTake) <;> cases (w == sGive) <;> cases (w == sMend) <;> cases (PyData.strOk w) <;> decide
section
variable {P : Program} {w : World} {K : PySem.W.Frag} {mg : Str → Option Value} {base : Heap}
theorem ok_stepped (T : Txt w K mg) : FnOk P w K mg base CX0 6 T.f_stepped T.fd_stepped ["file", "rule", "room", "step"] (spP K XR0 tf_stepped) := by
  refine okP (n := 4) T.F_stepped sc_stepped rfl (fun ds Φ Ξ ⟨_, e, _⟩ => by rw [e]; rfl) fun cdv A outer s H E hr => ⟨_, psis_cons (psi_unpack [4, 5] (pei_var 3) (by exact (pg_tup rfl (pgs_cons (pg_name (i := 4) sc_stepped.nd rfl (by first | exact Or.inl rfl | exact Or.inr rfl)) (pgs_cons (pg_name (i := 5) sc_stepped.nd rfl (by first | exact Or.inl rfl | exact Or.inr rfl)) pgs_nil)))))
    (psis_cons (psi_if (pti_cmp op_notIn_seq op2_notInT (by rfl) (pei_ixT (pei_var 4) pei_int) (pei_tup (pai_cons pei_str (pai_cons pei_str (pai_cons pei_str pai_nil)))))
      (psis_one (psi_ret pei_non))
      (psis_nil))
    (psis_cons (psi_setF 6 (pei_def (ok_writes_of T) (hr.mono (by decide)) T.g_writes_of T.F_writes_of.kp T.b_writes_of passE (pai_cons (pei_var 0) (pai_cons (pei_var 1) (pai_cons (pei_var 2) (pai_cons (pei_var 4) pai_nil)))) rfl) sc_stepped.nd)
    (psis_cons (psi_if (pti_bool (pwi_or (pti_cmp op_isN op2_isN (nomark _) (pei_var 6) pei_non) (pwi_one (pti_bool (pwi_and (pti_cmp op_notN op2_notN (nomark _) (pei_var 5) pei_non) (pwi_one (pti_not (pti_chain op_le op_le op2_le op2_le pei_int (pei_var 5) (pei_len T.m_len rfl (pai_cons (pei_var 6) pai_nil))))))))))
      (psis_one (psi_ret pei_non))
      (psis_nil))
    (psis_cons (psi_forL (.nm 7) PassesOwn.never rfl (pei_if (pti_cmp op_isN op2_isN (nomark _) (pei_var 5) pei_non) (pei_var 6) (pei_slL (pei_var 6) poi_none (poi_some (pei_var 5)))) (by exact (pg_name (i := 7) sc_stepped.nd rfl (by first | exact Or.inl rfl | exact Or.inr rfl)))
      (psis_one (psi_setF 0 (pei_def (ok_written_in T) (hr.mono (by decide)) T.g_written_in T.F_written_in.kp T.b_written_in passE (pai_cons (pei_var 0) (pai_cons (pei_var 7) pai_nil)) rfl) sc_stepped.nd)))
    (psis_one (psi_ret (pei_var 0))))))), fun ds Φ Ξ hT => ?_⟩
  obtain ⟨⟨f, r, room, d, m⟩, rfl, ⟨hf, hro, hd⟩, h⟩ := hT
  have hf : Fine f := hf
  have hro : room ≤ 12 := hro
  have hd : deedOk d = true := hd
  have h : Φ (resF (steppedF f r room (d, m))) := h
  unfold dStep
  walk_at "sf"
  rw [dDeed_eq]
  walk_at "sf"
  refine ⟨rfl, rfl, ?_⟩
  simp only [in_deeds, dwd_in hd]
  unfold steppedF at h
  cases ho : isOther d with
  | true =>
    have e : writesF f r room d = none := by
      cases d with
      | other w n => rfl
      | _ => cases ho
    rw [show writesF f r room (d, m).1 = none from e] at h
    exact h
  | false =>
    walk_at "sf"
    refine ⟨(f, r, room, d), by rw [← dDeed_eq], ⟨hf, ho⟩, ?_⟩
    have hwo : ∀ ws, writesF f r room d = some ws → wsOk f.cells.length ws := fun ws e => writesF_ok hf hro e
    have h : Φ (resF (match writesF f r room d with | none => none | some ws => doneF f ws m)) := h
    cases hw : writesF f r room d with
    | none =>
      rw [hw] at h
      show (if isNone (optW (writesF f r room d)).frz = true then Φ (.dat .none) else _)
      rw [hw]
      exact h
    | some ws =>
      rw [hw] at h
      have hwo := hwo ws hw
      have e1 : optW (writesF f r room d) = .lst (ws.map dW) := by rw [hw]; rfl
      show _
      rw [show (fun a : File × Rule × Nat × Deed => optW (writesF a.1 a.2.1 a.2.2.1 a.2.2.2)) (f, r, room, d) = .lst (ws.map dW) from e1]
      cases m with
      | none =>
        show _
        have h : Φ (.dat (dF (ws.foldl put f))) := h
        unfold dMany
        walk_at "sf"
        exact step_loop hf hwo h
      | some k =>
        have h : Φ (resF (if 0 ≤ k ∧ k ≤ (ws.length : Int) then some ((ws.take k.toNat).foldl put f) else none)) := h
        unfold dMany
        walk_at "sf"
        by_cases h1 : 0 ≤ k
        · rw [decide_eq_true h1]
          by_cases h2 : k ≤ (ws.length : Int)
          · rw [decide_eq_true h2]
            rw [if_pos ⟨h1, h2⟩] at h
            obtain ⟨j, rfl⟩ : ∃ j : Nat, k = (j : Int) := ⟨k.toNat, by omega⟩
            rw [Int.toNat_natCast] at h
            walk_at "sf"
            rw [cut_to (by rw [List.length_map]; omega), ← List.map_take]
            exact step_loop hf (wsOk_take hwo) h
          · rw [decide_eq_false h2]
            rw [if_neg (fun z => h2 z.2)] at h
            exact h
        · rw [decide_eq_false h1]
          rw [if_neg (fun z => h1 z.1)] at h
          exact h
end
def tf_played : Tf := mkT (α := File × Rule × Nat × List Step × List File) (fun a => [dF a.1, dRule a.2.1, .int (a.2.2.1 : Int), .list (a.2.2.2.1.map dStep)]) (fun a => Fine a.1 ∧ (1 ≤ a.2.2.1 ∧ a.1.cells.length ≤ a.2.2.1 ∧ a.2.2.1 ≤ 12) ∧ (∀ s ∈ a.2.2.2.1, deedOk s.1 = true) ∧ a.2.2.2.1.length ≤ 1000 ∧ playedF a.1 a.2.1 a.2.2.1 a.2.2.2.1 = some a.2.2.2.2) (fun a => .lst (a.2.2.2.2.map dF))
section
variable {P : Program} {w : World} {K : PySem.W.Frag} {mg : Str → Option Value} {base : Heap}
theorem ok_played (T : Txt w K mg) : FnOk P w K mg base CX0 7 T.f_played T.fd_played ["file", "rule", "room", "steps"] (spP K XR0 tf_played) := by
  refine okP (n := 2) T.F_played sc_played rfl (fun ds Φ Ξ ⟨_, e, _⟩ => by rw [e]; rfl) fun cdv A outer s H E hr => ⟨_, psis_cons (psi_expr (pei_def (ok_need_file T) (hr.mono (by decide)) T.g_need_file T.F_need_file.kp T.b_need_file passE (pai_cons (pei_var 0) pai_nil) rfl))
    (psis_cons (psi_expr (pei_def (ok_need_rule T) (hr.mono (by decide)) T.g_need_rule T.F_need_rule.kp T.b_need_rule passE (pai_cons (pei_var 1) pai_nil) rfl))
    (psis_cons (psi_expr (pei_def (ok_need_room T) (hr.mono (by decide)) T.g_need_room T.F_need_room.kp T.b_need_room passE (pai_cons (pei_var 0) (pai_cons (pei_var 2) pai_nil)) rfl))
    (psis_cons (psi_set 4 (pei_lst pai_nil) sc_played.nd)
    (psis_cons (psi_forR1 (.nm 5) PassesOwn.never rfl T.m_range rfl (pai_cons (pei_len T.m_len rfl (pai_cons (pei_var 3) pai_nil)) pai_nil) (by exact (pg_name (i := 5) sc_played.nd rfl (by first | exact Or.inl rfl | exact Or.inr rfl)))
      (psis_cons (psi_setF 0 (pei_def (ok_stepped T) (hr.mono (by decide)) T.g_stepped T.F_stepped.kp T.b_stepped passE (pai_cons (pei_var 0) (pai_cons (pei_var 1) (pai_cons (pei_var 2) (pai_cons (pei_ixL (pei_var 3) (pei_var 5)) pai_nil)))) rfl) sc_played.nd)
      (psis_cons (psi_if (pti_cmp op_isN op2_isN (nomark _) (pei_var 0) pei_non)
        (psis_one (psi_never))
        (psis_nil))
      (psis_one (psi_app 4 (pei_var 0))))))
    (psis_one (psi_retM 4)))))), fun ds Φ Ξ hT => ?_⟩
  obtain ⟨⟨f, r, room, ss, fs⟩, rfl, ⟨hf, hro, hd, hz, hp⟩, h⟩ := hT
  have hf : Fine f := hf
  have hro : 1 ≤ room ∧ f.cells.length ≤ room ∧ room ≤ 12 := hro
  have hd : ∀ s ∈ ss, deedOk s.1 = true := hd
  have hz : ss.length ≤ 1000 := hz
  have hp : playedF f r room ss = some fs := hp
  walk_at "sf"
  refine ⟨f, rfl, hf, r, rfl, trivial, (f, room), rfl, hro, by omega, by omega, ?_⟩
  refine ⟨fun i ρ => ∃ g done rest e, ρ = [.dat (dF g), .dat (dRule r), .dat (.int (room : Int)), .dat (.list (ss.map dStep)), .ls (done.map dF), e] ∧ Fine g ∧ done.length = i ∧ playedF g r room (ss.drop i) = some rest ∧ fs = done ++ rest, ⟨f, [], fs, _, rfl, hf, rfl, hp, rfl⟩, fun i ρ' hi hρ => ?_, fun ρ' hρ => ?_⟩
  · obtain ⟨g, done, rest, e, rfl, hg, hdl, hpl, hfs⟩ := hρ
    have hsi : ss[i]? = some ss[i] := List.getElem?_eq_getElem hi
    have e2 : atI (ss.map dStep) ((i : Nat) : Int) = some (dStep ss[i]) := atI_nat (by rw [List.getElem?_map, hsi]; rfl)
    rw [List.drop_eq_getElem_cons hi] at hpl
    cases hst : steppedF g r room ss[i] with
    | none =>
      unfold playedF at hpl
      rw [hst] at hpl
      cases hpl
    | some k =>
      unfold playedF at hpl
      rw [hst] at hpl
      have hpl : (playedF k r room (ss.drop (i + 1))).map (k :: ·) = some rest := hpl
      cases hrest : playedF k r room (ss.drop (i + 1)) with
      | none => rw [hrest] at hpl; cases hpl
      | some rest2 =>
        rw [hrest] at hpl
        cases hpl
        walk_at "sf"
        rw [e2]
        walk_at "sf"
        refine ⟨(g, r, room, ss[i]), rfl, ⟨hg, hro.2.2, hd _ (List.getElem_mem hi)⟩, ?_⟩
        rw [show (fun a : File × Rule × Nat × Step => resF (steppedF a.1 a.2.1 a.2.2.1 a.2.2.2)) (g, r, room, ss[i]) = .dat (dF k) from by show resF (steppedF g r room ss[i]) = _; rw [hst]; rfl]
        unfold dF
        walk_at "sf"
        refine ⟨by omega, k, done ++ [k], rest2, .dat (.int (i : Int)), ?_, steppedF_fine hg hro.2.2 hst, by rw [List.length_append, hdl]; rfl, hrest, by rw [List.append_assoc]; exact hfs⟩
        rw [List.map_append]
        rfl
  · obtain ⟨g, done, rest, e, rfl, hg, hdl, hpl, hfs⟩ := hρ
    rw [List.drop_length] at hpl
    have hpl : some [] = some rest := hpl
    cases hpl
    rw [List.append_nil] at hfs
    subst hfs
    exact ⟨_, rfl, h⟩
end
def tf_writes : Tf := mkT (α := File × Rule × Nat × Deed × List Write) (fun a => [dF a.1, dRule a.2.1, .int (a.2.2.1 : Int), dDeed a.2.2.2.1]) (fun a => Fine a.1 ∧ (1 ≤ a.2.2.1 ∧ a.1.cells.length ≤ a.2.2.1 ∧ a.2.2.1 ≤ 12) ∧ deedOk a.2.2.2.1 = true ∧ writesF a.1 a.2.1 a.2.2.1 a.2.2.2.1 = some a.2.2.2.2) (fun a => .lst (a.2.2.2.2.map dW))
section
variable {P : Program} {w : World} {K : PySem.W.Frag} {mg : Str → Option Value} {base : Heap}
theorem ok_writes (T : Txt w K mg) : FnOk P w K mg base CX0 6 T.f_writes T.fd_writes ["file", "rule", "room", "deed"] (spP K XR0 tf_writes) := by
  refine okP (n := 1) T.F_writes sc_writes rfl (fun ds Φ Ξ ⟨_, e, _⟩ => by rw [e]; rfl) fun cdv A outer s H E hr => ⟨_, psis_cons (psi_expr (pei_def (ok_need_file T) (hr.mono (by decide)) T.g_need_file T.F_need_file.kp T.b_need_file passE (pai_cons (pei_var 0) pai_nil) rfl))
    (psis_cons (psi_expr (pei_def (ok_need_rule T) (hr.mono (by decide)) T.g_need_rule T.F_need_rule.kp T.b_need_rule passE (pai_cons (pei_var 1) pai_nil) rfl))
    (psis_cons (psi_expr (pei_def (ok_need_room T) (hr.mono (by decide)) T.g_need_room T.F_need_room.kp T.b_need_room passE (pai_cons (pei_var 0) (pai_cons (pei_var 2) pai_nil)) rfl))
    (psis_cons (psi_set 4 (pei_if (pti_cmp op_in_seq op2_inT1 (by rfl) (pei_ixT (pei_var 3) pei_int) (pei_tup (pai_cons pei_str (pai_cons pei_str (pai_cons pei_str pai_nil))))) (pei_def (ok_writes_of T) (hr.mono (by decide)) T.g_writes_of T.F_writes_of.kp T.b_writes_of passE (pai_cons (pei_var 0) (pai_cons (pei_var 1) (pai_cons (pei_var 2) (pai_cons (pei_var 3) pai_nil)))) rfl) pei_non) sc_writes.nd)
    (psis_cons (psi_if (pti_peek 4 (pti_cmp op_isN op2_isN (nomark _) (pei_var 4) pei_non))
      (psis_one (psi_never))
      (psis_nil))
    (psis_one (psi_retM 4)))))), fun ds Φ Ξ hT => ?_⟩
  obtain ⟨⟨f, r, room, d, ws⟩, rfl, ⟨hf, hro, hd, hp⟩, h⟩ := hT
  have hf : Fine f := hf
  have hro : 1 ≤ room ∧ f.cells.length ≤ room ∧ room ≤ 12 := hro
  have hd : deedOk d = true := hd
  have hp : writesF f r room d = some ws := hp
  have h : Φ (.lst (ws.map dW)) := h
  have ho : isOther d = false := by
    cases d with
    | other w n => cases hp
    | _ => rfl
  walk_at "sf"
  refine ⟨f, rfl, hf, r, rfl, trivial, (f, room), rfl, hro, ?_⟩
  rw [dDeed_eq]
  walk_at "sf"
  refine ⟨rfl, rfl, ?_⟩
  simp only [in_deeds, dwd_in hd, ho]
  walk_at "sf"
  refine ⟨(f, r, room, d), by rw [← dDeed_eq], ⟨hf, ho⟩, ?_⟩
  have e1 : optW (writesF f r room d) = .lst (ws.map dW) := by rw [hp]; rfl
  rw [show (fun a : File × Rule × Nat × Deed => optW (writesF a.1 a.2.1 a.2.2.1 a.2.2.2)) (f, r, room, d) = .lst (ws.map dW) from e1]
  walk_at "sf"
  exact h
end
def tf_need_small : Tf := mkT (α := Nat) (fun a => [.int (a : Int)]) (fun a => 1 ≤ a ∧ a ≤ 12) (fun a => .dat (.int ((min a 4 : Nat) : Int)))
section
variable {P : Program} {w : World} {K : PySem.W.Frag} {mg : Str → Option Value} {base : Heap}
theorem ok_need_small (T : Txt w K mg) : FnOk P w K mg base CX0 2 T.f_need_small T.fd_need_small ["room"] (spP K XR0 tf_need_small) := by
  refine okP (n := 0) T.F_need_small sc_need_small rfl (fun ds Φ Ξ ⟨_, e, _⟩ => by rw [e]; rfl) fun cdv A outer s H E hr => ⟨_, psis_cons (psi_expr (pei_def (ok_need_room T) (hr.mono (by decide)) T.g_need_room T.F_need_room.kp T.b_need_room passE (pai_cons (pei_gref rfl T.c_EMPTY T.i_EMPTY) (pai_cons (pei_var 0) pai_nil)) rfl))
    (psis_one (psi_ret (pei_min2 T.m_min rfl rfl (pai_cons (pei_var 0) (pai_cons (pei_gint rfl T.c_MOST_ROOM) pai_nil))))), fun ds Φ Ξ hT => ?_⟩
  obtain ⟨room, rfl, ⟨h1, h2⟩, h⟩ := hT
  have h1 : 1 ≤ room := h1
  walk_at "sf"
  refine ⟨(eF, room), rfl, ⟨h1, Nat.zero_le _, h2⟩, ?_⟩
  walk_at "sf"
  rw [show min (room : Int) 4 = ((min room 4 : Nat) : Int) by omega]
  exact h
end
def tf_steps_on : Tf := mkT (α := File × Rule × Nat) (fun a => [dF a.1, dRule a.2.1, .int (a.2.2 : Int)]) (fun a => Fine a.1 ∧ a.2.2 ≤ 12) (fun a => .lst ((stepsOf a.1 a.2.1 a.2.2).map dStep))
def giveD : PyData → PyData
  | .tuple (a :: _) => .tuple [.str sGive, a]
  | _ => .none
theorem gives_eq (cs : List Cell) : (((rowsL cs).map (dRow cs)).filter fun _ => true).map giveD = (rowsL cs).map fun (p : Nat) => dDeed (.give (p : Int)) := by
  rw [List.filter_eq_self.mpr (fun _ _ => rfl), List.map_map]
  rfl
theorem rows_few {f : File} (h : Fine f) : (rowsL f.cells).length ≤ 12 := by
  have h1 := List.length_filter_le (rowAt f.cells) (List.range f.cells.length)
  rw [List.length_range] at h1
  exact Nat.le_trans h1 h.few
theorem deeds_eq (f : File) : dDeed (.take 0) :: (rowsL f.cells).map (fun (p : Nat) => dDeed (.give (p : Int))) = (deedsOf f).map dDeed := by
  unfold deedsOf
  rw [List.map_cons, List.map_map]
  rfl
theorem deeds_ok {f : File} {d : Deed} (h : d ∈ deedsOf f) : isOther d = false ∧ d ≠ .mend ∧ deedOk d = true := by
  rcases List.mem_cons.mp h with z | z
  · rw [z]; exact ⟨rfl, (fun z => by cases z), rfl⟩
  · obtain ⟨p, _, rfl⟩ := List.mem_map.mp z
    exact ⟨rfl, (fun z => by cases z), rfl⟩
theorem in_order_len {b : Bool} {h s : Write} : (inOrder b h s).length = 2 := by
  unfold inOrder
  split <;> rfl
theorem writes_few {f : File} {r : Rule} {room : Nat} {d : Deed} {ws : List Write} (hf : Fine f) (h : writesF f r room d = some ws) : ws.length ≤ 14 := by
  cases d with
  | mend =>
    have e : mendsF f = ws := Option.some.inj h
    rw [← e]
    exact mends_few hf
  | other w n => cases h
  | give p =>
    have h : (if 0 ≤ p ∧ p < (f.cells.length : Int) ∧ rowAt f.cells p.toNat = true then some (inOrder r.2 (none, .link (some p.toNat)) (some p.toNat, .cell (.free f.head))) else none) = some ws := h
    split at h
    · cases h; rw [in_order_len]; decide
    · cases h
  | take n =>
    have h : (if 0 ≤ n ∧ n ≤ 999 then takeW f r room n.toNat else none) = some ws := h
    split at h
    · unfold takeW at h
      split at h
      · split at h
        · cases h; exact (show 1 ≤ 14 by decide)
        · cases h
      · cases h; rw [in_order_len]; decide
    · cases h
theorem many_few {f : File} {r : Rule} {room : Nat} {d : Deed} (hf : Fine f) : (manyOf f r room d).length ≤ 15 := by
  unfold manyOf
  split
  · exact Nat.zero_le _
  · rename_i ws hw
    have := writes_few hf hw
    rw [List.length_map, List.length_range]
    omega
theorem flat_few {f : File} {r : Rule} {room : Nat} (hf : Fine f) : ∀ ds : List Deed, (ds.flatMap (manyOf f r room)).length ≤ 15 * ds.length
  | [] => Nat.zero_le _
  | d :: ds => by
    rw [List.flatMap_cons, List.length_append, List.length_cons]
    have h1 := many_few (r := r) (room := room) (d := d) hf
    have h2 := flat_few (r := r) (room := room) hf ds
    omega
theorem deeds_few {f : File} (hf : Fine f) : (deedsOf f).length ≤ 13 := by
  unfold deedsOf
  rw [List.length_cons, List.length_map]
  have := rows_few hf
  omega
section
variable {P : Program} {w : World} {K : PySem.W.Frag} {mg : Str → Option Value} {base : Heap}
theorem ok_steps_on (T : Txt w K mg) : FnOk P w K mg base CX0 6 T.f_steps_on T.fd_steps_on ["file", "rule", "room"] (spP K XR0 tf_steps_on) := by
  refine okP (n := 6) T.F_steps_on sc_steps_on rfl (fun ds Φ Ξ ⟨_, e, _⟩ => by rw [e]; rfl) fun cdv A outer s H E hr => ⟨_, psis_cons (psi_set 3 (pei_lst pai_nil) sc_steps_on.nd)
    (psis_cons (psi_forL (.nm 4) PassesOwn.never rfl (pei_catL (pei_lst (pai_cons (pei_gref rfl T.c_TAKE T.i_TAKE) pai_nil)) (pei_lcL rfl sc_steps_on.nd (pei_def (ok_rows_of T) (hr.mono (by decide)) T.g_rows_of T.F_rows_of.kp T.b_rows_of passE (pai_cons (pei_var 0) pai_nil) rfl) (Blk.mk (own := [("place", 6), ("number", 7)]) (tgt := (.tp [6, 7])) (blkOk_by (N := n_steps_on) (sc := defScope s_steps_on) (by decide +kernel)) (by decide) (fun _ _ _ _ _ => by exact (pg_tup rfl (pgs_cons (pg_name (i := 6) sc_steps_on.nd rfl (by first | exact Or.inl rfl | exact Or.inr rfl)) (pgs_cons (pg_name (i := 7) sc_steps_on.nd rfl (by first | exact Or.inl rfl | exact Or.inr rfl)) pgs_nil)))) (fun _ _ _ _ _ => ptsi_nil) (fun _ _ _ _ _ => (pei_tup (pai_cons pei_str (pai_cons (pei_var 6) pai_nil))))))) (by exact (pg_name (i := 4) sc_steps_on.nd rfl (by first | exact Or.inl rfl | exact Or.inr rfl)))
      (psis_cons (psi_setF 5 (pei_def (ok_writes_of T) (hr.mono (by decide)) T.g_writes_of T.F_writes_of.kp T.b_writes_of passE (pai_cons (pei_var 0) (pai_cons (pei_var 1) (pai_cons (pei_var 2) (pai_cons (pei_var 4) pai_nil)))) rfl) sc_steps_on.nd)
      (psis_one (psi_if (pti_cmp op_notN op2_notN (nomark _) (pei_var 5) pei_non)
        (psis_one (psi_ext 3 (pei_lcR rfl sc_steps_on.nd T.m_range rfl (pai_cons (pei_add (pei_len T.m_len rfl (pai_cons (pei_var 5) pai_nil)) pei_int) pai_nil) (Blk.mk (own := [("many", 8)]) (tgt := (.nm 8)) (blkOk_by (N := n_steps_on) (sc := defScope s_steps_on) (by decide +kernel)) (by decide) (fun _ _ _ _ _ => by exact (pg_name (i := 8) sc_steps_on.nd rfl (by first | exact Or.inl rfl | exact Or.inr rfl))) (fun _ _ _ _ _ => ptsi_nil) (fun _ _ _ _ _ => (pei_tup (pai_cons (pei_var 4) (pai_cons (pei_var 8) pai_nil))))))))
        (psis_nil)))))
    (psis_one (psi_retM 3))), fun ds Φ Ξ hT => ?_⟩
  obtain ⟨⟨f, r, room⟩, rfl, ⟨hf, hro⟩, h⟩ := hT
  have hf : Fine f := hf
  have h : Φ (.lst ((stepsOf f r room).map dStep)) := h
  walk_at "sf"
  refine ⟨f, rfl, hf, ?_⟩
  walk_at "sf"
  refine lcI_fm (fun _ => true) giveD rfl (by rw [List.length_map]; have := rows_few hf; omega) (fun d hd A B hA hB => ?_) ?_
  · obtain ⟨p, _, rfl⟩ := List.mem_map.mp hd
    walk_at "sf"
    exact ⟨_, rfl, rfl, _, rfl, hA rfl⟩
  · rw [gives_eq]
    walk_at "sf"
    rw [show PyData.tuple [PyData.str (Str.ofString "take"), PyData.int 0] = dDeed (.take 0) from rfl, deeds_eq]
    refine ⟨by have := rows_few hf; omega, fun i ρ => ∃ a b, ρ = [.dat (dF f), .dat (dRule r), .dat (.int (room : Int)), .ls ((((deedsOf f).take i).flatMap (manyOf f r room)).map dStep), a, b, .no, .no, .no], ⟨_, _, rfl⟩, fun i d' ρ' hd hρ => ?_, fun ρ' hρ => ?_⟩
    · obtain ⟨a, b, rfl⟩ := hρ
      rw [List.getElem?_map] at hd
      cases hdi : (deedsOf f)[i]? with
      | none => rw [hdi] at hd; cases hd
      | some d =>
        rw [hdi] at hd
        cases hd
        have hdm := List.mem_of_getElem? hdi
        obtain ⟨d1, d2, d3⟩ := deeds_ok hdm
        have e1 : ((deedsOf f).take (i + 1)).flatMap (manyOf f r room) = ((deedsOf f).take i).flatMap (manyOf f r room) ++ manyOf f r room d := by
          rw [List.take_add_one, hdi, List.flatMap_append]
          show _ ++ (manyOf f r room d ++ []) = _
          rw [List.append_nil]
        simp only [e1]
        walk_at "sf"
        refine ⟨(f, r, room, d), rfl, ⟨hf, d1⟩, ?_⟩
        cases hw : writesF f r room d with
        | none =>
          have e2 : manyOf f r room d = [] := by unfold manyOf; rw [hw]
          rw [show (fun a : File × Rule × Nat × Deed => optW (writesF a.1 a.2.1 a.2.2.1 a.2.2.2)) (f, r, room, d) = .dat .none by show optW (writesF f r room d) = _; rw [hw]; rfl]
          walk_at "sf"
          rw [e2, List.append_nil]
          exact ⟨_, _, rfl⟩
        | some ws =>
          have e2 : manyOf f r room d = (List.range (ws.length + 1)).map fun (m : Nat) => (d, some (m : Int)) := by unfold manyOf; rw [hw]
          have hfew := writes_few hf hw
          have hfl := flat_few (r := r) (room := room) hf ((deedsOf f).take i)
          have hl2 : ((deedsOf f).take i).length ≤ (deedsOf f).length := by rw [List.length_take]; exact Nat.min_le_right _ _
          have hl3 := deeds_few hf
          rw [show (fun a : File × Rule × Nat × Deed => optW (writesF a.1 a.2.1 a.2.2.1 a.2.2.2)) (f, r, room, d) = .lst (ws.map dW) by show optW (writesF f r room d) = _; rw [hw]; rfl]
          walk_at "sf"
          refine ⟨by omega, by omega, ?_⟩
          refine lcR_fm (fun _ => true) (fun m => dStep (d, some (m : Int))) rfl (by omega) (fun i hi A B hA hB => ?_) ?_
          · walk_at "sf"
            exact hA rfl
          · refine ⟨_, rfl, by simp only [List.length_map]; have := List.length_filter_le (fun _ => true) (List.range ((ws.length : Int) + 1).toNat); rw [List.length_range] at this; omega, .dat (dDeed d), .dat (.list (ws.map dW)), ?_⟩
            rw [e2, List.filter_eq_self.mpr (fun _ _ => rfl), show ((ws.length : Int) + 1).toNat = ws.length + 1 by omega, List.map_append, List.map_map]
            rfl
    · obtain ⟨a, b, rfl⟩ := hρ
      rw [List.length_map, List.take_length]
      exact ⟨_, rfl, h⟩
end
def tf_is_over : Tf := mkT (α := File × Rule × Nat × Step) (fun a => [dF a.1, dRule a.2.1, .int (a.2.2.1 : Int), dStep a.2.2.2]) (fun a => Fine a.1 ∧ a.2.2.1 ≤ 12 ∧ a.2.2.2 ∈ stepsOf a.1 a.2.1 a.2.2.1) (fun a => .dat (.bool (overF a.1 a.2.1 a.2.2.1 a.2.2.2)))
theorem sh_deed {d : Deed} (h : deedOk d = true) : Shp 1 (dDeed d) := by
  cases d with
  | take n => exact .tup2 (.str (by decide +kernel)) .int
  | give n => exact .tup2 (.str (by decide +kernel)) .int
  | mend => exact .tuple fun d hd => by rw [List.mem_singleton.mp hd]; exact .str (by decide +kernel)
  | other w n =>
    have h : (PyData.strOk w && !(w == sTake) && !(w == sGive) && !(w == sMend)) = true := h
    refine .tup2 (.str ?_) .int
    revert h
    cases (w == sTake) <;> cases (w == sGive) <;> cases (w == sMend) <;> cases (PyData.strOk w) <;> decide
theorem v_take0 {d : Deed} (h : d = .take 0 ∨ ∃ p : Nat, d = .give (p : Int)) : PyData.eqv (dDeed d) (.tuple [.str (Str.ofString "take"), .int 0]) = decide (d = .take 0) := by
  rcases h with rfl | ⟨p, rfl⟩
  · decide +kernel
  · rw [decide_eq_false (fun z => by cases z)]
    show PyData.eqvAll _ _ = false
    show (PyData.eqv (.str sGive) (.str (Str.ofString "take")) && _) = false
    rw [v_str, we_give_take]
    rfl
theorem deeds_two {f : File} {d : Deed} (h : d ∈ deedsOf f) : d = .take 0 ∨ ∃ p : Nat, d = .give (p : Int) := by
  rcases List.mem_cons.mp h with z | z
  · exact .inl z
  · obtain ⟨p, _, rfl⟩ := List.mem_map.mp z
    exact .inr ⟨p, rfl⟩
def headD : PyData → PyData
  | .tuple (a :: _) => a
  | _ => .none
theorem heads_eq (cs : List Cell) : (((rowsL cs).map (dRow cs)).filter fun _ => true).map headD = (rowsL cs).map dNat := by
  rw [List.filter_eq_self.mpr (fun _ _ => rfl), List.map_map]
  rfl
/-- the writes of a take -/
theorem take_forms {f : File} {r : Rule} {room : Nat} {ws : List Write} (hw : writesF f r room (.take 0) = some ws) : ∀ w ∈ ws, (∃ l, w = (none, .link l)) ∨ ∃ p, w = (some p, .cell (.row 0)) := by
  have e : (if (0 : Int) ≤ 0 ∧ (0 : Int) ≤ 999 then takeW f r room (0 : Int).toNat else none) = some ws := hw
  rw [if_pos (by omega)] at e
  have e : takeW f r room 0 = some ws := e
  unfold takeW at e
  split at e
  · split at e
    · cases e
      intro w hw
      rw [List.mem_singleton.mp hw]
      exact .inr ⟨_, rfl⟩
    · cases e
  · cases e
    intro w hw
    rcases inOrder_mem hw with z | z
    · rw [z]; exact .inl ⟨_, rfl⟩
    · rw [z]; exact .inr ⟨_, rfl⟩
theorem over_take {f : File} {r : Rule} {room m : Nat} {ws : List Write} (hw : writesF f r room (.take 0) = some ws) : overF f r room (.take 0, some (m : Int)) = !((ws.take m).filter (hitW f.cells)).isEmpty := by
  show (match writesF f r room (.take 0), (some (m : Int) : Many) with | some ws, some m => (ws.take m.toNat).any (hitW f.cells) | _, _ => false) = _
  rw [hw]
  show (ws.take (m : Int).toNat).any (hitW f.cells) = _
  rw [Int.toNat_natCast]
  induction ws.take m with
  | nil => rfl
  | cons x xs ih =>
    rw [List.any_cons, List.filter_cons, ih]
    cases hitW f.cells x <;> rfl
section
variable {P : Program} {w : World} {K : PySem.W.Frag} {mg : Str → Option Value} {base : Heap}
theorem ok_is_over (T : Txt w K mg) : FnOk P w K mg base CX0 6 T.f_is_over T.fd_is_over ["file", "rule", "room", "step"] (spP K XR0 tf_is_over) := by
  refine okP (n := 7) T.F_is_over sc_is_over rfl (fun ds Φ Ξ ⟨_, e, _⟩ => by rw [e]; rfl) fun cdv A outer s H E hr => ⟨_, psis_cons (psi_unpack [4, 5] (pei_var 3) (by exact (pg_tup rfl (pgs_cons (pg_name (i := 4) sc_is_over.nd rfl (by first | exact Or.inl rfl | exact Or.inr rfl)) (pgs_cons (pg_name (i := 5) sc_is_over.nd rfl (by first | exact Or.inl rfl | exact Or.inr rfl)) pgs_nil)))))
    (psis_cons (psi_if (pti_cmp (op_neD (hu64 hr)) op2_ne (nomark _) (pei_var 4) (pei_gref rfl T.c_TAKE T.i_TAKE))
      (psis_one (psi_ret pei_bl))
      (psis_nil))
    (psis_cons (psi_setF 6 (pei_lcL rfl sc_is_over.nd (pei_def (ok_rows_of T) (hr.mono (by decide)) T.g_rows_of T.F_rows_of.kp T.b_rows_of passE (pai_cons (pei_var 0) pai_nil) rfl) (Blk.mk (own := [("place", 8), ("number", 9)]) (tgt := (.tp [8, 9])) (blkOk_by (N := n_is_over) (sc := defScope s_is_over) (by decide +kernel)) (by decide) (fun _ _ _ _ _ => by exact (pg_tup rfl (pgs_cons (pg_name (i := 8) sc_is_over.nd rfl (by first | exact Or.inl rfl | exact Or.inr rfl)) (pgs_cons (pg_name (i := 9) sc_is_over.nd rfl (by first | exact Or.inl rfl | exact Or.inr rfl)) pgs_nil)))) (fun _ _ _ _ _ => ptsi_nil) (fun _ _ _ _ _ => (pei_var 8)))) sc_is_over.nd)
    (psis_cons (psi_setF 7 (pei_slL (pei_def (ok_writes_of T) (hr.mono (by decide)) T.g_writes_of T.F_writes_of.kp T.b_writes_of passE (pai_cons (pei_var 0) (pai_cons (pei_var 1) (pai_cons (pei_var 2) (pai_cons (pei_var 4) pai_nil)))) rfl) poi_none (poi_some (pei_var 5))) sc_is_over.nd)
    (psis_one (psi_ret (pei_cmp (op_neD (hu64 hr)) op2_ne (nomark _) (pei_lcL rfl sc_is_over.nd (pei_var 7) (Blk.mk (own := [("write", 10)]) (tgt := (.nm 10)) (blkOk_by (N := n_is_over) (sc := defScope s_is_over) (by decide +kernel)) (by decide) (fun _ _ _ _ _ => by exact (pg_name (i := 10) sc_is_over.nd rfl (by first | exact Or.inl rfl | exact Or.inr rfl))) (fun _ _ _ _ _ => (ptsi_one (pti_bool (pwi_and (pti_cmp (op_inD (hu65 hr)) op2_inL (by rfl) (pei_ixT (pei_var 10) pei_int) (pei_var 6)) (pwi_one (pti_cmp (op_eqD (hu64 hr)) op2_eq (nomark _) (pei_ixA (pei_ixT (pei_var 10) pei_int) pei_int) (pei_gstr rfl T.c_ROW))))))) (fun _ _ _ _ _ => (pei_var 10)))) (pei_lst pai_nil))))))), fun ds Φ Ξ hT => ?_⟩
  obtain ⟨⟨f, r, room, s⟩, rfl, ⟨hf, hro, hs⟩, h⟩ := hT
  have hf : Fine f := hf
  have hs : s ∈ stepsOf f r room := hs
  have h : Φ (.dat (.bool (overF f r room s))) := h
  obtain ⟨d, ws, m, rfl, hd, hw, hm⟩ := mem_steps hs
  have hd2 := deeds_two hd
  unfold dStep
  walk_at "sf"
  refine ⟨(sh_deed (deeds_ok hd).2.2).shaped (by decide), (sh_deed (d := .take 0) rfl).shaped (by decide), ?_⟩
  rw [v_take0 hd2]
  by_cases q : d = .take 0
  · subst q
    rw [decide_eq_true rfl]
    walk_at "sf"
    refine ⟨f, rfl, hf, ?_⟩
    walk_at "sf"
    refine lcI_fm (fun _ => true) headD rfl (by rw [List.length_map]; have := rows_few (f := f) hf; omega) (fun d hd A B hA hB => ?_) ?_
    · obtain ⟨p, _, rfl⟩ := List.mem_map.mp hd
      walk_at "sf"
      exact ⟨_, rfl, rfl, _, rfl, hA rfl⟩
    · rw [heads_eq]
      refine ⟨(f, r, room, .take 0), rfl, ⟨hf, rfl⟩, ?_⟩
      rw [show (fun a : File × Rule × Nat × Deed => optW (writesF a.1 a.2.1 a.2.2.1 a.2.2.2)) (f, r, room, .take 0) = .lst (ws.map dW) by show optW (writesF f r room (.take 0)) = _; rw [hw]; rfl]
      have hfew := writes_few hf hw
      refine ⟨m, rfl, ?_⟩
      walk_at "sf"
      rw [cut_to (by rw [List.length_map]; omega), ← List.map_take]
      refine lcI_map dW (ws.take m) (hitW f.cells) dW rfl (by rw [List.length_take]; omega) (fun x hx A B hA hB => ?_) ?_
      · rcases take_forms hw x (List.mem_of_mem_take hx) with ⟨l, rfl⟩ | ⟨p, rfl⟩
        · unfold dW
          walk_at "sf"
          refine ⟨(shp_ints _).shaped (by decide), ?_⟩
          exact itF (in_rows (l := none)) (hB rfl)
        · unfold dW
          walk_at "sf"
          refine ⟨(shp_ints _).shaped (by decide), ?_⟩
          cases hp : rowAt f.cells p with
          | false => exact itF ((in_rows (l := some p)).trans hp) (hB hp)
          | true =>
            refine itT ((in_rows (l := some p)).trans hp) ?_
            show sIxA (.tuple [.str sRow, .int 0]) (.int 0) _
            walk_at "sf"
            exact hA hp
      · refine ⟨(shp_ws _).shaped (by decide), ?_⟩
        rw [over_take hw] at h
        show Φ (.dat (.bool (!PyData.eqv (.list (((ws.take m).filter (hitW f.cells)).map dW)) (.list []))))
        rw [v_nil]
        exact h
  · have e : overF f r room (d, some (m : Int)) = false := by
      rcases hd2 with z | ⟨p, rfl⟩
      · exact absurd z q
      · rfl
    rw [e] at h
    rw [decide_eq_false q]
    exact h
end
def dLv (x : File × List Step) : PyData := .tuple [dF x.1, .list (x.2.map dStep)]
def dLost : Option (Nat × List Step) → Res
  | none => .dat .none
  | some x => .lst (x.2.map dStep)
def tf_lost_by : Tf := mkT (α := Rule × Nat × Option (Nat × List Step)) (fun a => [dRule a.1, .int (a.2.1 : Int)]) (fun a => a.2.1 ≤ 4 ∧ judgeF a.1 a.2.1 = some a.2.2) (fun a => dLost a.2.2)
def Pay (k : Nat) (st : List Step) : Prop := st.length = k ∧ ∀ s ∈ st, deedOk s.1 = true
theorem shp_step {s : Step} (h : deedOk s.1 = true) : Shp 2 (dStep s) := by
  refine .tup2 (sh_deed h) ?_
  cases s.2 with
  | none => exact .none
  | some k => exact .int
theorem shp_lv {room k : Nat} {lv : List (File × List Step)} (h : ∀ x ∈ lv, Good room x.1 ∧ Pay k x.2) : Shp 5 (.list (lv.map dLv)) := .list fun d hd => by
  obtain ⟨x, hx, rfl⟩ := List.mem_map.mp hd
  refine .tup2 ((shp_dF _).mono (by decide)) (Shp.mono (.list fun d hd => ?_) (show 3 ≤ 3 by decide))
  obtain ⟨s, hs, rfl⟩ := List.mem_map.mp hd
  exact shp_step ((h x hx).2.2 s hs)
theorem steps_okD {f : File} {r : Rule} {room : Nat} {s : Step} (h : s ∈ stepsOf f r room) : deedOk s.1 = true := by
  obtain ⟨d, ws, m, rfl, hd, _⟩ := mem_steps h
  exact (deeds_ok hd).2.2
section
variable {P : Program} {w : World} {K : PySem.W.Frag} {mg : Str → Option Value} {base : Heap}
theorem ok_lost_by (T : Txt w K mg) : FnOk P w K mg base CX0 7 T.f_lost_by T.fd_lost_by ["rule", "room"] (spP K XR0 tf_lost_by) := by
  refine okP (n := 7) T.F_lost_by sc_lost_by rfl (fun ds Φ Ξ ⟨_, e, _⟩ => by rw [e]; rfl) fun cdv A outer s H E hr => ⟨_, psis_cons (psi_setF 2 (pei_lst (pai_cons (pei_tup (pai_cons (pei_gref rfl T.c_EMPTY T.i_EMPTY) (pai_cons (pei_lst pai_nil) pai_nil))) pai_nil)) sc_lost_by.nd)
    (psis_cons (psi_setDisN (Pz := P) (wz := w) rfl rfl 3 (k := .tup [.none, .tup []]) (hu9 hr) (pe_glob (v := .ref T.a_EMPTY) rfl T.c_EMPTY rfl) pe_bl (fun H => T.i_EMPTY H) (by decide) sc_lost_by.nd)
    (psis_cons (psi_while PassesOwn.never (pti_cmp (op_neD (hu64 hr)) op2_ne (nomark _) (pei_var 2) (pei_lst pai_nil))
      (psis_cons (psi_set 4 (pei_lst pai_nil) sc_lost_by.nd)
      (psis_cons (psi_forL (.tp [5, 6]) PassesOwn.never rfl (pei_var 2) (by exact (pg_tup rfl (pgs_cons (pg_name (i := 5) sc_lost_by.nd rfl (by first | exact Or.inl rfl | exact Or.inr rfl)) (pgs_cons (pg_name (i := 6) sc_lost_by.nd rfl (by first | exact Or.inl rfl | exact Or.inr rfl)) pgs_nil))))
        (psis_one (psi_forL (.nm 7) PassesOwn.never rfl (pei_def (ok_steps_on T) (hr.mono (by decide)) T.g_steps_on T.F_steps_on.kp T.b_steps_on passE (pai_cons (pei_var 5) (pai_cons (pei_var 0) (pai_cons (pei_var 1) pai_nil))) rfl) (by exact (pg_name (i := 7) sc_lost_by.nd rfl (by first | exact Or.inl rfl | exact Or.inr rfl)))
          (psis_cons (psi_if (pti_val (pei_def (ok_is_over T) (hr.mono (by decide)) T.g_is_over T.F_is_over.kp T.b_is_over passE (pai_cons (pei_var 5) (pai_cons (pei_var 0) (pai_cons (pei_var 1) (pai_cons (pei_var 7) pai_nil)))) rfl))
            (psis_one (psi_ret (pei_catL (pei_var 6) (pei_lst (pai_cons (pei_var 7) pai_nil)))))
            (psis_nil))
          (psis_cons (psi_setF 8 (pei_def (ok_stepped T) (hr.mono (by decide)) T.g_stepped T.F_stepped.kp T.b_stepped passE (pai_cons (pei_var 5) (pai_cons (pei_var 0) (pai_cons (pei_var 1) (pai_cons (pei_var 7) pai_nil)))) rfl) sc_lost_by.nd)
          (psis_one (psi_if (pti_notInN (Pz := P) (wz := w) rfl rfl 3 (hu9 hr) (pei_var 8))
            (psis_cons (psi_setItN (Pz := P) (wz := w) rfl rfl 3 (hu9 hr) pe_bl (pei_var 8))
            (psis_one (psi_app 4 (pei_tup (pai_cons (pei_var 8) (pai_cons (pei_catL (pei_var 6) (pei_lst (pai_cons (pei_var 7) pai_nil))) pai_nil))))))
            (psis_nil))))))))
      (psis_one (psi_frz 4 (psi_setF 2 (pei_var 4) sc_lost_by.nd))))))
    (psis_one (psi_ret pei_non)))), fun ds Φ Ξ hT => ?_⟩
  obtain ⟨⟨r, room, R⟩, rfl, ⟨hro, hR⟩, h⟩ := hT
  have hro : room ≤ 4 := hro
  have hR : judgeF r room = some R := hR
  have h : Φ (dLost R) := h
  walk_at "sf"
  refine ⟨fun m ρ => ∃ (lv : List (File × List Step)) (met : List File) (k : Nat) (e4 e5 e6 e7 e8 : Ent), ρ = [.dat (dRule r), .dat (.int (room : Int)), .dat (.list (lv.map dLv)), .ob (dkN P w (met.map keyF)), e4, e5, e6, e7, e8] ∧ (∀ x ∈ lv, Good room x.1 ∧ Pay k x.2) ∧ k + m ≤ 7100 ∧ met.length ≤ 10000 ∧ search extS r room m k lv met = some R, ⟨7100, [(eF, [])], [eF], 0, _, _, _, _, _, rfl, fun x hx => by rw [List.mem_singleton.mp hx]; exact ⟨good_e, rfl, fun s hs => by cases hs⟩, by decide, by decide, hR⟩, fun m ρ hρ => ?_⟩
  obtain ⟨lv, met, k, e4, e5, e6, e7, e8, rfl, hg, hk, hml, hs⟩ := hρ
  walk_at "sf"
  refine ⟨(shp_lv hg).shaped (by decide), ?_⟩
  cases lv with
  | nil =>
    have eR : R = none := by
      cases m <;> (cases hs; rfl)
    rw [eR] at h
    exact h
  | cons x0 lvs =>
    cases m with
    | zero => cases hs
    | succ m =>
      rw [search] at hs
      refine itT rfl ?_
      generalize hV : visits extS r room (x0 :: lvs) met [] = V at hs
      generalize hL : x0 :: lvs = LV at hV hg
      refine ⟨fun i ρ' => ∃ (met' : List File) (lg : List (File × List Step)) (e5 e6 e7 e8 : Ent), ρ' = [.dat (dRule r), .dat (.int (room : Int)), .dat (.list (LV.map dLv)), .ob (dkN P w (met'.map keyF)), .ls (lg.map dLv), e5, e6, e7, e8] ∧ (∀ x ∈ lg, Good room x.1 ∧ Pay (k + 1) x.2) ∧ met'.length ≤ 10000 ∧ lg.length ≤ met'.length ∧ visits extS r room (LV.drop i) met' lg = V, ⟨met, [], _, _, _, _, rfl, (fun x hx => by cases hx), hml, Nat.zero_le _, hV⟩, fun i d' ρ' hd hρ => ?_, fun ρ' hρ => ?_⟩
      · obtain ⟨met', lg, e5, e6, e7, e8, rfl, hlg, hm', hlm, hVi⟩ := hρ
        rw [List.getElem?_map] at hd
        cases hx : LV[i]? with
        | none => rw [hx] at hd; cases hd
        | some x =>
          rw [hx] at hd
          cases hd
          obtain ⟨hi, ex⟩ := List.getElem?_eq_some_iff.mp hx
          have hgx := hg x (List.mem_of_getElem? hx)
          obtain ⟨f, st⟩ := x
          rw [List.drop_eq_getElem_cons hi, ex] at hVi
          rw [visits] at hVi
          generalize hU : visit extS r room f st (stepsOf f r room) met' lg = U at hVi
          refine ⟨_, rfl, rfl, ?_⟩
          unfold setsE setsE setsE
          walk_at "sf"
          refine ⟨(f, r, room), rfl, ⟨hgx.1.fine, by show room ≤ 12; omega⟩, ?_⟩
          refine ⟨_, rfl, fun j ρ => ∃ (met2 : List File) (lg2 : List (File × List Step)) (e7 e8 : Ent), ρ = [.dat (dRule r), .dat (.int (room : Int)), .dat (.list (LV.map dLv)), .ob (dkN P w (met2.map keyF)), .ls (lg2.map dLv), .dat (dF f), .dat (.list (st.map dStep)), e7, e8] ∧ (∀ x ∈ lg2, Good room x.1 ∧ Pay (k + 1) x.2) ∧ met2.length ≤ 10000 ∧ lg2.length ≤ met2.length ∧ visit extS r room f st ((stepsOf f r room).drop j) met2 lg2 = U, ⟨met', lg, _, _, rfl, hlg, hm', hlm, hU⟩, fun j d2 ρ hd2 hρ => ?_, fun ρ hρ => ?_⟩
          · obtain ⟨met2, lg2, e7, e8, rfl, hlg2, hm2, hlm2, hUj⟩ := hρ
            rw [List.getElem?_map] at hd2
            cases hs2 : (stepsOf f r room)[j]? with
            | none => rw [hs2] at hd2; cases hd2
            | some s =>
              rw [hs2] at hd2
              cases hd2
              obtain ⟨hj, es⟩ := List.getElem?_eq_some_iff.mp hs2
              have hsm := List.mem_of_getElem? hs2
              rw [List.drop_eq_getElem_cons hj, es, visit] at hUj
              walk_at "sf"
              refine ⟨(f, r, room, s), rfl, ⟨hgx.1.fine, by show room ≤ 12; omega, hsm⟩, ?_⟩
              have hpl := hgx.2.1
              cases ho : overF f r room s with
              | true =>
                rw [ho, if_pos rfl] at hUj
                subst hUj
                subst hVi
                have eR : R = some (k + 1, st ++ [s]) := (Option.some.inj hs).symm
                refine ⟨true, by show Res.dat (.bool (overF f r room s)) = _; rw [ho], ?_⟩
                walk_at "sf"
                have hpl : st.length = k := hpl
                rw [eR] at h
                have h : Φ (.lst ((st ++ [s]).map dStep)) := h
                rw [List.map_append] at h
                exact ⟨by omega, h⟩
              | false =>
                rw [ho, if_neg (by decide)] at hUj
                refine ⟨false, by show Res.dat (.bool (overF f r room s)) = _; rw [ho], ?_⟩
                walk_at "sf"
                obtain ⟨g, hg1, hgg⟩ := good_step hgx.1 (by omega) hsm
                rw [hg1] at hUj
                dsimp only at hUj
                refine ⟨(f, r, room, s), rfl, ⟨hgx.1.fine, by show room ≤ 12; omega, steps_okD hsm⟩, ?_⟩
                rw [show (fun a : File × Rule × Nat × Step => resF (steppedF a.1 a.2.1 a.2.2.1 a.2.2.2)) (f, r, room, s) = .dat (dF g) by show resF (steppedF f r room s) = _; rw [hg1]; rfl]
                walk_at "sf"
                refine ⟨_, rfl, keysF g, by rw [keyF_data], keyF_depth g, ?_⟩
                have hpl : st.length = k := hpl
                by_cases q : g ∈ met2
                · refine itF (by rw [keyF_mem, decide_eq_true q]; rfl) ?_
                  rw [if_pos q] at hUj
                  exact ⟨met2, lg2, _, _, rfl, hlg2, hm2, hlm2, hUj⟩
                · refine itT (by rw [keyF_mem, decide_eq_false q]; rfl) ?_
                  rw [if_neg q] at hUj
                  by_cases q2 : met2.length < 10000
                  · rw [if_pos q2] at hUj
                    refine ⟨_, rfl, keysF g, by rw [keyF_data], keyF_depth g, by rw [List.length_map, sizeLine_eq]; omega, fun z => ?_, ?_⟩
                    · have := keyF_mem (f := g) (met := met2)
                      rw [decide_eq_true z, decide_eq_false q] at this
                      cases this
                    · refine ⟨by omega, by omega, met2 ++ [g], lg2 ++ [(g, st ++ [s])], .dat (dStep s), .dat (dF g), ?_, fun x hx => ?_, by rw [List.length_append, List.length_singleton]; omega, by rw [List.length_append, List.length_append, List.length_singleton, List.length_singleton]; omega, hUj⟩
                      · rw [List.map_append, List.map_append]
                        show _ = [_, _, _, _, Ent.ls (lg2.map dLv ++ [PyData.tuple [dF g, .list ((st ++ [s]).map dStep)]]), _, _, _, _]
                        rw [List.map_append]
                        rfl
                      · rcases List.mem_append.mp hx with z | z
                        · exact hlg2 x z
                        · rw [List.mem_singleton.mp z]
                          refine ⟨hgg, by rw [List.length_append, hpl]; rfl, fun t ht => ?_⟩
                          rcases List.mem_append.mp ht with y | y
                          · exact hgx.2.2 t y
                          · rw [List.mem_singleton.mp y]; exact steps_okD hsm
                  · rw [if_neg q2] at hUj
                    subst hUj
                    subst hVi
                    cases hs
          · obtain ⟨met2, lg2, e7, e8, rfl, hlg2, hm2, hlm2, hUj⟩ := hρ
            rw [List.length_map, List.drop_length, visit] at hUj
            subst hUj
            exact ⟨met2, lg2, _, _, _, _, rfl, hlg2, hm2, hlm2, hVi⟩
      · obtain ⟨met', lg, e5, e6, e7, e8, rfl, hlg, hm', hlm, hVi⟩ := hρ
        rw [List.length_map, List.drop_length, visits] at hVi
        subst hVi
        walk_at "sf"
        exact ⟨m, by omega, lg, met', k + 1, _, _, _, _, _, rfl, hlg, by omega, hm', hs⟩
end
def dJudged : Option (Nat × List Step) → PyData
  | none => .tuple [.str (Str.ofString "safe")]
  | some x => .tuple [.str (Str.ofString "lost"), .list (x.2.map dStep)]
def tf_judged : Tf := mkT (α := Rule × Nat × Option (Nat × List Step)) (fun a => [dRule a.1, .int (a.2.1 : Int)]) (fun a => 1 ≤ a.2.1 ∧ a.2.1 ≤ 12 ∧ judgeF a.1 (min a.2.1 4) = some a.2.2) (fun a => .dat (dJudged a.2.2))
section
variable {P : Program} {w : World} {K : PySem.W.Frag} {mg : Str → Option Value} {base : Heap}
theorem ok_judged (T : Txt w K mg) : FnOk P w K mg base CX0 8 T.f_judged T.fd_judged ["rule", "room"] (spP K XR0 tf_judged) := by
  refine okP (n := 1) T.F_judged sc_judged rfl (fun ds Φ Ξ ⟨_, e, _⟩ => by rw [e]; rfl) fun cdv A outer s H E hr => ⟨_, psis_cons (psi_expr (pei_def (ok_need_rule T) (hr.mono (by decide)) T.g_need_rule T.F_need_rule.kp T.b_need_rule passE (pai_cons (pei_var 0) pai_nil) rfl))
    (psis_cons (psi_setF 2 (pei_def (ok_lost_by T) (hr.mono (by decide)) T.g_lost_by T.F_lost_by.kp T.b_lost_by passE (pai_cons (pei_var 0) (pai_cons (pei_def (ok_need_small T) (hr.mono (by decide)) T.g_need_small T.F_need_small.kp T.b_need_small passE (pai_cons (pei_var 1) pai_nil) rfl) pai_nil)) rfl) sc_judged.nd)
    (psis_one (psi_ret (pei_if (pti_cmp op_isN op2_isN (nomark _) (pei_var 2) pei_non) (pei_tup (pai_cons pei_str pai_nil)) (pei_tup (pai_cons pei_str (pai_cons (pei_var 2) pai_nil))))))), fun ds Φ Ξ hT => ?_⟩
  obtain ⟨⟨r, room, R⟩, rfl, ⟨h1, h2, hR⟩, h⟩ := hT
  have h : Φ (.dat (dJudged R)) := h
  walk_at "sf"
  refine ⟨r, rfl, trivial, ?_⟩
  walk_at "sf"
  refine ⟨room, rfl, ⟨h1, h2⟩, ?_⟩
  refine ⟨(r, min room 4, R), rfl, ⟨Nat.min_le_right _ _, hR⟩, ?_⟩
  cases R with
  | none =>
    walk_at "sf"
    exact h
  | some x =>
    walk_at "sf"
    exact h
end
def tf_written : Tf := mkT (α := File) (fun f => [dF f]) Fine (fun f => .dat (.str (textF f)))
theorem log_small {n : Nat} (h : n ≤ 999) : ((n : Int)).natAbs.log2 < 1920 := by
  rw [Int.natAbs_natCast]
  have h1 : n.log2 < 10 := by
    by_cases q : n = 0
    · subst q; decide
    · exact (Nat.log2_lt q).mpr (by omega)
  omega
theorem fine_what {f : File} (h : Fine f) {c : Cell} (hc : c ∈ f.cells) : ∀ n, whatL c = some n → n ≤ 999 := fun n e => by
  have h1 := h.cells c hc
  have h2 := h.few
  cases c with
  | row k =>
    cases e
    exact of_decide_eq_true h1
  | free l =>
    have e : l = some n := e
    subst e
    have := of_decide_eq_true (p := n < f.cells.length) h1
    omega
theorem fine_head {f : File} (h : Fine f) : ∀ n, f.head = some n → n ≤ 999 := fun n e => by
  have h1 := h.head
  rw [e] at h1
  have h2 := h.few
  have := of_decide_eq_true (p := n < f.cells.length) h1
  omega
theorem numS_len {l : Lk} (h : ∀ n, l = some n → n ≤ 999) : (numS l).length ≤ 3 := by
  cases l with
  | none => decide
  | some n => exact (numF (h n rfl)).hi
theorem dWhat_eq (c : Cell) : dWhat c = dL (whatL c) := by cases c <;> rfl
theorem app_len (s t : Str) : (s ++ t).length = s.length + t.length := by
  show (s.cps ++ t.cps).size = _
  rw [Array.size_append]
  rfl
theorem cellS_len {f : File} (h : Fine f) {c : Cell} (hc : c ∈ f.cells) : (cellS c).length ≤ 4 := by
  have := numS_len (fine_what h hc)
  unfold cellS
  rw [app_len]
  have e : (headS c).length = 1 := by
    cases c with
    | row n => show (Str.ofString "r").length = 1; decide
    | free l => show (Str.ofString "f").length = 1; decide
  omega
theorem words_sum {f : File} (h : Fine f) : ((wordsF f).map (·.length)).sum + (wordsF f).length * (Str.ofString " ").length ≤ 16777216 := by
  have h1 : ∀ {cs : List Cell}, (∀ c ∈ cs, (cellS c).length ≤ 4) → ((cs.map cellS).map (·.length)).sum ≤ 4 * cs.length := by
    intro cs
    induction cs with
    | nil => intro _; exact Nat.zero_le _
    | cons c cs ih =>
      intro hc
      have q1 := hc c List.mem_cons_self
      have q2 := ih fun d hd => hc d (List.mem_cons_of_mem _ hd)
      rw [List.map_cons, List.map_cons, List.sum_cons, List.length_cons]
      omega
  have h2 := h1 fun c hc => cellS_len h hc
  have h3 := numS_len (fine_head h)
  have h4 := h.few
  have e : (Str.ofString " ").length = 1 := by decide
  unfold wordsF
  rw [List.map_cons, List.sum_cons, List.length_cons, List.length_map, e]
  omega
theorem first_row : atI (Str.ofString "row").cps.toList 0 = some 114 := by decide +kernel
theorem first_free : atI (Str.ofString "free").cps.toList 0 = some 102 := by decide +kernel
theorem sign_r : (⟨#[114]⟩ : Str) = Str.ofString "r" := by decide +kernel
theorem sign_f : (⟨#[102]⟩ : Str) = Str.ofString "f" := by decide +kernel
theorem len_row : (Str.ofString "row").length = 3 := by decide +kernel
theorem len_free : (Str.ofString "free").length = 4 := by decide +kernel
theorem len_r : (⟨#[114]⟩ : Str).length = 1 := rfl
theorem len_f : (⟨#[102]⟩ : Str).length = 1 := rfl
theorem len_minus : (Str.ofString "-").length = 1 := by decide +kernel
abbrev textW : WE := wOp sCatS (wOp sIxS (wVar 2) (wC (PyData.int 0))) (wIf (wTest (wOp sIsN (wVar 3) (wC PyData.none))) (wC (PyData.str (Str.ofString "-"))) (wCall sStrI (wCons (wVar 3) wNil)))
theorem text_cell {f : File} (hf : Fine f) {c : Cell} (hc : c ∈ f.cells) {a b : Ent} {Φ : Res → Prop} {Ξ : Exn → Prop} (h : Φ (.dat (.str (cellS c)))) : textW [a, b, .dat (.str (wordOf c)), .dat (dL (whatL c))] Φ Ξ := by
  have hw := fine_what hf hc
  have hlen := numS_len hw
  cases c with
  | row n =>
    have hn : n ≤ 999 := hw n rfl
    have hg := log_small hn
    have e : cellS (.row n) = (⟨#[114]⟩ : Str) ++ Str.ofString (toString (n : Int)) := by rw [sign_r]; rfl
    rw [e] at h
    have hlen : (Str.ofString (toString (n : Int))).length ≤ 3 := hlen
    unfold wordOf whatL
    walk_at "sf"
    rw [first_row]
    exact ⟨by rw [len_row]; omega, _, rfl, hg, by rw [len_r]; omega, h⟩
  | free l =>
    unfold wordOf
    cases l with
    | none =>
      have e : cellS (.free none) = (⟨#[102]⟩ : Str) ++ Str.ofString "-" := by rw [sign_f]; rfl
      rw [e] at h
      unfold whatL
      walk_at "sf"
      rw [first_free]
      exact ⟨by rw [len_free]; omega, _, rfl, by rw [len_f, len_minus]; omega, h⟩
    | some n =>
      have hn : n ≤ 999 := hw n rfl
      have hg := log_small hn
      have e : cellS (.free (some n)) = (⟨#[102]⟩ : Str) ++ Str.ofString (toString (n : Int)) := by rw [sign_f]; rfl
      rw [e] at h
      have hlen : (Str.ofString (toString (n : Int))).length ≤ 3 := hlen
      unfold whatL
      walk_at "sf"
      rw [first_free]
      exact ⟨by rw [len_free]; omega, _, rfl, hg, by rw [len_f]; omega, h⟩
theorem text_loop {f : File} (hf : Fine f) {x : Ent} {w0 : Str} {N : Rho → Prop} {Φ : Res → Prop} {Ξ : Exn → Prop} (q : ∀ y z, N [x, .ls (.str w0 :: (f.cells.map cellS).map PyData.str), y, z]) :
    ForI (.tp [2, 3]) (wApp 1 textW) (f.cells.map dC) [x, .ls [.str w0], .no, .no] { nx := N, rt := Φ, xc := Ξ } := by
  have hl := hf.few
  refine ⟨fun i ρ => ∃ y z, ρ = [x, .ls (.str w0 :: ((f.cells.take i).map cellS).map PyData.str), y, z], ⟨_, _, rfl⟩, fun i d ρ' hd hρ => ?_, fun ρ' hρ => ?_⟩
  · obtain ⟨y, z, rfl⟩ := hρ
    rw [List.getElem?_map] at hd
    cases hc : f.cells[i]? with
    | none => rw [hc] at hd; cases hd
    | some c =>
      rw [hc] at hd
      cases hd
      have hi : i < f.cells.length := (List.getElem?_eq_some_iff.mp hc).1
      refine ⟨[.str (wordOf c), dL (whatL c)], by rw [dC_eq, dWhat_eq], rfl, ?_⟩
      refine ⟨_, rfl, ?_, ?_⟩
      · rw [List.length_cons, List.length_map, List.length_map, List.length_take]
        omega
      · refine text_cell hf (List.mem_of_getElem? hc) ?_
        refine ⟨.dat (.str (wordOf c)), .dat (dL (whatL c)), ?_⟩
        rw [List.take_add_one, hc, List.map_append, List.map_append]
        rfl
  · obtain ⟨y, z, rfl⟩ := hρ
    rw [List.length_map, List.take_length]
    exact q y z
section
variable {P : Program} {w : World} {K : PySem.W.Frag} {mg : Str → Option Value} {base : Heap}
theorem ok_written (T : Txt w K mg) : FnOk P w K mg base CX0 4 T.f_written T.fd_written ["file"] (spP K XR0 tf_written) := by
  refine okP (n := 3) T.F_written sc_written rfl (fun ds Φ Ξ ⟨_, e, _⟩ => by rw [e]; rfl) fun cdv A outer s H E hr => ⟨_, psis_cons (psi_expr (pei_def (ok_need_file T) (hr.mono (by decide)) T.g_need_file T.F_need_file.kp T.b_need_file passE (pai_cons (pei_var 0) pai_nil) rfl))
    (psis_cons (psi_set 1 (pei_lst (pai_cons (pei_if (pti_cmp op_isN op2_isN (nomark _) (pei_ixT (pei_var 0) pei_int) pei_non) pei_str (pei_strI T.m_str rfl (pai_cons (pei_ixT (pei_var 0) pei_int) pai_nil))) pai_nil)) sc_written.nd)
    (psis_cons (psi_forT (.tp [2, 3]) PassesOwn.never rfl (pei_ixT (pei_var 0) pei_int) (by exact (pg_tup rfl (pgs_cons (pg_name (i := 2) sc_written.nd rfl (by first | exact Or.inl rfl | exact Or.inr rfl)) (pgs_cons (pg_name (i := 3) sc_written.nd rfl (by first | exact Or.inl rfl | exact Or.inr rfl)) pgs_nil))))
      (psis_one (psi_app 1 (pei_catS (pei_ixS (pei_var 2) pei_int) (pei_if (pti_cmp op_isN op2_isN (nomark _) (pei_var 3) pei_non) pei_str (pei_strI T.m_str rfl (pai_cons (pei_var 3) pai_nil)))))))
    (psis_one (psi_frz 1 (psi_ret (pei_join pei_str (pei_var 1))))))), fun ds Φ Ξ hT => ?_⟩
  obtain ⟨f, rfl, hf, h⟩ := hT
  have hl := hf.few
  have h : Φ (.dat (.str (textF f))) := h
  walk_at "sf"
  refine ⟨f, rfl, hf, ?_⟩
  unfold dF
  walk_at "sf"
  have fin : ∀ y z : Ent, ∃ ds, ([Ent.dat (.tuple [dL f.head, .tuple (f.cells.map dC)]), .ls (.str (numS f.head) :: (f.cells.map cellS).map PyData.str), y, z] : Rho)[1]? = some (Ent.ls ds) ∧ ∃ d, (List.set [Ent.dat (.tuple [dL f.head, .tuple (f.cells.map dC)]), .ls (.str (numS f.head) :: (f.cells.map cellS).map PyData.str), y, z] 1 (Ent.dat (PyData.list ds)))[1]? = some (Ent.dat d) ∧ sJoin (Str.ofString " ") d Φ := fun y z => ⟨_, rfl, _, rfl, wordsF f, rfl, words_sum hf, h⟩
  cases hh : f.head with
  | none =>
    rw [hh] at fin
    exact text_loop hf (w0 := numS none) fin
  | some n =>
    rw [hh] at fin
    walk_at "sf"
    exact ⟨log_small (fine_head hf n hh), text_loop hf (w0 := numS (some n)) fin⟩
end
def tf_number_of : Tf := mkT (α := Lk × Int) (fun a => [.str (numS a.1), .int a.2]) (fun a => ∀ n, a.1 = some n → n ≤ 999) (fun a => .dat (dL a.1))
theorem hs_minus : SeqAt.shaped (.str (Str.ofString "-")) = true := h_str (by decide +kernel)
theorem ws_minus : (Str.ofString "-" == Str.ofString "-") = true := by decide +kernel
theorem hs_zero : SeqAt.shaped (.str (Str.ofString "0")) = true := h_str (by decide +kernel)
section
variable {P : Program} {w : World} {K : PySem.W.Frag} {mg : Str → Option Value} {base : Heap}
theorem ok_number_of (T : Txt w K mg) : FnOk P w K mg base CX0 1 T.f_number_of T.fd_number_of ["word", "at"] (spP K XR0 tf_number_of) := by
  refine okP (n := 1) T.F_number_of sc_number_of rfl (fun ds Φ Ξ ⟨_, e, _⟩ => by rw [e]; rfl) fun cdv A outer s H E hr => ⟨_, psis_cons (psi_if (pti_cmp (op_eqD (hu64 hr)) op2_eq (nomark _) (pei_var 0) pei_str)
      (psis_one (psi_ret pei_non))
      (psis_nil))
    (psis_cons (psi_if (pti_bool (pwi_or (pti_not (pti_chain op_le op_le op2_le op2_le pei_int (pei_lenS T.m_len rfl (pai_cons (pei_var 0) pai_nil)) (pei_gint rfl T.c_MOST_FIGURES))) (pwi_one (pti_cmp (op_neD (hu64 hr)) op2_ne (nomark _) (pei_lcS rfl sc_number_of.nd (pei_var 0) (Blk.mk (own := [("sign", 2)]) (tgt := (.nm 2)) (blkOk_by (N := n_number_of) (sc := defScope s_number_of) (by decide +kernel)) (by decide) (fun _ _ _ _ _ => by exact (pg_name (i := 2) sc_number_of.nd rfl (by first | exact Or.inl rfl | exact Or.inr rfl))) (fun _ _ _ _ _ => (ptsi_one (pti_cmp op_notIn_sign op2_notInS (by rfl) (pei_var 2) (pei_gstr rfl T.c_FIGURES)))) (fun _ _ _ _ _ => (pei_var 2)))) (pei_lst pai_nil)))))
      (psis_one (psi_never))
      (psis_nil))
    (psis_cons (psi_if (pti_bool (pwi_and (pti_cmp (op_eqD (hu64 hr)) op2_eq (nomark _) (pei_ixS (pei_var 0) pei_int) pei_str) (pwi_one (pti_cmp (op_neD (hu64 hr)) op2_ne (nomark _) (pei_var 0) pei_str))))
      (psis_one (psi_never))
      (psis_nil))
    (psis_one (psi_ret (pei_intS T.m_int rfl (pai_cons (pei_var 0) pai_nil)))))), fun ds Φ Ξ hT => ?_⟩
  obtain ⟨⟨l, j⟩, rfl, hl, h⟩ := hT
  have hl : ∀ n, l = some n → n ≤ 999 := hl
  have h : Φ (.dat (dL l)) := h
  cases l with
  | none =>
    unfold numS
    walk_at "sf"
    refine ⟨hs_minus, hs_minus, ?_⟩
    exact h
  | some n =>
    have N := numF (hl n rfl)
    have hs := h_str N.ok
    have n1 := N.lo
    have n2 := N.hi
    have e1 : decide ((1 : Int) ≤ ((numS (some n)).length : Int)) = true := decide_eq_true (by omega)
    have e2 : decide (((numS (some n)).length : Int) ≤ 3) = true := decide_eq_true (by omega)
    walk_at "sf"
    refine ⟨hs, hs_minus, ?_⟩
    simp only [N.ne]
    walk_at "sf"
    refine ⟨by omega, ?_⟩
    simp only [e1, e2]
    walk_at "sf"
    refine lcI_fm (fun _ => false) (fun d => d) rfl (by unfold signs; rw [List.length_map, Array.length_toList]; show (numS (some n)).length ≤ 50000; omega) (fun d hd A B hA hB => ?_) ?_
    · obtain ⟨k, hk, rfl⟩ := List.mem_map.mp hd
      have hB := hB rfl
      have e3 : decide (k ∈ (Str.ofString "0123456789").cps.toList) = true := decide_eq_true (N.fig k hk)
      walk_at "sf"
      simp only [e3]
      exact hB
    · rw [List.filter_eq_nil_iff.mpr (fun _ _ => by decide)]
      walk_at "sf"
      obtain ⟨k, r, hk, hf⟩ := N.fst
      have ha : atI (numS (some n)).cps.toList 0 = some k := by rw [hk]; exact atI_nat (j := 0) rfl
      have hks : SeqAt.shaped (.str ⟨#[k]⟩) = true := by
        have : k ∈ (Str.ofString "0123456789").cps.toList := N.fig k (by rw [hk]; exact List.mem_cons_self)
        have h2 : ((Str.ofString "0123456789").cps.toList.all fun k => PyData.strOk ⟨#[k]⟩) = true := by decide +kernel
        exact h_str (List.all_eq_true.mp h2 k this)
      refine ⟨by omega, k, ha, hks, hs_zero, ?_⟩
      have fin : ∃ n_1, intText? (numS (some n)) = some n_1 ∧ (numS (some n)).length ≤ 640 ∧ Φ (.dat (.int n_1)) := ⟨_, N.val, by omega, h⟩
      revert hf
      cases ((⟨#[k]⟩ : Str) == Str.ofString "0") with
      | false => exact fun _ => fin
      | true =>
        cases hq : (numS (some n) == Str.ofString "0") with
        | false => intro z; cases z
        | true =>
          intro _
          refine ⟨hs, hs_zero, ?_⟩
          exact fin
end
def tf_read : Tf := mkT (α := File) (fun f => [.str (textF f)]) Fine (fun f => .dat (dF f))
theorem cutS_head {z : Str} {k : Nat} {r : List Nat} (h : z.cps.toList = k :: r) : cutS z none (some 1) = ⟨#[k]⟩ := by
  have hl : z.length = r.length + 1 := by
    show z.cps.size = _
    rw [← Array.length_toList, h]
    rfl
  unfold cutS
  rw [HT.sIx_none, show HT.sIx z.length z.length (some 1) = min 1 z.length from HT.sIx_nat z.length z.length 1, hl, h]
  rw [show min 1 (r.length + 1) = 1 by omega]
  rfl
theorem cutS_tail {z : Str} {k : Nat} {r : List Nat} (h : z.cps.toList = k :: r) : cutS z (some 1) none = ⟨r.toArray⟩ := by
  have hl : z.length = r.length + 1 := by
    show z.cps.size = _
    rw [← Array.length_toList, h]
    rfl
  unfold cutS
  rw [HT.sIx_none, show HT.sIx z.length 0 (some 1) = min 1 z.length from HT.sIx_nat z.length 0 1, hl, h]
  rw [show min 1 (r.length + 1) = 1 by omega]
  show (⟨((k :: r).drop 1 |>.take (r.length + 1 - 1)).toArray⟩ : Str) = _
  rw [Nat.add_sub_cancel, List.drop_succ_cons, List.drop_zero, List.take_length]
theorem tl_app (x y : Str) : (x ++ y).cps.toList = x.cps.toList ++ y.cps.toList := by
  show (x.cps ++ y.cps).toList = _
  rw [Array.toList_append]
theorem tl_r : (Str.ofString "r").cps.toList = [114] := by decide +kernel
theorem tl_f : (Str.ofString "f").cps.toList = [102] := by decide +kernel
theorem back (s : Str) : (⟨s.cps.toList.toArray⟩ : Str) = s := by cases s; rfl
theorem cell_cut (c : Cell) : cutS (cellS c) none (some 1) = headS c ∧ cutS (cellS c) (some 1) none = numS (whatL c) := by
  have h : ∃ k, (headS c).cps.toList = [k] ∧ headS c = ⟨#[k]⟩ := by
    cases c with
    | row n => exact ⟨114, tl_r, sign_r.symm⟩
    | free l => exact ⟨102, tl_f, sign_f.symm⟩
  obtain ⟨k, h1, h2⟩ := h
  have e : (cellS c).cps.toList = k :: (numS (whatL c)).cps.toList := by
    unfold cellS
    rw [tl_app, h1]
    rfl
  exact ⟨by rw [cutS_head e, h2], by rw [cutS_tail e, back]⟩
theorem num_sp {l : Lk} (h : ∀ n, l = some n → n ≤ 999) : 32 ∉ (numS l).cps.toList := by
  cases l with
  | none => show 32 ∉ (Str.ofString "-").cps.toList; decide +kernel
  | some n => exact (numF (h n rfl)).sp
theorem words_sp {f : File} (hf : Fine f) : ∀ p ∈ wordsF f, 32 ∉ p.cps.toList := fun p hp => by
  rcases List.mem_cons.mp hp with e | e
  · rw [e]
    exact num_sp (fine_head hf)
  · obtain ⟨c, hc, rfl⟩ := List.mem_map.mp e
    unfold cellS
    rw [tl_app, List.mem_append, not_or]
    refine ⟨?_, num_sp (fine_what hf hc)⟩
    cases c with
    | row n => show 32 ∉ (Str.ofString "r").cps.toList; decide +kernel
    | free l => show 32 ∉ (Str.ofString "f").cps.toList; decide +kernel
theorem split_text {f : File} (hf : Fine f) : Txt.split (textF f) (Str.ofString " ") = wordsF f :=
  TL.split_join (s := 32) (S := []) (by decide +kernel) (by decide +kernel) (fun z => by cases z) (words_sp hf)
theorem join_len {y : Str} : ∀ ps : List Str, (y.join ps).length ≤ (ps.map (·.length)).sum + ps.length * y.length
  | [] => by show (0 : Nat) ≤ _; omega
  | [p] => by
    show p.length ≤ ([p].map (·.length)).sum + 1 * y.length
    rw [List.map_cons, List.sum_cons]
    omega
  | p :: q :: r => by
    have ih := join_len (y := y) (q :: r)
    show (p ++ y ++ y.join (q :: r)).length ≤ _
    rw [app_len, app_len, List.map_cons, List.sum_cons, List.length_cons, Nat.add_mul]
    omega
theorem text_len {f : File} (hf : Fine f) : (textF f).length ≤ 100 := by
  unfold textF
  rw [TL.join_eq]
  have h1 := join_len (y := Str.ofString " ") (wordsF f)
  have e : (Str.ofString " ").length = 1 := by decide
  have h2 : ∀ {cs : List Cell}, (∀ c ∈ cs, (cellS c).length ≤ 4) → ((cs.map cellS).map (·.length)).sum ≤ 4 * cs.length := by
    intro cs
    induction cs with
    | nil => intro _; exact Nat.zero_le _
    | cons c cs ih =>
      intro hc
      have q1 := hc c List.mem_cons_self
      have q2 := ih fun d hd => hc d (List.mem_cons_of_mem _ hd)
      rw [List.map_cons, List.map_cons, List.sum_cons, List.length_cons]
      omega
  have h3 := h2 fun c hc => cellS_len hf hc
  have h4 := numS_len (fine_head hf)
  have h5 := hf.few
  unfold wordsF at h1
  rw [List.map_cons, List.sum_cons, List.length_cons, List.length_map, e] at h1
  unfold wordsF
  omega
theorem signs_r : signsG (Str.ofString "r") = some (Str.ofString "row") := by decide +kernel
theorem signs_f : signsG (Str.ofString "f") = some (Str.ofString "free") := by decide +kernel
theorem hs_r : SeqAt.shaped (.str (Str.ofString "r")) = true := h_str (by decide +kernel)
theorem hs_f : SeqAt.shaped (.str (Str.ofString "f")) = true := h_str (by decide +kernel)
theorem hs_rm : SeqAt.shaped (.str (Str.ofString "r-")) = true := h_str (by decide +kernel)
theorem we_f_r : (Str.ofString "f" == Str.ofString "r") = false := by decide +kernel
theorem len_sp : ((Str.ofString " ").length == 0) = false := by decide +kernel
section
variable {P : Program} {w : World} {K : PySem.W.Frag} {mg : Str → Option Value} {base : Heap}
theorem ok_read (T : Txt w K mg) : FnOk P w K mg base CX0 4 T.f_read T.fd_read ["text"] (spP K XR0 tf_read) := by
  refine okP (n := 6) T.F_read sc_read rfl (fun ds Φ Ξ ⟨_, e, _⟩ => by rw [e]; rfl) fun cdv A outer s H E hr => ⟨_, psis_cons (psi_setF 1 (pei_split (pei_var 0) pei_str) sc_read.nd)
    (psis_cons (psi_setF 2 (pei_def (ok_number_of T) (hr.mono (by decide)) T.g_number_of T.F_number_of.kp T.b_number_of passE (pai_cons (pei_ixL (pei_var 1) pei_int) (pai_cons pei_int pai_nil)) rfl) sc_read.nd)
    (psis_cons (psi_set 3 (pei_lst pai_nil) sc_read.nd)
    (psis_cons (psi_forR2 (.nm 4) PassesOwn.never rfl T.m_range rfl (pai_cons pei_int (pai_cons (pei_len T.m_len rfl (pai_cons (pei_var 1) pai_nil)) pai_nil)) (by exact (pg_name (i := 4) sc_read.nd rfl (by first | exact Or.inl rfl | exact Or.inr rfl)))
      (psis_cons (psi_setF 5 (pei_slS (pei_ixL (pei_var 1) (pei_var 4)) poi_none (poi_some pei_int)) sc_read.nd)
      (psis_cons (psi_if (pti_bool (pwi_or (pei_notInKd T.D_SIGNS T.k_SIGNS rfl T.c_SIGNS (pei_var 5)) (pwi_one (pti_bool (pwi_and (pti_cmp (op_eqD (hu64 hr)) op2_eq (nomark _) (pei_var 5) pei_str) (pwi_one (pti_cmp (op_eqD (hu64 hr)) op2_eq (nomark _) (pei_ixL (pei_var 1) (pei_var 4)) pei_str)))))))
        (psis_one (psi_never))
        (psis_nil))
      (psis_one (psi_app 3 (pei_tup (pai_cons (pei_ixKd T.D_SIGNS T.k_SIGNS rfl T.c_SIGNS (pei_var 5)) (pai_cons (pei_def (ok_number_of T) (hr.mono (by decide)) T.g_number_of T.F_number_of.kp T.b_number_of passE (pai_cons (pei_slS (pei_ixL (pei_var 1) (pei_var 4)) (poi_some pei_int) poi_none) (pai_cons (pei_var 4) pai_nil)) rfl) pai_nil))))))))
    (psis_cons (psi_setF 6 (pei_peek 3 (pei_tup (pai_cons (pei_var 2) (pai_cons (pei_tuple T.m_tuple rfl (pai_cons (pei_var 3) pai_nil)) pai_nil)))) sc_read.nd)
    (psis_cons (psi_expr (pei_def (ok_need_file T) (hr.mono (by decide)) T.g_need_file T.F_need_file.kp T.b_need_file passE (pai_cons (pei_var 6) pai_nil) rfl))
    (psis_one (psi_ret (pei_var 6)))))))), fun ds Φ Ξ hT => ?_⟩
  obtain ⟨f, rfl, hf, h⟩ := hT
  have hl := hf.few
  have ht := text_len hf
  have h : Φ (.dat (dF f)) := h
  walk_at "sf"
  refine ⟨len_sp, by omega, ?_⟩
  rw [split_text hf]
  unfold wordsF
  walk_at "sf"
  refine ⟨(f.head, 0), rfl, fine_head hf, ?_⟩
  walk_at "sf"
  refine ⟨⟨by omega, by omega, by omega, by omega⟩, ?_⟩
  rw [show (((f.cells.length + 1 : Nat) : Int) - 1).toNat = f.cells.length by omega]
  refine ⟨fun i ρ => ∃ y z, ρ = [.dat (.str (textF f)), .dat (.list (.str (numS f.head) :: (f.cells.map cellS).map PyData.str)), .dat (dL f.head), .ls ((f.cells.take i).map dC), y, z, .no], ⟨_, _, rfl⟩, fun i ρ' hi hρ => ?_, fun ρ' hρ => ?_⟩
  · obtain ⟨y, z, rfl⟩ := hρ
    obtain ⟨c, hc, hok⟩ := hf.at hi
    have hcm : c ∈ f.cells := List.mem_of_getElem? hc
    have ha : atI (PyData.str (numS f.head) :: (f.cells.map cellS).map PyData.str) (1 + (i : Int)) = some (.str (cellS c)) := by
      rw [show (1 + (i : Int)) = ((i + 1 : Nat) : Int) by omega]
      refine atI_nat ?_
      show ((f.cells.map cellS).map PyData.str)[i]? = _
      rw [List.getElem?_map, List.getElem?_map, hc]
      rfl
    have hcl := cellS_len hf hcm
    obtain ⟨k1, k2⟩ := cell_cut c
    have htk : (f.cells.take i).length ≤ 12 := by rw [List.length_take]; omega
    have fin : ∀ y z : Ent, (List.take i f.cells).map dC ++ [dC c] = (List.take (i + 1) f.cells).map dC := fun _ _ => by
      rw [List.take_add_one, hc, List.map_append]
      rfl
    walk_at "sf"
    rw [ha]
    walk_at "sf"
    refine ⟨by omega, ?_⟩
    rw [k1]
    have hnum : ∀ {Ψ : Res → Prop} {Ξ' : Exn → Prop}, Ψ (.dat (dL (whatL c))) → tf_number_of [.str (numS (whatL c)), .int (1 + (i : Int))] Ψ Ξ' := fun q => ⟨(whatL c, _), rfl, fine_what hf hcm, q⟩
    cases c with
    | row n =>
      have N := numF (fine_what hf hcm n rfl)
      have hne : (cellS (.row n) == Str.ofString "r-") = false := N.rne
      have hsc : SeqAt.shaped (.str (cellS (.row n))) = true := h_str N.rok
      unfold headS
      simp only [signs_r]
      walk_at "sf"
      refine ⟨hs_r, hs_r, ?_⟩
      refine ⟨hsc, hs_rm, ?_⟩
      simp only [hne]
      walk_at "sf"
      refine ⟨by omega, _, rfl, by omega, ?_⟩
      rw [k2]
      refine hnum ?_
      refine ⟨.dat (.int (1 + (i : Int))), .dat (.str (Str.ofString "r")), ?_⟩
      rw [← fin .no .no]
      rfl
    | free l =>
      unfold headS
      simp only [signs_f]
      refine ⟨hs_f, hs_r, ?_⟩
      simp only [we_f_r]
      refine ⟨by omega, _, rfl, by omega, ?_⟩
      rw [k2]
      refine hnum ?_
      refine ⟨.dat (.int (1 + (i : Int))), .dat (.str (Str.ofString "f")), ?_⟩
      rw [← fin .no .no]
      rfl
  · obtain ⟨y, z, rfl⟩ := hρ
    rw [List.take_length]
    walk_at "sf"
    have hn := nol_dF (f := f)
    refine ⟨hn, f, rfl, hf, ?_⟩
    exact h
end
def tf__law_taken : Tf := mkTR (α := Nat) (fun n => [.int (n : Int)]) (fun n => 1 ≤ n ∧ n ≤ 1000000) (fun n r => ∃ v : Nat, v < n ∧ r = .dat (.int (v : Int)))
theorem taken {n : Int} {Φ : Res → Prop} {Ξ : Exn → Prop} (k : Nat) (e : n = (k : Int)) (h1 : 1 ≤ k ∧ k ≤ 1000000) (h : ∀ v : Nat, v < k → Φ (.dat (.int (v : Int)))) : tf__law_taken [.int n] Φ Ξ := ⟨k, by rw [e], h1, fun r ⟨v, hv, er⟩ => by rw [er]; exact h v hv⟩
theorem mod_lt {a n : Int} (h : 0 < n) : ∃ v : Nat, (v : Int) < n ∧ a % n = (v : Int) := ⟨(a % n).toNat, by have := Int.emod_nonneg a (show n ≠ 0 by omega); have := Int.emod_lt_of_pos a h; omega, by have := Int.emod_nonneg a (show n ≠ 0 by omega); omega⟩
section
variable {P : Program} {w : World} {K : PySem.W.Frag} {mg : Str → Option Value} {base : Heap}
theorem ok__law_taken (T : Txt w K mg) : FnOk P w K mg base CX0 1 T.f__law_taken T.fd__law_taken ["_law_row", "_law_many"] (spR K XR0 tf__law_taken) := by
  refine T.F__law_taken.ok sc__law_taken (fun vs H Q E ⟨r, us, G, ds, Φ, Ξ, ev, e, hr, il, ⟨n, hT, _⟩, _⟩ => by rw [ev, List.length_cons, ← il.len, hT]; rfl) fun cdv A outer s0 H vs Q E hr ⟨r, us, G, ds, Φ, Ξ, ev, e, hrow, il, ⟨n, hT, hn, hΦ⟩, q, ex⟩ => ?_
  have hn : 1 ≤ n ∧ n ≤ 1000000 := hn
  subst ev
  subst hT
  obtain ⟨v, rfl, im⟩ := imL_1 il
  rw [im_int] at im
  subst im
  obtain ⟨hG, s, ns, i, x, hH, scr, hi, hx, hx2⟩ := hrow
  refine ⟨_, pss_cons (ps_asg (pe_op op_add (pe_ix ix_list (pv 0) pe_int (fun _ _ => rfl)) pe_int) (pg_sub (pv 0) pe_int set_list))
    (pss_cons (ps_if (pt_cmpR op_gt (pe_ix ix_list (pv 0) pe_int (fun _ _ => rfl)) (pe_callB call_len_seq (by rfl) T.m_len PySem.boot_len (pa_cons (pe_ix ix_list (pv 0) pe_int (fun _ _ => rfl)) pa_nil)) (nomark _))
      (pss_cons (ps_asg (pe_op op_mod (pe_op op_add (pe_op op_mul (pe_ix ix_list (pv 0) pe_int (fun _ _ => rfl)) pe_int) pe_int) pe_int) (pg_sub (pv 0) pe_int set_list))
        (pss_one (ps_ret (pe_op op_mod (pe_op op_fdiv (pe_ix ix_list (pv 0) pe_int (fun _ _ => rfl)) pe_int) (pv 1)))))
      pss_nil)
    (pss_cons (ps_set (i := 2) sc__law_taken.nd rfl (.inl rfl) (pe_ix ix_list (pe_ix ix_list (pv 0) pe_int (fun _ _ => rfl)) (pe_op op_sub (pe_ix ix_list (pv 0) pe_int (fun _ _ => rfl)) pe_int) (fun _ _ => rfl)))
    (pss_cons (ps_asg (pe_op op_mod (pe_op op_add (pe_op op_add (pe_op op_mul (pe_ix ix_list (pv 0) pe_int (fun _ _ => rfl)) pe_int) (pv 2)) pe_int) pe_int) (pg_sub (pv 0) pe_int set_list))
    (pss_one (ps_ret (pe_op op_mod (pv 2) (pv 1))))))), ?_⟩
  have sqH : SqL K H r [.ref s, .int i, .int x] := sq_of hH
  refine ⟨.ref r, rfl, r, _, 1, _, rfl, rfl, sqH, atI_nat (j := 1) rfl, i, 1, rfl, rfl, .ref r, rfl, r, _, 1, 1, rfl, rfl, hH, rfl, ?_⟩
  have e1 : Ex G (upd H r (.lst [.ref s, .int (i + 1), .int x])) := e.out hG
  have h1 : (upd H r (.lst [.ref s, .int (i + 1), .int x])) r = some (.lst [.ref s, .int (i + 1), .int x]) := upd_same
  have hk1 : ∀ a, a ≠ r → (upd H r (.lst [.ref s, .int (i + 1), .int x])) a = H a := fun a ha => upd_ne ha
  have sq1 : SqL K (upd H r (.lst [.ref s, .int (i + 1), .int x])) r [.ref s, .int (i + 1), .int x] := sq_of h1
  have sqs : SqL K (upd H r (.lst [.ref s, .int (i + 1), .int x])) s (ns.map V.int) := scr.sql e1
  have fin : ∀ x2 : Int, 0 ≤ x2 → x2 < 2147483647 → Fin' K ⟨some r, G, H⟩ G (upd (upd H r (.lst [.ref s, .int (i + 1), .int x])) r (.lst [.ref s, .int (i + 1), .int x2])) := fun x2 a1 a2 => by
    refine ⟨.refl _, e1.out hG, fun a o h hne _ => ?_, (TblK.lst hH).trans (.lst h1), fun a h => ?_, fun a h _ => h, fun r' hr' => ?_⟩
    · have ha : a ≠ r := fun z => hne (by rw [z])
      rw [upd_ne ha, hk1 a ha]
      exact h
    · by_cases ha : a = r
      · subst ha
        rw [upd_same]
        exact fun z => by cases z
      · rw [upd_ne ha, hk1 a ha]
        exact h
    · cases hr'
      exact ⟨hG, s, ns, i + 1, x2, upd_same, scr, by omega, a1, a2⟩
  refine ⟨.ref r, rfl, r, _, 1, _, rfl, rfl, sq1, atI_nat (j := 1) rfl, .ref r, rfl, r, _, 0, _, rfl, rfl, sq1, atI_nat (j := 0) rfl, s, _, rfl, .inl sqs, i + 1, _, rfl, rfl, _, rfl, ite2 (fun hlt => ?_) (fun hlt => ?_)⟩
  · refine ⟨.ref r, rfl, r, _, 2, _, rfl, rfl, sq1, atI_nat (j := 2) rfl, x, _, rfl, rfl, .inl ⟨by omega, by omega⟩, _, _, rfl, rfl, _, _, rfl, rfl, (by show (0 : Int) < 2147483647; decide), .ref r, rfl, r, _, 2, 2, rfl, rfl, upd_same, rfl, ?_⟩
    obtain ⟨y, y1, y2⟩ := mod_lt (a := x * 48271 + 11) (n := 2147483647) (by decide)
    obtain ⟨v, v1, v2⟩ := mod_lt (a := (x * 48271 + 11) % 2147483647 / 7) (n := (n : Int)) (by omega)
    refine ⟨.ref r, rfl, r, _, 2, _, rfl, rfl, sq_of upd_same, atI_nat (j := 2) rfl, _, _, rfl, rfl, ⟨by decide, by decide⟩, .int n, rfl, _, _, rfl, rfl, (by show (0 : Int) < n; omega), ?_⟩
    refine q _ (.dat (.int ((v : Nat) : Int))) G _ (fin ((x * 48271 + 11) % 2147483647) (by omega) (by omega)) ?_ (hΦ _ ⟨v, by omega, rfl⟩)
    show Im _ _ _ _
    rw [im_int, ← v2]
  · have hil : i < (ns.length : Int) := by
      have h := of_decide_eq_false (Bool.eq_false_iff.mpr hlt)
      rw [List.length_map] at h
      omega
    have gi : (ns.map V.int)[i.toNat]? = some (.int ns[i.toNat]) := by
      rw [List.getElem?_map, List.getElem?_eq_getElem (by omega)]
      rfl
    have ga : atI (ns.map V.int) (i + 1 - 1) = some (.int ns[i.toNat]) := by
      rw [show i + 1 - 1 = ((i.toNat : Nat) : Int) by omega]
      exact atI_nat gi
    generalize ns[i.toNat] = m at ga
    refine ⟨.ref r, rfl, r, _, 0, _, rfl, rfl, sq1, atI_nat (j := 0) rfl, .ref r, rfl, r, _, 1, _, rfl, rfl, sq1, atI_nat (j := 1) rfl, i + 1, _, rfl, rfl, s, _, _, _, rfl, rfl, sqs, ga, ?_⟩
    refine ⟨.ref r, rfl, r, _, 2, _, rfl, rfl, sq1, atI_nat (j := 2) rfl, x, _, rfl, rfl, .inl ⟨by omega, by omega⟩, .int m, rfl, _, _, rfl, rfl, _, _, rfl, rfl, _, _, rfl, rfl, (by show (0 : Int) < 2147483647; decide), .ref r, rfl, r, _, 2, 2, rfl, rfl, upd_same, rfl, ?_⟩
    obtain ⟨y, y1, y2⟩ := mod_lt (a := x * 48271 + m + 11) (n := 2147483647) (by decide)
    obtain ⟨v, v1, v2⟩ := mod_lt (a := m) (n := (n : Int)) (by omega)
    refine ⟨.int m, rfl, .int n, rfl, _, _, rfl, rfl, (by show (0 : Int) < n; omega), ?_⟩
    refine q _ (.dat (.int ((v : Nat) : Int))) G _ (fin ((x * 48271 + m + 11) % 2147483647) (by omega) (by omega)) ?_ (hΦ _ ⟨v, by omega, rfl⟩)
    show Im _ _ _ _
    rw [im_int, ← v2]
end
def Al : Nat → PyData → Prop
  | _, .none => True
  | _, .bool _ => True
  | _, .int _ => True
  | _, .str s => PyData.strOk s = true
  | n + 1, .list ds => ds.length ≤ 1000 ∧ ∀ d ∈ ds, Al n d
  | n + 1, .tuple ds => ds.length ≤ 1000 ∧ ∀ d ∈ ds, Al n d
  | _, _ => False
def tf__law_alike_n : Nat → Tf
  | 0 => fun _ _ _ => False
  | n + 1 => fun ds Φ _ => ∃ d : PyData, ds = [d, d] ∧ Al n d ∧ Φ (.dat (.bool true))
theorem fnok_false {P : Program} {w : World} {K : PySem.W.Frag} {mg : Str → Option Value} {base : Heap} {CX : CXT} {k : Nat} {f : Addr} {fd : FuncData} {ps : List Str} {XR : Exn → Value → Option Addr → Hp → Prop} : FnOk P w K mg base CX k f fd ps (spP K XR (fun _ _ _ => False)) :=
  ⟨fun vs H Q E h => by obtain ⟨G, ds, Φ, Ξ, _, _, h, _⟩ := h; exact h.elim, fun A outer s H args us vs Q E _ _ _ _ h => by obtain ⟨G, ds, Φ, Ξ, _, _, h, _⟩ := h; exact h.elim⟩
section
variable {P : Program} {w : World} {K : PySem.W.Frag} {mg : Str → Option Value} {base : Heap}
theorem ok__law_alike_n (T : Txt w K mg) : ∀ n : Nat, FnOk P w K mg base CX0 n T.f__law_alike T.fd__law_alike ["_law_found", "_law_due"] (spP K XR0 (tf__law_alike_n n))
  | 0 => fnok_false
  | n + 1 => by
    have IH := ok__law_alike_n T n
    refine okP (n := 1) T.F__law_alike sc__law_alike rfl (fun ds Φ Ξ ⟨_, e, _⟩ => by rw [e]; rfl) fun cdv A outer s H E hr => ⟨_, psis_cons (psi_if (pti_bool (pwi_or (pti_val (pei_isi T.m_isinstance rfl T.m_tuple rfl rfl (pei_var 1))) (pwi_one (pti_val (pei_isi T.m_isinstance rfl T.m_list rfl rfl (pei_var 1))))))
      (psis_cons (psi_if (pti_bool (pwi_or (pti_cmp (op_neD (hu64 hr)) op2_ne (nomark _) (pei_isi T.m_isinstance rfl T.m_tuple rfl rfl (pei_var 0)) (pei_isi T.m_isinstance rfl T.m_tuple rfl rfl (pei_var 1))) (pwi_one (pti_not (pti_val (pei_isiTL T.m_isinstance rfl T.m_tuple rfl T.m_list rfl (pei_var 0)))))))
        (psis_one (psi_ret pei_bl))
        (psis_nil))
      (psis_cons (psi_if (pti_cmp (op_neD (hu64 hr)) op2_ne (nomark _) (pei_len T.m_len rfl (pai_cons (pei_var 0) pai_nil)) (pei_len T.m_len rfl (pai_cons (pei_var 1) pai_nil)))
        (psis_one (psi_ret pei_bl))
        (psis_nil))
      (psis_one (psi_ret (pei_cmp (op_eqD (hu64 hr)) op2_eq (nomark _) (pei_lcR rfl sc__law_alike.nd T.m_range rfl (pai_cons (pei_len T.m_len rfl (pai_cons (pei_var 1) pai_nil)) pai_nil) (Blk.mk (own := [("_law_k", 2)]) (tgt := (.nm 2)) (blkOk_by (N := n__law_alike) (sc := defScope s__law_alike) (by decide +kernel)) (by decide) (fun _ _ _ _ _ => by exact (pg_name (i := 2) sc__law_alike.nd rfl (by first | exact Or.inl rfl | exact Or.inr rfl))) (fun _ _ _ _ _ => (ptsi_one (pti_not (pti_val (pei_def IH hr T.g__law_alike T.F__law_alike.kp T.b__law_alike passE (pai_cons (pei_ixA (pei_var 0) (pei_var 2)) (pai_cons (pei_ixA (pei_var 1) (pei_var 2)) pai_nil)) rfl))))) (fun _ _ _ _ _ => (pei_var 2)))) (pei_lst pai_nil))))))
      (psis_nil))
    (psis_cons (psi_if (pti_bool (pwi_or (pti_cmp op_isN op2_isN (nomark _) (pei_var 1) pei_non) (pwi_one (pti_cmp op_isN op2_isN (nomark _) (pei_var 0) pei_non))))
      (psis_one (psi_ret (pei_and (pei_cmp op_isN op2_isN (nomark _) (pei_var 1) pei_non) (pei_one _ (pei_cmp op_isN op2_isN (nomark _) (pei_var 0) pei_non)))))
      (psis_nil))
    (psis_cons (psi_if (pti_bool (pwi_or (pti_val (pei_isi T.m_isinstance rfl T.m_bool rfl rfl (pei_var 1))) (pwi_one (pti_val (pei_isi T.m_isinstance rfl T.m_bool rfl rfl (pei_var 0))))))
      (psis_one (psi_ret (pei_and (pei_isi T.m_isinstance rfl T.m_bool rfl rfl (pei_var 1)) (pei_and (pei_isi T.m_isinstance rfl T.m_bool rfl rfl (pei_var 0)) (pei_one _ (pei_cmp (op_eqD (hu64 hr)) op2_eq (nomark _) (pei_var 0) (pei_var 1)))))))
      (psis_nil))
    (psis_cons (psi_if (pti_val (pei_isi T.m_isinstance rfl T.m_str rfl rfl (pei_var 1)))
      (psis_one (psi_ret (pei_and (pei_isi T.m_isinstance rfl T.m_str rfl rfl (pei_var 0)) (pei_one _ (pei_cmp (op_eqD (hu64 hr)) op2_eq (nomark _) (pei_var 0) (pei_var 1))))))
      (psis_nil))
    (psis_one (psi_ret (pei_and (pei_isi T.m_isinstance rfl T.m_int rfl rfl (pei_var 0)) (pei_one _ (pei_cmp (op_eqD (hu64 hr)) op2_eq (nomark _) (pei_var 0) (pei_var 1))))))))), fun ds Φ Ξ hT => ?_⟩
    obtain ⟨d, rfl, hA, h⟩ := hT
    cases d with
    | none =>
      walk_at "sf"
      exact h
    | bool k =>
      walk_at "sf"
      exact h
    | int k =>
      walk_at "sf"
      exact h
    | str k =>
      have hk : PyData.strOk k = true := by cases n <;> exact hA
      walk_at "sf"
      exact ⟨h_str hk, h_str hk, h⟩
    | list ds =>
      cases n with
      | zero => exact hA.elim
      | succ n =>
        obtain ⟨hl, hA⟩ : ds.length ≤ 1000 ∧ ∀ d ∈ ds, Al n d := hA
        walk_at "sf"
        refine ⟨by omega, by omega, lcR_fm (fun _ => false) dNat rfl (by omega) (fun i hi A B hAA hB => ?_) ?_⟩
        · have hi2 : ds[i]? = some ds[i] := List.getElem?_eq_getElem hi
          have hm : ds[i] ∈ ds := List.getElem_mem hi
          generalize ds[i] = d at hi2 hm
          have ha : atI ds ((i : Nat) : Int) = some d := atI_nat hi2
          have hB := hB rfl
          walk_at "sf"
          rw [ha]
          walk_at "sf"
          refine ⟨d, rfl, hA d hm, ?_⟩
          walk_at "sf"
          exact hB
        · rw [List.filter_eq_nil_iff.mpr (fun _ _ => by decide)]
          walk_at "sf"
          exact h
    | tuple ds =>
      cases n with
      | zero => exact hA.elim
      | succ n =>
        obtain ⟨hl, hA⟩ : ds.length ≤ 1000 ∧ ∀ d ∈ ds, Al n d := hA
        walk_at "sf"
        refine ⟨by omega, by omega, lcR_fm (fun _ => false) dNat rfl (by omega) (fun i hi A B hAA hB => ?_) ?_⟩
        · have hi2 : ds[i]? = some ds[i] := List.getElem?_eq_getElem hi
          have hm : ds[i] ∈ ds := List.getElem_mem hi
          generalize ds[i] = d at hi2 hm
          have ha : atI ds ((i : Nat) : Int) = some d := atI_nat hi2
          have hB := hB rfl
          walk_at "sf"
          rw [ha]
          walk_at "sf"
          refine ⟨d, rfl, hA d hm, ?_⟩
          walk_at "sf"
          exact hB
        · rw [List.filter_eq_nil_iff.mpr (fun _ _ => by decide)]
          walk_at "sf"
          exact h
    | dict ds => cases n <;> exact hA.elim
theorem ok__law_alike (T : Txt w K mg) : FnOk P w K mg base CX0 7 T.f__law_alike T.fd__law_alike ["_law_found", "_law_due"] (spP K XR0 (tf__law_alike_n 7)) := ok__law_alike_n T 7
abbrev tf__law_alike : Tf := tf__law_alike_n 7
end
def tf__law_rule : Tf := mkTR (α := Unit) (fun _ => []) (fun _ => True) (fun _ r => ∃ u : Rule, r = .dat (dRule u))
theorem words_at {v : Nat} (h : v < 2) : ∃ b : Bool, atI [PyData.str (Str.ofString "head"), .str (Str.ofString "slot")] ((v : Nat) : Int) = some (dWd b) := by
  cases v with
  | zero => exact ⟨true, atI_nat (j := 0) rfl⟩
  | succ k =>
    cases k with
    | zero => exact ⟨false, atI_nat (j := 1) rfl⟩
    | succ k => omega
section
variable {P : Program} {w : World} {K : PySem.W.Frag} {mg : Str → Option Value} {base : Heap}
theorem ok__law_rule (T : Txt w K mg) : FnOk P w K mg base CX0 2 T.f__law_rule T.fd__law_rule ["_law_row"] (spR K XR0 tf__law_rule) := by
  refine okR (n := 0) T.F__law_rule sc__law_rule rfl (fun ds Φ Ξ ⟨_, e, _⟩ => by rw [e]; rfl) fun cdv A outer s H E hr => ⟨_, psis_one (psi_ret (pei_tup (pai_cons (pei_ixL (pei_lst (pai_cons pei_str (pai_cons pei_str pai_nil))) (pei_defR 0 (ok__law_taken T) (hr.mono (by decide)) T.g__law_taken T.F__law_taken.kp T.b__law_taken passE (pai_cons pei_int pai_nil) rfl)) (pai_cons (pei_ixL (pei_lst (pai_cons pei_str (pai_cons pei_str pai_nil))) (pei_defR 0 (ok__law_taken T) (hr.mono (by decide)) T.g__law_taken T.F__law_taken.kp T.b__law_taken passE (pai_cons pei_int pai_nil) rfl)) pai_nil)))), fun ds Φ Ξ hT => ?_⟩
  obtain ⟨_, rfl, _, h⟩ := hT
  walk_at "sf"
  refine taken 2 rfl (by omega) fun a ha => ?_
  obtain ⟨x, ex⟩ := words_at ha
  walk_at "sf"
  rw [ex]
  walk_at "sf"
  refine taken 2 rfl (by omega) fun b hb => ?_
  obtain ⟨y, ey⟩ := words_at hb
  walk_at "sf"
  rw [ey]
  walk_at "sf"
  exact h _ ⟨(x, y), rfl⟩
end
def tf__law_file : Tf := mkTR (α := Nat) (fun m => [.int (m : Int)]) (fun m => m ≤ 12) (fun m r => ∃ f : File, Fine f ∧ f.cells.length ≤ m ∧ r = .dat (dF f))
def lnks (n : Nat) : List PyData := PyData.none :: (List.range n).map fun i : Nat => PyData.int (i : Int)
theorem lnks_at {n v : Nat} (h : v < n + 1) : ∃ l : Lk, linkOk n l = true ∧ atI (lnks n) ((v : Nat) : Int) = some (dL l) := by
  cases v with
  | zero => exact ⟨none, rfl, atI_nat (j := 0) rfl⟩
  | succ k =>
    refine ⟨some k, decide_eq_true (by omega), atI_nat ?_⟩
    show ((List.range n).map fun i : Nat => PyData.int (i : Int))[k]? = _
    rw [List.getElem?_map, List.getElem?_range (by omega)]
    rfl
theorem two_at {v a b : Nat} (h : v < 2) : ∃ k : Nat, (k = a ∨ k = b) ∧ atI [PyData.int (a : Int), .int (b : Int)] ((v : Nat) : Int) = some (.int (k : Int)) := by
  cases v with
  | zero => exact ⟨a, .inl rfl, atI_nat (j := 0) rfl⟩
  | succ k =>
    cases k with
    | zero => exact ⟨b, .inr rfl, atI_nat (j := 1) rfl⟩
    | succ k => omega
section
variable {P : Program} {w : World} {K : PySem.W.Frag} {mg : Str → Option Value} {base : Heap}
theorem ok__law_file (T : Txt w K mg) : FnOk P w K mg base CX0 2 T.f__law_file T.fd__law_file ["_law_row", "_law_most"] (spR K XR0 tf__law_file) := by
  refine okR (n := 5) T.F__law_file sc__law_file rfl (fun ds Φ Ξ ⟨_, e, _⟩ => by rw [e]; rfl) fun cdv A outer s H E hr => ⟨_, psis_cons (psi_setF 2 (pei_defR 0 (ok__law_taken T) (hr.mono (by decide)) T.g__law_taken T.F__law_taken.kp T.b__law_taken passE (pai_cons (pei_add (pei_var 1) pei_int) pai_nil) rfl) sc__law_file.nd)
    (psis_cons (psi_setF 3 (pei_add pei_int (pei_defR 0 (ok__law_taken T) (hr.mono (by decide)) T.g__law_taken T.F__law_taken.kp T.b__law_taken passE (pai_cons pei_int pai_nil) rfl)) sc__law_file.nd)
    (psis_cons (psi_setF 4 (pei_catL (pei_lst (pai_cons pei_non pai_nil)) (pei_listRange T.m_list rfl T.m_range rfl rfl (pei_var 2))) sc__law_file.nd)
    (psis_cons (psi_set 5 (pei_lst pai_nil) sc__law_file.nd)
    (psis_cons (psi_forR1 (.nm 6) PassesOwn.never rfl T.m_range rfl (pai_cons (pei_var 2) pai_nil) (by exact (pg_name (i := 6) sc__law_file.nd rfl (by first | exact Or.inl rfl | exact Or.inr rfl)))
      (psis_one (psi_if (pti_cmp (op_eqD (hu64 hr)) op2_eq (nomark _) (pei_defR 0 (ok__law_taken T) (hr.mono (by decide)) T.g__law_taken T.F__law_taken.kp T.b__law_taken passE (pai_cons (pei_var 3) pai_nil) rfl) pei_int)
        (psis_one (psi_app 5 (pei_tup (pai_cons pei_str (pai_cons (pei_ixL (pei_var 4) (pei_defR 0 (ok__law_taken T) (hr.mono (by decide)) T.g__law_taken T.F__law_taken.kp T.b__law_taken passE (pai_cons (pei_add (pei_var 2) pei_int) pai_nil) rfl)) pai_nil)))))
        (psis_one (psi_app 5 (pei_tup (pai_cons pei_str (pai_cons (pei_ixL (pei_lst (pai_cons (pei_defR 0 (ok__law_taken T) (hr.mono (by decide)) T.g__law_taken T.F__law_taken.kp T.b__law_taken passE (pai_cons pei_int pai_nil) rfl) (pai_cons (pei_defR 0 (ok__law_taken T) (hr.mono (by decide)) T.g__law_taken T.F__law_taken.kp T.b__law_taken passE (pai_cons pei_int pai_nil) rfl) pai_nil))) (pei_defR 0 (ok__law_taken T) (hr.mono (by decide)) T.g__law_taken T.F__law_taken.kp T.b__law_taken passE (pai_cons pei_int pai_nil) rfl)) pai_nil))))))))
    (psis_one (psi_frz 5 (psi_ret (pei_tup (pai_cons (pei_ixL (pei_var 4) (pei_defR 0 (ok__law_taken T) (hr.mono (by decide)) T.g__law_taken T.F__law_taken.kp T.b__law_taken passE (pai_cons (pei_add (pei_var 2) pei_int) pai_nil) rfl)) (pai_cons (pei_tuple T.m_tuple rfl (pai_cons (pei_var 5) pai_nil)) pai_nil)))))))))), fun ds Φ Ξ hT => ?_⟩
  obtain ⟨m, rfl, hm, h⟩ := hT
  have hm : m ≤ 12 := hm
  walk_at "sf"
  refine taken (m + 1) (by omega) (by omega) fun n hn => taken 4 rfl (by omega) fun v4 hv4 => ?_
  walk_at "sf"
  refine ⟨by omega, ?_⟩
  unfold sRng
  refine ⟨by omega, ?_⟩
  walk_at "sf"
  refine ⟨by rw [List.length_range]; omega, by omega, by omega, ?_⟩
  refine ⟨fun i ρ => ∃ (cs : List Cell) (z : Ent), ρ = [.row, .dat (.int (m : Int)), .dat (.int (n : Int)), .dat (.int (1 + (v4 : Int))), .dat (.list (lnks n)), .ls (cs.map dC), z] ∧ cs.length = i ∧ ∀ c ∈ cs, cellOk n c = true, ⟨[], _, rfl, rfl, fun c hc => by cases hc⟩, fun i ρ' hi hρ => ?_, fun ρ' hρ => ?_⟩
  · obtain ⟨cs, z, rfl, hcs, hok⟩ := hρ
    have step : ∀ c, cellOk n c = true → ∃ (cs' : List Cell) (z' : Ent), [Ent.row, .dat (.int (m : Int)), .dat (.int (n : Int)), .dat (.int (1 + (v4 : Int))), .dat (.list (lnks n)), .ls (cs.map dC ++ [dC c]), .dat (.int (i : Int))] = [.row, .dat (.int (m : Int)), .dat (.int (n : Int)), .dat (.int (1 + (v4 : Int))), .dat (.list (lnks n)), .ls (cs'.map dC), z'] ∧ cs'.length = i + 1 ∧ ∀ c ∈ cs', cellOk n c = true := fun c hc => by
      refine ⟨cs ++ [c], _, by rw [List.map_append]; rfl, by rw [List.length_append, hcs]; rfl, fun d hd => ?_⟩
      rcases List.mem_append.mp hd with q | q
      · exact hok d q
      · rw [List.mem_singleton.mp q]
        exact hc
    walk_at "sf"
    refine taken (1 + v4) (by omega) (by omega) fun v hv => ?_
    walk_at "sf"
    cases (((v : Nat) : Int) == 0) with
    | true =>
      walk_at "sf"
      refine ⟨by omega, ?_⟩
      refine taken (n + 1) (by omega) (by omega) fun u hu => ?_
      obtain ⟨l, hl, e⟩ := lnks_at hu
      walk_at "sf"
      rw [e]
      walk_at "sf"
      exact step (.free l) hl
    | false =>
      walk_at "sf"
      refine ⟨by omega, ?_⟩
      refine taken 4 rfl (by omega) fun a ha => taken 1000 rfl (by omega) fun b hb => taken 2 rfl (by omega) fun u hu => ?_
      obtain ⟨k, hk, e⟩ := two_at (a := a) (b := b) hu
      walk_at "sf"
      rw [e]
      walk_at "sf"
      exact step (.row k) (decide_eq_true (by omega))
  · obtain ⟨cs, z, rfl, hcs, hok⟩ := hρ
    walk_at "sf"
    refine taken (n + 1) (by omega) (by omega) fun u hu => ?_
    obtain ⟨l, hl, e⟩ := lnks_at hu
    walk_at "sf"
    rw [e]
    walk_at "sf"
    refine h _ ⟨⟨l, cs⟩, ⟨?_, ?_, ?_⟩, ?_, rfl⟩
    · show linkOk cs.length l = true
      rw [hcs]
      exact hl
    · show cs.length ≤ 12
      omega
    · show ∀ c ∈ cs, cellOk cs.length c = true
      rw [hcs]
      exact hok
    · show cs.length ≤ m
      omega
end
def tf__law_checked : Tf := mkT (α := File) (fun f => [dF f]) Fine (fun f => .dat (dChecked f))
def ChInv2 (f : File) (m : Nat) (ρ : Rho) : Prop := ∃ (found : List Nat) (l : Lk), ρ = [.dat (dF f), .dat (dL f.head), .dat (.tuple (f.cells.map dC)), .dat (dRows f.cells), .ls (found.map dNat), .dat (dL l), .no, .no, .no] ∧ Told f.cells found ∧ linkOk f.cells.length l = true ∧ m + found.length = f.cells.length + 1 ∧ gone f = walk f.cells m found l
theorem looseL_eq (f : File) : looseL f = (List.range f.cells.length).filter fun i => freeAt f.cells i && !(chain f).contains i := by
  unfold looseL freeL
  rw [List.filter_filter]
  exact List.filter_congr fun i _ => Bool.and_comm _ _
section
variable {P : Program} {w : World} {K : PySem.W.Frag} {mg : Str → Option Value} {base : Heap}
theorem ok__law_checked (T : Txt w K mg) : FnOk P w K mg base CX0 1 T.f__law_checked T.fd__law_checked ["_law_file_here"] (spP K XR0 tf__law_checked) := by
  refine okP (n := 8) T.F__law_checked sc__law_checked rfl (fun ds Φ Ξ ⟨_, e, _⟩ => by rw [e]; rfl) fun cdv A outer s H E hr => ⟨_, psis_cons (psi_unpack [1, 2] (pei_var 0) (by exact (pg_tup rfl (pgs_cons (pg_name (i := 1) sc__law_checked.nd rfl (by first | exact Or.inl rfl | exact Or.inr rfl)) (pgs_cons (pg_name (i := 2) sc__law_checked.nd rfl (by first | exact Or.inl rfl | exact Or.inr rfl)) pgs_nil)))))
    (psis_cons (psi_setFLcR 3 rfl sc__law_checked.nd T.m_range rfl (pai_cons (pei_len T.m_len rfl (pai_cons (pei_var 2) pai_nil)) pai_nil) (Blk.mk (own := [("_law_place", 8)]) (tgt := (.nm 8)) (blkOk_by (N := n__law_checked) (sc := defScope s__law_checked) (by decide +kernel)) (by decide) (fun _ _ _ _ _ => by exact (pg_name (i := 8) sc__law_checked.nd rfl (by first | exact Or.inl rfl | exact Or.inr rfl))) (fun _ _ _ _ _ => (ptsi_one (pti_cmp (op_eqD (hu64 hr)) op2_eq (nomark _) (pei_ixT (pei_ixT (pei_var 2) (pei_var 8)) pei_int) pei_str))) (fun _ _ _ _ _ => (pei_tup (pai_cons (pei_var 8) (pai_cons (pei_ixT (pei_ixT (pei_var 2) (pei_var 8)) pei_int) pai_nil))))) (sw_true rfl rfl rfl (by decide +kernel)))
    (psis_cons (psi_set 4 (pei_lst pai_nil) sc__law_checked.nd)
    (psis_cons (psi_setF 5 (pei_var 1) sc__law_checked.nd)
    (psis_cons (psi_while PassesOwn.never (pti_peek 4 (pti_bool (pwi_and (pti_cmp op_notN op2_notN (nomark _) (pei_var 5) pei_non) (pwi_and (pti_cmp (op_notInD (hu65 hr)) op2_notInL (by rfl) (pei_var 5) (pei_var 4)) (pwi_one (pti_cmp (op_eqD (hu64 hr)) op2_eq (nomark _) (pei_ixT (pei_ixT (pei_var 2) (pei_var 5)) pei_int) pei_str))))))
      (psis_cons (psi_app 4 (pei_var 5))
      (psis_one (psi_setF 5 (pei_ixT (pei_ixT (pei_var 2) (pei_var 5)) pei_int) sc__law_checked.nd))))
    (psis_cons (psi_frz 4 (psi_setFLcR 6 rfl sc__law_checked.nd T.m_range rfl (pai_cons (pei_len T.m_len rfl (pai_cons (pei_var 2) pai_nil)) pai_nil) (Blk.mk (own := [("_law_place", 8)]) (tgt := (.nm 8)) (blkOk_by (N := n__law_checked) (sc := defScope s__law_checked) (by decide +kernel)) (by decide) (fun _ _ _ _ _ => by exact (pg_name (i := 8) sc__law_checked.nd rfl (by first | exact Or.inl rfl | exact Or.inr rfl))) (fun _ _ _ _ _ => (ptsi_one (pti_bool (pwi_and (pti_cmp (op_eqD (hu64 hr)) op2_eq (nomark _) (pei_ixT (pei_ixT (pei_var 2) (pei_var 8)) pei_int) pei_str) (pwi_one (pti_cmp (op_notInD (hu65 hr)) op2_notInL (by rfl) (pei_var 8) (pei_var 4))))))) (fun _ _ _ _ _ => (pei_var 8))) (sw_true rfl rfl rfl (by decide +kernel))))
    (psis_cons (psi_setF 7 (pei_if (pti_cmp op_notN op2_notN (nomark _) (pei_var 5) pei_non) pei_str (pei_ixL (pei_lst (pai_cons pei_str (pai_cons pei_str pai_nil))) (pei_intB T.m_int rfl (pai_cons (pei_cmp (op_eqD (hu64 hr)) op2_eq (nomark _) (pei_var 6) (pei_lst pai_nil)) pai_nil)))) sc__law_checked.nd)
    (psis_one (psi_ret (pei_tup (pai_cons (pei_var 7) (pai_cons (pei_var 3) (pai_cons (pei_var 4) (pai_cons (pei_var 6) pai_nil))))))))))))), fun ds Φ Ξ hT => ?_⟩
  obtain ⟨f, rfl, hf, h⟩ := hT
  have hl := hf.few
  unfold dF
  walk_at "sf"
  refine ⟨by omega, by omega, lcR_fm (rowAt f.cells) (dRow f.cells) rfl (by omega) (fun i hi A B hA hB => ?_) ?_⟩
  · obtain ⟨c, hc, hok⟩ := hf.at hi
    walk_at "sf"
    rw [atC hc]
    cases c with
    | row n =>
      have e1 : rowAt f.cells i = true := by unfold rowAt; rw [hc]
      have e2 : numAt f.cells i = n := by unfold numAt; rw [hc]
      walk_at "sf"
      have z := hA e1
      unfold dRow at z
      rw [e2] at z
      exact z
    | free l =>
      have e1 : rowAt f.cells i = false := by unfold rowAt; rw [hc]
      walk_at "sf"
      exact hB e1
  · walk_at "sf"
    refine ⟨ChInv2 f, ⟨f.cells.length + 1, [], f.head, rfl, ⟨List.nodup_nil, fun _ z => by simp at z⟩, hf.head, rfl, rfl⟩, fun m ρ' hρ => ?_⟩
    obtain ⟨found, l, rfl, ht, hlk, hm, hg⟩ := hρ
    have htl := ht.len
    obtain ⟨m, rfl⟩ : ∃ k, m = k + 1 := ⟨m - 1, by omega⟩
    cases l with
    | none =>
      have e1 : chain f = found := by unfold chain; rw [hg]; rfl
      have e2 : stop f = none := by unfold stop; rw [hg]; rfl
      walk_at "sf"
      refine ⟨by omega, by omega, lcR_fm (fun i => freeAt f.cells i && !found.contains i) dNat rfl (by omega) (fun i hi A B hA hB => ?_) ?_⟩
      · obtain ⟨c, hc, hok⟩ := hf.at hi
        walk_at "sf"
        rw [atC hc]
        cases c with
        | row n =>
          have e1 : freeAt f.cells i = false := by unfold freeAt; rw [hc]
          walk_at "sf"
          exact hB (by show (freeAt f.cells i && _) = false; rw [e1]; rfl)
        | free l =>
          have e1 : freeAt f.cells i = true := by unfold freeAt; rw [hc]
          walk_at "sf"
          refine ⟨(shp_ints found).shaped (by decide), ?_⟩
          simp only [contains_dNat]
          cases hk : found.contains i with
          | true =>
            walk_at "sf"
            exact hB (by show (freeAt f.cells i && !found.contains i) = false; rw [e1, hk]; rfl)
          | false =>
            walk_at "sf"
            exact hA (by show (freeAt f.cells i && !found.contains i) = true; rw [e1, hk]; rfl)
      · have el := looseL_eq f
        rw [e1] at el
        rw [← el]
        have h : Φ (.dat (.tuple [.str (word f), dRows f.cells, dNats (chain f), dNats (looseL f)])) := h
        rw [e1] at h
        walk_at "sf"
        refine ⟨(shp_ints (looseL f)).shaped (by decide), ?_⟩
        cases hs : (looseL f).isEmpty with
        | true =>
          have ew : word f = Str.ofString "whole" := by rw [wordOf_eq, e2, hs]; rfl
          rw [ew] at h
          walk_at "sf"
          exact h
        | false =>
          have ew : word f = Str.ofString "loose" := by rw [wordOf_eq, e2, hs]; rfl
          rw [ew] at h
          walk_at "sf"
          exact h
    | some p =>
      have hp : p < f.cells.length := of_decide_eq_true hlk
      obtain ⟨c, hc, hok⟩ := hf.at hp
      walk_at "sf"
      refine ⟨(shp_ints found).shaped (by decide), ?_⟩
      simp only [contains_dNat]
      cases hcn : found.contains p with
      | true =>
        have hg2 : gone f = (found, some p) := by
          rw [hg, walk, hc]
          cases c with
          | row n => rfl
          | free l2 =>
            show (if found.contains p = true then _ else _) = _
            rw [if_pos hcn]
        have e1 : chain f = found := by unfold chain; rw [hg2]
        have e2 : stop f = some p := by unfold stop; rw [hg2]
        walk_at "sf"
        refine ⟨by omega, by omega, lcR_fm (fun i => freeAt f.cells i && !found.contains i) dNat rfl (by omega) (fun i hi A B hA hB => ?_) ?_⟩
        · obtain ⟨c, hc, hok⟩ := hf.at hi
          walk_at "sf"
          rw [atC hc]
          cases c with
          | row n =>
            have e1 : freeAt f.cells i = false := by unfold freeAt; rw [hc]
            walk_at "sf"
            exact hB (by show (freeAt f.cells i && _) = false; rw [e1]; rfl)
          | free l =>
            have e1 : freeAt f.cells i = true := by unfold freeAt; rw [hc]
            walk_at "sf"
            refine ⟨(shp_ints found).shaped (by decide), ?_⟩
            simp only [contains_dNat]
            cases hk : found.contains i with
            | true =>
              walk_at "sf"
              exact hB (by show (freeAt f.cells i && !found.contains i) = false; rw [e1, hk]; rfl)
            | false =>
              walk_at "sf"
              exact hA (by show (freeAt f.cells i && !found.contains i) = true; rw [e1, hk]; rfl)
        · have el := looseL_eq f
          rw [e1] at el
          rw [← el]
          have h : Φ (.dat (.tuple [.str (word f), dRows f.cells, dNats (chain f), dNats (looseL f)])) := h
          rw [e1] at h
          have ew : word f = Str.ofString "broken" := by rw [wordOf_eq, e2]; rfl
          rw [ew] at h
          walk_at "sf"
          exact h
      | false =>
        walk_at "sf"
        rw [atC hc]
        cases c with
        | row n =>
          have hg2 : gone f = (found, some p) := by rw [hg, walk, hc]
          have e1 : chain f = found := by unfold chain; rw [hg2]
          have e2 : stop f = some p := by unfold stop; rw [hg2]
          walk_at "sf"
          refine ⟨by omega, by omega, lcR_fm (fun i => freeAt f.cells i && !found.contains i) dNat rfl (by omega) (fun i hi A B hA hB => ?_) ?_⟩
          · obtain ⟨c, hc, hok⟩ := hf.at hi
            walk_at "sf"
            rw [atC hc]
            cases c with
            | row n =>
              have e1 : freeAt f.cells i = false := by unfold freeAt; rw [hc]
              walk_at "sf"
              exact hB (by show (freeAt f.cells i && _) = false; rw [e1]; rfl)
            | free l =>
              have e1 : freeAt f.cells i = true := by unfold freeAt; rw [hc]
              walk_at "sf"
              refine ⟨(shp_ints found).shaped (by decide), ?_⟩
              simp only [contains_dNat]
              cases hk : found.contains i with
              | true =>
                walk_at "sf"
                exact hB (by show (freeAt f.cells i && !found.contains i) = false; rw [e1, hk]; rfl)
              | false =>
                walk_at "sf"
                exact hA (by show (freeAt f.cells i && !found.contains i) = true; rw [e1, hk]; rfl)
          · have el := looseL_eq f
            rw [e1] at el
            rw [← el]
            have h : Φ (.dat (.tuple [.str (word f), dRows f.cells, dNats (chain f), dNats (looseL f)])) := h
            rw [e1] at h
            have ew : word f = Str.ofString "broken" := by rw [wordOf_eq, e2]; rfl
            rw [ew] at h
            walk_at "sf"
            exact h
        | free l2 =>
          walk_at "sf"
          refine ⟨by omega, m, Nat.lt_succ_self _, found ++ [p], l2, ?_, told_snoc ht hp hcn, hok, by rw [List.length_append]; simp only [List.length_cons, List.length_nil]; omega, ?_⟩
          · rw [List.map_append]
            rfl
          · rw [hg, walk, hc]
            show (if found.contains p = true then _ else _) = _
            rw [if_neg (by rw [hcn]; decide)]
end
def tf__law_mends : Tf := mkT (α := File) (fun f => [dF f]) Fine (fun f => .lst ((mendsF f).map dW))
theorem Links.head {cs : List Cell} {ps : List Nat} {l : Lk} (h : Links cs l ps) : l = ps.head? := by
  cases ps with
  | nil => exact h
  | cons p ps => exact h.1
theorem Links.at : ∀ {ps : List Nat} {cs : List Cell} {l : Lk} {k p : Nat}, Links cs l ps → ps[k]? = some p → cs[p]? = some (.free ps[k + 1]?)
  | p :: ps, cs, l, 0, q, ⟨e, m, hm, h⟩, hk => by
    cases hk
    rw [hm, h.head]
    cases ps <;> rfl
  | p :: ps, cs, l, k + 1, q, ⟨e, m, hm, h⟩, hk => h.at (k := k) (by simpa using hk)
theorem next_at {l : List Nat} {k : Nat} (h : k ≤ l.length) : atI (l.map dNat ++ [.none]) ((k : Nat) : Int) = some (dL l[k]?) := by
  refine atI_nat ?_
  by_cases q : k < l.length
  · rw [List.getElem?_append_left (by rw [List.length_map]; exact q), List.getElem?_map, List.getElem?_eq_getElem q]
    rfl
  · have e : k = l.length := by omega
    subst e
    rw [List.getElem?_append_right (by rw [List.length_map]; exact Nat.le_refl _), List.length_map, Nat.sub_self, List.getElem?_eq_none (Nat.le_refl _)]
    rfl
theorem diffs_free {f : File} (hw : whole f = false) : diffs (mendF f).cells f.cells (mendF f).cells.length = ((freeL f.cells).filter fun i => decide ((mendF f).cells[i]? ≠ f.cells[i]?)).map fun i => (some i, .cell ((mendF f).cells.getD i (.row 0))) := by
  unfold diffs
  congr 1
  unfold freeL
  rw [List.filter_filter, mendF_len]
  refine List.filter_congr fun i hi => ?_
  have hs : Sim (mendF f).cells f.cells := by
    unfold mendF
    rw [if_neg (by rw [hw]; decide)]
    exact sim_relink _
  cases q : freeAt f.cells i with
  | true => rw [Bool.and_true]
  | false =>
    rw [Bool.and_false]
    exact decide_eq_false fun z => z (hs.out i fun y => by rw [mem_freeL.mp y] at q; cases q)
section
variable {P : Program} {w : World} {K : PySem.W.Frag} {mg : Str → Option Value} {base : Heap}
theorem ok__law_mends (T : Txt w K mg) : FnOk P w K mg base CX0 2 T.f__law_mends T.fd__law_mends ["_law_file_here"] (spP K XR0 tf__law_mends) := by
  refine okP (n := 5) T.F__law_mends sc__law_mends rfl (fun ds Φ Ξ ⟨_, e, _⟩ => by rw [e]; rfl) fun cdv A outer s H E hr => ⟨_, psis_cons (psi_if (pti_cmp (op_eqD (hu64 hr)) op2_eq (nomark _) (pei_ixT (pei_def (ok__law_checked T) (hr.mono (by decide)) T.g__law_checked T.F__law_checked.kp T.b__law_checked passE (pai_cons (pei_var 0) pai_nil) rfl) pei_int) pei_str)
      (psis_one (psi_ret (pei_lst pai_nil)))
      (psis_nil))
    (psis_cons (psi_setFLcR 1 rfl sc__law_mends.nd T.m_range rfl (pai_cons (pei_len T.m_len rfl (pai_cons (pei_ixT (pei_var 0) pei_int) pai_nil)) pai_nil) (Blk.mk (own := [("_law_place", 5)]) (tgt := (.nm 5)) (blkOk_by (N := n__law_mends) (sc := defScope s__law_mends) (by decide +kernel)) (by decide) (fun _ _ _ _ _ => by exact (pg_name (i := 5) sc__law_mends.nd rfl (by first | exact Or.inl rfl | exact Or.inr rfl))) (fun _ _ _ _ _ => (ptsi_one (pti_cmp (op_eqD (hu64 hr)) op2_eq (nomark _) (pei_ixT (pei_ixT (pei_ixT (pei_var 0) pei_int) (pei_var 5)) pei_int) pei_str))) (fun _ _ _ _ _ => (pei_var 5))) (sw_true rfl rfl rfl (by decide +kernel)))
    (psis_cons (psi_set 2 (pei_lst (pai_cons (pei_tup (pai_cons pei_non (pai_cons pei_non pai_nil))) pai_nil)) sc__law_mends.nd)
    (psis_cons (psi_forR1 (.nm 3) PassesOwn.never rfl T.m_range rfl (pai_cons (pei_len T.m_len rfl (pai_cons (pei_var 1) pai_nil)) pai_nil) (by exact (pg_name (i := 3) sc__law_mends.nd rfl (by first | exact Or.inl rfl | exact Or.inr rfl)))
      (psis_cons (psi_setF 4 (pei_tup (pai_cons pei_str (pai_cons (pei_ixL (pei_catL (pei_var 1) (pei_lst (pai_cons pei_non pai_nil))) (pei_add (pei_var 3) pei_int)) pai_nil))) sc__law_mends.nd)
      (psis_one (psi_if (pti_cmp (op_neD (hu64 hr)) op2_ne (nomark _) (pei_ixT (pei_ixT (pei_var 0) pei_int) (pei_ixL (pei_var 1) (pei_var 3))) (pei_var 4))
        (psis_one (psi_app 2 (pei_tup (pai_cons (pei_ixL (pei_var 1) (pei_var 3)) (pai_cons (pei_var 4) pai_nil)))))
        (psis_nil)))))
    (psis_one (psi_frz 2 (psi_ret (pei_catL (pei_var 2) (pei_lst (pai_cons (pei_tup (pai_cons pei_non (pai_cons (pei_ixL (pei_catL (pei_var 1) (pei_lst (pai_cons pei_non pai_nil))) pei_int) pai_nil))) pai_nil))))))))), fun ds Φ Ξ hT => ?_⟩
  obtain ⟨f, rfl, hf, h⟩ := hT
  have hl := hf.few
  have h : Φ (.lst ((mendsF f).map dW)) := h
  walk_at "sf"
  refine ⟨f, rfl, hf, ?_⟩
  unfold dChecked
  walk_at "sf"
  refine ⟨h_wordF, ?_⟩
  simp only [word_whole]
  cases hw : whole f with
  | true =>
    have e : mendsF f = [] := by
      unfold mendsF
      rw [if_pos hw]
    rw [e] at h
    walk_at "sf"
    exact h
  | false =>
    unfold dF
    walk_at "sf"
    refine ⟨by omega, by omega, lcR_fm (freeAt f.cells) dNat rfl (by omega) (fun i hi A B hA hB => ?_) ?_⟩
    · obtain ⟨c, hc, hok⟩ := hf.at hi
      walk_at "sf"
      rw [atC hc]
      cases c with
      | row n =>
        have e1 : freeAt f.cells i = false := by unfold freeAt; rw [hc]
        walk_at "sf"
        exact hB e1
      | free l =>
        have e1 : freeAt f.cells i = true := by unfold freeAt; rw [hc]
        walk_at "sf"
        exact hA e1
    · rw [show (List.range f.cells.length).filter (freeAt f.cells) = freeL f.cells from rfl]
      have hfl : (freeL f.cells).length ≤ 12 := Nat.le_trans (nodup_le freeL_nodup fun p hp => freeL_lt hp) hl
      walk_at "sf"
      refine ⟨by omega, by omega, fun i ρ => ∃ (y z : Ent), ρ = [.dat (.tuple [dL f.head, .tuple (f.cells.map dC)]), .dat (.list ((freeL f.cells).map dNat)), .ls (.tuple [.none, .none] :: (((freeL f.cells).take i).filter fun i => decide ((mendF f).cells[i]? ≠ f.cells[i]?)).map fun i => dW (some i, .cell ((mendF f).cells.getD i (.row 0)))), y, z, .no], ⟨_, _, rfl⟩, fun i ρ' hi hρ => ?_, fun ρ' hρ => ?_⟩
      · obtain ⟨y, z, rfl⟩ := hρ
        walk_at "sf"
        have hp : (freeL f.cells)[i]? = some (freeL f.cells)[i] := List.getElem?_eq_getElem hi
        generalize (freeL f.cells)[i] = p at hp
        have hm := (mendF_links hw).at hp
        have hpl : p < f.cells.length := freeL_lt (List.mem_of_getElem? hp)
        obtain ⟨c, hc, hok⟩ := hf.at hpl
        rw [show ((i : Int) + 1) = ((i + 1 : Nat) : Int) by omega, next_at (by omega), atN hp]
        unfold dNat
        walk_at "sf"
        rw [atC hc]
        have hD : (((freeL f.cells).take (i + 1)).filter fun i => decide ((mendF f).cells[i]? ≠ f.cells[i]?)) = (((freeL f.cells).take i).filter fun i => decide ((mendF f).cells[i]? ≠ f.cells[i]?)) ++ (if decide ((mendF f).cells[p]? ≠ f.cells[p]?) = true then [p] else []) := by
          rw [List.take_add_one, hp, List.filter_append]
          congr 1
          show List.filter _ [p] = _
          rw [List.filter_cons]
          rfl
        have hlen : (((freeL f.cells).take i).filter fun i => decide ((mendF f).cells[i]? ≠ f.cells[i]?)).length ≤ 12 := by
          have h1 := List.length_filter_le (fun i => decide ((mendF f).cells[i]? ≠ f.cells[i]?)) ((freeL f.cells).take i)
          have h2 := List.length_take_le i (freeL f.cells)
          omega
        have hg : (mendF f).cells.getD p (.row 0) = .free (freeL f.cells)[i + 1]? := by
          rw [List.getD_eq_getElem?_getD, hm]
          rfl
        rw [hD]
        walk_at "sf"
        simp only [← dC_free]
        refine ⟨by omega, h_dC _, ?_⟩
        simp only [v_dC]
        by_cases q : c = .free (freeL f.cells)[i + 1]?
        · have e : decide ((mendF f).cells[p]? ≠ f.cells[p]?) = false := decide_eq_false fun z => z (by rw [hm, hc, q])
          simp only [e, decide_eq_true q]
          walk_at "sf"
          exact ⟨_, _, rfl⟩
        · have e : decide ((mendF f).cells[p]? ≠ f.cells[p]?) = true := decide_eq_true fun z => q (by rw [hm, hc] at z; cases z; rfl)
          simp only [e, decide_eq_false q]
          walk_at "sf"
          simp only [List.map_append, List.map_cons, List.map_nil, hg]
          exact ⟨by omega, _, _, rfl⟩
      · obtain ⟨y, z, rfl⟩ := hρ
        rw [List.take_length]
        have e0 : atI ((freeL f.cells).map dNat ++ [.none]) 0 = some (dL (freeL f.cells)[0]?) := next_at (k := 0) (by omega)
        have hlen : ((freeL f.cells).filter fun i => decide ((mendF f).cells[i]? ≠ f.cells[i]?)).length ≤ 12 := by
          have h1 := List.length_filter_le (fun i => decide ((mendF f).cells[i]? ≠ f.cells[i]?)) (freeL f.cells)
          omega
        walk_at "sf"
        rw [e0]
        walk_at "sf"
        refine ⟨by omega, by omega, ?_⟩
        have e : mendsF f = [(none, .link none)] ++ diffs (mendF f).cells f.cells (mendF f).cells.length ++ [(none, .link (mendF f).head)] := by
          unfold mendsF
          rw [if_neg (by rw [hw]; decide)]
        have eh : (mendF f).head = (freeL f.cells)[0]? := by
          rw [(mendF_links hw).head]
          cases freeL f.cells <;> rfl
        rw [e, eh, diffs_free hw, List.map_append, List.map_append, List.map_map] at h
        exact h
end
def tf__law_writes : Tf := mkTR (α := File × Rule × Nat × Deed) (fun a => [dF a.1, dRule a.2.1, .int (a.2.2.1 : Int), dDeed a.2.2.2]) (fun a => Fine a.1 ∧ deedOk a.2.2.2 = true) (fun a r => r.frz = (optW (writesF a.1 a.2.1 a.2.2.1 a.2.2.2)).frz)
theorem word_is {d : Deed} (h : deedOk d = true) : (dwd d == sMend) = (match d with | .mend => true | _ => false) ∧ (dwd d == sTake) = (match d with | .take _ => true | _ => false) ∧ (dwd d == sGive) = (match d with | .give _ => true | _ => false) := by
  cases d with
  | take n => exact ⟨we_take_mend, ws_take, we_take_give⟩
  | give n => exact ⟨we_give_mend, we_give_take, ws_give⟩
  | mend => exact ⟨ws_mend, we_mend_take, we_mend_give⟩
  | other w n =>
    have h : (PyData.strOk w && !(w == sTake) && !(w == sGive) && !(w == sMend)) = true := h
    show (w == sMend) = false ∧ (w == sTake) = false ∧ (w == sGive) = false
    revert h
    cases (w == sTake) <;> cases (w == sGive) <;> cases (w == sMend) <;> cases (PyData.strOk w) <;> decide
theorem h_dwd {d : Deed} (h : deedOk d = true) : SeqAt.shaped (.str (dwd d)) = true := by
  cases d with
  | take n => exact hs_take
  | give n => exact hs_give
  | mend => exact hs_mend
  | other w n =>
    have h : (PyData.strOk w && !(w == sTake) && !(w == sGive) && !(w == sMend)) = true := h
    refine h_str (x := w) ?_
    revert h
    cases (w == sTake) <;> cases (w == sGive) <;> cases (w == sMend) <;> cases (PyData.strOk w) <;> decide
section
variable {P : Program} {w : World} {K : PySem.W.Frag} {mg : Str → Option Value} {base : Heap}
theorem ok__law_writes (T : Txt w K mg) : FnOk P w K mg base CX0 3 T.f__law_writes T.fd__law_writes ["_law_file_here", "_law_rule_here", "_law_room", "_law_deed_here"] (spP K XR0 tf__law_writes) := by
  refine okP (n := 4) T.F__law_writes sc__law_writes rfl (fun ds Φ Ξ ⟨_, e, _⟩ => by rw [e]; rfl) fun cdv A outer s H E hr => ⟨_, psis_cons (psi_unpack [4, 5] (pei_var 0) (by exact (pg_tup rfl (pgs_cons (pg_name (i := 4) sc__law_writes.nd rfl (by first | exact Or.inl rfl | exact Or.inr rfl)) (pgs_cons (pg_name (i := 5) sc__law_writes.nd rfl (by first | exact Or.inl rfl | exact Or.inr rfl)) pgs_nil)))))
    (psis_cons (psi_if (pti_cmp (op_eqD (hu64 hr)) op2_eq (nomark _) (pei_ixT (pei_var 3) pei_int) pei_str)
      (psis_one (psi_ret (pei_def (ok__law_mends T) (hr.mono (by decide)) T.g__law_mends T.F__law_mends.kp T.b__law_mends passE (pai_cons (pei_var 0) pai_nil) rfl)))
      (psis_nil))
    (psis_cons (psi_if (pti_cmp (op_eqD (hu64 hr)) op2_eq (nomark _) (pei_ixT (pei_var 3) pei_int) pei_str)
      (psis_cons (psi_if (pti_bool (pwi_or (pti_not (pti_chain op_le op_le op2_le op2_le pei_int (pei_ixT (pei_var 3) pei_int) pei_int)) (pwi_one (pti_bool (pwi_and (pti_cmp op_isN op2_isN (nomark _) (pei_var 4) pei_non) (pwi_one (pti_cmp op_ge op2_ge (nomark _) (pei_len T.m_len rfl (pai_cons (pei_var 5) pai_nil)) (pei_var 2))))))))
        (psis_one (psi_ret pei_non))
        (psis_nil))
      (psis_cons (psi_if (pti_cmp op_isN op2_isN (nomark _) (pei_var 4) pei_non)
        (psis_one (psi_ret (pei_lst (pai_cons (pei_tup (pai_cons (pei_len T.m_len rfl (pai_cons (pei_var 5) pai_nil)) (pai_cons (pei_tup (pai_cons pei_str (pai_cons (pei_ixT (pei_var 3) pei_int) pai_nil))) pai_nil))) pai_nil))))
        (psis_nil))
      (psis_cons (psi_setF 6 (pei_if (pti_cmp (op_eqD (hu64 hr)) op2_eq (nomark _) (pei_ixT (pei_ixT (pei_var 5) (pei_var 4)) pei_int) pei_str) (pei_ixT (pei_ixT (pei_var 5) (pei_var 4)) pei_int) pei_non) sc__law_writes.nd)
      (psis_cons (psi_setF 7 (pei_lst (pai_cons (pei_tup (pai_cons pei_non (pai_cons (pei_var 6) pai_nil))) (pai_cons (pei_tup (pai_cons (pei_var 4) (pai_cons (pei_tup (pai_cons pei_str (pai_cons (pei_ixT (pei_var 3) pei_int) pai_nil))) pai_nil))) pai_nil))) sc__law_writes.nd)
      (psis_one (psi_ret (pei_if (pti_cmp (op_eqD (hu64 hr)) op2_eq (nomark _) (pei_ixT (pei_var 1) pei_int) pei_str) (pei_var 7) (pei_rev (pei_var 7)))))))))
      (psis_nil))
    (psis_cons (psi_if (pti_bool (pwi_or (pti_cmp (op_neD (hu64 hr)) op2_ne (nomark _) (pei_ixT (pei_var 3) pei_int) pei_str) (pwi_or (pti_not (pti_chain op_le op_lt op2_le op2_lt pei_int (pei_ixT (pei_var 3) pei_int) (pei_len T.m_len rfl (pai_cons (pei_var 5) pai_nil)))) (pwi_one (pti_cmp (op_neD (hu64 hr)) op2_ne (nomark _) (pei_ixT (pei_ixT (pei_var 5) (pei_ixT (pei_var 3) pei_int)) pei_int) pei_str)))))
      (psis_one (psi_ret pei_non))
      (psis_nil))
    (psis_cons (psi_setF 7 (pei_lst (pai_cons (pei_tup (pai_cons pei_non (pai_cons (pei_ixT (pei_var 3) pei_int) pai_nil))) (pai_cons (pei_tup (pai_cons (pei_ixT (pei_var 3) pei_int) (pai_cons (pei_tup (pai_cons pei_str (pai_cons (pei_var 4) pai_nil))) pai_nil))) pai_nil))) sc__law_writes.nd)
    (psis_one (psi_ret (pei_if (pti_cmp (op_eqD (hu64 hr)) op2_eq (nomark _) (pei_ixT (pei_var 1) pei_int) pei_str) (pei_var 7) (pei_rev (pei_var 7))))))))), fun ds Φ Ξ hT => ?_⟩
  obtain ⟨⟨f, r, room, d⟩, rfl, ⟨hf, hd⟩, h⟩ := hT
  have hf : Fine f := hf
  have hd : deedOk d = true := hd
  have h : ∀ q : Res, q.frz = (optW (writesF f r room d)).frz → Φ q := h
  unfold dF dRule
  cases d with
  | mend =>
    unfold dDeed
    walk_at "sf"
    exact ⟨f, rfl, hf, h _ rfl⟩
  | other w n =>
    have e1 : (w == sMend) = false := (word_is hd).1
    have e2 : (w == sTake) = false := (word_is hd).2.1
    have e3 : (w == sGive) = false := (word_is hd).2.2
    have hs : SeqAt.shaped (.str w) = true := h_dwd hd
    unfold dDeed
    walk_at "sf"
    refine ⟨hs, ?_⟩
    simp only [e1]
    walk_at "sf"
    refine ⟨hs, ?_⟩
    simp only [e2]
    walk_at "sf"
    refine ⟨hs, ?_⟩
    simp only [e3]
    exact h _ rfl
  | take n =>
    have h : ∀ q : Res, q.frz = (optW (if 0 ≤ n ∧ n ≤ 999 then takeW f r room n.toNat else none)).frz → Φ q := h
    unfold dDeed
    walk_at "sf"
    by_cases h1 : 0 ≤ n
    · rw [decide_eq_true h1]
      by_cases h2 : n ≤ 999
      · rw [decide_eq_true h2]
        rw [if_pos ⟨h1, h2⟩] at h
        unfold takeW at h
        have en : PyData.int n = .int ((n.toNat : Nat) : Int) := by rw [Int.toNat_of_nonneg h1]
        cases hh : f.head with
        | none =>
          rw [hh] at h
          walk_at "sf"
          by_cases h3 : f.cells.length < room
          · rw [decide_eq_false (show ¬ room ≤ f.cells.length by omega)]
            have h : ∀ q : Res, q.frz = (optW (if f.cells.length < room then some [((some f.cells.length, .cell (.row n.toNat)) : Write)] else none)).frz → Φ q := h
            rw [if_pos h3] at h
            walk_at "sf"
            refine h _ ?_
            rw [en]
            rfl
          · rw [decide_eq_true (show room ≤ f.cells.length by omega)]
            have h : ∀ q : Res, q.frz = (optW (if f.cells.length < room then some [((some f.cells.length, .cell (.row n.toNat)) : Write)] else none)).frz → Φ q := h
            rw [if_neg h3] at h
            exact h _ rfl
        | some p =>
          rw [hh] at h
          have h : ∀ q : Res, q.frz = (optW (some (inOrder r.1 (none, .link (freeLk f.cells p)) (some p, .cell (.row n.toNat))))).frz → Φ q := h
          have hp : p < f.cells.length := of_decide_eq_true (by have := hf.head; rw [hh] at this; exact this)
          obtain ⟨c, hc, _⟩ := hf.at hp
          walk_at "sf"
          rw [atC hc]
          unfold freeLk at h
          rw [hc] at h
          unfold inOrder at h
          cases c with
          | row m =>
            walk_at "sf"
            cases hr1 : r.1 with
            | true =>
              rw [hr1] at h
              refine h _ ?_
              rw [en]
              rfl
            | false =>
              rw [hr1] at h
              refine h _ ?_
              rw [en]
              rfl
          | free l =>
            walk_at "sf"
            cases hr1 : r.1 with
            | true =>
              rw [hr1] at h
              refine h _ ?_
              rw [en]
              rfl
            | false =>
              rw [hr1] at h
              refine h _ ?_
              rw [en]
              rfl
      · rw [decide_eq_false h2]
        rw [if_neg (fun z => h2 z.2)] at h
        exact h _ rfl
    · rw [decide_eq_false h1]
      rw [if_neg (fun z => h1 z.1)] at h
      exact h _ rfl
  | give n =>
    have h : ∀ q : Res, q.frz = (optW (if 0 ≤ n ∧ n < (f.cells.length : Int) ∧ rowAt f.cells n.toNat = true then some (inOrder r.2 (none, .link (some n.toNat)) (some n.toNat, .cell (.free f.head))) else none)).frz → Φ q := h
    unfold dDeed
    walk_at "sf"
    by_cases h1 : 0 ≤ n
    · rw [decide_eq_true h1]
      by_cases h2 : n < (f.cells.length : Int)
      · rw [decide_eq_true h2]
        obtain ⟨k, rfl⟩ : ∃ k : Nat, n = (k : Int) := ⟨n.toNat, by omega⟩
        obtain ⟨c, hc, _⟩ := hf.at (show k < f.cells.length by omega)
        rw [Int.toNat_natCast] at h
        walk_at "sf"
        rw [atC hc]
        unfold rowAt at h
        rw [hc] at h
        cases c with
        | row m =>
          rw [if_pos ⟨h1, h2, rfl⟩] at h
          unfold inOrder at h
          walk_at "sf"
          cases hr2 : r.2 with
          | true =>
            rw [hr2] at h
            exact h _ rfl
          | false =>
            rw [hr2] at h
            exact h _ rfl
        | free l =>
          rw [if_neg (fun z => by cases z.2.2)] at h
          walk_at "sf"
          exact h _ rfl
      · rw [decide_eq_false h2]
        rw [if_neg (fun z => h2 z.2.1)] at h
        exact h _ rfl
    · rw [decide_eq_false h1]
      rw [if_neg (fun z => h1 z.1)] at h
      exact h _ rfl
end
def tf__law_behind : Tf := mkT (α := File × Rule × Nat × Step × File) (fun a => [dF a.1, dRule a.2.1, .int (a.2.2.1 : Int), dStep a.2.2.2.1]) (fun a => Fine a.1 ∧ a.2.2.1 ≤ 12 ∧ deedOk a.2.2.2.1.1 = true ∧ steppedF a.1 a.2.1 a.2.2.1 a.2.2.2.1 = some a.2.2.2.2) (fun a => .dat (dF a.2.2.2.2))
theorem behind_loop {f : File} {ws : List Write} {Φ : Res → Prop} {Ξ : Exn → Prop} {a b c d : Ent} {ws0 : PyData} {Nx : Rho → Prop} {wb : WS} (hb : wb = wIfS (wTest (wOp sIsN (wVar 7) (wC PyData.none))) (wSetF 5 (wVar 8)) (wIfS (wPeekT 6 (wTest (wOp sLt (wVar 7) (wCall sLen (wCons (wVar 6) wNil))))) (wStore 6 (wVar 8) (wVar 7)) (wApp 6 (wVar 8)))) (hf : Fine f) (hw : wsOk f.cells.length ws)
    (q : ∀ y z, Nx [a, b, c, d, .dat ws0, .dat (dL (ws.foldl put f).head), .ls ((ws.foldl put f).cells.map dC), y, z]) :
    ForI (.tp [7, 8]) wb (ws.map dW) [a, b, c, d, .dat ws0, .dat (dL f.head), .ls (f.cells.map dC), .no, .no] { nx := Nx, rt := Φ, xc := Ξ } := by
  subst hb
  refine ⟨fun i ρ => ∃ y z, ρ = [a, b, c, d, .dat ws0, .dat (dL ((ws.take i).foldl put f).head), .ls (((ws.take i).foldl put f).cells.map dC), y, z], ⟨_, _, rfl⟩, fun i d' ρ' hd hρ => ?_, fun ρ' hρ => ?_⟩
  · obtain ⟨y, z, rfl⟩ := hρ
    rw [List.getElem?_map] at hd
    cases hwi : ws[i]? with
    | none => rw [hwi] at hd; cases hd
    | some w =>
      rw [hwi] at hd
      cases hd
      obtain ⟨h1, h2⟩ := wsOk_at hf hw hwi
      have e1 : (ws.take (i + 1)).foldl put f = put ((ws.take i).foldl put f) w := by
        rw [List.take_add_one, hwi, List.foldl_append]
        rfl
      simp only [e1]
      generalize (ws.take i).foldl put f = g at h1 h2
      obtain ⟨p, v⟩ := w
      refine ⟨_, rfl, rfl, ?_⟩
      unfold setsE setsE setsE
      cases p with
      | none =>
        cases v with
        | cell c => rcases h2 with h2 | h2 <;> cases h2
        | link l =>
          walk_at "sf"
          exact ⟨_, _, rfl⟩
      | some p =>
        cases v with
        | link l => rcases h2 with h2 | h2 <;> cases h2
        | cell k =>
          walk_at "sf"
          by_cases hp : p < g.cells.length
          · have ep : put g (some p, .cell k) = ⟨g.head, g.cells.set p k⟩ := by rw [put_cell, if_neg (by omega)]
            rw [decide_eq_true hp, if_pos rfl]
            simp only [ep, List.map_set]
            exact ⟨_, p, rfl, ixN_of hp, _, _, rfl⟩
          · have hpe : p = g.cells.length := by
              rcases h2 with h2 | h2
              · have h2 : (decide (p < g.cells.length) && cellOk g.cells.length k) = true := h2
                rw [decide_eq_false hp] at h2
                cases h2
              · cases k with
                | free l => cases h2
                | row j =>
                  have h2 : (decide (p = g.cells.length) && decide (g.cells.length < 12) && decide (j ≤ 999)) = true := h2
                  rw [Bool.and_eq_true, Bool.and_eq_true] at h2
                  exact of_decide_eq_true h2.1.1
            have ep : put g (some p, .cell k) = ⟨g.head, g.cells ++ [k]⟩ := by rw [put_cell, if_pos hpe]
            have hfew := h1.few
            rw [decide_eq_false hp, if_neg (by decide)]
            simp only [ep, List.map_append, List.map_cons, List.map_nil]
            exact ⟨by omega, _, _, rfl⟩
  · obtain ⟨y, z, rfl⟩ := hρ
    rw [List.length_map, List.take_length]
    exact q y z
section
variable {P : Program} {w : World} {K : PySem.W.Frag} {mg : Str → Option Value} {base : Heap}
theorem ok__law_behind (T : Txt w K mg) : FnOk P w K mg base CX0 4 T.f__law_behind T.fd__law_behind ["_law_file_here", "_law_rule_here", "_law_room", "_law_step_here"] (spP K XR0 tf__law_behind) := by
  refine okP (n := 5) T.F__law_behind sc__law_behind rfl (fun ds Φ Ξ ⟨_, e, _⟩ => by rw [e]; rfl) fun cdv A outer s H E hr => ⟨_, psis_cons (psi_setF 4 (pei_def (ok__law_writes T) (hr.mono (by decide)) T.g__law_writes T.F__law_writes.kp T.b__law_writes passE (pai_cons (pei_var 0) (pai_cons (pei_var 1) (pai_cons (pei_var 2) (pai_cons (pei_ixT (pei_var 3) pei_int) pai_nil)))) rfl) sc__law_behind.nd)
    (psis_cons (psi_setF 5 (pei_ixT (pei_var 0) pei_int) sc__law_behind.nd)
    (psis_cons (psi_set 6 (pei_list T.m_list rfl (pai_cons (pei_ixT (pei_var 0) pei_int) pai_nil)) sc__law_behind.nd)
    (psis_cons (psi_forL (.tp [7, 8]) PassesOwn.never rfl (pei_slL (pei_var 4) poi_none (poi_some (pei_if (pti_cmp op_isN op2_isN (nomark _) (pei_ixT (pei_var 3) pei_int) pei_non) (pei_len T.m_len rfl (pai_cons (pei_var 4) pai_nil)) (pei_ixT (pei_var 3) pei_int)))) (by exact (pg_tup rfl (pgs_cons (pg_name (i := 7) sc__law_behind.nd rfl (by first | exact Or.inl rfl | exact Or.inr rfl)) (pgs_cons (pg_name (i := 8) sc__law_behind.nd rfl (by first | exact Or.inl rfl | exact Or.inr rfl)) pgs_nil))))
      (psis_one (psi_if (pti_cmp op_isN op2_isN (nomark _) (pei_var 7) pei_non)
        (psis_one (psi_setF 5 (pei_var 8) sc__law_behind.nd))
        (psis_one (psi_if (pti_peek 6 (pti_cmp op_lt op2_lt (nomark _) (pei_var 7) (pei_len T.m_len rfl (pai_cons (pei_var 6) pai_nil))))
          (psis_one (psi_store 6 (pei_var 8) (by exact (pg_sub (pv 6) (pei_var 7) set_list))))
          (psis_one (psi_app 6 (pei_var 8))))))))
    (psis_one (psi_frz 6 (psi_ret (pei_tup (pai_cons (pei_var 5) (pai_cons (pei_tuple T.m_tuple rfl (pai_cons (pei_var 6) pai_nil)) pai_nil))))))))), fun ds Φ Ξ hT => ?_⟩
  obtain ⟨⟨f, r, room, ⟨d, m⟩, g⟩, rfl, ⟨hf, hro, hd, hs⟩, h⟩ := hT
  have hf : Fine f := hf
  have hro : room ≤ 12 := hro
  have hd : deedOk d = true := hd
  have hs : steppedF f r room (d, m) = some g := hs
  have h : Φ (.dat (dF g)) := h
  unfold steppedF at hs
  have hs : (match writesF f r room d with | none => none | some ws => doneF f ws m) = some g := hs
  cases hw : writesF f r room d with
  | none => rw [hw] at hs; cases hs
  | some ws =>
    rw [hw] at hs
    have hwo := writesF_ok hf hro hw
    unfold dStep
    walk_at "sf"
    refine ⟨(f, r, room, d), rfl, ⟨hf, hd⟩, fun q hq => ?_⟩
    have hq : q.frz = .list (ws.map dW) := by
      rw [hq]
      show (optW (writesF f r room d)).frz = _
      rw [hw]
      rfl
    simp only [hq]
    unfold dF
    walk_at "sf"
    cases m with
    | none =>
      have hs : some (ws.foldl put f) = some g := hs
      cases hs
      unfold dMany
      walk_at "sf"
      rw [cut_to (by rw [List.length_map]; exact Nat.le_refl _), List.take_of_length_le (by rw [List.length_map]; exact Nat.le_refl _)]
      refine behind_loop rfl hf hwo fun y z => ?_
      walk_at "sf"
      exact h
    | some k =>
      have hs : (if 0 ≤ k ∧ k ≤ (ws.length : Int) then some ((ws.take k.toNat).foldl put f) else none) = some g := hs
      split at hs
      · rename_i hk
        cases hs
        obtain ⟨j, rfl⟩ : ∃ j : Nat, k = (j : Int) := ⟨k.toNat, by omega⟩
        rw [Int.toNat_natCast] at h
        unfold dMany
        walk_at "sf"
        rw [cut_to (by rw [List.length_map]; omega), ← List.map_take]
        refine behind_loop rfl hf (wsOk_take hwo) fun y z => ?_
        walk_at "sf"
        exact h
      · cases hs
end
def tf__law_deed : Tf := mkTR (α := File × Rule × Nat) (fun a => [dF a.1, dRule a.2.1, .int (a.2.2 : Int)]) (fun a => Fine a.1) (fun a r => ∃ d ws, r = .dat (dDeed d) ∧ deedOk d = true ∧ isOther d = false ∧ writesF a.1 a.2.1 a.2.2 d = some ws)
theorem isNone_optW {o : Option (List Write)} : isNone (optW o).frz = o.isNone := by cases o <;> rfl
theorem take_at {a b v : Nat} (h : v < 2) (ha : a < 4) (hb : b < 1000) : ∃ k : Nat, k < 1000 ∧ atI [PyData.int (a : Int), .int (b : Int)] ((v : Nat) : Int) = some (.int (k : Int)) := by
  cases v with
  | zero => exact ⟨a, by omega, atI_nat (j := 0) rfl⟩
  | succ k =>
    cases k with
    | zero => exact ⟨b, hb, atI_nat (j := 1) rfl⟩
    | succ k => omega
theorem give_some {f : File} {r : Rule} {n p : Nat} (hp : p ∈ rowsL f.cells) : ∃ ws, writesF f r n (.give (p : Int)) = some ws := by
  have h1 := List.mem_filter.mp hp
  have h2 := List.mem_range.mp h1.1
  refine ⟨_, if_pos ⟨by omega, by omega, ?_⟩⟩
  rw [Int.toNat_natCast]
  exact h1.2
section
variable {P : Program} {w : World} {K : PySem.W.Frag} {mg : Str → Option Value} {base : Heap}
theorem ok__law_deed (T : Txt w K mg) : FnOk P w K mg base CX0 4 T.f__law_deed T.fd__law_deed ["_law_row", "_law_file_here", "_law_rule_here", "_law_room"] (spR K XR0 tf__law_deed) := by
  refine okR (n := 4) T.F__law_deed sc__law_deed rfl (fun ds Φ Ξ ⟨_, e, _⟩ => by rw [e]; rfl) fun cdv A outer s H E hr => ⟨_, psis_cons (psi_setFLcR 4 rfl sc__law_deed.nd T.m_range rfl (pai_cons (pei_len T.m_len rfl (pai_cons (pei_ixT (pei_var 1) pei_int) pai_nil)) pai_nil) (Blk.mk (own := [("_law_place", 7)]) (tgt := (.nm 7)) (blkOk_by (N := n__law_deed) (sc := defScope s__law_deed) (by decide +kernel)) (by decide) (fun _ _ _ _ _ => by exact (pg_name (i := 7) sc__law_deed.nd rfl (by first | exact Or.inl rfl | exact Or.inr rfl))) (fun _ _ _ _ _ => (ptsi_one (pti_cmp (op_eqD (hu64 hr)) op2_eq (nomark _) (pei_ixT (pei_ixT (pei_ixT (pei_var 1) pei_int) (pei_var 7)) pei_int) pei_str))) (fun _ _ _ _ _ => (pei_var 7))) (sw_true rfl rfl rfl (by decide +kernel)))
    (psis_cons (psi_setF 5 (pei_tup (pai_cons pei_str (pai_cons (pei_ixL (pei_lst (pai_cons (pei_defR 0 (ok__law_taken T) (hr.mono (by decide)) T.g__law_taken T.F__law_taken.kp T.b__law_taken passE (pai_cons pei_int pai_nil) rfl) (pai_cons (pei_defR 0 (ok__law_taken T) (hr.mono (by decide)) T.g__law_taken T.F__law_taken.kp T.b__law_taken passE (pai_cons pei_int pai_nil) rfl) pai_nil))) (pei_defR 0 (ok__law_taken T) (hr.mono (by decide)) T.g__law_taken T.F__law_taken.kp T.b__law_taken passE (pai_cons pei_int pai_nil) rfl)) pai_nil))) sc__law_deed.nd)
    (psis_cons (psi_setF 6 (pei_defR 0 (ok__law_taken T) (hr.mono (by decide)) T.g__law_taken T.F__law_taken.kp T.b__law_taken passE (pai_cons pei_int pai_nil) rfl) sc__law_deed.nd)
    (psis_cons (psi_if (pti_cmp (op_eqD (hu64 hr)) op2_eq (nomark _) (pei_var 6) pei_int)
      (psis_one (psi_ret (pei_tup (pai_cons pei_str pai_nil))))
      (psis_nil))
    (psis_cons (psi_if (pti_bool (pwi_and (pti_cmp (op_neD (hu64 hr)) op2_ne (nomark _) (pei_var 4) (pei_lst pai_nil)) (pwi_one (pti_bool (pwi_or (pti_cmp op_lt op2_lt (nomark _) (pei_var 6) pei_int) (pwi_one (pti_cmp op_isN op2_isN (nomark _) (pei_def (ok__law_writes T) (hr.mono (by decide)) T.g__law_writes T.F__law_writes.kp T.b__law_writes passE (pai_cons (pei_var 1) (pai_cons (pei_var 2) (pai_cons (pei_var 3) (pai_cons (pei_var 5) pai_nil)))) rfl) pei_non)))))))
      (psis_one (psi_ret (pei_tup (pai_cons pei_str (pai_cons (pei_ixL (pei_var 4) (pei_defR 0 (ok__law_taken T) (hr.mono (by decide)) T.g__law_taken T.F__law_taken.kp T.b__law_taken passE (pai_cons (pei_len T.m_len rfl (pai_cons (pei_var 4) pai_nil)) pai_nil) rfl)) pai_nil)))))
      (psis_nil))
    (psis_one (psi_ret (pei_if (pti_cmp op_notN op2_notN (nomark _) (pei_def (ok__law_writes T) (hr.mono (by decide)) T.g__law_writes T.F__law_writes.kp T.b__law_writes passE (pai_cons (pei_var 1) (pai_cons (pei_var 2) (pai_cons (pei_var 3) (pai_cons (pei_var 5) pai_nil)))) rfl) pei_non) (pei_var 5) (pei_tup (pai_cons pei_str pai_nil))))))))), fun ds Φ Ξ hT => ?_⟩
  obtain ⟨⟨f, r, room⟩, rfl, hf, h⟩ := hT
  have hf : Fine f := hf
  have hl := hf.few
  have h : ∀ d ws, deedOk d = true → isOther d = false → writesF f r room d = some ws → Φ (.dat (dDeed d)) := fun d ws h1 h2 h3 => h _ ⟨d, ws, rfl, h1, h2, h3⟩
  unfold dF
  walk_at "sf"
  refine ⟨by omega, by omega, lcR_fm (rowAt f.cells) dNat rfl (by omega) (fun i hi A B hA hB => ?_) ?_⟩
  · obtain ⟨c, hc, hok⟩ := hf.at hi
    walk_at "sf"
    rw [atC hc]
    cases c with
    | row n =>
      have e1 : rowAt f.cells i = true := by unfold rowAt; rw [hc]
      walk_at "sf"
      exact hA e1
    | free l =>
      have e1 : rowAt f.cells i = false := by unfold rowAt; rw [hc]
      walk_at "sf"
      exact hB e1
  · rw [show (List.range f.cells.length).filter (rowAt f.cells) = rowsL f.cells from rfl]
    walk_at "sf"
    refine taken 4 rfl (by omega) fun a ha => taken 1000 rfl (by omega) fun b hb => taken 2 rfl (by omega) fun v hv => ?_
    obtain ⟨k, hk, e⟩ := take_at hv ha hb
    walk_at "sf"
    rw [e]
    walk_at "sf"
    refine taken 8 rfl (by omega) fun u hu => ?_
    walk_at "sf"
    have hmend : Φ (.dat (.tuple [.str (Str.ofString "mend")])) := h .mend _ rfl rfl rfl
    have hgive : (rowsL f.cells).isEmpty = false → tf__law_taken [.int ((rowsL f.cells).length : Int)] (fun y => sIxL (.list ((rowsL f.cells).map dNat)) y.frz fun r => Φ (.dat (.tuple [.str (Str.ofString "give"), r.frz]))) Ξ := fun hne => by
      have hz : 1 ≤ (rowsL f.cells).length := by
        cases hq : rowsL f.cells with
        | nil => rw [hq] at hne; cases hne
        | cons x xs => rw [List.length_cons]; omega
      have hz2 := List.length_filter_le (rowAt f.cells) (List.range f.cells.length)
      rw [List.length_range] at hz2
      have hz2 : (rowsL f.cells).length ≤ f.cells.length := hz2
      refine taken _ rfl ⟨hz, by omega⟩ fun j hj => ?_
      have hp : (rowsL f.cells)[j]? = some (rowsL f.cells)[j] := List.getElem?_eq_getElem hj
      generalize (rowsL f.cells)[j] = p at hp
      obtain ⟨ws, hws⟩ := give_some (f := f) (r := r) (n := room) (List.mem_of_getElem? hp)
      walk_at "sf"
      rw [atN hp]
      walk_at "sf"
      exact h (.give (p : Int)) ws rfl rfl hws
    have hlast : tf__law_writes [.tuple [dL f.head, .tuple (f.cells.map dC)], dRule r, .int (room : Int), .tuple [.str (Str.ofString "take"), .int (k : Int)]] (fun x => if (!isNone x.frz) = true then Φ (.dat (.tuple [.str (Str.ofString "take"), .int (k : Int)])) else Φ (.dat (.tuple [.str (Str.ofString "mend")]))) Ξ := by
      refine ⟨(f, r, room, .take (k : Int)), rfl, ⟨hf, rfl⟩, fun q hq => ?_⟩
      have hq : q.frz = (optW (writesF f r room (.take (k : Int)))).frz := hq
      simp only [hq, isNone_optW]
      cases hw : writesF f r room (.take (k : Int)) with
      | none => exact hmend
      | some ws => exact h (.take (k : Int)) ws rfl rfl hw
    cases ((u : Int) == 0) with
    | true => exact hmend
    | false =>
      walk_at "sf"
      refine ⟨(shp_ints (rowsL f.cells)).shaped (by decide), ?_⟩
      cases hne : (rowsL f.cells).isEmpty with
      | true => exact hlast
      | false =>
        walk_at "sf"
        cases decide ((u : Int) < 4) with
        | true => exact hgive hne
        | false =>
          walk_at "sf"
          refine ⟨(f, r, room, .take (k : Int)), rfl, ⟨hf, rfl⟩, fun q hq => ?_⟩
          show if isNone q.frz = true then _ else _
          cases isNone q.frz with
          | true => exact hgive hne
          | false => exact hlast
end
def tf__law_step : Tf := mkTR (α := File × Rule × Nat × Bool) (fun a => [dF a.1, dRule a.2.1, .int (a.2.2.1 : Int), .bool a.2.2.2]) (fun a => Fine a.1 ∧ a.2.2.1 ≤ 12) (fun a r => ∃ s g ws, r = .dat (dStep s) ∧ deedOk s.1 = true ∧ isOther s.1 = false ∧ writesF a.1 a.2.1 a.2.2.1 s.1 = some ws ∧ doneF a.1 ws s.2 = some g ∧ (a.2.2.2 = true → g = ws.foldl put a.1))
theorem none_or_at {v n : Nat} (h : v < 2) : atI [PyData.none, .int (n : Int)] ((v : Nat) : Int) = some (dMany (if v = 0 then none else some (n : Int))) := by
  cases v with
  | zero => exact atI_nat (j := 0) rfl
  | succ k =>
    cases k with
    | zero => exact atI_nat (j := 1) rfl
    | succ k => omega
theorem wsOk_len {n : Nat} {ws : List Write} {f : File} {r : Rule} {room : Nat} {d : Deed} (h : Fine f) (e : writesF f r room d = some ws) : ws.length ≤ 14 := by
  cases d with
  | mend =>
    cases e
    exact mends_few h
  | other w n => cases e
  | give p =>
    have e : (if 0 ≤ p ∧ p < (f.cells.length : Int) ∧ rowAt f.cells p.toNat = true then some (inOrder r.2 (none, .link (some p.toNat)) (some p.toNat, .cell (.free f.head))) else none) = some ws := e
    split at e
    · cases e
      unfold inOrder
      split <;> simp
    · cases e
  | take n =>
    have e : (if 0 ≤ n ∧ n ≤ 999 then takeW f r room n.toNat else none) = some ws := e
    split at e
    · unfold takeW at e
      split at e
      · split at e
        · cases e; simp
        · cases e
      · cases e
        unfold inOrder
        split <;> simp
    · cases e
section
variable {P : Program} {w : World} {K : PySem.W.Frag} {mg : Str → Option Value} {base : Heap}
theorem ok__law_step (T : Txt w K mg) : FnOk P w K mg base CX0 5 T.f__law_step T.fd__law_step ["_law_row", "_law_file_here", "_law_rule_here", "_law_room", "_law_whole"] (spR K XR0 tf__law_step) := by
  refine okR (n := 2) T.F__law_step sc__law_step rfl (fun ds Φ Ξ ⟨_, e, _⟩ => by rw [e]; rfl) fun cdv A outer s H E hr => ⟨_, psis_cons (psi_setF 5 (pei_defR 0 (ok__law_deed T) (hr.mono (by decide)) T.g__law_deed T.F__law_deed.kp T.b__law_deed passE (pai_cons (pei_var 1) (pai_cons (pei_var 2) (pai_cons (pei_var 3) pai_nil))) rfl) sc__law_step.nd)
    (psis_cons (psi_setF 6 (pei_len T.m_len rfl (pai_cons (pei_def (ok__law_writes T) (hr.mono (by decide)) T.g__law_writes T.F__law_writes.kp T.b__law_writes passE (pai_cons (pei_var 1) (pai_cons (pei_var 2) (pai_cons (pei_var 3) (pai_cons (pei_var 5) pai_nil)))) rfl) pai_nil)) sc__law_step.nd)
    (psis_cons (psi_if (pti_bool (pwi_or (pti_val (pei_var 4)) (pwi_one (pti_cmp (op_eqD (hu64 hr)) op2_eq (nomark _) (pei_defR 0 (ok__law_taken T) (hr.mono (by decide)) T.g__law_taken T.F__law_taken.kp T.b__law_taken passE (pai_cons pei_int pai_nil) rfl) pei_int))))
      (psis_one (psi_ret (pei_tup (pai_cons (pei_var 5) (pai_cons (pei_ixL (pei_lst (pai_cons pei_non (pai_cons (pei_var 6) pai_nil))) (pei_defR 0 (ok__law_taken T) (hr.mono (by decide)) T.g__law_taken T.F__law_taken.kp T.b__law_taken passE (pai_cons pei_int pai_nil) rfl)) pai_nil)))))
      (psis_nil))
    (psis_one (psi_ret (pei_tup (pai_cons (pei_var 5) (pai_cons (pei_defR 0 (ok__law_taken T) (hr.mono (by decide)) T.g__law_taken T.F__law_taken.kp T.b__law_taken passE (pai_cons (pei_add (pei_var 6) pei_int) pai_nil) rfl) pai_nil))))))), fun ds Φ Ξ hT => ?_⟩
  obtain ⟨⟨f, r, room, b⟩, rfl, ⟨hf, hro⟩, h⟩ := hT
  have hf : Fine f := hf
  have hro : room ≤ 12 := hro
  have h : ∀ s g ws, deedOk s.1 = true → isOther s.1 = false → writesF f r room s.1 = some ws → doneF f ws s.2 = some g → (b = true → g = ws.foldl put f) → Φ (.dat (dStep s)) := fun s g ws h1 h2 h3 h4 h5 => h _ ⟨s, g, ws, rfl, h1, h2, h3, h4, h5⟩
  walk_at "sf"
  refine ⟨(f, r, room), rfl, hf, fun q ⟨d, ws, eq, hd, ho, hw⟩ => ?_⟩
  subst eq
  have hw : writesF f r room d = some ws := hw
  have hlen := wsOk_len (n := 0) hf hw
  walk_at "sf"
  refine ⟨(f, r, room, d), rfl, ⟨hf, hd⟩, fun q hq => ?_⟩
  have hq : q.frz = .list (ws.map dW) := by
    rw [hq]
    show (optW (writesF f r room d)).frz = _
    rw [hw]
    rfl
  simp only [hq]
  walk_at "sf"
  have hA : tf__law_taken [.int 2] (fun y => sIxL (.list [.none, .int (ws.length : Int)]) y.frz fun r => Φ (.dat (.tuple [dDeed d, r.frz]))) Ξ := taken 2 rfl (by omega) fun v hv => ⟨_, _, _, rfl, rfl, none_or_at hv, by
    by_cases q : v = 0
    · rw [if_pos q]
      exact h (d, none) _ ws hd ho hw rfl fun _ => rfl
    · rw [if_neg q]
      refine h (d, some (ws.length : Int)) (ws.foldl put f) ws hd ho hw ?_ fun _ => rfl
      show (if 0 ≤ (ws.length : Int) ∧ (ws.length : Int) ≤ (ws.length : Int) then some ((ws.take (ws.length : Int).toNat).foldl put f) else none) = _
      rw [if_pos ⟨by omega, Int.le_refl _⟩, Int.toNat_natCast, List.take_length]⟩
  cases b with
  | true => exact hA
  | false =>
    refine taken 2 rfl (by omega) fun v hv => ?_
    walk_at "sf"
    cases ((v : Int) == 1) with
    | true => exact hA
    | false =>
      refine taken (ws.length + 1) (by omega) (by omega) fun k hk => ?_
      refine h (d, some (k : Int)) ((ws.take k).foldl put f) ws hd ho hw ?_ fun z => by cases z
      show (if 0 ≤ (k : Int) ∧ (k : Int) ≤ (ws.length : Int) then some ((ws.take (k : Int).toNat).foldl put f) else none) = _
      rw [if_pos ⟨by omega, by omega⟩, Int.toNat_natCast]
end
def tf__law_played : Tf := mkTR (α := File × Rule × Nat × Nat) (fun a => [dF a.1, dRule a.2.1, .int (a.2.2.1 : Int), .int (a.2.2.2 : Int)]) (fun a => Fine a.1 ∧ a.2.2.1 ≤ 12 ∧ a.2.2.2 ≤ 200) (fun a r => ∃ ss fs, r = .dat (.tuple [.list (ss.map dStep), .list (fs.map dF)]) ∧ (∀ s ∈ ss, deedOk s.1 = true ∧ isOther s.1 = false) ∧ ss.length ≤ a.2.2.2 ∧ playedF a.1 a.2.1 a.2.2.1 ss = some fs)
theorem played_len2 {r : Rule} {room : Nat} : ∀ {ss : List Step} {f : File} {fs : List File}, playedF f r room ss = some fs → fs.length = ss.length
  | [], f, fs, h => by cases h; rfl
  | s :: ss, f, fs, h => by
    obtain ⟨g, gs, h1, h2, e⟩ := played_cons (g := f) h
    rw [e, List.length_cons, List.length_cons, played_len2 h2]
theorem played_fine {r : Rule} {room : Nat} (hro : room ≤ 12) : ∀ {ss : List Step} {f : File} {fs : List File}, Fine f → playedF f r room ss = some fs → ∀ g ∈ fs, Fine g
  | [], f, fs, _, h => by cases h; intro g hg; cases hg
  | s :: ss, f, fs, hf, h => by
    obtain ⟨g, gs, h1, h2, e⟩ := played_cons (g := f) h
    subst e
    have hg := steppedF_fine hf hro h1
    intro k hk
    rcases List.mem_cons.mp hk with z | z
    · rw [z]; exact hg
    · exact played_fine hro hg h2 k z
section
variable {P : Program} {w : World} {K : PySem.W.Frag} {mg : Str → Option Value} {base : Heap}
theorem ok__law_played (T : Txt w K mg) : FnOk P w K mg base CX0 6 T.f__law_played T.fd__law_played ["_law_row", "_law_file_here", "_law_rule_here", "_law_room", "_law_most"] (spR K XR0 tf__law_played) := by
  refine okR (n := 3) T.F__law_played sc__law_played rfl (fun ds Φ Ξ ⟨_, e, _⟩ => by rw [e]; rfl) fun cdv A outer s H E hr => ⟨_, psis_cons (psi_set 5 (pei_lst pai_nil) sc__law_played.nd)
    (psis_cons (psi_set 6 (pei_lst pai_nil) sc__law_played.nd)
    (psis_cons (psi_forR1 (.nm 7) PassesOwn.never rfl T.m_range rfl (pai_cons (pei_defR 0 (ok__law_taken T) (hr.mono (by decide)) T.g__law_taken T.F__law_taken.kp T.b__law_taken passE (pai_cons (pei_add (pei_var 4) pei_int) pai_nil) rfl) pai_nil) (by exact (pg_name (i := 7) sc__law_played.nd rfl (by first | exact Or.inl rfl | exact Or.inr rfl)))
      (psis_cons (psi_app 5 (pei_defR 0 (ok__law_step T) (hr.mono (by decide)) T.g__law_step T.F__law_step.kp T.b__law_step passE (pai_cons (pei_var 1) (pai_cons (pei_var 2) (pai_cons (pei_var 3) (pai_cons pei_bl pai_nil)))) rfl))
      (psis_cons (psi_setF 1 (pei_peek 5 (pei_def (ok__law_behind T) (hr.mono (by decide)) T.g__law_behind T.F__law_behind.kp T.b__law_behind passE (pai_cons (pei_var 1) (pai_cons (pei_var 2) (pai_cons (pei_var 3) (pai_cons (pei_ixL (pei_var 5) (pei_neg pei_int)) pai_nil)))) rfl)) sc__law_played.nd)
      (psis_one (psi_app 6 (pei_var 1))))))
    (psis_one (psi_frz 6 (psi_frz 5 (psi_ret (pei_tup (pai_cons (pei_var 5) (pai_cons (pei_var 6) pai_nil))))))))), fun ds Φ Ξ hT => ?_⟩
  obtain ⟨⟨f, r, room, m⟩, rfl, ⟨hf, hro, hm⟩, h⟩ := hT
  have hf : Fine f := hf
  have hro : room ≤ 12 := hro
  have hm : m ≤ 200 := hm
  have h : ∀ ss fs, (∀ s ∈ ss, deedOk s.1 = true ∧ isOther s.1 = false) → ss.length ≤ m → playedF f r room ss = some fs → Φ (.dat (.tuple [.list (ss.map dStep), .list (fs.map dF)])) := fun ss fs h1 h2 h3 => h _ ⟨ss, fs, rfl, h1, h2, h3⟩
  walk_at "sf"
  refine taken (m + 1) (by omega) (by omega) fun n hn => ?_
  walk_at "sf"
  refine ⟨by omega, by omega, fun j ρ => ∃ (ss : List Step) (fs : List File) (y : Ent), ρ = [.row, .dat (dF ((f :: fs).getLast (List.cons_ne_nil _ _))), .dat (dRule r), .dat (.int (room : Int)), .dat (.int (m : Int)), .ls (ss.map dStep), .ls (fs.map dF), y] ∧ ss.length = j ∧ (∀ s ∈ ss, deedOk s.1 = true ∧ isOther s.1 = false) ∧ playedF f r room ss = some fs, ⟨[], [], _, rfl, rfl, (fun d hd => by cases hd), rfl⟩, fun j ρ' hj hρ => ?_, fun ρ' hρ => ?_⟩
  · obtain ⟨ss, fs, y, rfl, hsl, hdo, hp⟩ := hρ
    have hG := last_all (P := Fine) hf (played_fine hro hf hp)
    have hfl := played_len2 hp
    have hsn : ∀ {s : Step} {g : File}, steppedF ((f :: fs).getLast (List.cons_ne_nil _ _)) r room s = some g → playedF f r room (ss ++ [s]) = some (fs ++ [g]) := fun h => played_snoc hp h
    generalize (f :: fs).getLast (List.cons_ne_nil _ _) = g at hG hsn
    walk_at "sf"
    refine ⟨by omega, (g, r, room, false), rfl, ⟨hG, hro⟩, fun q ⟨s, g2, ws, es, hso, hoth, hws, hdone, hwh⟩ => ?_⟩
    subst es
    have hws : writesF g r room s.1 = some ws := hws
    have hdone : doneF g ws s.2 = some g2 := hdone
    have hst : steppedF g r room s = some g2 := by
      unfold steppedF
      rw [hws]
      exact hdone
    walk_at "sf"
    rw [atI_last]
    walk_at "sf"
    refine ⟨(g, r, room, s, g2), rfl, ⟨hG, hro, hso, hst⟩, nol_dF, ?_⟩
    refine ⟨by omega, ss ++ [s], fs ++ [g2], .dat (.int (j : Int)), ?_, by rw [List.length_append, hsl]; rfl, fun d hd => ?_, hsn hst⟩
    · rw [List.map_append, List.map_append, last_snoc]
      rfl
    · rcases List.mem_append.mp hd with z | z
      · exact hdo d z
      · rw [List.mem_singleton.mp z]
        exact ⟨hso, hoth⟩
  · obtain ⟨ss, fs, y, rfl, hsl, hdo, hp⟩ := hρ
    walk_at "sf"
    exact h ss fs hdo (by omega) hp
end
def dAns (way : Nat) (f : File) (fs : List File) (R : Option (Nat × List Step)) : List PyData := match way with
  | 0 => [.str (word f), dRows f.cells, dNats (chain f), dNats (looseL f)] ++ [dF (mendF f)] ++ (mendsF f).map dW
  | 1 => fs.map dF ++ (mendsF f).map dW
  | 2 => (match R with
    | none => [.str (Str.ofString "safe")]
    | some x => [.str (Str.ofString "lost"), .list (x.2.map dStep)])
  | _ => [.str (textF f), dF f]
abbrev AnsA := Nat × File × Rule × Nat × List Step × List File × Option (Nat × List Step)
def AnsPre (a : AnsA) : Prop := a.1 < 4 ∧ Fine a.2.1 ∧ (8 ≤ a.2.2.2.1 ∧ a.2.1.cells.length ≤ a.2.2.2.1 ∧ a.2.2.2.1 ≤ 12) ∧ judgeF a.2.2.1 4 = some a.2.2.2.2.2.2
def tf__law_answer : Tf := mkT (α := AnsA) (fun a => [.int (a.1 : Int), dF a.2.1, dRule a.2.2.1, .int (a.2.2.2.1 : Int), .list (a.2.2.2.2.1.map dStep)])
  (fun a => AnsPre a ∧ (∀ s ∈ a.2.2.2.2.1, deedOk s.1 = true) ∧ a.2.2.2.2.1.length ≤ 1000 ∧ playedF a.2.1 a.2.2.1 a.2.2.2.1 a.2.2.2.2.1 = some a.2.2.2.2.2.1) (fun a => .lst (dAns a.1 a.2.1 a.2.2.2.2.2.1 a.2.2.2.2.2.2))
def tf__law_answerA : Tf := mkT (α := AnsA) (fun a => [.int (a.1 : Int), dF a.2.1, dRule a.2.2.1, .int (a.2.2.2.1 : Int)])
  (fun a => AnsPre a ∧ a.1 ≠ 1) (fun a => .lst (dAns a.1 a.2.1 a.2.2.2.2.2.1 a.2.2.2.2.2.2))
section
variable {P : Program} {w : World} {K : PySem.W.Frag} {mg : Str → Option Value} {base : Heap}
theorem ok__law_answer (T : Txt w K mg) : FnOk P w K mg base CX0 9 T.f__law_answer T.fd__law_answer ["_law_way", "_law_file_here", "_law_rule_here", "_law_room", "_law_steps"] (spP K XR0 tf__law_answer) := by
  refine okP (n := 0) T.F__law_answer sc__law_answer rfl (fun ds Φ Ξ ⟨_, e, _⟩ => by rw [e]; rfl) fun cdv A outer s H E hr => ⟨_, psis_cons (psi_if (pti_cmp (op_eqD (hu64 hr)) op2_eq (nomark _) (pei_var 0) pei_int)
      (psis_one (psi_ret (pei_catL (pei_catL (pei_list T.m_list rfl (pai_cons (pei_def (ok_checked T) (hr.mono (by decide)) T.g_checked T.F_checked.kp T.b_checked passE (pai_cons (pei_var 1) pai_nil) rfl) pai_nil)) (pei_lst (pai_cons (pei_def (ok_mended T) (hr.mono (by decide)) T.g_mended T.F_mended.kp T.b_mended passE (pai_cons (pei_var 1) pai_nil) rfl) pai_nil))) (pei_def (ok_mends T) (hr.mono (by decide)) T.g_mends T.F_mends.kp T.b_mends passE (pai_cons (pei_var 1) pai_nil) rfl))))
      (psis_nil))
    (psis_cons (psi_if (pti_cmp (op_eqD (hu64 hr)) op2_eq (nomark _) (pei_var 0) pei_int)
      (psis_one (psi_ret (pei_catL (pei_def (ok_played T) (hr.mono (by decide)) T.g_played T.F_played.kp T.b_played passE (pai_cons (pei_var 1) (pai_cons (pei_var 2) (pai_cons (pei_var 3) (pai_cons (pei_var 4) pai_nil)))) rfl) (pei_def (ok_writes T) (hr.mono (by decide)) T.g_writes T.F_writes.kp T.b_writes passE (pai_cons (pei_var 1) (pai_cons (pei_var 2) (pai_cons (pei_var 3) (pai_cons (pei_tup (pai_cons pei_str pai_nil)) pai_nil)))) rfl))))
      (psis_nil))
    (psis_cons (psi_if (pti_cmp (op_eqD (hu64 hr)) op2_eq (nomark _) (pei_var 0) pei_int)
      (psis_one (psi_ret (pei_list T.m_list rfl (pai_cons (pei_def (ok_judged T) (hr.mono (by decide)) T.g_judged T.F_judged.kp T.b_judged passE (pai_cons (pei_var 2) (pai_cons (pei_var 3) pai_nil)) rfl) pai_nil))))
      (psis_nil))
    (psis_one (psi_ret (pei_lst (pai_cons (pei_def (ok_written T) (hr.mono (by decide)) T.g_written T.F_written.kp T.b_written passE (pai_cons (pei_var 1) pai_nil) rfl) (pai_cons (pei_def (ok_read T) (hr.mono (by decide)) T.g_read T.F_read.kp T.b_read passE (pai_cons (pei_def (ok_written T) (hr.mono (by decide)) T.g_written T.F_written.kp T.b_written passE (pai_cons (pei_var 1) pai_nil) rfl) pai_nil) rfl) pai_nil))))))), fun ds Φ Ξ hT => ?_⟩
  obtain ⟨⟨way, f, r, room, ss, fs, R⟩, rfl, ⟨⟨hw, hf, hro, hR⟩, hd, hz, hp⟩, h⟩ := hT
  have hf : Fine f := hf
  have hro : 8 ≤ room ∧ f.cells.length ≤ room ∧ room ≤ 12 := hro
  have hR : judgeF r 4 = some R := hR
  have hw : way < 4 := hw
  have h : Φ (.lst (dAns way f fs R)) := h
  have hd : ∀ s ∈ ss, deedOk s.1 = true := hd
  have hz : ss.length ≤ 1000 := hz
  have hp : playedF f r room ss = some fs := hp
  have hcase : way = 0 ∨ way = 1 ∨ way = 2 ∨ way = 3 := by omega
  rcases hcase with rfl | rfl | rfl | rfl
  · walk_at "sf"
    refine ⟨f, rfl, hf, ?_⟩
    rw [show (fun f : File => Res.dat (dChecked f)) f = .dat (.tuple [.str (word f), dRows f.cells, dNats (chain f), dNats (looseL f)]) from rfl]
    walk_at "sf"
    refine ⟨f, rfl, hf, ?_⟩
    walk_at "sf"
    refine ⟨by decide, f, rfl, hf, ?_⟩
    walk_at "sf"
    have := mends_few (f := f) hf
    exact ⟨by omega, h⟩
  · walk_at "sf"
    refine itF rfl ?_
    refine ⟨(f, r, room, ss, fs), rfl, ⟨hf, ⟨by show 1 ≤ room; omega, hro.2.1, hro.2.2⟩, hd, hz, hp⟩, ?_⟩
    walk_at "sf"
    refine ⟨(f, r, room, .mend, mendsF f), rfl, ⟨hf, ⟨by show 1 ≤ room; omega, hro.2.1, hro.2.2⟩, rfl, rfl⟩, ?_⟩
    walk_at "sf"
    have := mends_few (f := f) hf
    have e := played_len2 (fs := fs) (ss := ss) hp
    exact ⟨by omega, h⟩
  · walk_at "sf"
    refine itF rfl (itF rfl ?_)
    refine ⟨(r, room, R), rfl, ⟨by show 1 ≤ room; omega, hro.2.2, by show judgeF r (min room 4) = _; rw [show min room 4 = 4 by omega]; exact hR⟩, ?_⟩
    cases R with
    | none =>
      rw [show (fun a : Rule × Nat × Option (Nat × List Step) => Res.dat (dJudged a.2.2)) (r, room, none) = .dat (.tuple [.str (Str.ofString "safe")]) from rfl]
      walk_at "sf"
      exact h
    | some x =>
      rw [show (fun a : Rule × Nat × Option (Nat × List Step) => Res.dat (dJudged a.2.2)) (r, room, some x) = .dat (.tuple [.str (Str.ofString "lost"), .list (x.2.map dStep)]) from rfl]
      walk_at "sf"
      exact h
  · walk_at "sf"
    refine itF rfl (itF rfl (itF rfl ?_))
    refine ⟨f, rfl, hf, ?_⟩
    walk_at "sf"
    refine ⟨f, rfl, hf, ?_⟩
    walk_at "sf"
    refine ⟨f, rfl, hf, ?_⟩
    walk_at "sf"
    exact h
theorem ok__law_answerA (T : Txt w K mg) : FnOk P w K mg base CX0 9 T.f__law_answer T.fd__law_answer ["_law_way", "_law_file_here", "_law_rule_here", "_law_room", "_law_steps"] (spPA K XR0 tf__law_answerA) := by
  refine okPA (n := 0) T.F__law_answer sc__law_answer rfl (fun ds Φ Ξ ⟨_, e, _⟩ => by rw [e]; rfl) fun cdv A outer s H E hr => ⟨_, psis_cons (psi_if (pti_cmp (op_eqD (hu64 hr)) op2_eq (nomark _) (pei_var 0) pei_int)
      (psis_one (psi_ret (pei_catL (pei_catL (pei_list T.m_list rfl (pai_cons (pei_def (ok_checked T) (hr.mono (by decide)) T.g_checked T.F_checked.kp T.b_checked passE (pai_cons (pei_var 1) pai_nil) rfl) pai_nil)) (pei_lst (pai_cons (pei_def (ok_mended T) (hr.mono (by decide)) T.g_mended T.F_mended.kp T.b_mended passE (pai_cons (pei_var 1) pai_nil) rfl) pai_nil))) (pei_def (ok_mends T) (hr.mono (by decide)) T.g_mends T.F_mends.kp T.b_mends passE (pai_cons (pei_var 1) pai_nil) rfl))))
      (psis_nil))
    (psis_cons (psi_if (pti_cmp (op_eqD (hu64 hr)) op2_eq (nomark _) (pei_var 0) pei_int)
      (psis_one (psi_ret (pei_catL (pei_def (ok_played T) (hr.mono (by decide)) T.g_played T.F_played.kp T.b_played passE (pai_cons (pei_var 1) (pai_cons (pei_var 2) (pai_cons (pei_var 3) (pai_cons (pei_var 4) pai_nil)))) rfl) (pei_def (ok_writes T) (hr.mono (by decide)) T.g_writes T.F_writes.kp T.b_writes passE (pai_cons (pei_var 1) (pai_cons (pei_var 2) (pai_cons (pei_var 3) (pai_cons (pei_tup (pai_cons pei_str pai_nil)) pai_nil)))) rfl))))
      (psis_nil))
    (psis_cons (psi_if (pti_cmp (op_eqD (hu64 hr)) op2_eq (nomark _) (pei_var 0) pei_int)
      (psis_one (psi_ret (pei_list T.m_list rfl (pai_cons (pei_def (ok_judged T) (hr.mono (by decide)) T.g_judged T.F_judged.kp T.b_judged passE (pai_cons (pei_var 2) (pai_cons (pei_var 3) pai_nil)) rfl) pai_nil))))
      (psis_nil))
    (psis_one (psi_ret (pei_lst (pai_cons (pei_def (ok_written T) (hr.mono (by decide)) T.g_written T.F_written.kp T.b_written passE (pai_cons (pei_var 1) pai_nil) rfl) (pai_cons (pei_def (ok_read T) (hr.mono (by decide)) T.g_read T.F_read.kp T.b_read passE (pai_cons (pei_def (ok_written T) (hr.mono (by decide)) T.g_written T.F_written.kp T.b_written passE (pai_cons (pei_var 1) pai_nil) rfl) pai_nil) rfl) pai_nil))))))), fun ds Φ Ξ hT => ?_⟩
  obtain ⟨⟨way, f, r, room, ss, fs, R⟩, rfl, ⟨⟨hw, hf, hro, hR⟩, hne⟩, h⟩ := hT
  have hf : Fine f := hf
  have hro : 8 ≤ room ∧ f.cells.length ≤ room ∧ room ≤ 12 := hro
  have hR : judgeF r 4 = some R := hR
  have hw : way < 4 := hw
  have h : Φ (.lst (dAns way f fs R)) := h
  have hne : way ≠ 1 := hne
  have hcase : way = 0 ∨ way = 2 ∨ way = 3 := by omega
  rcases hcase with rfl | rfl | rfl
  · walk_at "sf"
    refine ⟨f, rfl, hf, ?_⟩
    rw [show (fun f : File => Res.dat (dChecked f)) f = .dat (.tuple [.str (word f), dRows f.cells, dNats (chain f), dNats (looseL f)]) from rfl]
    walk_at "sf"
    refine ⟨f, rfl, hf, ?_⟩
    walk_at "sf"
    refine ⟨by decide, f, rfl, hf, ?_⟩
    walk_at "sf"
    have := mends_few (f := f) hf
    exact ⟨by omega, h⟩
  · walk_at "sf"
    refine itF rfl (itF rfl ?_)
    refine ⟨(r, room, R), rfl, ⟨by show 1 ≤ room; omega, hro.2.2, by show judgeF r (min room 4) = _; rw [show min room 4 = 4 by omega]; exact hR⟩, ?_⟩
    cases R with
    | none =>
      rw [show (fun a : Rule × Nat × Option (Nat × List Step) => Res.dat (dJudged a.2.2)) (r, room, none) = .dat (.tuple [.str (Str.ofString "safe")]) from rfl]
      walk_at "sf"
      exact h
    | some x =>
      rw [show (fun a : Rule × Nat × Option (Nat × List Step) => Res.dat (dJudged a.2.2)) (r, room, some x) = .dat (.tuple [.str (Str.ofString "lost"), .list (x.2.map dStep)]) from rfl]
      walk_at "sf"
      exact h
  · walk_at "sf"
    refine itF rfl (itF rfl (itF rfl ?_))
    refine ⟨f, rfl, hf, ?_⟩
    walk_at "sf"
    refine ⟨f, rfl, hf, ?_⟩
    walk_at "sf"
    refine ⟨f, rfl, hf, ?_⟩
    walk_at "sf"
    exact h
end
def tf__law_copied : Tf := mkT (α := List PyData) (fun ds => [.list ds]) (fun ds => ds.length ≤ 10000 ∧ ∀ d ∈ ds, ∀ q, d ≠ .dict q) (fun ds => .lst ds)
section
variable {P : Program} {w : World} {K : PySem.W.Frag} {mg : Str → Option Value} {base : Heap}
theorem ok__law_copied (T : Txt w K mg) : FnOk P w K mg base CX0 1 T.f__law_copied T.fd__law_copied ["_law_told"] (spP K XR0 tf__law_copied) := by
  refine okP (n := 1) T.F__law_copied sc__law_copied rfl (fun ds Φ Ξ ⟨_, e, _⟩ => by rw [e]; rfl) fun cdv A outer s H E hr => ⟨_, psis_one (psi_ret (pei_lcL rfl sc__law_copied.nd (pei_var 0) (Blk.mk (own := [("_law_one", 1)]) (tgt := (.nm 1)) (blkOk_by (N := n__law_copied) (sc := defScope s__law_copied) (by decide +kernel)) (by decide) (fun _ _ _ _ _ => by exact (pg_name (i := 1) sc__law_copied.nd rfl (by first | exact Or.inl rfl | exact Or.inr rfl))) (fun _ _ _ _ _ => ptsi_nil) (fun _ _ _ _ _ => (pei_if (pti_val (pei_isi T.m_isinstance rfl T.m_list rfl rfl (pei_var 1))) (pei_list T.m_list rfl (pai_cons (pei_var 1) pai_nil)) (pei_var 1)))))), fun ds Φ Ξ hT => ?_⟩
  obtain ⟨ds, rfl, ⟨hz, hd⟩, h⟩ := hT
  have hz : ds.length ≤ 10000 := hz
  walk_at "sf"
  refine lcI_fm (fun _ => true) (fun d => d) rfl (by omega) (fun d hm A B hA hB => ?_) (by rw [List.filter_eq_self.mpr (fun _ _ => rfl), List.map_id']; exact h)
  have hA := hA rfl
  have nd := hd d hm
  cases d with
  | dict q => exact absurd rfl (nd q)
  | none => walk_at "sf"; exact hA
  | bool k => walk_at "sf"; exact hA
  | int k => walk_at "sf"; exact hA
  | str k => walk_at "sf"; exact hA
  | list k => walk_at "sf"; exact hA
  | tuple k => walk_at "sf"; exact hA
end
theorem al_dL {n : Nat} {l : Lk} : Al n (dL l) := by cases l <;> cases n <;> trivial
theorem al_int {n : Nat} {i : Int} : Al n (.int i) := by cases n <;> trivial
theorem al_str {n : Nat} {s : Str} (h : PyData.strOk s = true) : Al n (.str s) := by cases n <;> exact h
theorem al_tup2 {n : Nat} {a b : PyData} (ha : Al n a) (hb : Al n b) : Al (n + 1) (.tuple [a, b]) := ⟨by show 2 ≤ 1000; omega, fun d hd => by
  rcases List.mem_cons.mp hd with e | e
  · rw [e]; exact ha
  · rw [List.mem_singleton.mp e]; exact hb⟩
theorem al_dC {n : Nat} {c : Cell} : Al (n + 1) (dC c) := by
  cases c with
  | row k => exact al_tup2 (al_str (by decide +kernel)) al_int
  | free l => exact al_tup2 (al_str (by decide +kernel)) al_dL
theorem al_dF {n : Nat} {f : File} (h : f.cells.length ≤ 1000) : Al (n + 3) (dF f) := al_tup2 al_dL ⟨by rw [List.length_map]; exact h, fun d hd => by
  obtain ⟨c, _, rfl⟩ := List.mem_map.mp hd
  exact al_dC⟩
theorem al_dW {n : Nat} {w : Write} : Al (n + 2) (dW w) := al_tup2 al_dL (by
  cases w.2 with
  | link l => exact al_dL
  | cell c => exact al_dC)
theorem al_ws {n : Nat} {ws : List Write} (h : ws.length ≤ 1000) : Al (n + 3) (.list (ws.map dW)) := ⟨by rw [List.length_map]; exact h, fun d hd => by
  obtain ⟨c, hc, rfl⟩ := List.mem_map.mp hd
  exact al_dW⟩
theorem al_nats {n : Nat} {l : List Nat} (h : l.length ≤ 1000) : Al (n + 1) (dNats l) := ⟨by rw [List.length_map]; exact h, fun d hd => by
  obtain ⟨c, hc, rfl⟩ := List.mem_map.mp hd
  exact al_int⟩
theorem al_rows {n : Nat} {cs : List Cell} (h : cs.length ≤ 1000) : Al (n + 2) (dRows cs) := by
  have hl := List.length_filter_le (rowAt cs) (List.range cs.length)
  rw [List.length_range] at hl
  refine ⟨?_, fun d hd => ?_⟩
  · rw [List.length_map]
    unfold rowsL
    omega
  · obtain ⟨c, hc, rfl⟩ := List.mem_map.mp hd
    exact al_tup2 al_int al_int
theorem walk_told {cs : List Cell} : ∀ {k : Nat} {found : List Nat} {l : Lk}, Told cs found → Told cs (walk cs k found l).1
  | 0, found, l, h => h
  | k + 1, found, none, h => h
  | k + 1, found, some p, h => by
    rw [walk]
    cases e : cs[p]? with
    | none => exact h
    | some c =>
      cases c with
      | row n => exact h
      | free l =>
        show Told cs (if found.contains p = true then (found, some p) else walk cs k (found ++ [p]) l).1
        cases hc : found.contains p with
        | true => rw [if_pos rfl]; exact h
        | false =>
          rw [if_neg (by decide)]
          exact walk_told (told_snoc h (List.getElem?_eq_some_iff.mp e).1 hc)
theorem chain_told (f : File) : Told f.cells (chain f) := walk_told ⟨List.nodup_nil, fun p hp => by cases hp⟩
theorem loose_len (f : File) : (looseL f).length ≤ f.cells.length := by
  have h1 := List.length_filter_le (fun p => !(chain f).contains p) (freeL f.cells)
  have h2 := List.length_filter_le (freeAt f.cells) (List.range f.cells.length)
  rw [List.length_range] at h2
  exact Nat.le_trans h1 h2
theorem wordF_ok (f : File) : PyData.strOk (word f) = true := by
  unfold word
  split
  · decide +kernel
  · split
    · decide +kernel
    · decide +kernel
theorem al_checked {n : Nat} {f : File} (h : Fine f) : Al (n + 4) (dChecked f) := by
  have h1 := (chain_told f).len
  have h2 := loose_len f
  have h3 := h.few
  refine ⟨by show 4 ≤ 1000; omega, fun d hd => ?_⟩
  rcases List.mem_cons.mp hd with e | hd
  · rw [e]; exact al_str (wordF_ok f)
  · rcases List.mem_cons.mp hd with e | hd
    · rw [e]; exact al_rows (n := n + 1) (by omega)
    · rcases List.mem_cons.mp hd with e | hd
      · rw [e]; exact al_nats (by omega)
      · rw [List.mem_singleton.mp hd]; exact al_nats (by omega)
theorem strOk_app {s t : Str} (h1 : PyData.strOk s = true) (h2 : PyData.strOk t = true) : PyData.strOk (s ++ t) = true := by
  unfold PyData.strOk at *
  rw [← Array.all_toList] at *
  rw [tl_app, List.all_append, h1, h2]
  rfl
theorem strOk_join {y : Str} (hy : PyData.strOk y = true) : ∀ {ps : List Str}, (∀ p ∈ ps, PyData.strOk p = true) → PyData.strOk (y.join ps) = true
  | [], _ => by show PyData.strOk Str.empty = true; decide +kernel
  | [p], h => h p List.mem_cons_self
  | p :: q :: r, h => strOk_app (strOk_app (h p List.mem_cons_self) hy) (strOk_join hy fun z hz => h z (List.mem_cons_of_mem _ hz))
theorem numS_ok {l : Lk} (h : ∀ n, l = some n → n ≤ 999) : PyData.strOk (numS l) = true := by
  cases l with
  | none => show PyData.strOk (Str.ofString "-") = true; decide +kernel
  | some n => exact (numF (h n rfl)).ok
theorem text_ok {f : File} (hf : Fine f) : PyData.strOk (textF f) = true := by
  unfold textF
  rw [TL.join_eq]
  refine strOk_join (by decide +kernel) fun p hp => ?_
  rcases List.mem_cons.mp hp with e | e
  · rw [e]
    exact numS_ok (fine_head hf)
  · obtain ⟨c, hc, rfl⟩ := List.mem_map.mp e
    refine strOk_app ?_ (numS_ok (fine_what hf hc))
    cases c with
    | row n => show PyData.strOk (Str.ofString "r") = true; decide +kernel
    | free l => show PyData.strOk (Str.ofString "f") = true; decide +kernel
theorem lost_at {r : Rule} {m : Nat} (hr : r ≠ (true, false)) (h1 : 1 ≤ m) (h2 : m ≤ 4) : ∃ (j : Nat) (st : List Step) (u : Unit), judgeF r m = some (some (j, st)) ∧ fewestF r m = some (some (st.length, u)) ∧ (0 < st.length ∧ st.length ≤ 100) ∧ toldF r m eF st = true := by
  have h := lost_ok
  rw [List.all_eq_true] at h
  have hm : r ∈ ([(true, true), (false, true), (false, false)] : List Rule) := by
    obtain ⟨a, b⟩ := r
    cases a <;> cases b <;> first | exact absurd rfl hr | decide
  have h := List.all_eq_true.mp (h r hm) m (by
    have : m = 1 ∨ m = 2 ∨ m = 3 ∨ m = 4 := by omega
    rcases this with z | z | z | z <;> subst z <;> decide)
  unfold lostOk at h
  cases e1 : judgeF r m with
  | none => rw [e1] at h; cases h
  | some R =>
    cases R with
    | none => rw [e1] at h; cases h
    | some x =>
      obtain ⟨j, st⟩ := x
      cases e2 : fewestF r m with
      | none => rw [e1, e2] at h; cases h
      | some R2 =>
        cases R2 with
        | none => rw [e1, e2] at h; cases h
        | some y =>
          obtain ⟨k, u⟩ := y
          rw [e1, e2] at h
          have h : (decide (st.length = k) && decide (0 < k ∧ k ≤ 100) && toldF r m eF st) = true := h
          rw [Bool.and_eq_true, Bool.and_eq_true, decide_eq_true_iff, decide_eq_true_iff] at h
          obtain ⟨⟨h1, h2⟩, h3⟩ := h
          subst h1
          exact ⟨j, st, u, rfl, rfl, h2, h3⟩
abbrev Cs := File × Rule × Nat × List Step × List File × Option (Nat × List Step)
structure CsOk (a : Cs) : Prop where
  fine : Fine a.1
  small : a.1.cells.length ≤ 8
  room : 8 ≤ a.2.2.1 ∧ a.2.2.1 ≤ 12
  deeds : ∀ s ∈ a.2.2.2.1, deedOk s.1 = true
  few : a.2.2.2.1.length ≤ 12
  played : playedF a.1 a.2.1 a.2.2.1 a.2.2.2.1 = some a.2.2.2.2.1
  judged : judgeF a.2.1 4 = some a.2.2.2.2.2
  told : ∀ x, a.2.2.2.2.2 = some x → x.2.length ≤ 100 ∧ ∀ s ∈ x.2, deedOk s.1 = true
def dCs (a : Cs) : PyData := .tuple [dF a.1, dRule a.2.1, .int (a.2.2.1 : Int), .list (a.2.2.2.1.map dStep)]
def dFi (a : Cs) : PyData := .list (a.2.2.2.1.map dStep)
def ansC (a : Cs) (way : Nat) : List PyData := dAns way a.1 a.2.2.2.2.1 a.2.2.2.2.2
def dKe (a : Cs) : PyData := .list ((List.range 4).map fun way => .list (ansC a way))
theorem told_okD {r : Rule} {room : Nat} {f : File} {ss : List Step} (h : toldF r room f ss = true) : ∀ s ∈ ss, deedOk s.1 = true := by
  induction ss generalizing f with
  | nil => intro s hs; cases hs
  | cons t ss ih =>
    rw [toldF, Bool.and_eq_true, Bool.and_eq_true] at h
    obtain ⟨⟨h1, h2⟩, h3⟩ := h
    intro s hs
    cases e : steppedF f r room t with
    | none => rw [e] at h3; cases h3
    | some g =>
      rw [e] at h3
      rcases List.mem_cons.mp hs with z | z
      · rw [z]; exact steps_okD (of_decide_eq_true h1)
      · exact ih h3 s z
theorem judge_at (r : Rule) : ∃ R, judgeF r 4 = some R ∧ ∀ x, R = some x → x.2.length ≤ 100 ∧ ∀ s ∈ x.2, deedOk s.1 = true := by
  by_cases hr : r = (true, false)
  · obtain ⟨hj, _⟩ := judge_safe (room := 4) (by decide)
    rw [← hr] at hj
    exact ⟨none, hj, fun x e => by cases e⟩
  · obtain ⟨j, st, u, hj, hf, hp, ht⟩ := lost_at hr (m := 4) (by decide) (by decide)
    refine ⟨_, hj, fun x e => ?_⟩
    cases e
    exact ⟨hp.2, told_okD ht⟩
theorem al_deed {n : Nat} {d : Deed} (h : deedOk d = true) : Al (n + 1) (dDeed d) := by
  have hs := (sh_deed h).1
  cases d with
  | take k => exact al_tup2 (al_str (by decide +kernel)) al_int
  | give k => exact al_tup2 (al_str (by decide +kernel)) al_int
  | mend => exact ⟨by show 1 ≤ 1000; omega, fun d hd => by rw [List.mem_singleton.mp hd]; exact al_str (by decide +kernel)⟩
  | other w k =>
    have h : (PyData.strOk w && !(w == sTake) && !(w == sGive) && !(w == sMend)) = true := h
    refine al_tup2 (al_str ?_) al_int
    revert h
    cases (w == sTake) <;> cases (w == sGive) <;> cases (w == sMend) <;> cases (PyData.strOk w) <;> decide
theorem al_step {n : Nat} {s : Step} (h : deedOk s.1 = true) : Al (n + 2) (dStep s) := al_tup2 (al_deed h) (by
  cases s.2 with
  | none => trivial
  | some k => exact al_int)
theorem al_steps {n : Nat} {ss : List Step} (hz : ss.length ≤ 1000) (h : ∀ s ∈ ss, deedOk s.1 = true) : Al (n + 3) (.list (ss.map dStep)) := ⟨by rw [List.length_map]; exact hz, fun d hd => by
  obtain ⟨s, hs, rfl⟩ := List.mem_map.mp hd
  exact al_step (h s hs)⟩
/-- what an answer is like -/
theorem ans_ok {a : Cs} (h : CsOk a) {way : Nat} (hw : way < 4) : (ansC a way).length ≤ 100 ∧ (∀ d ∈ ansC a way, Al 5 d) ∧ (∀ d ∈ ansC a way, ∀ q, d = .list q → q.length ≤ 10000) ∧ (way = 1 → nolL (ansC a way) = true) := by
  obtain ⟨f, r, room, ss, fs, R⟩ := a
  have hf : Fine f := h.fine
  have hm := mends_few hf
  have hfl : fs.length = ss.length := played_len2 h.played
  have hss : ss.length ≤ 12 := h.few
  have hfs : ∀ g ∈ fs, Fine g := played_fine h.room.2 hf h.played
  have hwa : ∀ w ∈ mendsF f, Al 5 (dW w) := fun w _ => al_dW
  have few := hf.few
  have notL : ∀ {g : File} {q : List PyData}, dF g = .list q → False := fun z => by unfold dF at z; cases z
  have notW : ∀ {w : Write} {q : List PyData}, dW w = .list q → False := fun z => by unfold dW at z; cases z
  have hcase : way = 0 ∨ way = 1 ∨ way = 2 ∨ way = 3 := by omega
  rcases hcase with rfl | rfl | rfl | rfl
  · show ([PyData.str (word f), dRows f.cells, dNats (chain f), dNats (looseL f)] ++ [dF (mendF f)] ++ (mendsF f).map dW).length ≤ 100 ∧ (∀ d ∈ [PyData.str (word f), dRows f.cells, dNats (chain f), dNats (looseL f)] ++ [dF (mendF f)] ++ (mendsF f).map dW, Al 5 d) ∧ (∀ d ∈ [PyData.str (word f), dRows f.cells, dNats (chain f), dNats (looseL f)] ++ [dF (mendF f)] ++ (mendsF f).map dW, ∀ q, d = .list q → q.length ≤ 10000) ∧ _
    have h1 := (chain_told f).len
    have h2 := loose_len f
    have h3 := List.length_filter_le (rowAt f.cells) (List.range f.cells.length)
    rw [List.length_range] at h3
    have mem : ∀ d ∈ [PyData.str (word f), dRows f.cells, dNats (chain f), dNats (looseL f)] ++ [dF (mendF f)] ++ (mendsF f).map dW, d = .str (word f) ∨ d = dRows f.cells ∨ d = dNats (chain f) ∨ d = dNats (looseL f) ∨ d = dF (mendF f) ∨ ∃ w ∈ mendsF f, dW w = d := fun d hd => by
      rcases List.mem_append.mp hd with hd | hd
      · rcases List.mem_append.mp hd with hd | hd
        · simp only [List.mem_cons, List.not_mem_nil, or_false] at hd
          rcases hd with z | z | z | z
          · exact .inl z
          · exact .inr (.inl z)
          · exact .inr (.inr (.inl z))
          · exact .inr (.inr (.inr (.inl z)))
        · exact .inr (.inr (.inr (.inr (.inl (List.mem_singleton.mp hd)))))
      · exact .inr (.inr (.inr (.inr (.inr (List.mem_map.mp hd)))))
    refine ⟨?_, fun d hd => ?_, fun d hd q hq => ?_, fun z => by cases z⟩
    · rw [List.length_append, List.length_append, List.length_map]
      show 4 + 1 + (mendsF f).length ≤ 100
      omega
    · rcases mem d hd with z | z | z | z | z | ⟨w, hw, z⟩
      · rw [z]; exact al_str (wordF_ok f)
      · rw [z]; exact al_rows (n := 3) (by omega)
      · rw [z]; exact al_nats (n := 4) (by omega)
      · rw [z]; exact al_nats (n := 4) (by omega)
      · rw [z]; exact al_dF (n := 2) (by rw [mendF_len]; omega)
      · rw [← z]; exact al_dW (n := 3)
    · rcases mem d hd with z | z | z | z | z | ⟨w, hw, z⟩
      · rw [z] at hq; cases hq
      · rw [z] at hq; unfold dRows at hq; cases hq; rw [List.length_map]; unfold rowsL; omega
      · rw [z] at hq; unfold dNats at hq; cases hq; rw [List.length_map]; omega
      · rw [z] at hq; unfold dNats at hq; cases hq; rw [List.length_map]; omega
      · rw [z] at hq; exact (notL hq).elim
      · rw [← z] at hq; exact (notW hq).elim
  · show (fs.map dF ++ (mendsF f).map dW).length ≤ 100 ∧ (∀ d ∈ fs.map dF ++ (mendsF f).map dW, Al 5 d) ∧ (∀ d ∈ fs.map dF ++ (mendsF f).map dW, ∀ q, d = .list q → q.length ≤ 10000) ∧ (1 = 1 → nolL (fs.map dF ++ (mendsF f).map dW) = true)
    refine ⟨by rw [List.length_append, List.length_map, List.length_map]; omega, fun d hd => ?_, fun d hd q hq => ?_, fun _ => ?_⟩
    · rcases List.mem_append.mp hd with z | z
      · obtain ⟨g, hg, rfl⟩ := List.mem_map.mp z
        exact al_dF (n := 2) (by have := (hfs g hg).few; omega)
      · obtain ⟨w, hw, rfl⟩ := List.mem_map.mp z
        exact al_dW (n := 3)
    · rcases List.mem_append.mp hd with z | z
      · obtain ⟨g, hg, rfl⟩ := List.mem_map.mp z
        exact (notL hq).elim
      · obtain ⟨w, hw, rfl⟩ := List.mem_map.mp z
        exact (notW hq).elim
    · rw [nolL_all, List.all_eq_true]
      intro d hd
      rcases List.mem_append.mp hd with z | z
      · obtain ⟨g, hg, rfl⟩ := List.mem_map.mp z
        exact nol_dF
      · obtain ⟨w, hw, rfl⟩ := List.mem_map.mp z
        obtain ⟨l, x⟩ := w
        have h1 : nol (dL l) = true := nol_dL
        have h2 : nol (dWh x) = true := by
          cases x with
          | link l => exact nol_dL
          | cell c => exact nol_dC
        show (nol (dL l) && (nol (dWh x) && true)) = true
        rw [h1, h2]
        rfl
  · cases R with
    | none =>
      refine ⟨by show 1 ≤ 100; omega, fun d hd => ?_, fun d hd q hq => ?_, fun z => by cases z⟩
      · rw [List.mem_singleton.mp (show d ∈ [PyData.str (Str.ofString "safe")] from hd)]
        exact al_str (by decide +kernel)
      · rw [List.mem_singleton.mp (show d ∈ [PyData.str (Str.ofString "safe")] from hd)] at hq
        cases hq
    | some x =>
      obtain ⟨t1, t2⟩ := h.told x rfl
      have mem : ∀ d ∈ [PyData.str (Str.ofString "lost"), .list (x.2.map dStep)], d = .str (Str.ofString "lost") ∨ d = .list (x.2.map dStep) := fun d hd => by simpa using hd
      refine ⟨by show 2 ≤ 100; omega, fun d hd => ?_, fun d hd q hq => ?_, fun z => by cases z⟩
      · rcases mem d hd with z | z
        · rw [z]; exact al_str (by decide +kernel)
        · rw [z]; exact al_steps (n := 2) (by omega) t2
      · rcases mem d hd with z | z
        · rw [z] at hq; cases hq
        · rw [z] at hq; cases hq; rw [List.length_map]; omega
  · have mem : ∀ d ∈ [PyData.str (textF f), dF f], d = .str (textF f) ∨ d = dF f := fun d hd => by simpa using hd
    refine ⟨by show 2 ≤ 100; omega, fun d hd => ?_, fun d hd q hq => ?_, fun z => by cases z⟩
    · rcases mem d hd with z | z
      · rw [z]; exact al_str (text_ok hf)
      · rw [z]; exact al_dF (n := 2) (by omega)
    · rcases mem d hd with z | z
      · rw [z] at hq; cases hq
      · rw [z] at hq; exact (notL hq).elim
theorem not_dict {n : Nat} {d : PyData} (h : Al n d) : ∀ q, d ≠ .dict q := fun q e => by subst e; cases n <;> exact h
theorem nol_rule {r : Rule} : nol (dRule r) = true := by
  obtain ⟨a, b⟩ := r
  cases a <;> cases b <;> rfl
theorem shp_stepsC {ss : List Step} (h : ∀ s ∈ ss, deedOk s.1 = true) : Shp 3 (.list (ss.map dStep)) := .list fun d hd => by
  obtain ⟨s, hs, rfl⟩ := List.mem_map.mp hd
  exact shp_step (h s hs)
theorem choose_ans {a : Cs} {way : Nat} {Tp : List PyData → Prop} (ha : CsOk a) (hway : way < 4) (k4 : way = 1 → nolL (ansC a way) = true) (tp : Tp (ansC a way)) :
    (tf__law_answer [.int (way : Int), dF a.1, dRule a.2.1, .int (a.2.2.1 : Int), .list (a.2.2.2.1.map dStep)] (fun r => ∃ es, r = .lst es ∧ nolL es = true ∧ Tp es) (fun _ => False)) ∨
    ∃ us d, [PyData.int (way : Int), dF a.1, dRule a.2.1, .int (a.2.2.1 : Int), .list (a.2.2.2.1.map dStep)] = us ++ [d] ∧ nolL us = true ∧ tf__law_answerA us (fun r => ∃ es, r = .lst es ∧ Tp es) (fun _ => False) := by
  have sm := ha.small
  have rm := ha.room
  have fw := ha.few
  have pre : AnsPre (way, a) := ⟨hway, ha.fine, ⟨rm.1, by show a.1.cells.length ≤ a.2.2.1; omega, rm.2⟩, ha.judged⟩
  by_cases hw1 : way = 1
  · exact .inl ⟨(way, a), rfl, ⟨pre, ha.deeds, by show a.2.2.2.1.length ≤ 1000; omega, ha.played⟩, ansC a way, rfl, k4 hw1, tp⟩
  · exact .inr ⟨[.int (way : Int), dF a.1, dRule a.2.1, .int (a.2.2.1 : Int)], _, rfl, by show (true && (nol (dF a.1) && (nol (dRule a.2.1) && (true && true)))) = true; rw [nol_dF, nol_rule]; rfl, (way, a), rfl, ⟨pre, hw1⟩, ansC a way, rfl, tp⟩
section
variable {P : Program} {w : World} {K : PySem.W.Frag} {mg : Str → Option Value} {base : Heap}
theorem ok_law (T : Txt w K mg) : FnOk P w K mg base CX0 10 T.f_law T.fd_law ["_law_script"] (spL K) := by
  refine okLaw (n := 12) T.F_law sc_law rfl fun cdv A outer s H E hr => ⟨_, _, _, rfl, ps_set (i := 1) sc_law.nd rfl (by first | exact Or.inl rfl | exact Or.inr rfl) (pe_lst (pa_cons (pv 0) (pa_cons pe_int (pa_cons pe_int pa_nil)))), psis_cons (psi_set 2 (pei_lst pai_nil) sc_law.nd)
    (psis_cons (psi_forR1 (.nm 3) PassesOwn.never rfl T.m_range rfl (pai_cons pei_int pai_nil) (by exact (pg_name (i := 3) sc_law.nd rfl (by first | exact Or.inl rfl | exact Or.inr rfl)))
      (psis_cons (psi_setF 4 (pei_defR 1 (ok__law_file T) (hr.mono (by decide)) T.g__law_file T.F__law_file.kp T.b__law_file passE (pai_cons pei_int pai_nil) rfl) sc_law.nd)
      (psis_cons (psi_setF 5 (pei_defR 1 (ok__law_rule T) (hr.mono (by decide)) T.g__law_rule T.F__law_rule.kp T.b__law_rule passE pai_nil rfl) sc_law.nd)
      (psis_cons (psi_setF 6 (pei_add pei_int (pei_defR 1 (ok__law_taken T) (hr.mono (by decide)) T.g__law_taken T.F__law_taken.kp T.b__law_taken passE (pai_cons pei_int pai_nil) rfl)) sc_law.nd)
      (psis_one (psi_app 2 (pei_tup (pai_cons (pei_var 4) (pai_cons (pei_var 5) (pai_cons (pei_var 6) (pai_cons (pei_ixT (pei_defR 1 (ok__law_played T) (hr.mono (by decide)) T.g__law_played T.F__law_played.kp T.b__law_played passE (pai_cons (pei_var 4) (pai_cons (pei_var 5) (pai_cons (pei_var 6) (pai_cons pei_int pai_nil)))) rfl) pei_int) pai_nil)))))))))))
    (psis_cons (psi_frz 2 (psi_setFLcL 7 rfl sc_law.nd (pei_var 2) (Blk.mk (own := [("_law_case", 9)]) (tgt := (.nm 9)) (blkOk_by (N := n_law) (sc := defScope s_law) (by decide +kernel)) (by decide) (fun _ _ _ _ _ => by exact (pg_name (i := 9) sc_law.nd rfl (by first | exact Or.inl rfl | exact Or.inr rfl))) (fun _ _ _ _ _ => ptsi_nil) (fun _ _ _ _ _ => (pei_list T.m_list rfl (pai_cons (pei_ixT (pei_var 9) pei_int) pai_nil)))) (sw_true rfl rfl rfl (by decide +kernel))))
    (psis_cons (psi_set 8 (pei_lst pai_nil) sc_law.nd)
    (psis_cons (psi_forL (.nm 9) PassesOwn.never rfl (pei_var 2) (by exact (pg_name (i := 9) sc_law.nd rfl (by first | exact Or.inl rfl | exact Or.inr rfl)))
      (psis_one (psi_app 8 (pei_lcR rfl sc_law.nd T.m_range rfl (pai_cons pei_int pai_nil) (Blk.mk (own := [("_law_way", 11)]) (tgt := (.nm 11)) (blkOk_by (N := n_law) (sc := defScope s_law) (by decide +kernel)) (by decide) (fun _ _ _ _ _ => by exact (pg_name (i := 11) sc_law.nd rfl (by first | exact Or.inl rfl | exact Or.inr rfl))) (fun _ _ _ _ _ => ptsi_nil) (fun _ _ _ _ _ => (pei_def (ok__law_copied T) (hr.mono (by decide)) T.g__law_copied T.F__law_copied.kp T.b__law_copied passE (pai_cons (pei_def (ok__law_answer T) (hr.mono (by decide)) T.g__law_answer T.F__law_answer.kp T.b__law_answer passE (pai_cons (pei_var 11) (pai_cons (pei_ixT (pei_var 9) pei_int) (pai_cons (pei_ixT (pei_var 9) pei_int) (pai_cons (pei_ixT (pei_var 9) pei_int) (pai_cons (pei_ixT (pei_var 9) pei_int) pai_nil))))) rfl) pai_nil) rfl)))))))
    (psis_cons (psi_forR1 (.nm 10) PassesOwn.never rfl T.m_range rfl (pai_cons (pei_add pei_int (pei_defR 1 (ok__law_taken T) (hr.mono (by decide)) T.g__law_taken T.F__law_taken.kp T.b__law_taken passE (pai_cons pei_int pai_nil) rfl)) pai_nil) (by exact (pg_name (i := 10) sc_law.nd rfl (by first | exact Or.inl rfl | exact Or.inr rfl)))
      (psis_cons (psi_setF 3 (pei_defR 1 (ok__law_taken T) (hr.mono (by decide)) T.g__law_taken T.F__law_taken.kp T.b__law_taken passE (pai_cons pei_int pai_nil) rfl) sc_law.nd)
      (psis_cons (psi_setF 11 (pei_defR 1 (ok__law_taken T) (hr.mono (by decide)) T.g__law_taken T.F__law_taken.kp T.b__law_taken passE (pai_cons pei_int pai_nil) rfl) sc_law.nd)
      (psis_told 12 13 (ps_asg (pe_call (fnOk_or (ok__law_answer T) (ok__law_answerA T)) (hr.mono (by decide)) rfl T.g__law_answer T.F__law_answer.kp T.b__law_answer .nil passE (pai_cons (pei_var 11) (pai_cons (pei_ixT (pei_ixL (pei_var 2) (pei_var 3)) pei_int) (pai_cons (pei_ixT (pei_ixL (pei_var 2) (pei_var 3)) pei_int) (pai_cons (pei_ixT (pei_ixL (pei_var 2) (pei_var 3)) pei_int) (pai_cons (pei_ixT (pei_ixL (pei_var 2) (pei_var 3)) pei_int) pai_nil)))))) (pg_name (i := 12) sc_law.nd rfl (by first | exact Or.inl rfl | exact Or.inr rfl))) (fun _ _ _ q => q)
        (ps_if (pti_peek 12 (pti_peek 8 (pti_bool (pwi_or (pti_not (pti_val (pei_def (ok__law_alike T) (hr.mono (by decide)) T.g__law_alike T.F__law_alike.kp T.b__law_alike passE (pai_cons (pei_var 12) (pai_cons (pei_ixL (pei_ixL (pei_var 8) (pei_var 3)) (pei_var 11)) pai_nil)) rfl))) (pwi_one (pti_cmp (op_neD (hu64 hr)) op2_ne (nomark _) (pei_ixT (pei_ixL (pei_var 2) (pei_var 3)) pei_int) (pei_ixL (pei_var 7) (pei_var 3)))))))) (pss_one ps_never) pss_nil) (fun _ _ _ q => if_pass q)
        (ps_told3 12 13 PassesOwn.never rfl sc_law.nd T.m_isinstance rfl T.m_list rfl) (ps_app7 12)))))
    (psis_one (psi_ret pei_bl))))))), ?_⟩
  walk_at "sf"
  refine ⟨by decide, by decide, fun i ρ => ∃ (cs : List Cs) (e3 e4 e5 e6 : Ent), ρ = [.no, .row, .ls (cs.map dCs), e3, e4, e5, e6, .no, .no, .no, .no, .no, .no, .no] ∧ cs.length = i ∧ ∀ a ∈ cs, CsOk a, ⟨[], _, _, _, _, rfl, rfl, fun a ha => by cases ha⟩, fun i ρ' hi hρ => ?_, fun ρ' hρ => ?_⟩
  · obtain ⟨cs, e3, e4, e5, e6, rfl, hlen, hok⟩ := hρ
    walk_at "sf"
    refine ⟨8, rfl, by omega, fun q ⟨f, hf, hfl, er⟩ => ?_⟩
    subst er
    walk_at "sf"
    refine ⟨(), rfl, trivial, fun q ⟨r, er⟩ => ?_⟩
    subst er
    walk_at "sf"
    refine taken 5 rfl (by omega) fun v hv => ?_
    walk_at "sf"
    rw [show (8 : Int) + (v : Int) = ((8 + v : Nat) : Int) by omega]
    refine ⟨by omega, (f, r, 8 + v, 12), rfl, ⟨hf, by show 8 + v ≤ 12; omega, by show 12 ≤ 200; omega⟩, fun q ⟨ss, fs, eq, hdo, hsl, hp⟩ => ?_⟩
    subst eq
    walk_at "sf"
    obtain ⟨R, hR, hRx⟩ := judge_at r
    refine ⟨cs ++ [(f, r, 8 + v, ss, fs, R)], .dat (.int (i : Int)), .dat (dF f), .dat (dRule r), .dat (.int ((8 + v : Nat) : Int)), ?_, by rw [List.length_append, hlen]; rfl, fun a ha => ?_⟩
    · rw [List.map_append]
      rfl
    · rcases List.mem_append.mp ha with z | z
      · exact hok a z
      · rw [List.mem_singleton.mp z]
        exact ⟨hf, hfl, ⟨by show 8 ≤ 8 + v; omega, by show 8 + v ≤ 12; omega⟩, fun s hs => (hdo s hs).1, hsl, hp, hR, hRx⟩
  · obtain ⟨cs, e3, e4, e5, e6, rfl, hlen, hok⟩ := hρ
    walk_at "sf"
    have hl2 : cs.length = 2 := hlen
    refine lcI_map dCs cs (fun _ => true) dFi rfl (by omega) (fun x hx A B hA hB => ?_) ?_
    · rw [show dCs x = .tuple [dF x.1, dRule x.2.1, .int (x.2.2.1 : Int), .list (x.2.2.2.1.map dStep)] from rfl]
      walk_at "sf"
      exact hA rfl
    · rw [List.filter_eq_self.mpr (fun _ _ => rfl)]
      refine ⟨fun j ρ => ∃ e9 : Ent, ρ = [.no, .row, .dat (.list (cs.map dCs)), e3, e4, e5, e6, .dat (.list (cs.map dFi)), .ls ((cs.take j).map dKe), e9, .no, .no, .no, .no], ⟨_, rfl⟩, fun j d' ρ hd hρ => ?_, fun ρ hρ => ?_⟩
      · obtain ⟨e9, rfl⟩ := hρ
        rw [List.getElem?_map] at hd
        cases hx : cs[j]? with
        | none => rw [hx] at hd; cases hd
        | some a =>
          rw [hx] at hd
          cases hd
          have hj : j < cs.length := (List.getElem?_eq_some_iff.mp hx).1
          have ha := hok a (List.mem_of_getElem? hx)
          have e1 : (cs.take (j + 1)).map dKe = (cs.take j).map dKe ++ [dKe a] := by
            rw [List.take_add_one, hx, List.map_append]
            rfl
          simp only [e1]
          walk_at "sf"
          refine ⟨by rw [List.length_take]; omega, by omega, by omega, ?_⟩
          refine lcR_fm (fun _ => true) (fun way => .list (ansC a way)) rfl (by decide) (fun way hway A B hA hB => ?_) ?_
          · have hway : way < 4 := hway
            obtain ⟨k1, k2, k3, _⟩ := ans_ok ha hway
            obtain ⟨f, r, room, ss, fs, R⟩ := a
            rw [show dCs (f, r, room, ss, fs, R) = .tuple [dF f, dRule r, .int (room : Int), .list (ss.map dStep)] from rfl]
            walk_at "sf"
            have sm : f.cells.length ≤ 8 := ha.small
            have rm : 8 ≤ room ∧ room ≤ 12 := ha.room
            have fw : ss.length ≤ 12 := ha.few
            refine ⟨(way, f, r, room, ss, fs, R), rfl, ⟨⟨hway, ha.fine, ⟨rm.1, by show f.cells.length ≤ room; omega, rm.2⟩, ha.judged⟩, ha.deeds, by show ss.length ≤ 1000; omega, ha.played⟩, ?_⟩
            refine ⟨ansC (f, r, room, ss, fs, R) way, rfl, ⟨by omega, fun d hd => not_dict (k2 d hd)⟩, hA rfl⟩
          · refine ⟨.dat (dCs a), ?_⟩
            rw [List.filter_eq_self.mpr (fun _ _ => rfl)]
            rfl
      · obtain ⟨e9, rfl⟩ := hρ
        rw [List.length_map, List.take_length]
        walk_at "sf"
        refine taken 16 rfl (by omega) fun v hv => ?_
        walk_at "sf"
        refine ⟨by omega, by omega, fun i ρ => ∃ (e3 e4 e5 e6 e9 e10 e11 : Ent), ρ = [.no, .row, .dat (.list (cs.map dCs)), e3, e4, e5, e6, .dat (.list (cs.map dFi)), .ls (cs.map dKe), e9, e10, e11, .no, .no], ⟨_, _, _, _, _, _, _, rfl⟩, fun i ρ' hi hρ => ?_, fun ρ' hρ => ?_⟩
        · obtain ⟨e3, e4, e5, e6, e9, e10, e11, rfl⟩ := hρ
          walk_at "sf"
          refine taken 2 rfl (by omega) fun k hk => ?_
          walk_at "sf"
          refine taken 4 rfl (by omega) fun way hway => ?_
          walk_at "sf"
          have hk2 : k < cs.length := by omega
          have hx : cs[k]? = some cs[k] := List.getElem?_eq_getElem hk2
          generalize cs[k] = a at hx
          have ha := hok a (List.mem_of_getElem? hx)
          obtain ⟨k1, k2, k3, k4⟩ := ans_ok ha hway
          have ea : atI (cs.map dCs) ((k : Nat) : Int) = some (dCs a) := atI_nat (by rw [List.getElem?_map, hx]; rfl)
          have eb : atI (cs.map dFi) ((k : Nat) : Int) = some (dFi a) := atI_nat (by rw [List.getElem?_map, hx]; rfl)
          have ec : atI (cs.map dKe) ((k : Nat) : Int) = some (dKe a) := atI_nat (by rw [List.getElem?_map, hx]; rfl)
          have ed : atI ((List.range 4).map fun way => PyData.list (ansC a way)) ((way : Nat) : Int) = some (.list (ansC a way)) := atI_nat (by rw [List.getElem?_map, List.getElem?_range hway]; rfl)
          have sm := ha.small
          have rm := ha.room
          have fw := ha.few
          refine ⟨⟨by decide, by decide, by decide, by intro z; cases z⟩, dCs a, ea, ?_⟩
          rw [show dCs a = .tuple [dF a.1, dRule a.2.1, .int (a.2.2.1 : Int), .list (a.2.2.2.1.map dStep)] from rfl] at ea ⊢
          walk_at "sf"
          refine ⟨_, ea, ?_⟩
          walk_at "sf"
          refine ⟨_, ea, ?_⟩
          walk_at "sf"
          refine ⟨_, ea, ?_⟩
          walk_at "sf"
          refine choose_ans ha hway k4 ?_
          refine ⟨by omega, fun d hd => ⟨not_dict (k2 d hd), fun q hq => k3 d hd q hq⟩, ?_⟩
          walk_at "sf"
          refine ⟨_, ec, ?_⟩
          rw [show dKe a = .list ((List.range 4).map fun way => .list (ansC a way)) from rfl]
          walk_at "sf"
          refine ⟨_, ed, .list (ansC a way), rfl, ⟨by omega, k2⟩, true, rfl, ?_⟩
          walk_at "sf"
          refine ⟨_, ea, ?_⟩
          walk_at "sf"
          have hsh := shp_stepsC ha.deeds
          refine ⟨_, eb, hsh.shaped (by decide), hsh.shaped (by decide), ?_, _, _, _, _, _, _, _, rfl⟩
          rw [show dFi a = .list (a.2.2.2.1.map dStep) from rfl, SeqAt.eqv_refl _ hsh.1]
          rfl
        · obtain ⟨e3, e4, e5, e6, e9, e10, e11, rfl⟩ := hρ
          walk_at "sf"
end
theorem im_firstsB {K : PySem.W.Frag} (h : He.tupB K "FIRSTS" [.str (Str.ofString "head"), .str (Str.ofString "slot")] = true) : ∀ G, Im K G (.tuple [.str (Str.ofString "head"), .str (Str.ofString "slot")]) (.ref (He.ga K "FIRSTS")) := fun G => by
  rw [im_tuple]
  refine ⟨_, [.str (Str.ofString "head"), .str (Str.ofString "slot")], rfl, He.tupB_ok h G, ?_⟩
  exact .cons (by rw [im_str]) (.cons (by rw [im_str]) .nil)
theorem fun_ofD {K : PySem.W.Frag} {x y : Str} {st : Stmt} {f : Addr} {fd : FuncData} (F : FunD K x y (defArgs st) (defBody st) (defScope st) [] [] f fd) : Fun K x y st f fd := by
  obtain ⟨oc, od, dV, kV, doc, pm, an, cdv, ct, osl, e, lk, hcd, hd, _⟩ := F.ex
  rcases hd with ⟨_, hd⟩ | ⟨hd, _⟩
  · subst hd
    exact ⟨⟨oc, od, kV, doc, pm, an, cdv, ct, osl, e, lk, hcd⟩, F.kp⟩
  · exact absurd rfl hd
def dd (x : Str) (st : Stmt) : He.DefD := ⟨(x, none), x, x, defArgs st, defBody st, defScope st, [], []⟩
def signsB (K : PySem.W.Frag) : Bool := match K.lookup (He.ga K "SIGNS") with
  | some ⟨_, _, .dict es _, _⟩ => (match es.toList with
    | [⟨_, .str a _, .str b _⟩, ⟨_, .str c _, .str d _⟩] => decide (a = Str.ofString "r") && decide (b = Str.ofString "row") && decide (c = Str.ofString "f") && decide (d = Str.ofString "free")
    | _ => false)
  | _ => false
theorem signsB_ok {K : PySem.W.Frag} (h : signsB K = true) : KdAs K (He.ga K "SIGNS") signsG := by
  unfold signsB at h
  split at h
  · rename_i oc od es n sl e
    split at h
    · rename_i ha a ta b tb hb c tc d td e2
      rw [Bool.and_eq_true, Bool.and_eq_true, Bool.and_eq_true, decide_eq_true_iff, decide_eq_true_iff, decide_eq_true_iff, decide_eq_true_iff] at h
      obtain ⟨⟨⟨h1, h2⟩, h3⟩, h4⟩ := h
      subst h1 h2 h3 h4
      have ee : es = #[⟨ha, .str (Str.ofString "r") ta, .str (Str.ofString "row") tb⟩, ⟨hb, .str (Str.ofString "f") tc, .str (Str.ofString "free") td⟩] := by
        have := congrArg List.toArray e2
        rwa [Array.toArray_toList] at this
      subst ee
      exact kd_signs (oc := oc) e
    · cases h
  · cases h
def hfn : List He.DefD := [dd "is_link" s_is_link, dd "is_cell" s_is_cell, dd "need_file" s_need_file, dd "chain_of" s_chain_of, dd "rows_of" s_rows_of, dd "looked_over" s_looked_over, dd "checked" s_checked, dd "chained" s_chained, dd "mended_of" s_mended_of, dd "mended" s_mended, dd "mends_of" s_mends_of, dd "mends" s_mends, dd "need_rule" s_need_rule, dd "need_room" s_need_room, dd "in_order" s_in_order, dd "take_writes" s_take_writes, dd "writes_of" s_writes_of, dd "written_in" s_written_in, dd "stepped" s_stepped, dd "played" s_played, dd "writes" s_writes, dd "need_small" s_need_small, dd "steps_on" s_steps_on, dd "is_over" s_is_over, dd "lost_by" s_lost_by, dd "judged" s_judged, dd "written" s_written, dd "number_of" s_number_of, dd "read" s_read, dd "_law_taken" s__law_taken, dd "_law_alike" s__law_alike, dd "_law_rule" s__law_rule, dd "_law_file" s__law_file, dd "_law_checked" s__law_checked, dd "_law_mends" s__law_mends, dd "_law_writes" s__law_writes, dd "_law_behind" s__law_behind, dd "_law_deed" s__law_deed, dd "_law_step" s__law_step, dd "_law_played" s__law_played, dd "_law_answer" s__law_answer, dd "_law_copied" s__law_copied, dd "law" s_law]
def hfa : List He.Fa := [.glo "is_link", .glo "is_cell", .glo "need_file", .glo "chain_of", .glo "rows_of", .glo "looked_over", .glo "checked", .glo "chained", .glo "mended_of", .glo "mended", .glo "mends_of", .glo "mends", .glo "need_rule", .glo "need_room", .glo "in_order", .glo "take_writes", .glo "writes_of", .glo "written_in", .glo "stepped", .glo "played", .glo "writes", .glo "need_small", .glo "steps_on", .glo "is_over", .glo "lost_by", .glo "judged", .glo "written", .glo "number_of", .glo "read", .glo "_law_taken", .glo "_law_alike", .glo "_law_rule", .glo "_law_file", .glo "_law_checked", .glo "_law_mends", .glo "_law_writes", .glo "_law_behind", .glo "_law_deed", .glo "_law_step", .glo "_law_played", .glo "_law_answer", .glo "_law_copied", .glo "law", .free "len", .free "range", .free "list", .free "tuple", .free "max", .free "min", .free "isinstance", .free "str", .free "bool", .free "int", .int "MOST_SLOTS" 12, .int "MOST_NUMBER" 999, .str "ROW" (Str.ofString "row"), .str "FREE" (Str.ofString "free"), .glo "FIRSTS", .int "MOST_ROOM" 4, .glo "EMPTY", .glo "TAKE", .str "FIGURES" (Str.ofString "0123456789"), .int "MOST_FIGURES" 3, .glo "SIGNS"]
def hts : List He.Tab := [(fun K => He.ga K "SIGNS", ["r", "f"])]
def hex (K : PySem.W.Frag) : Bool := He.tupB K "FIRSTS" [.str (Str.ofString "head"), .str (Str.ofString "slot")] && (imB K (.tuple [.none, .tuple []]) (.ref (He.ga K "EMPTY")) && (imB K (.tuple [.str (Str.ofString "take"), .int 0]) (.ref (He.ga K "TAKE")) && (signsB K)))
abbrev R : PySem.W.OpenRow := PySem.W.OpenLaw.row PySem.Challenge.rw_slotfile_k11_asked_again
abbrev hk : PySem.W.Hook := He.hookX 4 hfa hfn hts [] hex
def ob (s : PySem.W.SharedT) : He.AlX := He.obsX 4 hfa hfn hts [] hex (HandSHeadRun.getT s)
theorem ob_eq (s : PySem.W.SharedT) : ob s = hk.obs s.abs := He.obsX_eq (HandSHeadRun.getT_eq s)
theorem run (w : World) : HandSHeadRun.RunEq R (PySem.W.view R.prog [65]) hk ob 4000 [Str.ofString "SlotError", Str.ofString "BadFile", Str.ofString "BadRule", Str.ofString "BadRoom", Str.ofString "BadStep", Str.ofString "BadText", Str.ofString "MOST_SLOTS", Str.ofString "MOST_NUMBER", Str.ofString "ROW", Str.ofString "FREE", Str.ofString "is_link", Str.ofString "is_cell", Str.ofString "need_file", Str.ofString "chain_of", Str.ofString "rows_of", Str.ofString "looked_over", Str.ofString "checked", Str.ofString "chained", Str.ofString "mended_of", Str.ofString "mended", Str.ofString "mends_of", Str.ofString "mends", Str.ofString "FIRSTS", Str.ofString "need_rule", Str.ofString "need_room", Str.ofString "in_order", Str.ofString "take_writes", Str.ofString "writes_of", Str.ofString "written_in", Str.ofString "stepped", Str.ofString "played", Str.ofString "writes", Str.ofString "EMPTY", Str.ofString "MOST_ROOM", Str.ofString "TAKE", Str.ofString "need_small", Str.ofString "steps_on", Str.ofString "is_over", Str.ofString "lost_by", Str.ofString "judged", Str.ofString "FIGURES", Str.ofString "MOST_FIGURES", Str.ofString "SIGNS", Str.ofString "written", Str.ofString "number_of", Str.ofString "read", Str.ofString "_law_taken", Str.ofString "_law_alike", Str.ofString "_law_rule", Str.ofString "_law_file", Str.ofString "_law_checked", Str.ofString "_law_mends", Str.ofString "_law_writes", Str.ofString "_law_behind", Str.ofString "_law_deed", Str.ofString "_law_step", Str.ofString "_law_played", Str.ofString "_law_answer", Str.ofString "_law_copied"] w :=
  PySem.W.byRow2 "special-get-raises" (P := fun w => HandSHeadRun.RunEq R (PySem.W.view R.prog [65]) hk ob 4000 [Str.ofString "SlotError", Str.ofString "BadFile", Str.ofString "BadRule", Str.ofString "BadRoom", Str.ofString "BadStep", Str.ofString "BadText", Str.ofString "MOST_SLOTS", Str.ofString "MOST_NUMBER", Str.ofString "ROW", Str.ofString "FREE", Str.ofString "is_link", Str.ofString "is_cell", Str.ofString "need_file", Str.ofString "chain_of", Str.ofString "rows_of", Str.ofString "looked_over", Str.ofString "checked", Str.ofString "chained", Str.ofString "mended_of", Str.ofString "mended", Str.ofString "mends_of", Str.ofString "mends", Str.ofString "FIRSTS", Str.ofString "need_rule", Str.ofString "need_room", Str.ofString "in_order", Str.ofString "take_writes", Str.ofString "writes_of", Str.ofString "written_in", Str.ofString "stepped", Str.ofString "played", Str.ofString "writes", Str.ofString "EMPTY", Str.ofString "MOST_ROOM", Str.ofString "TAKE", Str.ofString "need_small", Str.ofString "steps_on", Str.ofString "is_over", Str.ofString "lost_by", Str.ofString "judged", Str.ofString "FIGURES", Str.ofString "MOST_FIGURES", Str.ofString "SIGNS", Str.ofString "written", Str.ofString "number_of", Str.ofString "read", Str.ofString "_law_taken", Str.ofString "_law_alike", Str.ofString "_law_rule", Str.ofString "_law_file", Str.ofString "_law_checked", Str.ofString "_law_mends", Str.ofString "_law_writes", Str.ofString "_law_behind", Str.ofString "_law_deed", Str.ofString "_law_step", Str.ofString "_law_played", Str.ofString "_law_answer", Str.ofString "_law_copied"] w) (fun w => by intro os; kernel_rfl) (fun w => by intro os; kernel_rfl) w
theorem facts {P : Program} {w : World} {K : PySem.W.Frag} {h : Heap} {mg : Str → Option Value} {f : Addr} (X : K.In h) (G : h.Ns mainGlobals mg) (hfa0 : mg ("law" : Str) = some (.ref f)) (ct : He.SaysT hfa hfn hts w K) (cx : hex K = true) :
    ∃ fd : FuncData, (∀ (s : Shared) (v : Value), BindsTo s fd ⟨[v], []⟩ [("_law_script", v)]) ∧ ∀ base : Heap, K.In base → base.Ns mainGlobals mg → FnOk P w K mg base CX0 10 f fd ["_law_script"] (spL K) := by
  have c := ct.d
  obtain ⟨cf, cx⟩ := Bool.and_eq_true_iff.mp cx
  obtain ⟨ck_EMPTY, cx⟩ := Bool.and_eq_true_iff.mp cx
  obtain ⟨ck_TAKE, cx⟩ := Bool.and_eq_true_iff.mp cx
  have ck := cx
  obtain ⟨fd0, D0⟩ := c.def_ 0 (d := dd "is_link" s_is_link) rfl
  have F0 := fun_ofD (st := s_is_link) D0
  obtain ⟨fd1, D1⟩ := c.def_ 1 (d := dd "is_cell" s_is_cell) rfl
  have F1 := fun_ofD (st := s_is_cell) D1
  obtain ⟨fd2, D2⟩ := c.def_ 2 (d := dd "need_file" s_need_file) rfl
  have F2 := fun_ofD (st := s_need_file) D2
  obtain ⟨fd3, D3⟩ := c.def_ 3 (d := dd "chain_of" s_chain_of) rfl
  have F3 := fun_ofD (st := s_chain_of) D3
  obtain ⟨fd4, D4⟩ := c.def_ 4 (d := dd "rows_of" s_rows_of) rfl
  have F4 := fun_ofD (st := s_rows_of) D4
  obtain ⟨fd5, D5⟩ := c.def_ 5 (d := dd "looked_over" s_looked_over) rfl
  have F5 := fun_ofD (st := s_looked_over) D5
  obtain ⟨fd6, D6⟩ := c.def_ 6 (d := dd "checked" s_checked) rfl
  have F6 := fun_ofD (st := s_checked) D6
  obtain ⟨fd7, D7⟩ := c.def_ 7 (d := dd "chained" s_chained) rfl
  have F7 := fun_ofD (st := s_chained) D7
  obtain ⟨fd8, D8⟩ := c.def_ 8 (d := dd "mended_of" s_mended_of) rfl
  have F8 := fun_ofD (st := s_mended_of) D8
  obtain ⟨fd9, D9⟩ := c.def_ 9 (d := dd "mended" s_mended) rfl
  have F9 := fun_ofD (st := s_mended) D9
  obtain ⟨fd10, D10⟩ := c.def_ 10 (d := dd "mends_of" s_mends_of) rfl
  have F10 := fun_ofD (st := s_mends_of) D10
  obtain ⟨fd11, D11⟩ := c.def_ 11 (d := dd "mends" s_mends) rfl
  have F11 := fun_ofD (st := s_mends) D11
  obtain ⟨fd12, D12⟩ := c.def_ 12 (d := dd "need_rule" s_need_rule) rfl
  have F12 := fun_ofD (st := s_need_rule) D12
  obtain ⟨fd13, D13⟩ := c.def_ 13 (d := dd "need_room" s_need_room) rfl
  have F13 := fun_ofD (st := s_need_room) D13
  obtain ⟨fd14, D14⟩ := c.def_ 14 (d := dd "in_order" s_in_order) rfl
  have F14 := fun_ofD (st := s_in_order) D14
  obtain ⟨fd15, D15⟩ := c.def_ 15 (d := dd "take_writes" s_take_writes) rfl
  have F15 := fun_ofD (st := s_take_writes) D15
  obtain ⟨fd16, D16⟩ := c.def_ 16 (d := dd "writes_of" s_writes_of) rfl
  have F16 := fun_ofD (st := s_writes_of) D16
  obtain ⟨fd17, D17⟩ := c.def_ 17 (d := dd "written_in" s_written_in) rfl
  have F17 := fun_ofD (st := s_written_in) D17
  obtain ⟨fd18, D18⟩ := c.def_ 18 (d := dd "stepped" s_stepped) rfl
  have F18 := fun_ofD (st := s_stepped) D18
  obtain ⟨fd19, D19⟩ := c.def_ 19 (d := dd "played" s_played) rfl
  have F19 := fun_ofD (st := s_played) D19
  obtain ⟨fd20, D20⟩ := c.def_ 20 (d := dd "writes" s_writes) rfl
  have F20 := fun_ofD (st := s_writes) D20
  obtain ⟨fd21, D21⟩ := c.def_ 21 (d := dd "need_small" s_need_small) rfl
  have F21 := fun_ofD (st := s_need_small) D21
  obtain ⟨fd22, D22⟩ := c.def_ 22 (d := dd "steps_on" s_steps_on) rfl
  have F22 := fun_ofD (st := s_steps_on) D22
  obtain ⟨fd23, D23⟩ := c.def_ 23 (d := dd "is_over" s_is_over) rfl
  have F23 := fun_ofD (st := s_is_over) D23
  obtain ⟨fd24, D24⟩ := c.def_ 24 (d := dd "lost_by" s_lost_by) rfl
  have F24 := fun_ofD (st := s_lost_by) D24
  obtain ⟨fd25, D25⟩ := c.def_ 25 (d := dd "judged" s_judged) rfl
  have F25 := fun_ofD (st := s_judged) D25
  obtain ⟨fd26, D26⟩ := c.def_ 26 (d := dd "written" s_written) rfl
  have F26 := fun_ofD (st := s_written) D26
  obtain ⟨fd27, D27⟩ := c.def_ 27 (d := dd "number_of" s_number_of) rfl
  have F27 := fun_ofD (st := s_number_of) D27
  obtain ⟨fd28, D28⟩ := c.def_ 28 (d := dd "read" s_read) rfl
  have F28 := fun_ofD (st := s_read) D28
  obtain ⟨fd29, D29⟩ := c.def_ 29 (d := dd "_law_taken" s__law_taken) rfl
  have F29 := fun_ofD (st := s__law_taken) D29
  obtain ⟨fd30, D30⟩ := c.def_ 30 (d := dd "_law_alike" s__law_alike) rfl
  have F30 := fun_ofD (st := s__law_alike) D30
  obtain ⟨fd31, D31⟩ := c.def_ 31 (d := dd "_law_rule" s__law_rule) rfl
  have F31 := fun_ofD (st := s__law_rule) D31
  obtain ⟨fd32, D32⟩ := c.def_ 32 (d := dd "_law_file" s__law_file) rfl
  have F32 := fun_ofD (st := s__law_file) D32
  obtain ⟨fd33, D33⟩ := c.def_ 33 (d := dd "_law_checked" s__law_checked) rfl
  have F33 := fun_ofD (st := s__law_checked) D33
  obtain ⟨fd34, D34⟩ := c.def_ 34 (d := dd "_law_mends" s__law_mends) rfl
  have F34 := fun_ofD (st := s__law_mends) D34
  obtain ⟨fd35, D35⟩ := c.def_ 35 (d := dd "_law_writes" s__law_writes) rfl
  have F35 := fun_ofD (st := s__law_writes) D35
  obtain ⟨fd36, D36⟩ := c.def_ 36 (d := dd "_law_behind" s__law_behind) rfl
  have F36 := fun_ofD (st := s__law_behind) D36
  obtain ⟨fd37, D37⟩ := c.def_ 37 (d := dd "_law_deed" s__law_deed) rfl
  have F37 := fun_ofD (st := s__law_deed) D37
  obtain ⟨fd38, D38⟩ := c.def_ 38 (d := dd "_law_step" s__law_step) rfl
  have F38 := fun_ofD (st := s__law_step) D38
  obtain ⟨fd39, D39⟩ := c.def_ 39 (d := dd "_law_played" s__law_played) rfl
  have F39 := fun_ofD (st := s__law_played) D39
  obtain ⟨fd40, D40⟩ := c.def_ 40 (d := dd "_law_answer" s__law_answer) rfl
  have F40 := fun_ofD (st := s__law_answer) D40
  obtain ⟨fd41, D41⟩ := c.def_ 41 (d := dd "_law_copied" s__law_copied) rfl
  have F41 := fun_ofD (st := s__law_copied) D41
  obtain ⟨fd42, D42⟩ := c.def_ 42 (d := dd "law" s_law) rfl
  have F42 := fun_ofD (st := s_law) D42
  obtain ⟨es, nn, KD⟩ := ct.tab 0 (t := (fun K => He.ga K "SIGNS", ["r", "f"])) rfl
  have e := hfa0.symm.trans (He.glo_ok X G (c.fact 42 (f := .glo "law") rfl))
  cases e
  have T : ∃ T : Txt w K mg, T.f_law = He.ga K "law" ∧ T.fd_law = fd42 := ⟨{ f_is_link := _, fd_is_link := fd0, F_is_link := F0, b_is_link := F0.binds (ps := ["cells", "place"]) fun _ _ _ _ _ _ us hl => match us, hl with | [_, _], _ => rfl, g_is_link := He.glo_ok X G (c.fact 0 (f := .glo "is_link") rfl), f_is_cell := _, fd_is_cell := fd1, F_is_cell := F1, b_is_cell := F1.binds (ps := ["cells", "cell"]) fun _ _ _ _ _ _ us hl => match us, hl with | [_, _], _ => rfl, g_is_cell := He.glo_ok X G (c.fact 1 (f := .glo "is_cell") rfl), f_need_file := _, fd_need_file := fd2, F_need_file := F2, b_need_file := F2.binds (ps := ["file"]) fun _ _ _ _ _ _ us hl => match us, hl with | [_], _ => rfl, g_need_file := He.glo_ok X G (c.fact 2 (f := .glo "need_file") rfl), f_chain_of := _, fd_chain_of := fd3, F_chain_of := F3, b_chain_of := F3.binds (ps := ["file"]) fun _ _ _ _ _ _ us hl => match us, hl with | [_], _ => rfl, g_chain_of := He.glo_ok X G (c.fact 3 (f := .glo "chain_of") rfl), f_rows_of := _, fd_rows_of := fd4, F_rows_of := F4, b_rows_of := F4.binds (ps := ["file"]) fun _ _ _ _ _ _ us hl => match us, hl with | [_], _ => rfl, g_rows_of := He.glo_ok X G (c.fact 4 (f := .glo "rows_of") rfl), f_looked_over := _, fd_looked_over := fd5, F_looked_over := F5, b_looked_over := F5.binds (ps := ["file"]) fun _ _ _ _ _ _ us hl => match us, hl with | [_], _ => rfl, g_looked_over := He.glo_ok X G (c.fact 5 (f := .glo "looked_over") rfl), f_checked := _, fd_checked := fd6, F_checked := F6, b_checked := F6.binds (ps := ["file"]) fun _ _ _ _ _ _ us hl => match us, hl with | [_], _ => rfl, g_checked := He.glo_ok X G (c.fact 6 (f := .glo "checked") rfl), f_chained := _, fd_chained := fd7, F_chained := F7, b_chained := F7.binds (ps := ["cells", "places"]) fun _ _ _ _ _ _ us hl => match us, hl with | [_, _], _ => rfl, g_chained := He.glo_ok X G (c.fact 7 (f := .glo "chained") rfl), f_mended_of := _, fd_mended_of := fd8, F_mended_of := F8, b_mended_of := F8.binds (ps := ["file"]) fun _ _ _ _ _ _ us hl => match us, hl with | [_], _ => rfl, g_mended_of := He.glo_ok X G (c.fact 8 (f := .glo "mended_of") rfl), f_mended := _, fd_mended := fd9, F_mended := F9, b_mended := F9.binds (ps := ["file"]) fun _ _ _ _ _ _ us hl => match us, hl with | [_], _ => rfl, g_mended := He.glo_ok X G (c.fact 9 (f := .glo "mended") rfl), f_mends_of := _, fd_mends_of := fd10, F_mends_of := F10, b_mends_of := F10.binds (ps := ["file"]) fun _ _ _ _ _ _ us hl => match us, hl with | [_], _ => rfl, g_mends_of := He.glo_ok X G (c.fact 10 (f := .glo "mends_of") rfl), f_mends := _, fd_mends := fd11, F_mends := F11, b_mends := F11.binds (ps := ["file"]) fun _ _ _ _ _ _ us hl => match us, hl with | [_], _ => rfl, g_mends := He.glo_ok X G (c.fact 11 (f := .glo "mends") rfl), f_need_rule := _, fd_need_rule := fd12, F_need_rule := F12, b_need_rule := F12.binds (ps := ["rule"]) fun _ _ _ _ _ _ us hl => match us, hl with | [_], _ => rfl, g_need_rule := He.glo_ok X G (c.fact 12 (f := .glo "need_rule") rfl), f_need_room := _, fd_need_room := fd13, F_need_room := F13, b_need_room := F13.binds (ps := ["file", "room"]) fun _ _ _ _ _ _ us hl => match us, hl with | [_, _], _ => rfl, g_need_room := He.glo_ok X G (c.fact 13 (f := .glo "need_room") rfl), f_in_order := _, fd_in_order := fd14, F_in_order := F14, b_in_order := F14.binds (ps := ["first", "head", "slot"]) fun _ _ _ _ _ _ us hl => match us, hl with | [_, _, _], _ => rfl, g_in_order := He.glo_ok X G (c.fact 14 (f := .glo "in_order") rfl), f_take_writes := _, fd_take_writes := fd15, F_take_writes := F15, b_take_writes := F15.binds (ps := ["file", "rule", "room", "number"]) fun _ _ _ _ _ _ us hl => match us, hl with | [_, _, _, _], _ => rfl, g_take_writes := He.glo_ok X G (c.fact 15 (f := .glo "take_writes") rfl), f_writes_of := _, fd_writes_of := fd16, F_writes_of := F16, b_writes_of := F16.binds (ps := ["file", "rule", "room", "deed"]) fun _ _ _ _ _ _ us hl => match us, hl with | [_, _, _, _], _ => rfl, g_writes_of := He.glo_ok X G (c.fact 16 (f := .glo "writes_of") rfl), f_written_in := _, fd_written_in := fd17, F_written_in := F17, b_written_in := F17.binds (ps := ["file", "write"]) fun _ _ _ _ _ _ us hl => match us, hl with | [_, _], _ => rfl, g_written_in := He.glo_ok X G (c.fact 17 (f := .glo "written_in") rfl), f_stepped := _, fd_stepped := fd18, F_stepped := F18, b_stepped := F18.binds (ps := ["file", "rule", "room", "step"]) fun _ _ _ _ _ _ us hl => match us, hl with | [_, _, _, _], _ => rfl, g_stepped := He.glo_ok X G (c.fact 18 (f := .glo "stepped") rfl), f_played := _, fd_played := fd19, F_played := F19, b_played := F19.binds (ps := ["file", "rule", "room", "steps"]) fun _ _ _ _ _ _ us hl => match us, hl with | [_, _, _, _], _ => rfl, g_played := He.glo_ok X G (c.fact 19 (f := .glo "played") rfl), f_writes := _, fd_writes := fd20, F_writes := F20, b_writes := F20.binds (ps := ["file", "rule", "room", "deed"]) fun _ _ _ _ _ _ us hl => match us, hl with | [_, _, _, _], _ => rfl, g_writes := He.glo_ok X G (c.fact 20 (f := .glo "writes") rfl), f_need_small := _, fd_need_small := fd21, F_need_small := F21, b_need_small := F21.binds (ps := ["room"]) fun _ _ _ _ _ _ us hl => match us, hl with | [_], _ => rfl, g_need_small := He.glo_ok X G (c.fact 21 (f := .glo "need_small") rfl), f_steps_on := _, fd_steps_on := fd22, F_steps_on := F22, b_steps_on := F22.binds (ps := ["file", "rule", "room"]) fun _ _ _ _ _ _ us hl => match us, hl with | [_, _, _], _ => rfl, g_steps_on := He.glo_ok X G (c.fact 22 (f := .glo "steps_on") rfl), f_is_over := _, fd_is_over := fd23, F_is_over := F23, b_is_over := F23.binds (ps := ["file", "rule", "room", "step"]) fun _ _ _ _ _ _ us hl => match us, hl with | [_, _, _, _], _ => rfl, g_is_over := He.glo_ok X G (c.fact 23 (f := .glo "is_over") rfl), f_lost_by := _, fd_lost_by := fd24, F_lost_by := F24, b_lost_by := F24.binds (ps := ["rule", "room"]) fun _ _ _ _ _ _ us hl => match us, hl with | [_, _], _ => rfl, g_lost_by := He.glo_ok X G (c.fact 24 (f := .glo "lost_by") rfl), f_judged := _, fd_judged := fd25, F_judged := F25, b_judged := F25.binds (ps := ["rule", "room"]) fun _ _ _ _ _ _ us hl => match us, hl with | [_, _], _ => rfl, g_judged := He.glo_ok X G (c.fact 25 (f := .glo "judged") rfl), f_written := _, fd_written := fd26, F_written := F26, b_written := F26.binds (ps := ["file"]) fun _ _ _ _ _ _ us hl => match us, hl with | [_], _ => rfl, g_written := He.glo_ok X G (c.fact 26 (f := .glo "written") rfl), f_number_of := _, fd_number_of := fd27, F_number_of := F27, b_number_of := F27.binds (ps := ["word", "at"]) fun _ _ _ _ _ _ us hl => match us, hl with | [_, _], _ => rfl, g_number_of := He.glo_ok X G (c.fact 27 (f := .glo "number_of") rfl), f_read := _, fd_read := fd28, F_read := F28, b_read := F28.binds (ps := ["text"]) fun _ _ _ _ _ _ us hl => match us, hl with | [_], _ => rfl, g_read := He.glo_ok X G (c.fact 28 (f := .glo "read") rfl), f__law_taken := _, fd__law_taken := fd29, F__law_taken := F29, b__law_taken := F29.binds (ps := ["_law_row", "_law_many"]) fun _ _ _ _ _ _ us hl => match us, hl with | [_, _], _ => rfl, g__law_taken := He.glo_ok X G (c.fact 29 (f := .glo "_law_taken") rfl), f__law_alike := _, fd__law_alike := fd30, F__law_alike := F30, b__law_alike := F30.binds (ps := ["_law_found", "_law_due"]) fun _ _ _ _ _ _ us hl => match us, hl with | [_, _], _ => rfl, g__law_alike := He.glo_ok X G (c.fact 30 (f := .glo "_law_alike") rfl), f__law_rule := _, fd__law_rule := fd31, F__law_rule := F31, b__law_rule := F31.binds (ps := ["_law_row"]) fun _ _ _ _ _ _ us hl => match us, hl with | [_], _ => rfl, g__law_rule := He.glo_ok X G (c.fact 31 (f := .glo "_law_rule") rfl), f__law_file := _, fd__law_file := fd32, F__law_file := F32, b__law_file := F32.binds (ps := ["_law_row", "_law_most"]) fun _ _ _ _ _ _ us hl => match us, hl with | [_, _], _ => rfl, g__law_file := He.glo_ok X G (c.fact 32 (f := .glo "_law_file") rfl), f__law_checked := _, fd__law_checked := fd33, F__law_checked := F33, b__law_checked := F33.binds (ps := ["_law_file_here"]) fun _ _ _ _ _ _ us hl => match us, hl with | [_], _ => rfl, g__law_checked := He.glo_ok X G (c.fact 33 (f := .glo "_law_checked") rfl), f__law_mends := _, fd__law_mends := fd34, F__law_mends := F34, b__law_mends := F34.binds (ps := ["_law_file_here"]) fun _ _ _ _ _ _ us hl => match us, hl with | [_], _ => rfl, g__law_mends := He.glo_ok X G (c.fact 34 (f := .glo "_law_mends") rfl), f__law_writes := _, fd__law_writes := fd35, F__law_writes := F35, b__law_writes := F35.binds (ps := ["_law_file_here", "_law_rule_here", "_law_room", "_law_deed_here"]) fun _ _ _ _ _ _ us hl => match us, hl with | [_, _, _, _], _ => rfl, g__law_writes := He.glo_ok X G (c.fact 35 (f := .glo "_law_writes") rfl), f__law_behind := _, fd__law_behind := fd36, F__law_behind := F36, b__law_behind := F36.binds (ps := ["_law_file_here", "_law_rule_here", "_law_room", "_law_step_here"]) fun _ _ _ _ _ _ us hl => match us, hl with | [_, _, _, _], _ => rfl, g__law_behind := He.glo_ok X G (c.fact 36 (f := .glo "_law_behind") rfl), f__law_deed := _, fd__law_deed := fd37, F__law_deed := F37, b__law_deed := F37.binds (ps := ["_law_row", "_law_file_here", "_law_rule_here", "_law_room"]) fun _ _ _ _ _ _ us hl => match us, hl with | [_, _, _, _], _ => rfl, g__law_deed := He.glo_ok X G (c.fact 37 (f := .glo "_law_deed") rfl), f__law_step := _, fd__law_step := fd38, F__law_step := F38, b__law_step := F38.binds (ps := ["_law_row", "_law_file_here", "_law_rule_here", "_law_room", "_law_whole"]) fun _ _ _ _ _ _ us hl => match us, hl with | [_, _, _, _, _], _ => rfl, g__law_step := He.glo_ok X G (c.fact 38 (f := .glo "_law_step") rfl), f__law_played := _, fd__law_played := fd39, F__law_played := F39, b__law_played := F39.binds (ps := ["_law_row", "_law_file_here", "_law_rule_here", "_law_room", "_law_most"]) fun _ _ _ _ _ _ us hl => match us, hl with | [_, _, _, _, _], _ => rfl, g__law_played := He.glo_ok X G (c.fact 39 (f := .glo "_law_played") rfl), f__law_answer := _, fd__law_answer := fd40, F__law_answer := F40, b__law_answer := F40.binds (ps := ["_law_way", "_law_file_here", "_law_rule_here", "_law_room", "_law_steps"]) fun _ _ _ _ _ _ us hl => match us, hl with | [_, _, _, _, _], _ => rfl, g__law_answer := He.glo_ok X G (c.fact 40 (f := .glo "_law_answer") rfl), f__law_copied := _, fd__law_copied := fd41, F__law_copied := F41, b__law_copied := F41.binds (ps := ["_law_told"]) fun _ _ _ _ _ _ us hl => match us, hl with | [_], _ => rfl, g__law_copied := He.glo_ok X G (c.fact 41 (f := .glo "_law_copied") rfl), f_law := _, fd_law := fd42, F_law := F42, b_law := F42.binds (ps := ["_law_script"]) fun _ _ _ _ _ _ us hl => match us, hl with | [_], _ => rfl, g_law := He.glo_ok X G (c.fact 42 (f := .glo "law") rfl), m_len := He.free_ok X G (c.fact 43 (f := .free "len") rfl), m_range := He.free_ok X G (c.fact 44 (f := .free "range") rfl), m_list := He.free_ok X G (c.fact 45 (f := .free "list") rfl), m_tuple := He.free_ok X G (c.fact 46 (f := .free "tuple") rfl), m_max := He.free_ok X G (c.fact 47 (f := .free "max") rfl), m_min := He.free_ok X G (c.fact 48 (f := .free "min") rfl), m_isinstance := He.free_ok X G (c.fact 49 (f := .free "isinstance") rfl), m_str := He.free_ok X G (c.fact 50 (f := .free "str") rfl), m_bool := He.free_ok X G (c.fact 51 (f := .free "bool") rfl), m_int := He.free_ok X G (c.fact 52 (f := .free "int") rfl), c_MOST_SLOTS := He.int_ok X G (c.fact 53 (f := .int "MOST_SLOTS" 12) rfl), c_MOST_NUMBER := He.int_ok X G (c.fact 54 (f := .int "MOST_NUMBER" 999) rfl), c_ROW := He.str_ok X G (c.fact 55 (f := .str "ROW" (Str.ofString "row")) rfl), c_FREE := He.str_ok X G (c.fact 56 (f := .str "FREE" (Str.ofString "free")) rfl), a_FIRSTS := He.ga K "FIRSTS", c_FIRSTS := He.glo_ok X G (c.fact 57 (f := .glo "FIRSTS") rfl), i_FIRSTS := im_firstsB cf, c_MOST_ROOM := He.int_ok X G (c.fact 58 (f := .int "MOST_ROOM" 4) rfl), a_EMPTY := He.ga K "EMPTY", c_EMPTY := He.glo_ok X G (c.fact 59 (f := .glo "EMPTY") rfl), i_EMPTY := imB_ref ck_EMPTY, a_TAKE := He.ga K "TAKE", c_TAKE := He.glo_ok X G (c.fact 60 (f := .glo "TAKE") rfl), i_TAKE := imB_ref ck_TAKE, c_FIGURES := He.str_ok X G (c.fact 61 (f := .str "FIGURES" (Str.ofString "0123456789")) rfl), c_MOST_FIGURES := He.int_ok X G (c.fact 62 (f := .int "MOST_FIGURES" 3) rfl), a_SIGNS := He.ga K "SIGNS", es_SIGNS := es, nn_SIGNS := nn, c_SIGNS := He.glo_ok X G (c.fact 63 (f := .glo "SIGNS") rfl), D_SIGNS := KD, k_SIGNS := signsB_ok ck }, rfl, rfl⟩
  obtain ⟨T, e1, e2⟩ := T
  have b := FunD.bindsA (ps := ["_law_script"]) D42 fun _ _ _ _ _ _ us hl => match us, hl with | [_], _ => rfl
  have hh := fun base => ok_law (P := P) (w := w) (base := base) T
  rw [e1, e2] at hh
  exact ⟨fd42, fun s v => b s [v] rfl, fun base _ _ => hh base⟩
end SF
open PySem PySem.W PySem.Calls PyProof.Rows
set_option maxHeartbeats 0 in
theorem PySem.Challenge.cw_slotfile_k11_asked_again_holds : PySem.Challenge.rw_slotfile_k11_asked_again.Holds := by
  w_on; o_law
  refine HandSHeadRun.head_any (r := OpenLaw.row PySem.Challenge.rw_slotfile_k11_asked_again) (q := view (OpenLaw.row PySem.Challenge.rw_slotfile_k11_asked_again).prog [65]) (H := SF.hk) (ob := SF.ob) (M := 4000) (loose := [Str.ofString "SlotError", Str.ofString "BadFile", Str.ofString "BadRule", Str.ofString "BadRoom", Str.ofString "BadStep", Str.ofString "BadText", Str.ofString "MOST_SLOTS", Str.ofString "MOST_NUMBER", Str.ofString "ROW", Str.ofString "FREE", Str.ofString "is_link", Str.ofString "is_cell", Str.ofString "need_file", Str.ofString "chain_of", Str.ofString "rows_of", Str.ofString "looked_over", Str.ofString "checked", Str.ofString "chained", Str.ofString "mended_of", Str.ofString "mended", Str.ofString "mends_of", Str.ofString "mends", Str.ofString "FIRSTS", Str.ofString "need_rule", Str.ofString "need_room", Str.ofString "in_order", Str.ofString "take_writes", Str.ofString "writes_of", Str.ofString "written_in", Str.ofString "stepped", Str.ofString "played", Str.ofString "writes", Str.ofString "EMPTY", Str.ofString "MOST_ROOM", Str.ofString "TAKE", Str.ofString "need_small", Str.ofString "steps_on", Str.ofString "is_over", Str.ofString "lost_by", Str.ofString "judged", Str.ofString "FIGURES", Str.ofString "MOST_FIGURES", Str.ofString "SIGNS", Str.ofString "written", Str.ofString "number_of", Str.ofString "read", Str.ofString "_law_taken", Str.ofString "_law_alike", Str.ofString "_law_rule", Str.ofString "_law_file", Str.ofString "_law_checked", Str.ofString "_law_mends", Str.ofString "_law_writes", Str.ofString "_law_behind", Str.ofString "_law_deed", Str.ofString "_law_step", Str.ofString "_law_played", Str.ofString "_law_answer", Str.ofString "_law_copied"]) (d := HandSHeadRun.topDef (OpenLaw.row PySem.Challenge.rw_slotfile_k11_asked_again).prog 65) (kwd := []) SF.ob_eq
    (by kernel_rfl) (fun s => by kernel_rfl) SF.run (by kernel_rfl) (by kernel_rfl) (by kernel_rfl) (by rfl) (by first | assumption | decide +kernel) (by decide +kernel) ⟨rfl, rfl, rfl, rfl, rfl, by decide +kernel⟩ ?hw ?hc
  case hw => w_witness2
  case hc =>
    refine L2.walk_ofE (l := PySem.Challenge.rw_slotfile_k11_asked_again) (n := 63) (k := 10) (x := "_law_script") (CX := L2.CX0) rfl (by decide) (by kernel_rfl) ⟨rfl, by decide, by decide⟩ ?F (fun _ _ _ _ z => z)
    intro w mg fa h Y G hmg0
    obtain ⟨K, KX, c, cx, _⟩ := Y
    have hmg : mg ("law" : PySem.Str) = some (.ref fa) := by
      have e : (HandSHeadRun.topDef (OpenLaw.row PySem.Challenge.rw_slotfile_k11_asked_again).prog 65).name = ("law" : PySem.Str) := by kernel_rfl
      rw [← e]
      exact hmg0
    obtain ⟨fd, hb, hF⟩ := SF.facts (P := (PySem.Challenge.rw_slotfile_k11_asked_again).prog) (w := w) KX G hmg c cx
    exact ⟨K, fd, SF.spL K, KX, hb, fun H a ns hl ho hS => ⟨a, ns, rfl, ho, hS, fun _ => rfl⟩, hF⟩
