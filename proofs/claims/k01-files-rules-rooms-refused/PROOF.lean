import PyProof.Rows.All
import PySem.Challenge.RW_slotfile_k01_files_rules_rooms_refused
import HandS.ForMost
import HandS.Deep
import HandS.TupAny
import HandS.Conv
import HandS.Style
import HandS.IsInst
import HandS.Lambda
import HandS.HeadHook4
import HandS.Text
import HandS.More
import HandS.ForExc
import HandS.ExcInit
import HandS.ExcIs
import HandS.ExcField
import HandS.SetFor
import HandS.HeadHook1
import HandS.HeadHook2
import HandS.List
import HandS.HeadHook3
import KE.KDflt
import HandS.TupMul
import KE.KStateDown
import HandS.Head0
import HandS.Head1
import HandS.Head2
import HandS.HeadEnd
import HandS.HeadHook1
import HandS.HeadHook2
import HandS.HeadHook3
import HandS.HeadHook4
import HandS.HeadWalk
set_option Elab.async false
set_option linter.all false
set_option maxRecDepth 100000
set_option maxHeartbeats 4000000
/-! ## The data layer: what a value stands for, as data without addresses -/
namespace SF
open PySem PySem.Spec PyProof.Rows L2

def Ex (H H' : Hp) : Prop := ∀ a o, H a = some o → H' a = some o
theorem Ex.refl (H : Hp) : Ex H H := fun _ _ h => h
theorem Ex.trans {H H1 H2 : Hp} (a : Ex H H1) (b : Ex H1 H2) : Ex H H2 := fun x o h => b x o (a x o h)
theorem Ex.new {H : Hp} {p : Addr} {o : HO} (h : H p = none) : Ex H (upd H p o) := fun a u e => by
  rw [upd_ne (ne_of_none e h)]
  exact e
theorem Ex.back {H H' : Hp} (e : Ex H H') {p : Addr} (h : H' p = none) : H p = none := by
  cases q : H p with
  | none => rfl
  | some o =>
    rw [e p o q] at h
    cases h
/-- both sides get the same new object -/
theorem Ex.both {H H' : Hp} {p : Addr} {o : HO} (e : Ex H H') : Ex (upd H p o) (upd H' p o) := fun a u h => by
  by_cases q : a = p
  · subst q
    rw [upd_same] at h ⊢
    exact h
  · rw [upd_ne q] at h ⊢
    exact e a u h
theorem Ex.out {H H' : Hp} {p : Addr} {o : HO} (e : Ex H H') (h : H p = none) : Ex H (upd H' p o) := fun a u q => by
  rw [upd_ne (ne_of_none q h)]
  exact e a u q
theorem ex_rd {H H' : Hp} {a : Addr} {u : HO} (e : Ex H H') (h : Rd H a u) : Rd H' a u := by
  rcases h with h | ⟨o, h⟩
  · exact .inl (e a _ h)
  · exact .inr ⟨o, e a _ h⟩
section
variable {K : PySem.W.Frag} {G G' H H' : Hp}
theorem ex_l {a : Addr} {xs : List V} (e : Ex H H') (h : SqL K H a xs) : SqL K H' a xs := by
  rcases h with h | h
  · exact .inl (ex_rd e h)
  · exact .inr h
theorem ex_t {a : Addr} {xs : List V} (e : Ex H H') (h : SqT K H a xs) : SqT K H' a xs := by
  rcases h with h | h
  · exact .inl (ex_rd e h)
  · exact .inr h
theorem sq_of {a : Addr} {xs : List V} (h : H a = some (.lst xs)) : SqL K H a xs := .inl (.inl h)
theorem st_of {a : Addr} {xs : List V} (h : H a = some (.tup xs)) : SqT K H a xs := .inl (.inl h)

mutual
def Im (K : PySem.W.Frag) (G : Hp) : PyData → V → Prop
  | .none, v => v = .non
  | .bool b, v => v = .bl b
  | .int i, v => v = .int i
  | .str x, v => v = .str x
  | .list ds, v => ∃ a xs, v = .ref a ∧ G a = some (.lst xs) ∧ ImL K G ds xs
  | .tuple ds, v => ∃ a xs, v = .ref a ∧ SqT K G a xs ∧ ImL K G ds xs
  | .dict _, _ => False
def ImL (K : PySem.W.Frag) (G : Hp) : List PyData → List V → Prop
  | [], xs => xs = []
  | d :: ds, xs => ∃ x r, xs = x :: r ∧ Im K G d x ∧ ImL K G ds r
end
theorem im_none {v : V} : Im K G .none v = (v = .non) := by rw [Im]
theorem im_bool {b : Bool} {v : V} : Im K G (.bool b) v = (v = .bl b) := by rw [Im]
theorem im_int {i : Int} {v : V} : Im K G (.int i) v = (v = .int i) := by rw [Im]
theorem im_str {x : Str} {v : V} : Im K G (.str x) v = (v = .str x) := by rw [Im]
theorem im_list {ds : List PyData} {v : V} : Im K G (.list ds) v = (∃ a xs, v = .ref a ∧ G a = some (.lst xs) ∧ ImL K G ds xs) := by rw [Im]
theorem im_tuple {ds : List PyData} {v : V} : Im K G (.tuple ds) v = (∃ a xs, v = .ref a ∧ SqT K G a xs ∧ ImL K G ds xs) := by rw [Im]
theorem im_dict {ds : List (PyData × PyData)} {v : V} : Im K G (.dict ds) v = False := by rw [Im]
theorem imL_nil {xs : List V} : ImL K G [] xs = (xs = []) := by rw [ImL]
theorem imL_cons {d : PyData} {ds : List PyData} {xs : List V} : ImL K G (d :: ds) xs = (∃ x r, xs = x :: r ∧ Im K G d x ∧ ImL K G ds r) := by rw [ImL]
theorem ImL.nil : ImL K G [] [] := by rw [imL_nil]
theorem ImL.cons {d : PyData} {ds : List PyData} {x : V} {xs : List V} (h : Im K G d x) (t : ImL K G ds xs) : ImL K G (d :: ds) (x :: xs) := by
  rw [imL_cons]
  exact ⟨x, xs, rfl, h, t⟩
mutual
theorem Im.mono (e : Ex G G') : ∀ {d : PyData} {v : V}, Im K G d v → Im K G' d v
  | .none, v, h => by rw [im_none] at h ⊢; exact h
  | .bool _, v, h => by rw [im_bool] at h ⊢; exact h
  | .int _, v, h => by rw [im_int] at h ⊢; exact h
  | .str _, v, h => by rw [im_str] at h ⊢; exact h
  | .list ds, v, h => by
    rw [im_list] at h ⊢
    obtain ⟨a, xs, e1, e2, e3⟩ := h
    exact ⟨a, xs, e1, e a _ e2, ImL.mono e e3⟩
  | .tuple ds, v, h => by
    rw [im_tuple] at h ⊢
    obtain ⟨a, xs, e1, e2, e3⟩ := h
    exact ⟨a, xs, e1, ex_t e e2, ImL.mono e e3⟩
  | .dict _, v, h => by rw [im_dict] at h; exact h.elim
theorem ImL.mono (e : Ex G G') : ∀ {ds : List PyData} {xs : List V}, ImL K G ds xs → ImL K G' ds xs
  | [], xs, h => by rw [imL_nil] at h ⊢; exact h
  | d :: ds, xs, h => by
    rw [imL_cons] at h ⊢
    obtain ⟨x, r, e1, e2, e3⟩ := h
    exact ⟨x, r, e1, Im.mono e e2, ImL.mono e e3⟩
end
theorem ImL.len : ∀ {ds : List PyData} {xs : List V}, ImL K G ds xs → ds.length = xs.length
  | [], xs, h => by rw [imL_nil] at h; subst h; rfl
  | d :: ds, xs, h => by
    rw [imL_cons] at h
    obtain ⟨x, r, rfl, _, e3⟩ := h
    show ds.length + 1 = r.length + 1
    rw [ImL.len e3]
theorem ImL.get : ∀ {ds : List PyData} {xs : List V} {i : Nat} {d : PyData}, ImL K G ds xs → ds[i]? = some d → ∃ x, xs[i]? = some x ∧ Im K G d x
  | [], xs, i, d, h, e => by simp at e
  | d0 :: ds, xs, 0, d, h, e => by
    rw [imL_cons] at h
    obtain ⟨x, r, rfl, h1, h2⟩ := h
    have : d0 = d := by simpa using e
    subst this
    exact ⟨x, rfl, h1⟩
  | d0 :: ds, xs, i + 1, d, h, e => by
    rw [imL_cons] at h
    obtain ⟨x, r, rfl, h1, h2⟩ := h
    obtain ⟨y, hy, im⟩ := ImL.get (i := i) (d := d) h2 (by simpa using e)
    exact ⟨y, by simpa using hy, im⟩
theorem ImL.of_get : ∀ {ds : List PyData} {xs : List V}, ds.length = xs.length → (∀ (i : Nat) (d : PyData) (x : V), ds[i]? = some d → xs[i]? = some x → Im K G d x) → ImL K G ds xs
  | [], xs, hl, h => by
    rw [imL_nil]
    exact List.eq_nil_of_length_eq_zero hl.symm
  | d :: ds, [], hl, h => by simp at hl
  | d :: ds, x :: xs, hl, h => .cons (h 0 d x rfl rfl) (ImL.of_get (by simpa using hl) fun i e y h1 h2 => h (i + 1) e y (by simpa using h1) (by simpa using h2))
theorem ImL.append : ∀ {ds es : List PyData} {xs ys : List V}, ImL K G ds xs → ImL K G es ys → ImL K G (ds ++ es) (xs ++ ys)
  | [], es, xs, ys, h, k => by rw [imL_nil] at h; subst h; exact k
  | d :: ds, es, xs, ys, h, k => by
    rw [imL_cons] at h
    obtain ⟨x, r, rfl, h1, h2⟩ := h
    exact .cons h1 (ImL.append h2 k)
theorem ImL.one {d : PyData} {x : V} (h : Im K G d x) : ImL K G [d] [x] := .cons h .nil
theorem ImL.take {ds : List PyData} {xs : List V} (n : Nat) (h : ImL K G ds xs) : ImL K G (ds.take n) (xs.take n) := by
  refine .of_get (by rw [List.length_take, List.length_take, h.len]) fun i d x h1 h2 => ?_
  rw [List.getElem?_take] at h1 h2
  by_cases q : i < n
  · rw [if_pos q] at h1 h2
    obtain ⟨y, e, im⟩ := h.get h1
    rw [e] at h2
    cases h2
    exact im
  · rw [if_neg q] at h1
    cases h1
theorem ImL.drop {ds : List PyData} {xs : List V} (n : Nat) (h : ImL K G ds xs) : ImL K G (ds.drop n) (xs.drop n) := by
  refine .of_get (by rw [List.length_drop, List.length_drop, h.len]) fun i d x h1 h2 => ?_
  rw [List.getElem?_drop] at h1 h2
  obtain ⟨y, e, im⟩ := h.get h1
  rw [e] at h2
  cases h2
  exact im
theorem ImL.set {ds : List PyData} {xs : List V} {d : PyData} {x : V} (n : Nat) (h : ImL K G ds xs) (hd : Im K G d x) : ImL K G (ds.set n d) (xs.set n x) := by
  refine .of_get (by rw [List.length_set, List.length_set, h.len]) fun i e y h1 h2 => ?_
  rw [List.getElem?_set] at h1 h2
  have hl := h.len
  by_cases q : n = i
  · rw [if_pos q] at h1 h2
    by_cases q2 : n < ds.length
    · rw [if_pos (q ▸ q2)] at h1
      rw [if_pos (by rw [← hl]; exact q ▸ q2)] at h2
      cases h1
      cases h2
      exact hd
    · rw [if_neg (q ▸ q2)] at h1
      cases h1
  · rw [if_neg q] at h1 h2
    obtain ⟨y, e, im⟩ := h.get h1
    rw [e] at h2
    cases h2
    exact im
theorem ImL.rev {ds : List PyData} {xs : List V} (h : ImL K G ds xs) : ImL K G ds.reverse xs.reverse := by
  have hl := h.len
  refine .of_get (by rw [List.length_reverse, List.length_reverse, hl]) fun i d x h1 h2 => ?_
  have hi : i < ds.length := by
    have := (List.getElem?_eq_some_iff.mp h1).1
    simpa using this
  rw [List.getElem?_reverse hi] at h1
  rw [List.getElem?_reverse (hl ▸ hi), ← hl] at h2
  obtain ⟨y, e, im⟩ := h.get h1
  rw [e] at h2
  cases h2
  exact im
theorem ImL.dropLast {ds : List PyData} {xs : List V} (h : ImL K G ds xs) : ImL K G ds.dropLast xs.dropLast := by
  rw [List.dropLast_eq_take, List.dropLast_eq_take, h.len]
  exact h.take _
theorem ImL.eraseIdx {ds : List PyData} {xs : List V} (k : Nat) (h : ImL K G ds xs) : ImL K G (ds.eraseIdx k) (xs.eraseIdx k) := by
  rw [List.eraseIdx_eq_take_drop_succ, List.eraseIdx_eq_take_drop_succ]
  exact (h.take k).append (h.drop _)
theorem ImL.none_of {ds : List PyData} {xs : List V} {i : Nat} (h : ImL K G ds xs) (e : ds[i]? = none) : xs[i]? = none := by
  rw [List.getElem?_eq_none_iff] at e ⊢
  rw [← h.len]
  exact e
theorem imL_ints {ns : List Int} : ImL K G (ns.map PyData.int) (ns.map V.int) := by
  refine .of_get (by simp) fun i d x h1 h2 => ?_
  rw [List.getElem?_map] at h1 h2
  cases e : ns[i]? with
  | none => rw [e] at h1; cases h1
  | some n =>
    rw [e] at h1 h2
    cases h1
    cases h2
    rw [im_int]
mutual
theorem Im.dp (e : Ex G H) : ∀ {d : PyData} {v : V}, Im K G d v → Dp K H v d
  | .none, v, h => by rw [im_none] at h; subst h; exact .non
  | .bool _, v, h => by rw [im_bool] at h; subst h; exact .bl _
  | .int _, v, h => by rw [im_int] at h; subst h; exact .int _
  | .str _, v, h => by rw [im_str] at h; subst h; exact .str _
  | .list ds, v, h => by
    rw [im_list] at h
    obtain ⟨a, xs, rfl, e2, e3⟩ := h
    exact .lst (sq_of (e a _ e2)) (ImL.dp e e3)
  | .tuple ds, v, h => by
    rw [im_tuple] at h
    obtain ⟨a, xs, rfl, e2, e3⟩ := h
    exact .tup (ex_t e e2) (ImL.dp e e3)
  | .dict _, v, h => by rw [im_dict] at h; exact h.elim
theorem ImL.dp (e : Ex G H) : ∀ {ds : List PyData} {xs : List V}, ImL K G ds xs → DpAll K H xs ds
  | [], xs, h => by rw [imL_nil] at h; subst h; exact .nil
  | d :: ds, xs, h => by
    rw [imL_cons] at h
    obtain ⟨x, r, rfl, e2, e3⟩ := h
    exact .cons (Im.dp e e2) (ImL.dp e e3)
end
/-! ### flat data -/
def sc : PyData → Option V
  | .none => some .non
  | .bool b => some (.bl b)
  | .int i => some (.int i)
  | .str x => some (.str x)
  | _ => none
def isSc : PyData → Bool
  | .none => true
  | .bool _ => true
  | .int _ => true
  | .str _ => true
  | _ => false
theorem Im.sc {d : PyData} {v : V} (h : Im K G d v) (f : isSc d = true) : sc d = some v ∧ flatV v = true := by
  cases d with
  | none => rw [im_none] at h; subst h; exact ⟨rfl, rfl⟩
  | bool _ => rw [im_bool] at h; subst h; exact ⟨rfl, rfl⟩
  | int _ => rw [im_int] at h; subst h; exact ⟨rfl, rfl⟩
  | str _ => rw [im_str] at h; subst h; exact ⟨rfl, rfl⟩
  | list _ => cases f
  | tuple _ => cases f
  | dict _ => cases f
theorem eqV_sc {d e : PyData} {v u : V} (h : sc d = some v) (k : sc e = some u) : eqV v u = PyData.eqv d e := by
  cases d <;> cases e <;> simp only [SF.sc, Option.some.injEq, reduceCtorEq] at h k <;> subst h <;> subst k <;> simp [eqV, PyData.eqv]
theorem inV_sc {d : PyData} {v : V} (hd : sc d = some v) : ∀ {ds : List PyData} {xs : List V}, ImL K G ds xs → ds.all isSc = true → inV v xs = ds.any (fun z => PyData.eqv z d) ∧ xs.all flatV = true
  | [], xs, h, _ => by rw [imL_nil] at h; subst h; exact ⟨rfl, rfl⟩
  | e :: ds, xs, h, f => by
    rw [imL_cons] at h
    obtain ⟨x, r, rfl, h1, h2⟩ := h
    rw [List.all_cons, Bool.and_eq_true] at f
    obtain ⟨s1, s2⟩ := h1.sc f.1
    obtain ⟨t1, t2⟩ := inV_sc hd h2 f.2
    refine ⟨?_, ?_⟩
    · show (eqV x v || inV v r) = _
      rw [List.any_cons, eqV_sc s1 hd, t1]
    · rw [List.all_cons, s2, t2]
      rfl
/-! ### data without lists -/
mutual
def nol : PyData → Bool
  | .list _ => false
  | .tuple ds => nolL ds
  | .dict _ => false
  | .none => true
  | .bool _ => true
  | .int _ => true
  | .str _ => true
def nolL : List PyData → Bool
  | [] => true
  | d :: ds => nol d && nolL ds
end
theorem nolL_all : ∀ {ds : List PyData}, nolL ds = ds.all nol
  | [] => by rw [nolL]; rfl
  | d :: ds => by rw [nolL, nolL_all, List.all_cons]
/-- every tuple of the one stands in the other -/
def ExT (G G' : Hp) : Prop := ∀ a xs, Rd G a (.tup xs) → Rd G' a (.tup xs)
mutual
theorem Im.monoT (e : ExT G G') : ∀ {d : PyData} {v : V}, nol d = true → Im K G d v → Im K G' d v
  | .none, v, _, h => by rw [im_none] at h ⊢; exact h
  | .bool _, v, _, h => by rw [im_bool] at h ⊢; exact h
  | .int _, v, _, h => by rw [im_int] at h ⊢; exact h
  | .str _, v, _, h => by rw [im_str] at h ⊢; exact h
  | .list ds, v, q, h => by rw [nol] at q; cases q
  | .tuple ds, v, q, h => by
    rw [nol] at q
    rw [im_tuple] at h ⊢
    obtain ⟨a, xs, e1, e2, e3⟩ := h
    refine ⟨a, xs, e1, ?_, ImL.monoT e q e3⟩
    rcases e2 with e2 | e2
    · exact .inl (e a xs e2)
    · exact .inr e2
  | .dict _, v, _, h => by rw [im_dict] at h; exact h.elim
theorem ImL.monoT (e : ExT G G') : ∀ {ds : List PyData} {xs : List V}, nolL ds = true → ImL K G ds xs → ImL K G' ds xs
  | [], xs, _, h => by rw [imL_nil] at h ⊢; exact h
  | d :: ds, xs, q, h => by
    rw [nolL, Bool.and_eq_true] at q
    rw [imL_cons] at h ⊢
    obtain ⟨x, r, e1, e2, e3⟩ := h
    exact ⟨x, r, e1, Im.monoT e q.1 e2, ImL.monoT e q.2 e3⟩
end
/-- a heap without what stands at l -/
def cut (G : Hp) (l : Addr) : Hp := fun a => if a = l then none else G a
theorem cut_same {G : Hp} {l : Addr} : cut G l l = none := by unfold cut; rw [if_pos rfl]
theorem cut_ne {G : Hp} {l a : Addr} (h : a ≠ l) : cut G l a = G a := by unfold cut; rw [if_neg h]
theorem Ex.cut {l : Addr} : Ex (cut G l) G := fun a o h => by
  by_cases q : a = l
  · subst q; rw [cut_same] at h; cases h
  · rw [cut_ne q] at h; exact h
theorem ExT.cut {l : Addr} {xs : List V} (h : G l = some (.lst xs)) : ExT G (cut G l) := fun a ys r => by
  have q : a ≠ l := by
    rintro rfl
    rcases r with r | ⟨o, r⟩
    · rw [h] at r; cases r
    · rw [h] at r; cases r
  rcases r with r | ⟨o, r⟩
  · exact .inl (by rw [cut_ne q]; exact r)
  · exact .inr ⟨o, by rw [cut_ne q]; exact r⟩
end
end SF

/-! ## States as data: slots, a frozen part of the heap, lists of one's own, a row that is drawn from -/
namespace SF
open PySem PySem.Spec PyProof.Rows L2

/-- what is raised: which class, what its field holds -/
structure Exn where
  k : Nat
  v : Int
/-- an object that is no table of code objects -/
abbrev NTbl (o : HO) : Prop := ∀ ps, o ≠ .tbl ps
theorem ntL {xs : List V} : NTbl (.lst xs) := fun _ z => by cases z
/-- an object of one's own of any kind: what is true of it -/
structure ObK where
  ok : PySem.W.Frag → Addr → Hp → HO → Prop
  mono : ∀ K a G G' o, Ex G G' → ok K a G o → ok K a G' o
  nt : ∀ K a G o, ok K a G o → NTbl o
/-- the defs that make lambdas (one text for each law: the list is written by the program that puts the text together) -/
def lamDefs : List Str := [Str.ofString "law", Str.ofString "_law_works"]
/-- their tables, the lambdas' name -/
def tabsOf (K : PySem.W.Frag) : List (Addr × Str) := lamDefs.map fun x => ((He.cT K (x, none)).2, x ++ Str.ofString ".<locals>." ++ Str.ofString "<lambda>")
/-- tables of code objects grow -/
structure TblK (K : PySem.W.Frag) (H H' : Hp) : Prop where
  up : ∀ a ps, H a = some (.tbl ps) → ∃ qs, H' a = some (.tbl qs)
  tab : LamX.Tabs (tabsOf K) H → LamX.Tabs (tabsOf K) H'
theorem TblK.refl {K : PySem.W.Frag} (H : Hp) : TblK K H H := ⟨fun _ ps h => ⟨ps, h⟩, fun h => h⟩
theorem TblK.trans {K : PySem.W.Frag} {H H1 H2 : Hp} (a : TblK K H H1) (b : TblK K H1 H2) : TblK K H H2 :=
  ⟨fun x ps h => by obtain ⟨qs, h1⟩ := a.up x ps h; exact b.up x qs h1, fun h => b.tab (a.tab h)⟩
/-- all but lists stay -/
theorem TblK.of {K : PySem.W.Frag} {H H' : Hp} (k : ∀ a o, H a = some o → (∀ xs, o ≠ .lst xs) → H' a = some o) : TblK K H H' := by
  refine ⟨fun a ps h => ⟨ps, k a _ h (fun xs z => by cases z)⟩, fun h p hp => ?_⟩
  obtain ⟨ps, h1, h2, h3⟩ := h p hp
  refine ⟨ps, k _ _ h1 (fun xs z => by cases z), h2, fun pos cv hc => ?_⟩
  obtain ⟨c, e1, e2⟩ := h3 pos cv hc
  exact ⟨c, e1, k _ _ e2 (fun xs z => by unfold LamX.CodeO at z; cases z)⟩
theorem TblK.ex {K : PySem.W.Frag} {H H' : Hp} (k : Ex H H') : TblK K H H' := .of fun a o h _ => k a o h
theorem TblK.new {K : PySem.W.Frag} {H : Hp} {p : Addr} {o : HO} (h : H p = none) : TblK K H (upd H p o) := .ex (.new h)
theorem TblK.lst {K : PySem.W.Frag} {H : Hp} {p : Addr} {xs : List V} {o : HO} (h : H p = some (.lst xs)) : TblK K H (upd H p o) := .of fun a u e n => by
  rw [upd_ne (fun z => by rw [z, h] at e; exact n xs (Option.some.inj e).symm)]
  exact e
/-- no table is frozen -/
abbrev AvT (H G G' : Hp) : Prop := ∀ a ps, H a = some (.tbl ps) → G a = none → G' a = none
/-- a value, and what is true of it (of what is frozen, of the tables) -/
structure VaK where
  v : V
  ok : PySem.W.Frag → Hp → Hp → Prop
  mono : ∀ K G G' H H', Ex G G' → TblK K H H' → AvT H G G' → ok K G H → ok K G' H'
/-- what a slot holds: nothing known, data, a list of one's own, the row, another object of one's own, a value -/
inductive Ent where
  | no | dat (d : PyData) | ls (ds : List PyData) | row | ob (k : ObK) | val (k : VaK)
def Ent.isM : Ent → Bool
  | .ls _ => true
  | .row => true
  | .ob _ => true
  | _ => false
abbrev Rho := List Ent
/-- what an expression gives: data, or a list made just now -/
inductive Res where
  | dat (d : PyData) | lst (ds : List PyData)
def Res.frz : Res → PyData
  | .dat d => d
  | .lst ds => .list ds
def Res.ent : Res → Ent
  | .dat d => .dat d
  | .lst ds => .ls ds
structure Bs where
  XR : Exn → Value → Option Addr → Hp → Prop
  E : XK
structure Cn where
  M : Option Addr
  Ge : Hp
  He : Hp
section
variable {K : PySem.W.Frag} {G G' G1 G2 H H' H1 H2 : Hp}
/-- the script -/
def ScrAt (K : PySem.W.Frag) (G : Hp) (s : Addr) (ns : List Int) : Prop := (∃ o, G s = some (.frz o (.lst (ns.map V.int)))) ∨ SqL K (fun _ => none) s (ns.map V.int)
theorem ScrAt.mono {s : Addr} {ns : List Int} (h : ScrAt K G s ns) (e : Ex G G') : ScrAt K G' s ns := by
  rcases h with ⟨o, h⟩ | h
  · exact .inl ⟨o, e _ _ h⟩
  · exact .inr h
theorem ScrAt.sql {s : Addr} {ns : List Int} (h : ScrAt K G s ns) (e : Ex G H) : SqL K H s (ns.map V.int) := by
  rcases h with ⟨o, h⟩ | h
  · exact .inl (.inr ⟨o, e _ _ h⟩)
  · exact ex_l (fun _ _ z => by cases z) h
theorem ScrAt.cut {s l : Addr} {ns : List Int} {xs : List V} (h : ScrAt K G s ns) (hl : G l = some (.lst xs)) : ScrAt K (cut G l) s ns := by
  rcases h with ⟨o, h⟩ | h
  · exact .inl ⟨o, by rw [cut_ne (fun e => by rw [e, hl] at h; cases h)]; exact h⟩
  · exact .inr h
theorem ScrAt.of {s : Addr} {ns : List Int} (h : SqL K H s (ns.map V.int)) (o : Only H) : ScrAt K H s ns := by
  rcases h with (h | h) | h
  · rcases o s with z | ⟨a, b, z⟩
    · rw [h] at z; cases z
    · rw [h] at z; cases z
  · exact .inl h
  · exact .inr (.inr h)
def RowAt (K : PySem.W.Frag) (G H : Hp) (r : Addr) : Prop := G r = none ∧ ∃ (s : Addr) (ns : List Int) (i x : Int), H r = some (.lst [.ref s, .int i, .int x]) ∧ ScrAt K G s ns ∧ 0 ≤ i ∧ 0 ≤ x ∧ x < 2147483647
theorem RowAt.there {r : Addr} (h : RowAt K G H r) : H r ≠ none := by
  obtain ⟨_, s, ns, i, x, e, _⟩ := h
  rw [e]
  exact fun z => by cases z
theorem RowAt.go {r : Addr} (h : RowAt K G H r) (e : Ex G G') (n : G' r = none) (k : ∀ xs, H r = some (.lst xs) → H' r = some (.lst xs)) : RowAt K G' H' r := by
  obtain ⟨_, s, ns, i, x, e1, e2, e3⟩ := h
  exact ⟨n, s, ns, i, x, k _ e1, e2.mono e, e3⟩
def SlotOk (K : PySem.W.Frag) (G H : Hp) : Ent → Option V → Prop
  | .no, _ => True
  | .dat d, o => ∃ v, o = some v ∧ Im K G d v
  | .ls ds, o => ∃ l xs, o = some (.ref l) ∧ H l = some (.lst xs) ∧ G l = none ∧ ImL K G ds xs
  | .row, o => ∃ r, o = some (.ref r) ∧ RowAt K G H r
  | .ob k, o => ∃ l u, o = some (.ref l) ∧ H l = some u ∧ G l = none ∧ k.ok K l G u
  | .val k, o => o = some k.v ∧ k.ok K G H
def IsRow (ρ : Rho) (σ : L2.St) (r : Addr) : Prop := ∃ i : Nat, ρ[i]? = some Ent.row ∧ σ[i]? = some (some (.ref r))
structure Sat (K : PySem.W.Frag) (c : Cn) (ρ : Rho) (σ : L2.St) (G H : Hp) : Prop where
  ex1 : Ex c.Ge G
  ex2 : Ex G H
  keep : ∀ a o, c.He a = some o → c.M ≠ some a → NTbl o → H a = some o
  tbl : TblK K c.He H
  there : ∀ a, c.He a ≠ none → H a ≠ none
  avoid : ∀ a, c.Ge a = none → c.He a ≠ none → G a = none
  mrow : ∀ r, c.M = some r → RowAt K G H r
  mhe : ∀ r, c.M = some r → c.He r ≠ none
  len : ρ.length = σ.length
  slot : ∀ (i : Nat) e o, ρ[i]? = some e → σ[i]? = some o → SlotOk K G H e o
  own : ∀ (i : Nat) e l, ρ[i]? = some e → e.isM = true → σ[i]? = some (some (.ref l)) → c.He l = none ∨ (c.M = some l ∧ e = .row)
  ne : ∀ (i j : Nat) e f l, i ≠ j → ρ[i]? = some e → ρ[j]? = some f → e.isM = true → f.isM = true → σ[i]? = some (some (.ref l)) → σ[j]? ≠ some (some (.ref l))
/-- a step of the two heaps, the slots as they are -/
structure Tr (K : PySem.W.Frag) (ρ : Rho) (σ : L2.St) (G H G' H' : Hp) : Prop where
  eg : Ex G G'
  eh : Ex G' H'
  keep : ∀ a o, H a = some o → ¬ IsRow ρ σ a → NTbl o → H' a = some o
  tbl : TblK K H H'
  avoid : ∀ a, G a = none → H a ≠ none → G' a = none
  row : ∀ r, IsRow ρ σ r → RowAt K G' H' r
def Out (K : PySem.W.Frag) (H G' H' : Hp) : Res → V → Prop
  | .dat d, v => Im K G' d v
  | .lst ds, v => ∃ l xs, v = .ref l ∧ H l = none ∧ G' l = none ∧ H' l = some (.lst xs) ∧ ImL K G' ds xs
/-- at a def's end -/
structure Fin' (K : PySem.W.Frag) (c : Cn) (G H : Hp) : Prop where
  ex1 : Ex c.Ge G
  ex2 : Ex G H
  keep : ∀ a o, c.He a = some o → c.M ≠ some a → NTbl o → H a = some o
  tbl : TblK K c.He H
  there : ∀ a, c.He a ≠ none → H a ≠ none
  avoid : ∀ a, c.Ge a = none → c.He a ≠ none → G a = none
  mrow : ∀ r, c.M = some r → RowAt K G H r
theorem Sat.fin {c : Cn} {ρ : Rho} {σ : L2.St} (S : Sat K c ρ σ G H) : Fin' K c G H := ⟨S.ex1, S.ex2, S.keep, S.tbl, S.there, S.avoid, S.mrow⟩

variable {c : Cn} {ρ : Rho} {σ : L2.St}
theorem Sat.rowAt (S : Sat K c ρ σ G H) {r : Addr} (h : IsRow ρ σ r) : RowAt K G H r := by
  obtain ⟨i, e1, e2⟩ := h
  obtain ⟨r', e, q⟩ := S.slot i _ _ e1 e2
  cases e
  exact q
theorem Tr.refl (S : Sat K c ρ σ G H) : Tr K ρ σ G H G H := ⟨.refl _, S.ex2, fun _ _ h _ _ => h, .refl _, fun _ h _ => h, fun _ h => S.rowAt h⟩
theorem Tr.there (t : Tr K ρ σ G H G' H') {a : Addr} (h : H a ≠ none) : H' a ≠ none := by
  by_cases q : IsRow ρ σ a
  · exact (t.row a q).there
  · cases e : H a with
    | none => exact absurd e h
    | some o =>
      by_cases n : NTbl o
      · rw [t.keep a o e q n]
        exact fun z => by cases z
      · obtain ⟨ps, hps⟩ : ∃ ps, o = .tbl ps := Classical.byContradiction fun z => n fun ps hps => z ⟨ps, hps⟩
        rw [hps] at e
        obtain ⟨qs, h2⟩ := t.tbl.up a ps e
        rw [h2]
        exact fun z => by cases z
theorem Tr.back (t : Tr K ρ σ G H G' H') {a : Addr} (h : H' a = none) : H a = none := by
  cases e : H a with
  | none => rfl
  | some o => exact absurd h (t.there (by rw [e]; exact fun z => by cases z))
theorem Tr.trans (a : Tr K ρ σ G H G1 H1) (b : Tr K ρ σ G1 H1 G2 H2) : Tr K ρ σ G H G2 H2 :=
  ⟨a.eg.trans b.eg, b.eh, fun x o h n m => b.keep x o (a.keep x o h n m) n m, a.tbl.trans b.tbl, fun x h h' => b.avoid x (a.avoid x h h') (a.there h'), b.row⟩
theorem Sat.neRowM (S : Sat K c ρ σ G H) {i : Nat} {e : Ent} {l : Addr} (h1 : ρ[i]? = some e) (hm : e.isM = true) (hr : e ≠ .row) (h2 : σ[i]? = some (some (.ref l))) : ¬ IsRow ρ σ l := fun ⟨j, e1, e2⟩ => by
  have hne : i ≠ j := by
    rintro rfl
    rw [h1] at e1
    exact hr (Option.some.inj e1)
  exact S.ne i j _ _ l hne h1 e1 hm rfl h2 e2
theorem Sat.neRow (S : Sat K c ρ σ G H) {i : Nat} {ds : List PyData} {l : Addr} (h1 : ρ[i]? = some (.ls ds)) (h2 : σ[i]? = some (some (.ref l))) : ¬ IsRow ρ σ l := S.neRowM h1 rfl (fun z => by cases z) h2
theorem Sat.tr (S : Sat K c ρ σ G H) (t : Tr K ρ σ G H G' H') : Sat K c ρ σ G' H' where
  ex1 := S.ex1.trans t.eg
  ex2 := t.eh
  keep := fun a o h n m => by
    by_cases q : IsRow ρ σ a
    · obtain ⟨i, e1, e2⟩ := q
      rcases S.own i _ a e1 rfl e2 with z | z
      · rw [h] at z; cases z
      · exact absurd z.1 n
    · exact t.keep a o (S.keep a o h n m) q m
  tbl := S.tbl.trans t.tbl
  there := fun a h => t.there (S.there a h)
  avoid := fun a h h' => t.avoid a (S.avoid a h h') (S.there a h')
  mrow := fun r h => by
    by_cases q : IsRow ρ σ r
    · exact t.row r q
    · have z := S.mrow r h
      exact z.go t.eg (t.avoid r z.1 z.there) fun o e => t.keep r _ e q ntL
  mhe := S.mhe
  len := S.len
  slot := fun i e o h1 h2 => by
    have z := S.slot i e o h1 h2
    cases e with
    | no => trivial
    | dat d =>
      obtain ⟨v, e, im⟩ := z
      exact ⟨v, e, im.mono t.eg⟩
    | ls ds =>
      obtain ⟨l, xs, rfl, e2, e3, e4⟩ := z
      refine ⟨l, xs, rfl, t.keep l _ e2 (S.neRow h1 h2) ntL, t.avoid l e3 (by rw [e2]; exact fun z => by cases z), e4.mono t.eg⟩
    | row =>
      obtain ⟨r, rfl, _⟩ := z
      exact ⟨r, rfl, t.row r ⟨i, h1, h2⟩⟩
    | ob k =>
      obtain ⟨l, u, rfl, e2, e3, e4⟩ := z
      exact ⟨l, u, rfl, t.keep l _ e2 (S.neRowM h1 rfl (fun z => by cases z) h2) (k.nt _ _ _ _ e4), t.avoid l e3 (by rw [e2]; exact fun z => by cases z), k.mono _ _ _ _ _ t.eg e4⟩
    | val k => exact ⟨z.1, k.mono _ _ _ _ _ t.eg t.tbl (fun a ps q n => t.avoid a n (by rw [q]; exact fun z => by cases z)) z.2⟩
  own := S.own
  ne := S.ne
/-- a new object that is frozen at once -/
theorem Tr.newG (S : Sat K c ρ σ G H) {p : Addr} {o : HO} (hp : H p = none) : Tr K ρ σ G H (upd G p o) (upd H p o) where
  eg := .new (S.ex2.back hp)
  eh := S.ex2.both
  keep := fun a u h _ _ => Ex.new hp a u h
  tbl := .new hp
  avoid := fun a h h' => by
    rw [upd_ne (show a ≠ p from fun e => h' (by rw [e]; exact hp))]
    exact h
  row := fun r h => by
    have z := S.rowAt h
    have ne : r ≠ p := fun e => z.there (e ▸ hp)
    exact z.go (.new (S.ex2.back hp)) (by rw [upd_ne ne]; exact z.1) fun o e => by rw [upd_ne ne]; exact e
/-- a new object of one's own -/
theorem Tr.newH (S : Sat K c ρ σ G H) {p : Addr} {o : HO} (hp : H p = none) : Tr K ρ σ G H G (upd H p o) where
  eg := .refl _
  eh := S.ex2.out (S.ex2.back hp)
  keep := fun a u h _ _ => Ex.new hp a u h
  tbl := .new hp
  avoid := fun a h _ => h
  row := fun r h => by
    have z := S.rowAt h
    have ne : r ≠ p := fun e => z.there (e ▸ hp)
    exact z.go (.refl _) z.1 fun o e => by rw [upd_ne ne]; exact e
/-- what was made just now is frozen -/
theorem freeze (S : Sat K c ρ σ G H) (t : Tr K ρ σ G H G1 H1) : ∀ {r : Res} {v : V}, Out K H G1 H1 r v → ∃ G2, Tr K ρ σ G H G2 H1 ∧ Im K G2 r.frz v
  | .dat d, v, o => ⟨G1, t, o⟩
  | .lst ds, v, o => by
    obtain ⟨l, xs, rfl, o1, o2, o3, o4⟩ := o
    have hx : Ex G1 (upd G1 l (.lst xs)) := .new o2
    refine ⟨upd G1 l (.lst xs), ⟨t.eg.trans hx, fun a u h => ?_, t.keep, t.tbl, fun a h h' => ?_, fun r h => ?_⟩, ?_⟩
    · by_cases q : a = l
      · subst q
        rw [upd_same] at h
        cases h
        exact o3
      · rw [upd_ne q] at h
        exact t.eh a u h
    · rw [upd_ne (show a ≠ l from fun e => h' (by rw [e]; exact o1))]
      exact t.avoid a h h'
    · have z := t.row r h
      have ne : r ≠ l := fun e => (S.rowAt h).there (e ▸ o1)
      exact z.go hx (by rw [upd_ne ne]; exact z.1) fun _ e => e
    · show Im K _ (.list ds) _
      rw [im_list]
      exact ⟨l, xs, rfl, upd_same, o4.mono hx⟩
theorem Out.back {r : Res} {v : V} (h : ∀ a, H1 a = none → H a = none) (o : Out K H1 G' H' r v) : Out K H G' H' r v := by
  cases r with
  | dat d => exact o
  | lst ds =>
    obtain ⟨l, xs, e, o1, o2⟩ := o
    exact ⟨l, xs, e, h l o1, o2⟩
theorem Sat.var (S : Sat K c ρ σ G H) {i : Nat} {d : PyData} (h : ρ[i]? = some (.dat d)) : ∃ v, σ[i]? = some (some v) ∧ Im K G d v := by
  have hi : i < σ.length := by
    rw [← S.len]
    exact (List.getElem?_eq_some_iff.mp h).1
  obtain ⟨v, e, im⟩ := S.slot i _ _ h (List.getElem?_eq_getElem hi)
  exact ⟨v, by rw [List.getElem?_eq_getElem hi, e], im⟩
theorem Sat.mutAt (S : Sat K c ρ σ G H) {i : Nat} {ds : List PyData} (h : ρ[i]? = some (.ls ds)) : ∃ l xs, σ[i]? = some (some (.ref l)) ∧ H l = some (.lst xs) ∧ G l = none ∧ ImL K G ds xs := by
  have hi : i < σ.length := by
    rw [← S.len]
    exact (List.getElem?_eq_some_iff.mp h).1
  obtain ⟨l, xs, e, q⟩ := S.slot i _ _ h (List.getElem?_eq_getElem hi)
  exact ⟨l, xs, by rw [List.getElem?_eq_getElem hi, e], q⟩
theorem Sat.rowVar (S : Sat K c ρ σ G H) {i : Nat} (h : ρ[i]? = some .row) : ∃ r, σ[i]? = some (some (.ref r)) ∧ RowAt K G H r := by
  have hi : i < σ.length := by
    rw [← S.len]
    exact (List.getElem?_eq_some_iff.mp h).1
  obtain ⟨r, e, q⟩ := S.slot i _ _ h (List.getElem?_eq_getElem hi)
  exact ⟨r, by rw [List.getElem?_eq_getElem hi, e], q⟩
/-- a value that may go to a slot -/
def ResAt (K : PySem.W.Frag) (c : Cn) (ρ : Rho) (σ : L2.St) (G H : Hp) : Res → V → Prop
  | .dat d, v => Im K G d v
  | .lst ds, v => ∃ l xs, v = .ref l ∧ c.He l = none ∧ G l = none ∧ H l = some (.lst xs) ∧ ImL K G ds xs ∧ ∀ (j : Nat) e, ρ[j]? = some e → e.isM = true → σ[j]? ≠ some (some (.ref l))
/-- a slot gets data, or a list made just now -/
theorem Sat.set (S : Sat K c ρ σ G H) {i : Nat} {r : Res} {v : V} (o : ResAt K c ρ σ G H r v) : Sat K c (ρ.set i r.ent) (σ.set i (some v)) G H where
  ex1 := S.ex1
  ex2 := S.ex2
  keep := S.keep
  tbl := S.tbl
  there := S.there
  avoid := S.avoid
  mrow := S.mrow
  mhe := S.mhe
  len := by rw [List.length_set, List.length_set, S.len]
  slot := fun j e u h1 h2 => by
    by_cases q : i = j
    · subst q
      have hl := S.len
      have hj : i < ρ.length := by
        have := (List.getElem?_eq_some_iff.mp h1).1
        rwa [List.length_set] at this
      rw [List.getElem?_set_self hj] at h1
      rw [List.getElem?_set_self (hl ▸ hj)] at h2
      cases h1
      cases h2
      cases r with
      | dat d => exact ⟨v, rfl, o⟩
      | lst ds =>
        obtain ⟨l, xs, rfl, o1, o2, o3, o4, _⟩ := o
        exact ⟨l, xs, rfl, o3, o2, o4⟩
    · rw [List.getElem?_set_ne q] at h1 h2
      exact S.slot j e u h1 h2
  own := fun j e l h1 hm h2 => by
    by_cases q : i = j
    · subst q
      have hl := S.len
      have hj : i < ρ.length := by
        have := (List.getElem?_eq_some_iff.mp h1).1
        rwa [List.length_set] at this
      rw [List.getElem?_set_self hj] at h1
      rw [List.getElem?_set_self (hl ▸ hj)] at h2
      cases h1
      cases r with
      | dat d => cases hm
      | lst ds =>
        obtain ⟨l', xs, rfl, o1, _⟩ := o
        cases h2
        exact .inl o1
    · rw [List.getElem?_set_ne q] at h1 h2
      exact S.own j e l h1 hm h2
  ne := fun j k e f l hne h1 h2 m1 m2 h3 h4 => by
    have hl := S.len
    have self : ∀ e, (ρ.set i r.ent)[i]? = some e → e.isM = true → (σ.set i (some v))[i]? = some (some (.ref l)) → ∀ (j : Nat) e, ρ[j]? = some e → e.isM = true → σ[j]? ≠ some (some (.ref l)) := fun e q1 q2 q3 => by
      have hj : i < ρ.length := by
        have := (List.getElem?_eq_some_iff.mp q1).1
        rwa [List.length_set] at this
      rw [List.getElem?_set_self hj] at q1
      rw [List.getElem?_set_self (hl ▸ hj)] at q3
      cases q1
      cases r with
      | dat d => cases q2
      | lst ds =>
        obtain ⟨l', xs, rfl, _, _, _, _, o1⟩ := o
        cases q3
        exact o1
    by_cases qj : i = j
    · subst qj
      rw [List.getElem?_set_ne hne] at h2 h4
      exact self e h1 m1 h3 k f h2 m2 h4
    · by_cases qk : i = k
      · subst qk
        rw [List.getElem?_set_ne qj] at h1 h3
        exact self f h2 m2 h4 j e h1 m1 h3
      · rw [List.getElem?_set_ne qj] at h1 h3
        rw [List.getElem?_set_ne qk] at h2 h4
        exact S.ne j k e f l hne h1 h2 m1 m2 h3 h4
theorem Sat.resAt (S : Sat K c ρ σ G H) (t : Tr K ρ σ G H G1 H1) : ∀ {r : Res} {v : V}, Out K H G1 H1 r v → ResAt K c ρ σ G1 H1 r v
  | .dat d, v, o => o
  | .lst ds, v, o => by
    obtain ⟨l, xs, rfl, o1, o2, o3, o4⟩ := o
    refine ⟨l, xs, rfl, ?_, o2, o3, o4, fun j e q1 q2 q3 => ?_⟩
    · cases e : c.He l with
      | none => rfl
      | some u => exact absurd o1 (S.there l (by rw [e]; exact fun z => by cases z))
    · have hj : j < σ.length := (List.getElem?_eq_some_iff.mp q3).1
      have z := S.slot j e _ q1 q3
      cases e with
      | no => cases q2
      | dat d => cases q2
      | ls ds =>
        obtain ⟨l2, xs2, e1, e2, _⟩ := z
        cases e1
        rw [o1] at e2
        cases e2
      | row =>
        obtain ⟨l2, e1, e2⟩ := z
        cases e1
        exact e2.there o1
      | ob k =>
        obtain ⟨l2, u2, e1, e2, _⟩ := z
        cases e1
        rw [o1] at e2
        cases e2
      | val k => cases q2
theorem Sat.setOut (S : Sat K c ρ σ G H) (t : Tr K ρ σ G H G1 H1) {i : Nat} {r : Res} {v : V} (o : Out K H G1 H1 r v) : Sat K c (ρ.set i r.ent) (σ.set i (some v)) G1 H1 := (S.tr t).set (S.resAt t o)
theorem Sat.setDat (S : Sat K c ρ σ G H) {i : Nat} {d : PyData} {v : V} (h : Im K G d v) : Sat K c (ρ.set i (.dat d)) (σ.set i (some v)) G H := S.set (r := .dat d) h
/-- a slot is forgotten -/
theorem Sat.setNo (S : Sat K c ρ σ G H) {i : Nat} {o : Option V} : Sat K c (ρ.set i .no) (σ.set i o) G H where
  ex1 := S.ex1
  ex2 := S.ex2
  keep := S.keep
  tbl := S.tbl
  there := S.there
  avoid := S.avoid
  mrow := S.mrow
  mhe := S.mhe
  len := by rw [List.length_set, List.length_set, S.len]
  slot := fun j e u h1 h2 => by
    by_cases q : i = j
    · subst q
      have hj : i < ρ.length := by
        have := (List.getElem?_eq_some_iff.mp h1).1
        rwa [List.length_set] at this
      rw [List.getElem?_set_self hj] at h1
      cases h1
      trivial
    · rw [List.getElem?_set_ne q] at h1 h2
      exact S.slot j e u h1 h2
  own := fun j e l h1 hm h2 => by
    by_cases q : i = j
    · subst q
      have hj : i < ρ.length := by
        have := (List.getElem?_eq_some_iff.mp h1).1
        rwa [List.length_set] at this
      rw [List.getElem?_set_self hj] at h1
      cases h1
      cases hm
    · rw [List.getElem?_set_ne q] at h1 h2
      exact S.own j e l h1 hm h2
  ne := fun j k e f l hne h1 h2 m1 m2 h3 h4 => by
    by_cases qj : i = j
    · subst qj
      have hj : i < ρ.length := by
        have := (List.getElem?_eq_some_iff.mp h1).1
        rwa [List.length_set] at this
      rw [List.getElem?_set_self hj] at h1
      cases h1
      cases m1
    · by_cases qk : i = k
      · subst qk
        have hj : i < ρ.length := by
          have := (List.getElem?_eq_some_iff.mp h2).1
          rwa [List.length_set] at this
        rw [List.getElem?_set_self hj] at h2
        cases h2
        cases m2
      · rw [List.getElem?_set_ne qj] at h1 h3
        rw [List.getElem?_set_ne qk] at h2 h4
        exact S.ne j k e f l hne h1 h2 m1 m2 h3 h4
/-- an object of one's own changes -/
theorem Sat.writeM (S : Sat K c ρ σ G H) {i : Nat} {e e' : Ent} {l : Addr} {o o' : HO} (h1 : ρ[i]? = some e) (hm : e.isM = true) (hr : e ≠ .row) (h2 : σ[i]? = some (some (.ref l))) (e2 : H l = some o) (e3 : G l = none) (hm' : e'.isM = true)
    (hk : TblK K H (upd H l o')) (hs : ∀ H', H' l = some o' → SlotOk K G H' e' (some (.ref l))) : Sat K c (ρ.set i e') σ G (upd H l o') := by
  have hnr := S.neRowM h1 hm hr h2
  have hHe : c.He l = none := by
    rcases S.own i _ l h1 hm h2 with z | z
    · exact z
    · exact absurd z.2 hr
  have hi : i < ρ.length := (List.getElem?_eq_some_iff.mp h1).1
  have hM : ∀ r, c.M = some r → r ≠ l := fun r hr e => S.mhe r hr (e ▸ hHe)
  have nm : ∀ (j : Nat) f, ρ[j]? = some f → f.isM = true → i ≠ j → σ[j]? ≠ some (some (.ref l)) := fun j f q1 q2 q3 => S.ne i j _ f l q3 h1 q1 hm q2 h2
  refine ⟨S.ex1, S.ex2.out e3, fun a o h n m => ?_, S.tbl.trans hk, fun a h => ?_, S.avoid, fun r h => ?_, S.mhe, by rw [List.length_set, S.len], fun j f u q1 q2 => ?_, fun j f l2 q1 qm q2 => ?_, fun j k f g l2 hne q1 q2 m1 m2 q3 q4 => ?_⟩
  · rw [upd_ne (fun q => by rw [q, hHe] at h; cases h)]
    exact S.keep a o h n m
  · by_cases q : a = l
    · subst q
      rw [upd_same]
      exact fun z => by cases z
    · rw [upd_ne q]
      exact S.there a h
  · have z := S.mrow r h
    exact z.go (.refl _) z.1 fun o e => by rw [upd_ne (hM r h)]; exact e
  · by_cases q : i = j
    · subst q
      rw [List.getElem?_set_self hi] at q1
      cases q1
      rw [h2] at q2
      cases q2
      exact hs _ upd_same
    · rw [List.getElem?_set_ne q] at q1
      have z := S.slot j f u q1 q2
      cases f with
      | no => trivial
      | dat d => exact z
      | ls ds2 =>
        obtain ⟨l3, xs3, rfl, z2, z3⟩ := z
        have : l3 ≠ l := fun e => nm j _ q1 rfl q (e ▸ q2)
        exact ⟨l3, xs3, rfl, by rw [upd_ne this]; exact z2, z3⟩
      | row =>
        obtain ⟨r, rfl, z⟩ := z
        have : r ≠ l := fun e => nm j _ q1 rfl q (e ▸ q2)
        exact ⟨r, rfl, z.go (.refl _) z.1 fun o e => by rw [upd_ne this]; exact e⟩
      | ob k2 =>
        obtain ⟨l3, u3, rfl, z2, z3⟩ := z
        have : l3 ≠ l := fun e => nm j _ q1 rfl q (e ▸ q2)
        exact ⟨l3, u3, rfl, by rw [upd_ne this]; exact z2, z3⟩
      | val k2 => exact ⟨z.1, k2.mono _ _ _ _ _ (.refl _) hk (fun _ _ _ n => n) z.2⟩
  · by_cases q : i = j
    · subst q
      rw [h2] at q2
      cases q2
      exact .inl hHe
    · rw [List.getElem?_set_ne q] at q1
      exact S.own j f l2 q1 qm q2
  · have gt : ∀ (j : Nat) f, (ρ.set i e')[j]? = some f → f.isM = true → ∃ f', ρ[j]? = some f' ∧ f'.isM = true := fun j f q1 q2 => by
      by_cases q : i = j
      · subst q
        exact ⟨_, h1, hm⟩
      · rw [List.getElem?_set_ne q] at q1
        exact ⟨f, q1, q2⟩
    obtain ⟨e', a1, a2⟩ := gt j f q1 m1
    obtain ⟨f', b1, b2⟩ := gt k g q2 m2
    exact S.ne j k e' f' l2 hne a1 b1 a2 b2 q3 q4
/-- a list of one's own changes -/
theorem Sat.write (S : Sat K c ρ σ G H) {i : Nat} {ds es : List PyData} {l : Addr} {ys : List V} (h1 : ρ[i]? = some (.ls ds)) (h2 : σ[i]? = some (some (.ref l))) (im : ImL K G es ys) : Sat K c (ρ.set i (.ls es)) σ G (upd H l (.lst ys)) := by
  obtain ⟨l', xs, e1, e2, e3, e4⟩ := S.mutAt h1
  rw [h2] at e1
  cases e1
  exact S.writeM h1 rfl (fun z => by cases z) h2 e2 e3 rfl (.lst e2) fun H' h => ⟨l, ys, rfl, h, e3, im⟩
theorem Sat.obAt (S : Sat K c ρ σ G H) {i : Nat} {k : ObK} (h : ρ[i]? = some (.ob k)) : ∃ l u, σ[i]? = some (some (.ref l)) ∧ H l = some u ∧ G l = none ∧ k.ok K l G u := by
  have hi : i < σ.length := by
    rw [← S.len]
    exact (List.getElem?_eq_some_iff.mp h).1
  obtain ⟨l, u, e, q⟩ := S.slot i _ _ h (List.getElem?_eq_getElem hi)
  exact ⟨l, u, by rw [List.getElem?_eq_getElem hi, e], q⟩
theorem Sat.writeOb (S : Sat K c ρ σ G H) {i : Nat} {k k' : ObK} {l : Addr} {u u' : HO} (h1 : ρ[i]? = some (.ob k)) (h2 : σ[i]? = some (some (.ref l))) (e2 : H l = some u) (e3 : G l = none) (nx : ∀ q, u ≠ .ext q) (hu : k.ok K l G u) (h : k'.ok K l G u') : Sat K c (ρ.set i (.ob k')) σ G (upd H l u') :=
  S.writeM h1 rfl (fun z => by cases z) h2 e2 e3 rfl ⟨fun a ps q => by
      have : a ≠ l := fun z => by rw [z, e2] at q; exact k.nt _ _ _ _ hu ps (Option.some.inj q)
      exact ⟨ps, by rw [upd_ne this]; exact q⟩, fun hT p hp => by
      obtain ⟨ps, a1, a2, a3⟩ := hT p hp
      have n1 : p.1 ≠ l := fun z => by rw [z, e2] at a1; exact k.nt _ _ _ _ hu ps (Option.some.inj a1)
      refine ⟨ps, by rw [upd_ne n1]; exact a1, a2, fun pos cv hc => ?_⟩
      obtain ⟨c0, b1, b2⟩ := a3 pos cv hc
      have n2 : c0 ≠ l := fun z => by rw [z, e2] at b2; exact nx _ (Option.some.inj b2)
      exact ⟨c0, b1, by rw [upd_ne n2]; exact b2⟩⟩ fun H' q => ⟨l, u', rfl, q, e3, h⟩
/-- a new object of one's own goes to a slot -/
theorem Sat.setOb (S : Sat K c ρ σ G H) {i : Nat} {k : ObK} {l : Addr} {u : HO} (hn : H l = none) (h : k.ok K l G u) : Sat K c (ρ.set i (.ob k)) (σ.set i (some (.ref l))) G (upd H l u) := by
  have S1 := S.tr (Tr.newH (o := u) S hn)
  have hG : G l = none := S.ex2.back hn
  have S2 : Sat K c (ρ.set i .no) (σ.set i (some (.ref l))) G (upd H l u) := S1.setNo
  have hHe : c.He l = none := by
    cases e : c.He l with
    | none => rfl
    | some o => exact absurd hn (S.there l (by rw [e]; exact fun z => by cases z))
  have sg : ∀ {j : Nat} {f : Ent}, (ρ.set i (.ob k))[j]? = some f → f = .ob k ∧ i = j ∨ i ≠ j ∧ (ρ.set i .no)[j]? = some f := fun {j f} q => by
    by_cases z : i = j
    · subst z
      have hi : i < ρ.length := by
        have := (List.getElem?_eq_some_iff.mp q).1
        rwa [List.length_set] at this
      rw [List.getElem?_set_self hi] at q
      exact .inl ⟨(Option.some.inj q).symm, rfl⟩
    · rw [List.getElem?_set_ne z] at q
      exact .inr ⟨z, by rw [List.getElem?_set_ne z]; exact q⟩
  have self : ∀ {j : Nat} {f : Ent}, i ≠ j → (ρ.set i .no)[j]? = some f → f.isM = true → (σ.set i (some (.ref l)))[j]? ≠ some (some (.ref l)) := fun {j f} z q m hq => by
    rw [List.getElem?_set_ne z] at q hq
    have y := S.slot j f _ q hq
    cases f with
    | no => cases m
    | dat d => cases m
    | ls ds =>
      obtain ⟨l2, xs, e1, e2, _⟩ := y
      cases e1
      rw [hn] at e2
      cases e2
    | row =>
      obtain ⟨r, e1, e2⟩ := y
      cases e1
      exact e2.there hn
    | ob k2 =>
      obtain ⟨l2, u2, e1, e2, _⟩ := y
      cases e1
      rw [hn] at e2
      cases e2
    | val k2 => cases m
  refine ⟨S2.ex1, S2.ex2, S2.keep, S2.tbl, S2.there, S2.avoid, S2.mrow, S2.mhe, by rw [List.length_set, List.length_set, S.len], fun j f o q1 q2 => ?_, fun j f l2 q1 qm q2 => ?_, fun j m f g l2 hne q1 q2 m1 m2 q3 q4 => ?_⟩
  · rcases sg q1 with ⟨e, z⟩ | ⟨z, q⟩
    · subst e z
      have hi : i < σ.length := by
        have := (List.getElem?_eq_some_iff.mp q2).1
        rwa [List.length_set] at this
      rw [List.getElem?_set_self hi] at q2
      cases q2
      exact ⟨l, u, rfl, upd_same, hG, h⟩
    · exact S2.slot j f o q q2
  · rcases sg q1 with ⟨e, z⟩ | ⟨z, q⟩
    · subst e z
      have hi : i < σ.length := by
        have := (List.getElem?_eq_some_iff.mp q2).1
        rwa [List.length_set] at this
      rw [List.getElem?_set_self hi] at q2
      cases q2
      exact .inl hHe
    · exact S2.own j f l2 q qm q2
  · have at_ : ∀ {j : Nat}, i = j → (σ.set i (some (.ref l)))[j]? = some (some (.ref l2)) → l2 = l := fun {j} z q => by
      subst z
      have hi : i < σ.length := by
        have := (List.getElem?_eq_some_iff.mp q).1
        rwa [List.length_set] at this
      rw [List.getElem?_set_self hi] at q
      cases q
      rfl
    rcases sg q1 with ⟨_, z⟩ | ⟨z, q⟩
    · rcases sg q2 with ⟨_, z2⟩ | ⟨z2, q'⟩
      · exact hne (z.symm.trans z2)
      · rw [at_ z q3] at q4
        exact self z2 q' m2 q4
    · rcases sg q2 with ⟨_, z2⟩ | ⟨z2, q'⟩
      · rw [at_ z2 q4] at q3
        exact self z q m1 q3
      · exact S2.ne j m f g l2 hne q q' m1 m2 q3 q4
end
end SF

/-! ## Judgements over data -/
namespace SF
open PySem PySem.Spec PyProof.Rows L2

abbrev WE := Rho → (Res → Prop) → (Exn → Prop) → Prop
abbrev WA := Rho → (List PyData → Prop) → (Exn → Prop) → Prop
abbrev WT := Rho → (Bool → Prop) → (Exn → Prop) → Prop
structure Pst where
  nx : Rho → Prop
  rt : Res → Prop
  xc : Exn → Prop
  bk : Rho → Prop := fun _ => False
  ct : Rho → Prop := fun _ => False
abbrev WS := Rho → Pst → Prop
section
variable {K : PySem.W.Frag} {b : Bs} {G G' G1 G2 H H' H1 H2 : Hp} {c : Cn} {ρ : Rho} {σ : L2.St}
def PostE (K : PySem.W.Frag) (ρ : Rho) (σ : L2.St) (G H : Hp) (Φ : Res → Prop) (Q : VK) : Prop := ∀ v r G' H', Tr K ρ σ G H G' H' → Out K H G' H' r v → Φ r → Q v H'
def PostA (K : PySem.W.Frag) (n : Nat) (ρ : Rho) (σ : L2.St) (G H : Hp) (Φ : List PyData → Prop) (Q : List V → Hp → Prop) : Prop := ∀ vs ds G' H', Tr K ρ σ G H G' H' → ImL K G' ds vs → ds.length = n → Φ ds → Q vs H'
def PostT (K : PySem.W.Frag) (ρ : Rho) (σ : L2.St) (G H : Hp) (Φ : Bool → Prop) (Q : Bool → Hp → Prop) : Prop := ∀ k G' H', Tr K ρ σ G H G' H' → Φ k → Q k H'
def ExcE (K : PySem.W.Frag) (b : Bs) (ρ : Rho) (σ : L2.St) (G H : Hp) (Ξ : Exn → Prop) : Prop := ∀ ex cls d G' H', Tr K ρ σ G H G' H' → b.XR ex cls d G' → Ξ ex → b.E cls d H'
theorem PostE.tr {Φ : Res → Prop} {Q : VK} (p : PostE K ρ σ G H Φ Q) (t : Tr K ρ σ G H G1 H1) : PostE K ρ σ G1 H1 Φ Q := fun v r G' H' t' o h => p v r G' H' (t.trans t') (o.back fun _ z => t.back z) h
theorem PostA.tr {n : Nat} {Φ : List PyData → Prop} {Q : List V → Hp → Prop} (p : PostA K n ρ σ G H Φ Q) (t : Tr K ρ σ G H G1 H1) : PostA K n ρ σ G1 H1 Φ Q := fun v r G' H' t' o l h => p v r G' H' (t.trans t') o l h
theorem PostT.tr {Φ : Bool → Prop} {Q : Bool → Hp → Prop} (p : PostT K ρ σ G H Φ Q) (t : Tr K ρ σ G H G1 H1) : PostT K ρ σ G1 H1 Φ Q := fun k G' H' t' h => p k G' H' (t.trans t') h
theorem ExcE.tr {Ξ : Exn → Prop} (p : ExcE K b ρ σ G H Ξ) (t : Tr K ρ σ G H G1 H1) : ExcE K b ρ σ G1 H1 Ξ := fun ex cls d G' H' t' x h => p ex cls d G' H' (t.trans t') x h
def teOf (K : PySem.W.Frag) (b : Bs) (w : WE) : TE := fun σ H Q => ∃ (c : Cn) (ρ : Rho) (G : Hp) (Φ : Res → Prop) (Ξ : Exn → Prop), Sat K c ρ σ G H ∧ w ρ Φ Ξ ∧ PostE K ρ σ G H Φ Q ∧ ExcE K b ρ σ G H Ξ
def taOf (K : PySem.W.Frag) (b : Bs) (n : Nat) (w : WA) : TA := fun σ H Q => ∃ (c : Cn) (ρ : Rho) (G : Hp) (Φ : List PyData → Prop) (Ξ : Exn → Prop), Sat K c ρ σ G H ∧ w ρ Φ Ξ ∧ PostA K n ρ σ G H Φ Q ∧ ExcE K b ρ σ G H Ξ
def ttOf (K : PySem.W.Frag) (b : Bs) (w : WT) : TT := fun σ H Q => ∃ (c : Cn) (ρ : Rho) (G : Hp) (Φ : Bool → Prop) (Ξ : Exn → Prop), Sat K c ρ σ G H ∧ w ρ Φ Ξ ∧ PostT K ρ σ G H Φ Q ∧ ExcE K b ρ σ G H Ξ
structure PostS (K : PySem.W.Frag) (b : Bs) (c : Cn) (Ψ : Pst) (D : Ends) : Prop where
  nx : ∀ ρ' σ' G' H', Sat K c ρ' σ' G' H' → Ψ.nx ρ' → D.nx σ' H'
  rt : ∀ v r G' H', Fin' K c G' H' → Out K c.He G' H' r v → Ψ.rt r → D.rt v H'
  bk : ∀ ρ' σ' G' H', Sat K c ρ' σ' G' H' → Ψ.bk ρ' → D.bk σ' H'
  ct : ∀ ρ' σ' G' H', Sat K c ρ' σ' G' H' → Ψ.ct ρ' → D.ct σ' H'
  xc : ∀ ex cls d G' H', Fin' K c G' H' → b.XR ex cls d G' → Ψ.xc ex → b.E cls d H'
def tsOf (K : PySem.W.Frag) (b : Bs) (w : WS) : TS := fun D σ H => ∃ (c : Cn) (ρ : Rho) (G : Hp) (Ψ : Pst), Sat K c ρ σ G H ∧ w ρ Ψ ∧ PostS K b c Ψ D
end
section
variable {X : Cx} {b : Bs}
abbrev PEI (X : Cx) (b : Bs) (e : Expr) (w : WE) : Prop := PE X e (teOf X.K b w)
abbrev PAI (X : Cx) (b : Bs) (n : Nat) (es : List Expr) (w : WA) : Prop := PA X es (taOf X.K b n w)
abbrev PTI (X : Cx) (b : Bs) (e : Expr) (w : WT) : Prop := PT X e (ttOf X.K b w)
abbrev PSI (X : Cx) (b : Bs) (st : Stmt) (w : WS) : Prop := PS X st (tsOf X.K b w)
abbrev PSsI (X : Cx) (b : Bs) (st : List Stmt) (w : WS) : Prop := PSs X st (tsOf X.K b w)
theorem pe_imp {e : Expr} {t t' : TE} (h : PE X e t) (hi : ∀ σ H Q, t' σ H Q → t σ H Q) : PE X e t' := ⟨fun pins s σ H Q I q => h.run pins s σ H Q I (hi σ H Q q)⟩
theorem pa_imp {e : List Expr} {t t' : TA} (h : PA X e t) (hi : ∀ σ H Q, t' σ H Q → t σ H Q) : PA X e t' := ⟨fun pos pins s σ H Q I q => h.run pos pins s σ H Q I (hi σ H Q q)⟩
theorem pt_imp {e : Expr} {t t' : TT} (h : PT X e t) (hi : ∀ σ H Q, t' σ H Q → t σ H Q) : PT X e t' := ⟨fun pins s σ H Q I q => h.run pins s σ H Q I (hi σ H Q q)⟩
theorem ps_imp {e : Stmt} {t t' : TS} (h : PS X e t) (hi : ∀ D σ H, t' D σ H → t D σ H) : PS X e t' := ⟨fun pins s σ H D I q => h.run pins s σ H D I (hi D σ H q)⟩
theorem pss_imp {e : List Stmt} {t t' : TS} (h : PSs X e t) (hi : ∀ D σ H, t' D σ H → t D σ H) : PSs X e t' := ⟨fun pins s σ H D I q => h.run pins s σ H D I (hi D σ H q)⟩
theorem pei_of {e : Expr} {t : TE} {w : WE} (h : PE X e t) (hi : ∀ c ρ σ G H Φ Ξ Q, Sat X.K c ρ σ G H → w ρ Φ Ξ → PostE X.K ρ σ G H Φ Q → ExcE X.K b ρ σ G H Ξ → t σ H Q) : PEI X b e w :=
  pe_imp h fun σ H Q ⟨c, ρ, G, Φ, Ξ, S, hw, p, x⟩ => hi c ρ σ G H Φ Ξ Q S hw p x
theorem psi_of {st : Stmt} {t : TS} {w : WS} (h : PS X st t) (hi : ∀ c ρ σ G H Ψ D, Sat X.K c ρ σ G H → w ρ Ψ → PostS X.K b c Ψ D → t D σ H) : PSI X b st w :=
  ps_imp h fun D σ H ⟨c, ρ, G, Ψ, S, hw, p⟩ => hi c ρ σ G H Ψ D S hw p

/-! ### names, constants -/
def wVar (i : Nat) : WE := fun ρ Φ _ => ∃ d, ρ[i]? = some (.dat d) ∧ Φ (.dat d)
theorem pei_var (i : Nat) {x : Str} {pos : Pos} (hN : X.N[i]? = some x := by rfl) (hv : Vis X.env.scope x := by first | exact Or.inl rfl | exact Or.inr (Or.inl rfl) | exact Or.inr (Or.inr rfl)) (hd : (x == ("__debug__" : Str)) = false := by decide)
    (hcd : (x == ("__classdict__" : Str)) = false := by decide) : PEI X b (.Name x pos) (wVar i) := pei_of (pe_var hN hv hd hcd) fun c ρ σ G H Φ Ξ Q S hw p _ => by
  obtain ⟨d, e, h⟩ := hw
  obtain ⟨v, e2, im⟩ := S.var e
  exact ⟨v, e2, p v (.dat d) G H (.refl S) im h⟩
def wC (d : PyData) : WE := fun _ Φ _ => Φ (.dat d)
theorem pei_c {e : Expr} {v : V} (d : PyData) (h : PE X e (tC v)) (hd : ∀ G, Im X.K G d v) : PEI X b e (wC d) := pei_of h fun c ρ σ G H Φ Ξ Q S hw p _ => p v (.dat d) G H (.refl S) (hd G) hw
theorem pei_int {i j pos} : PEI X b (.Constant (.int i) j pos) (wC (.int i)) := pei_c _ pe_int fun _ => by rw [im_int]
theorem pei_bl {i j pos} : PEI X b (.Constant (.bool i) j pos) (wC (.bool i)) := pei_c _ pe_bl fun _ => by rw [im_bool]
theorem pei_non {j pos} : PEI X b (.Constant .none j pos) (wC .none) := pei_c _ pe_non fun _ => by rw [im_none]
theorem pei_str {i j pos} : PEI X b (.Constant (.str i) j pos) (wC (.str i)) := pei_c _ pe_str fun _ => by rw [im_str]
theorem pei_gint {x : Str} {i : Int} {pos : Pos} (hg : Gl X x) (hm : ∃ t, X.mg x = some (.int i t)) (hd : (x == ("__debug__" : Str)) = false := by decide) : PEI X b (.Name x pos) (wC (.int i)) := by
  obtain ⟨t, hm⟩ := hm
  exact pei_c _ (pe_glob (v := .int i) hg hm ⟨t, rfl⟩ hd) fun _ => by rw [im_int]
theorem pei_gstr {x : Str} {i : Str} {pos : Pos} (hg : Gl X x) (hm : ∃ t, X.mg x = some (.str i t)) (hd : (x == ("__debug__" : Str)) = false := by decide) : PEI X b (.Name x pos) (wC (.str i)) := by
  obtain ⟨t, hm⟩ := hm
  exact pei_c _ (pe_glob (v := .str i) hg hm ⟨t, rfl⟩ hd) fun _ => by rw [im_str]
theorem pei_gref {x : Str} {a : Addr} {d : PyData} {pos : Pos} (hg : Gl X x) (hm : X.mg x = some (.ref a)) (hi : ∀ G, Im X.K G d (.ref a)) (hd : (x == ("__debug__" : Str)) = false := by decide) : PEI X b (.Name x pos) (wC d) :=
  pei_c _ (pe_glob (v := .ref a) hg hm rfl hd) hi

/-! ### operations on data -/
abbrev Sem1 := PyData → (Res → Prop) → Prop
abbrev Sem2 := PyData → PyData → (Res → Prop) → Prop
def wOp (sem : Sem2) (wa wb : WE) : WE := fun ρ Φ Ξ => wa ρ (fun x => wb ρ (fun y => sem x.frz y.frz Φ) Ξ) Ξ
def wUn (sem : Sem1) (wa : WE) : WE := fun ρ Φ Ξ => wa ρ (fun x => sem x.frz Φ) Ξ
/-- an operation on values is one on data -/
def Op2 (X : Cx) (r : R2) (sem : Sem2) : Prop := ∀ c ρ σ G H d1 d2 x y Φ Q, Sat X.K c ρ σ G H → Im X.K G d1 x → Im X.K G d2 y → sem d1 d2 Φ → PostE X.K ρ σ G H Φ Q → r x y H Q
def Op1 (X : Cx) (r : V → Hp → VK → Prop) (sem : Sem1) : Prop := ∀ c ρ σ G H d1 x Φ Q, Sat X.K c ρ σ G H → Im X.K G d1 x → sem d1 Φ → PostE X.K ρ σ G H Φ Q → r x H Q
theorem pei_op {e : Expr} {r : R2} {sem : Sem2} {wa wb : WE} (h : PE X e (tOp r (teOf X.K b wa) (teOf X.K b wb))) (hr : Op2 X r sem) : PEI X b e (wOp sem wa wb) := pei_of h fun c ρ σ G H Φ Ξ Q S hw p x => by
  refine ⟨c, ρ, G, _, Ξ, S, hw, fun v1 r1 G1 H1 t1 o1 h1 => ?_, x⟩
  obtain ⟨G1', t1', i1⟩ := freeze S t1 o1
  refine ⟨c, ρ, G1', _, Ξ, S.tr t1', h1, fun v2 r2 G2 H2 t2 o2 h2 => ?_, x.tr t1'⟩
  obtain ⟨G2', t2', i2⟩ := freeze (S.tr t1') t2 o2
  exact hr c ρ σ G2' H2 _ _ v1 v2 Φ Q ((S.tr t1').tr t2') (i1.mono t2'.eg) i2 h2 (p.tr (t1'.trans t2'))
theorem pei_un {e : Expr} {r : V → Hp → VK → Prop} {sem : Sem1} {wa : WE} (h : PE X e (fun σ H Q => teOf X.K b wa σ H fun x H1 => r x H1 Q)) (hr : Op1 X r sem) : PEI X b e (wUn sem wa) := pei_of h fun c ρ σ G H Φ Ξ Q S hw p x => by
  refine ⟨c, ρ, G, _, Ξ, S, hw, fun v1 r1 G1 H1 t1 o1 h1 => ?_, x⟩
  obtain ⟨G1', t1', i1⟩ := freeze S t1 o1
  exact hr c ρ σ G1' H1 _ v1 Φ Q (S.tr t1') i1 h1 (p.tr t1')
/-- two ints give flat data -/
def sII (f : Int → Int → PyData) : Sem2 := fun a b Φ => ∃ i j, a = .int i ∧ b = .int j ∧ Φ (.dat (f i j))
def sIIc (C : Int → Int → Prop) (f : Int → Int → PyData) : Sem2 := fun a b Φ => ∃ i j, a = .int i ∧ b = .int j ∧ C i j ∧ Φ (.dat (f i j))
theorem op2_I0 {g : Int → Int → V} {f : Int → Int → PyData} (hg : ∀ i j G, Im X.K G (f i j) (g i j)) : Op2 X (rI0 g) (sII f) := fun c ρ σ G H d1 d2 x y Φ Q S i1 i2 hs p => by
  obtain ⟨i, j, rfl, rfl, h⟩ := hs
  rw [im_int] at i1 i2
  exact ⟨i, j, i1, i2, p _ (.dat _) G H (.refl S) (hg i j G) h⟩
theorem op2_I {C : Int → Int → Prop} {g : Int → Int → V} {f : Int → Int → PyData} (hg : ∀ i j G, Im X.K G (f i j) (g i j)) : Op2 X (rI C g) (sIIc C f) := fun c ρ σ G H d1 d2 x y Φ Q S i1 i2 hs p => by
  obtain ⟨i, j, rfl, rfl, hc, h⟩ := hs
  rw [im_int] at i1 i2
  exact ⟨i, j, i1, i2, hc, p _ (.dat _) G H (.refl S) (hg i j G) h⟩
abbrev sAdd : Sem2 := sII fun i j => .int (i + j)
abbrev sSub : Sem2 := sII fun i j => .int (i - j)
abbrev sMul : Sem2 := sIIc CMul fun i j => .int (i * j)
abbrev sMod : Sem2 := sIIc (fun _ j => 0 < j) fun i j => .int (i % j)
abbrev sDiv : Sem2 := sIIc CDiv fun i j => .int (i / j)
abbrev sLt : Sem2 := sII fun i j => .bool (decide (i < j))
abbrev sLe : Sem2 := sII fun i j => .bool (decide (i ≤ j))
abbrev sGt : Sem2 := sII fun i j => .bool (decide (j < i))
abbrev sGe : Sem2 := sII fun i j => .bool (decide (j ≤ i))
variable {x y z : Expr} {pos : Pos} {wx wy wz : WE}
theorem pei_add (hx : PEI X b x wx) (hy : PEI X b y wy) : PEI X b (.BinOp x .Add y pos) (wOp sAdd wx wy) := pei_op (pe_op op_add hx hy) (op2_I0 fun i j G => by rw [im_int])
theorem pei_sub (hx : PEI X b x wx) (hy : PEI X b y wy) : PEI X b (.BinOp x .Sub y pos) (wOp sSub wx wy) := pei_op (pe_op op_sub hx hy) (op2_I0 fun i j G => by rw [im_int])
theorem pei_mul (hx : PEI X b x wx) (hy : PEI X b y wy) : PEI X b (.BinOp x .Mult y pos) (wOp sMul wx wy) := pei_op (pe_op op_mul hx hy) (op2_I fun i j G => by rw [im_int])
theorem pei_mod (hx : PEI X b x wx) (hy : PEI X b y wy) : PEI X b (.BinOp x .Mod y pos) (wOp sMod wx wy) := pei_op (pe_op op_mod hx hy) (op2_I fun i j G => by rw [im_int])
theorem pei_fdiv (hx : PEI X b x wx) (hy : PEI X b y wy) : PEI X b (.BinOp x .FloorDiv y pos) (wOp sDiv wx wy) := pei_op (pe_op op_fdiv hx hy) (op2_I fun i j G => by rw [im_int])
theorem pei_cmp {op : CmpOp} {r : R2} {sem : Sem2} (ho : OpR X (compareOp op) r) (hr : Op2 X r sem) (hm : behindInMarks op y = false) (hx : PEI X b x wx) (hy : PEI X b y wy) : PEI X b (.Compare x [op] [y] pos) (wOp sem wx wy) := pei_op (pe_cmpR ho hx hy hm) hr
theorem op2_lt : Op2 X (rI0 fun i j => .bl (decide (i < j))) sLt := op2_I0 fun i j G => by rw [im_bool]
theorem op2_le : Op2 X (rI0 fun i j => .bl (decide (i ≤ j))) sLe := op2_I0 fun i j G => by rw [im_bool]
theorem op2_gt : Op2 X (rI0 fun i j => .bl (decide (j < i))) sGt := op2_I0 fun i j G => by rw [im_bool]
theorem op2_ge : Op2 X (rI0 fun i j => .bl (decide (j ≤ i))) sGe := op2_I0 fun i j G => by rw [im_bool]
/-- == of data of any depth -/
def sEq : Sem2 := fun a b Φ => SeqAt.shaped a = true ∧ SeqAt.shaped b = true ∧ Φ (.dat (.bool (PyData.eqv a b)))
def sNe : Sem2 := fun a b Φ => SeqAt.shaped a = true ∧ SeqAt.shaped b = true ∧ Φ (.dat (.bool (!PyData.eqv a b)))
theorem op2_eq : Op2 X (rEqD X.K) sEq := fun c ρ σ G H d1 d2 x y Φ Q S i1 i2 hs p =>
  ⟨d1, d2, i1.dp S.ex2, i2.dp S.ex2, hs.1, hs.2.1, p _ (.dat (.bool _)) G H (.refl S) (by show Im _ _ _ _; rw [im_bool]) hs.2.2⟩
theorem op2_ne : Op2 X (rNeD X.K) sNe := fun c ρ σ G H d1 d2 x y Φ Q S i1 i2 hs p =>
  ⟨d1, d2, i1.dp S.ex2, i2.dp S.ex2, hs.1, hs.2.1, p _ (.dat (.bool _)) G H (.refl S) (by show Im _ _ _ _; rw [im_bool]) hs.2.2⟩
/-- is None -/
def isNone : PyData → Bool
  | .none => true
  | _ => false
theorem Im.nonB {K : PySem.W.Frag} {G : Hp} {d : PyData} {v : V} (h : Im K G d v) : decide (v = .non) = isNone d := by
  cases d with
  | none => rw [im_none] at h; subst h; rfl
  | bool _ => rw [im_bool] at h; subst h; rfl
  | int _ => rw [im_int] at h; subst h; rfl
  | str _ => rw [im_str] at h; subst h; rfl
  | list _ => rw [im_list] at h; obtain ⟨a, xs, rfl, _⟩ := h; rfl
  | tuple _ => rw [im_tuple] at h; obtain ⟨a, xs, rfl, _⟩ := h; rfl
  | dict _ => rw [im_dict] at h; exact h.elim
def sIsN : Sem2 := fun a b Φ => b = .none ∧ Φ (.dat (.bool (isNone a)))
def sNotN : Sem2 := fun a b Φ => b = .none ∧ Φ (.dat (.bool (!isNone a)))
abbrev rIsNo : R2 := fun x y H Q => y = .non ∧ Q (.bl (decide (x = .non))) H
abbrev rNotNo : R2 := fun x y H Q => y = .non ∧ Q (.bl (!decide (x = .non))) H
theorem op2_isN : Op2 X rIsNo sIsN := fun c ρ σ G H d1 d2 x y Φ Q S i1 i2 hs p => by
  obtain ⟨rfl, h⟩ := hs
  rw [im_none] at i2
  refine ⟨i2, p _ (.dat (.bool (isNone d1))) G H (.refl S) (by show Im _ _ _ _; rw [im_bool, i1.nonB]) h⟩
theorem op2_notN : Op2 X rNotNo sNotN := fun c ρ σ G H d1 d2 x y Φ Q S i1 i2 hs p => by
  obtain ⟨rfl, h⟩ := hs
  rw [im_none] at i2
  refine ⟨i2, p _ (.dat (.bool (!isNone d1))) G H (.refl S) (by show Im _ _ _ _; rw [im_bool, i1.nonB]) h⟩
/-- in a list of any data; in a tuple of flat data -/
def sInL (f : Bool → Bool) : Sem2 := fun a b Φ => ∃ ds, b = .list ds ∧ SeqAt.shaped a = true ∧ SeqAt.shaped (.list ds) = true ∧ Φ (.dat (.bool (f (ds.any fun z => PyData.eqv z a))))
def sInT (f : Bool → Bool) : Sem2 := fun a b Φ => ∃ ds, b = .tuple ds ∧ isSc a = true ∧ ds.all isSc = true ∧ Φ (.dat (.bool (f (ds.any fun z => PyData.eqv z a))))
theorem op2_inL : Op2 X (rInD X.K) (sInL fun k => k) := fun c ρ σ G H d1 d2 x y Φ Q S i1 i2 hs p => by
  obtain ⟨ds, rfl, h1, h2, h⟩ := hs
  exact ⟨d1, ds, i1.dp S.ex2, i2.dp S.ex2, h1, h2, p _ (.dat (.bool _)) G H (.refl S) (by show Im _ _ _ _; rw [im_bool]) h⟩
theorem op2_notInL : Op2 X (rNotInD X.K) (sInL not) := fun c ρ σ G H d1 d2 x y Φ Q S i1 i2 hs p => by
  obtain ⟨ds, rfl, h1, h2, h⟩ := hs
  exact ⟨d1, ds, i1.dp S.ex2, i2.dp S.ex2, h1, h2, p _ (.dat (.bool _)) G H (.refl S) (by show Im _ _ _ _; rw [im_bool]) h⟩
theorem op2_inT {neg : Bool} {f : Bool → Bool} (hf : ∀ k, (if neg then !k else k) = f k) : Op2 X (rIn X.K neg) (sInT f) := fun c ρ σ G H d1 d2 x y Φ Q S i1 i2 hs p => by
  obtain ⟨ds, rfl, h1, h2, h⟩ := hs
  rw [im_tuple] at i2
  obtain ⟨a, xs, rfl, ht, il⟩ := i2
  obtain ⟨s1, s2⟩ := i1.sc h1
  obtain ⟨t1, t2⟩ := inV_sc s1 il h2
  refine ⟨a, xs, rfl, .inr (ex_t S.ex2 ht), s2, t2, p _ (.dat (.bool (f (ds.any fun z => PyData.eqv z d1)))) G H (.refl S) ?_ h⟩
  show Im _ _ _ _
  rw [im_bool, ← hf, t1]
theorem op2_inT1 : Op2 X (rIn X.K false) (sInT fun k => k) := op2_inT fun k => rfl
theorem op2_notInT : Op2 X (rIn X.K true) (sInT not) := op2_inT fun k => rfl

/-! ### and, or, not, a if c else d -/
def isB (r : Res) (Φ : Bool → Prop) : Prop := ∃ k, r = .dat (.bool k) ∧ Φ k
def wAnd (wa wb : WE) : WE := fun ρ Φ Ξ => wa ρ (fun r => isB r fun k => if k = true then wb ρ Φ Ξ else Φ (.dat (.bool false))) Ξ
def wOr (wa wb : WE) : WE := fun ρ Φ Ξ => wa ρ (fun r => isB r fun k => if k = true then Φ (.dat (.bool true)) else wb ρ Φ Ξ) Ξ
def wNot (wa : WE) : WE := fun ρ Φ Ξ => wa ρ (fun r => isB r fun k => Φ (.dat (.bool (!k)))) Ξ
variable {rest : List Expr}
theorem pei_one (hop : BoolOp) (hx : PEI X b x wx) : PEI X b (.BoolOp hop [x] pos) wx := pe_one hx
theorem pei_and (hx : PEI X b x wx) (hy : PEI X b (.BoolOp .And (y :: rest) pos) wy) : PEI X b (.BoolOp .And (x :: y :: rest) pos) (wAnd wx wy) := pei_of (pe_and hx hy) fun c ρ σ G H Φ Ξ Q S hw p ex => by
  refine ⟨c, ρ, G, _, Ξ, S, hw, fun v1 r1 G1 H1 t1 o1 h1 => ?_, ex⟩
  obtain ⟨k, rfl, h1⟩ := h1
  have o1 : Im X.K G1 (.bool k) v1 := o1
  rw [im_bool] at o1
  refine ⟨k, o1, ?_⟩
  cases k with
  | true => exact ⟨c, ρ, G1, Φ, Ξ, S.tr t1, h1, p.tr t1, ex.tr t1⟩
  | false => exact p _ (.dat (.bool false)) G1 H1 t1 (by show Im _ _ _ _; rw [im_bool]) h1
theorem pei_or (hx : PEI X b x wx) (hy : PEI X b (.BoolOp .Or (y :: rest) pos) wy) : PEI X b (.BoolOp .Or (x :: y :: rest) pos) (wOr wx wy) := pei_of (pe_or hx hy) fun c ρ σ G H Φ Ξ Q S hw p ex => by
  refine ⟨c, ρ, G, _, Ξ, S, hw, fun v1 r1 G1 H1 t1 o1 h1 => ?_, ex⟩
  obtain ⟨k, rfl, h1⟩ := h1
  have o1 : Im X.K G1 (.bool k) v1 := o1
  rw [im_bool] at o1
  refine ⟨k, o1, ?_⟩
  cases k with
  | false => exact ⟨c, ρ, G1, Φ, Ξ, S.tr t1, h1, p.tr t1, ex.tr t1⟩
  | true => exact p _ (.dat (.bool true)) G1 H1 t1 (by show Im _ _ _ _; rw [im_bool]) h1
theorem pei_not (hx : PEI X b x wx) : PEI X b (.UnaryOp .Not x pos) (wNot wx) := pei_of (pe_not hx) fun c ρ σ G H Φ Ξ Q S hw p ex => by
  refine ⟨c, ρ, G, _, Ξ, S, hw, fun v1 r1 G1 H1 t1 o1 h1 => ?_, ex⟩
  obtain ⟨k, rfl, h1⟩ := h1
  have o1 : Im X.K G1 (.bool k) v1 := o1
  rw [im_bool] at o1
  exact ⟨k, o1, p _ (.dat (.bool (!k))) G1 H1 t1 (by show Im _ _ _ _; rw [im_bool]) h1⟩
/-- a test by its value -/
def wTest (w : WE) : WT := fun ρ Φ Ξ => w ρ (fun r => isB r Φ) Ξ
theorem pti_of {e : Expr} {t : TT} {w : WT} (h : PT X e t) (hi : ∀ c ρ σ G H Φ Ξ Q, Sat X.K c ρ σ G H → w ρ Φ Ξ → PostT X.K ρ σ G H Φ Q → ExcE X.K b ρ σ G H Ξ → t σ H Q) : PTI X b e w :=
  pt_imp h fun σ H Q ⟨c, ρ, G, Φ, Ξ, S, hw, p, x⟩ => hi c ρ σ G H Φ Ξ Q S hw p x
theorem pti_val (hx : PEI X b x wx) (he : ∀ whole, PySem.isTrue x X.env whole = (do let v ← whole; standAt x.pos; holding [v] (truthy v)) := by intro _; rfl) : PTI X b x (wTest wx) := pti_of (pt_val hx he) fun c ρ σ G H Φ Ξ Q S hw p ex => by
  refine ⟨c, ρ, G, _, Ξ, S, hw, fun v1 r1 G1 H1 t1 o1 h1 => ?_, ex⟩
  obtain ⟨k, rfl, h1⟩ := h1
  have o1 : Im X.K G1 (.bool k) v1 := o1
  rw [im_bool] at o1
  exact ⟨k, o1, p k G1 H1 t1 h1⟩
theorem pti_cmp {op : CmpOp} {r : R2} {sem : Sem2} (ho : OpR X (compareOp op) r) (hr : Op2 X r sem) (hm : behindInMarks op y = false) (hx : PEI X b x wx) (hy : PEI X b y wy) : PTI X b (.Compare x [op] [y] pos) (wTest (wOp sem wx wy)) := pti_of (pt_cmpR ho hx hy hm) fun c ρ σ G H Φ Ξ Q S hw p ex => by
  refine ⟨c, ρ, G, _, Ξ, S, hw, fun v1 r1 G1 H1 t1 o1 h1 => ?_, ex⟩
  obtain ⟨G1', t1', i1⟩ := freeze S t1 o1
  refine ⟨c, ρ, G1', _, Ξ, S.tr t1', h1, fun v2 r2 G2 H2 t2 o2 h2 => ?_, ex.tr t1'⟩
  obtain ⟨G2', t2', i2⟩ := freeze (S.tr t1') t2 o2
  refine hr c ρ σ G2' H2 _ _ v1 v2 _ _ ((S.tr t1').tr t2') (i1.mono t2'.eg) i2 h2 fun v3 r3 G3 H3 t3 o3 h3 => ?_
  obtain ⟨k, rfl, h3⟩ := h3
  have o3 : Im X.K G3 (.bool k) v3 := o3
  rw [im_bool] at o3
  exact ⟨k, o3, p k G3 H3 ((t1'.trans t2').trans t3) h3⟩
def wNotT (w : WT) : WT := fun ρ Φ Ξ => w ρ (fun k => Φ (!k)) Ξ
def wAndT (w u : WT) : WT := fun ρ Φ Ξ => w ρ (fun k => if k = true then u ρ Φ Ξ else Φ false) Ξ
def wOrT (w u : WT) : WT := fun ρ Φ Ξ => w ρ (fun k => if k = true then Φ true else u ρ Φ Ξ) Ξ
theorem pti_not {w : WT} (hx : PTI X b x w) : PTI X b (.UnaryOp .Not x pos) (wNotT w) := pti_of (pt_not hx) fun c ρ σ G H Φ Ξ Q S hw p ex => ⟨c, ρ, G, _, Ξ, S, hw, fun k G1 H1 t1 h1 => p _ G1 H1 t1 h1, ex⟩
abbrev PWI (X : Cx) (b : Bs) (e : Expr) (w : WT) : Prop := PW X e (ttOf X.K b w)
theorem pw_imp {e : Expr} {t t' : TT} (h : PW X e t) (hi : ∀ σ H Q, t' σ H Q → t σ H Q) : PW X e t' := ⟨fun wh pins s σ H Q I q => h.run wh pins s σ H Q I (hi σ H Q q)⟩
theorem pwi_one {hop : BoolOp} {w : WT} (hx : PTI X b x w) : PWI X b (.BoolOp hop [x] pos) w := by
  cases hop with
  | And => exact pw_and1 hx
  | Or => exact pw_or1 hx
theorem pwi_and {w u : WT} (hx : PTI X b x w) (hy : PWI X b (.BoolOp .And (y :: rest) pos) u) : PWI X b (.BoolOp .And (x :: y :: rest) pos) (wAndT w u) := pw_imp (pw_and hx hy) fun σ H Q ⟨c, ρ, G, Φ, Ξ, S, hw, p, ex⟩ => by
  refine ⟨c, ρ, G, _, Ξ, S, hw, fun k G1 H1 t1 h1 => ?_, ex⟩
  cases k with
  | true => exact ⟨c, ρ, G1, Φ, Ξ, S.tr t1, h1, p.tr t1, ex.tr t1⟩
  | false => exact p false G1 H1 t1 h1
theorem pwi_or {w u : WT} (hx : PTI X b x w) (hy : PWI X b (.BoolOp .Or (y :: rest) pos) u) : PWI X b (.BoolOp .Or (x :: y :: rest) pos) (wOrT w u) := pw_imp (pw_or hx hy) fun σ H Q ⟨c, ρ, G, Φ, Ξ, S, hw, p, ex⟩ => by
  refine ⟨c, ρ, G, _, Ξ, S, hw, fun k G1 H1 t1 h1 => ?_, ex⟩
  cases k with
  | false => exact ⟨c, ρ, G1, Φ, Ξ, S.tr t1, h1, p.tr t1, ex.tr t1⟩
  | true => exact p true G1 H1 t1 h1
theorem pti_bool {w : WT} (h : PWI X b x w) : PTI X b x w := PW.pt h
def wIf (wt : WT) (wa wb : WE) : WE := fun ρ Φ Ξ => wt ρ (fun k => if k = true then wa ρ Φ Ξ else wb ρ Φ Ξ) Ξ
theorem pei_if {wt : WT} (ht : PTI X b z wt) (hx : PEI X b x wx) (hy : PEI X b y wy) : PEI X b (.IfExp z x y pos) (wIf wt wx wy) := pei_of (pe_ifExp ht hx hy) fun c ρ σ G H Φ Ξ Q S hw p ex => by
  refine ⟨c, ρ, G, _, Ξ, S, hw, fun k G1 H1 t1 h1 => ?_, ex⟩
  cases k with
  | true => exact ⟨c, ρ, G1, Φ, Ξ, S.tr t1, h1, p.tr t1, ex.tr t1⟩
  | false => exact ⟨c, ρ, G1, Φ, Ξ, S.tr t1, h1, p.tr t1, ex.tr t1⟩
/-- a op b op' c -/
def wChain (s s' : Sem2) (wa wb wc : WE) : WE := fun ρ Φ Ξ => wa ρ (fun x => wb ρ (fun y => s x.frz y.frz (fun r => isB r fun k => if k = true then wc ρ (fun z => s' y.frz z.frz Φ) Ξ else Φ (.dat (.bool false)))) Ξ) Ξ
theorem pei_chain {op op' : CmpOp} {r r' : R2} {s s' : Sem2} (ho : OpR X (compareOp op) r) (ho' : OpR X (compareOp op') r') (hs : Op2 X r s) (hs' : Op2 X r' s') (hx : PEI X b x wx) (hy : PEI X b y wy) (hz : PEI X b z wz)
    (hm : lastMarks [op, op'] [y, z] = false := by with_unfolding_all rfl) : PEI X b (.Compare x [op, op'] [y, z] pos) (wChain s s' wx wy wz) := pei_of (pe_chain ho ho' hx hy hz hm) fun c ρ σ G H Φ Ξ Q S hw p ex => by
  refine ⟨c, ρ, G, _, Ξ, S, hw, fun v1 r1 G1 H1 t1 o1 h1 => ?_, ex⟩
  obtain ⟨G1', t1', i1⟩ := freeze S t1 o1
  refine ⟨c, ρ, G1', _, Ξ, S.tr t1', h1, fun v2 r2 G2 H2 t2 o2 h2 => ?_, ex.tr t1'⟩
  obtain ⟨G2', t2', i2⟩ := freeze (S.tr t1') t2 o2
  have t12 := t1'.trans t2'
  refine hs c ρ σ G2' H2 _ _ v1 v2 _ _ (S.tr t12) (i1.mono t2'.eg) i2 h2 fun v3 r3 G3 H3 t3 o3 h3 => ?_
  obtain ⟨k, rfl, h3⟩ := h3
  have o3 : Im X.K G3 (.bool k) v3 := o3
  rw [im_bool] at o3
  refine ⟨k, o3, ?_⟩
  have t13 := t12.trans t3
  cases k with
  | false => exact p _ (.dat (.bool false)) G3 H3 t13 (by show Im _ _ _ _; rw [im_bool]) h3
  | true =>
    refine ⟨c, ρ, G3, _, Ξ, S.tr t13, h3, fun v4 r4 G4 H4 t4 o4 h4 => ?_, ex.tr t13⟩
    obtain ⟨G4', t4', i4⟩ := freeze (S.tr t13) t4 o4
    exact hs' c ρ σ G4' H4 _ _ v2 v4 Φ Q (S.tr (t13.trans t4')) ((i2.mono t3.eg).mono t4'.eg) i4 h4 (p.tr (t13.trans t4'))
theorem pti_chain {op op' : CmpOp} {r r' : R2} {s s' : Sem2} (ho : OpR X (compareOp op) r) (ho' : OpR X (compareOp op') r') (hs : Op2 X r s) (hs' : Op2 X r' s') (hx : PEI X b x wx) (hy : PEI X b y wy) (hz : PEI X b z wz)
    (hm : lastMarks [op, op'] [y, z] = false := by with_unfolding_all rfl) : PTI X b (.Compare x [op, op'] [y, z] pos) (wTest (wChain s s' wx wy wz)) := pti_of (pt_chain ho ho' hx hy hz hm) fun c ρ σ G H Φ Ξ Q S hw p ex => by
  refine ⟨c, ρ, G, _, Ξ, S, hw, fun v1 r1 G1 H1 t1 o1 h1 => ?_, ex⟩
  obtain ⟨G1', t1', i1⟩ := freeze S t1 o1
  refine ⟨c, ρ, G1', _, Ξ, S.tr t1', h1, fun v2 r2 G2 H2 t2 o2 h2 => ?_, ex.tr t1'⟩
  obtain ⟨G2', t2', i2⟩ := freeze (S.tr t1') t2 o2
  have t12 := t1'.trans t2'
  refine hs c ρ σ G2' H2 _ _ v1 v2 _ _ (S.tr t12) (i1.mono t2'.eg) i2 h2 fun v3 r3 G3 H3 t3 o3 h3 => ?_
  obtain ⟨k, rfl, h3⟩ := h3
  have o3 : Im X.K G3 (.bool k) v3 := o3
  rw [im_bool] at o3
  refine ⟨k, o3, ?_⟩
  have t13 := t12.trans t3
  cases k with
  | false =>
    obtain ⟨k, e, h3⟩ := h3
    cases e
    exact ⟨false, rfl, p false G3 H3 t13 h3⟩
  | true =>
    refine ⟨c, ρ, G3, _, Ξ, S.tr t13, h3, fun v4 r4 G4 H4 t4 o4 h4 => ?_, ex.tr t13⟩
    obtain ⟨G4', t4', i4⟩ := freeze (S.tr t13) t4 o4
    refine hs' c ρ σ G4' H4 _ _ v2 v4 _ _ (S.tr (t13.trans t4')) ((i2.mono t3.eg).mono t4'.eg) i4 h4 fun v5 r5 G5 H5 t5 o5 h5 => ?_
    obtain ⟨k, rfl, h5⟩ := h5
    have o5 : Im X.K G5 (.bool k) v5 := o5
    rw [im_bool] at o5
    exact ⟨k, o5, p k G5 H5 ((t13.trans t4').trans t5) h5⟩
end
end SF

/-! ## More rules over data: items, slices, displays, calls -/
namespace SF
open PySem PySem.Spec PyProof.Rows L2
theorem atI_im {K : PySem.W.Frag} {G : Hp} {ds : List PyData} {xs : List V} {i : Int} {d : PyData} (h : ImL K G ds xs) (e : atI ds i = some d) : ∃ x, atI xs i = some x ∧ Im K G d x := by
  unfold atI at e ⊢
  rw [← h.len]
  cases q : ixN ds.length i with
  | none => rw [q] at e; cases e
  | some j =>
    rw [q] at e
    obtain ⟨x, hx, im⟩ := h.get (i := j) (d := d) e
    exact ⟨x, hx, im⟩
def cutD {α : Type} (xs : List α) (lo hi : Option Int) : List α := (xs.drop (HT.sIx xs.length 0 lo)).take (HT.sIx xs.length xs.length hi - HT.sIx xs.length 0 lo)
theorem cutD_im {K : PySem.W.Frag} {G : Hp} {ds : List PyData} {xs : List V} (h : ImL K G ds xs) (lo hi : Option Int) : ImL K G (cutD ds lo hi) (cutV xs lo hi) := by
  unfold cutD cutV
  rw [h.len]
  exact (h.drop _).take _
theorem cutD_all {α : Type} (xs : List α) (lo hi : Option Int) (h : HT.sIx xs.length 0 lo = 0 ∧ HT.sIx xs.length xs.length hi = xs.length) : cutD xs lo hi = xs := by
  unfold cutD
  rw [h.1, h.2]
  simp
section
variable {X : Cx} {b : Bs} {x y z e : Expr} {pos : Pos} {wx wy wz we : WE} {es : List Expr}
/-! ### items -/
def sIxT : Sem2 := fun a i Φ => ∃ ds j d, a = .tuple ds ∧ i = .int j ∧ atI ds j = some d ∧ Φ (.dat d)
def sIxL : Sem2 := fun a i Φ => ∃ ds j d, a = .list ds ∧ i = .int j ∧ atI ds j = some d ∧ Φ (.dat d)
def sIxS : Sem2 := fun a i Φ => ∃ s j k, a = .str s ∧ i = .int j ∧ s.length ≤ 1000000 ∧ atI s.cps.toList j = some k ∧ Φ (.dat (.str ⟨#[k]⟩))
theorem op2_ixT : Op2 X (rIxT X.K) sIxT := fun c ρ σ G H d1 d2 x y Φ Q S i1 i2 hs p => by
  obtain ⟨ds, j, d, rfl, rfl, e, h⟩ := hs
  rw [im_tuple] at i1
  rw [im_int] at i2
  obtain ⟨a, xs, rfl, ht, il⟩ := i1
  obtain ⟨v, e2, im⟩ := atI_im il e
  exact ⟨a, xs, j, v, rfl, i2, ex_t S.ex2 ht, e2, p v (.dat d) G H (.refl S) im h⟩
theorem op2_ixL : Op2 X (rIxL X.K) sIxL := fun c ρ σ G H d1 d2 x y Φ Q S i1 i2 hs p => by
  obtain ⟨ds, j, d, rfl, rfl, e, h⟩ := hs
  rw [im_list] at i1
  rw [im_int] at i2
  obtain ⟨a, xs, rfl, ht, il⟩ := i1
  obtain ⟨v, e2, im⟩ := atI_im il e
  exact ⟨a, xs, j, v, rfl, i2, sq_of (S.ex2 a _ ht), e2, p v (.dat d) G H (.refl S) im h⟩
theorem op2_ixS : Op2 X rIxS sIxS := fun c ρ σ G H d1 d2 x y Φ Q S i1 i2 hs p => by
  obtain ⟨s, j, k, rfl, rfl, hz, e, h⟩ := hs
  rw [im_str] at i1
  rw [im_int] at i2
  exact ⟨s, j, k, i1, i2, Nat.le_trans hz (by decide), e, p _ (.dat (.str _)) G H (.refl S) (by show Im _ _ _ _; rw [im_str]) h⟩
theorem pei_ixT (hx : PEI X b x wx) (hy : PEI X b y wy) (hs : PlainIx y := by intro _ _; rfl) : PEI X b (.Subscript x y pos) (wOp sIxT wx wy) := pei_op (pe_ix ix_tup hx hy hs) op2_ixT
theorem pei_ixL (hx : PEI X b x wx) (hy : PEI X b y wy) (hs : PlainIx y := by intro _ _; rfl) : PEI X b (.Subscript x y pos) (wOp sIxL wx wy) := pei_op (pe_ix ix_list hx hy hs) op2_ixL
theorem pei_ixS (hx : PEI X b x wx) (hy : PEI X b y wy) (hs : PlainIx y := by intro _ _; rfl) : PEI X b (.Subscript x y pos) (wOp sIxS wx wy) := pei_op (pe_ix ix_str hx hy hs) op2_ixS
/-! ### slices -/
abbrev WO := Rho → (Option Int → Prop) → (Exn → Prop) → Prop
def PostO (K : PySem.W.Frag) (ρ : Rho) (σ : L2.St) (G H : Hp) (Φ : Option Int → Prop) (Q : Option Int → Hp → Prop) : Prop := ∀ k G' H', Tr K ρ σ G H G' H' → Φ k → Q k H'
def toOf (K : PySem.W.Frag) (b : Bs) (w : WO) : TO := fun σ H Q => ∃ (c : Cn) (ρ : Rho) (G : Hp) (Φ : Option Int → Prop) (Ξ : Exn → Prop), Sat K c ρ σ G H ∧ w ρ Φ Ξ ∧ PostO K ρ σ G H Φ Q ∧ ExcE K b ρ σ G H Ξ
abbrev POI (X : Cx) (b : Bs) (e : Option Expr) (w : WO) : Prop := PO X e (toOf X.K b w)
theorem po_imp {e : Option Expr} {t t' : TO} (h : PO X e t) (hi : ∀ σ H Q, t' σ H Q → t σ H Q) : PO X e t' := ⟨fun pins s σ H Q I q => h.run pins s σ H Q I (hi σ H Q q)⟩
def wNoP : WO := fun _ Φ _ => Φ none
def wPart (w : WE) : WO := fun ρ Φ Ξ => w ρ (fun r => ∃ i, r = .dat (.int i) ∧ Φ (some i)) Ξ
theorem poi_none : POI X b none wNoP := po_imp po_none fun σ H Q ⟨c, ρ, G, Φ, Ξ, S, hw, p, ex⟩ => p none G H (.refl S) hw
theorem poi_some (hx : PEI X b x wx) : POI X b (some x) (wPart wx) := po_imp (po_some hx) fun σ H Q ⟨c, ρ, G, Φ, Ξ, S, hw, p, ex⟩ => by
  refine ⟨c, ρ, G, _, Ξ, S, hw, fun v r G1 H1 t1 o1 h1 => ?_, ex⟩
  obtain ⟨i, rfl, h1⟩ := h1
  have o1 : Im X.K G1 (.int i) v := o1
  rw [im_int] at o1
  exact ⟨i, o1, p (some i) G1 H1 t1 h1⟩
abbrev SemS := PyData → Option Int → Option Int → (Res → Prop) → Prop
def wSl (sem : SemS) (w : WE) (wl wh : WO) : WE := fun ρ Φ Ξ => w ρ (fun r => wl ρ (fun lo => wh ρ (fun hi => sem r.frz lo hi Φ) Ξ) Ξ) Ξ
def OpS (X : Cx) (r : V → Option Int → Option Int → Hp → VK → Prop) (sem : SemS) : Prop := ∀ c ρ σ G H d x lo hi Φ Q, Sat X.K c ρ σ G H → Im X.K G d x → sem d lo hi Φ → PostE X.K ρ σ G H Φ Q → r x lo hi H Q
theorem pei_slice {r : V → Option Int → Option Int → Hp → VK → Prop} {sem : SemS} {lo hi : Option Expr} {p2 : Pos} {wl wh : WO} (hr : SlR X r) (ho : OpS X r sem) (hx : PEI X b x wx) (hl : POI X b lo wl) (hh : POI X b hi wh) : PEI X b (.Subscript x (.Slice lo hi none p2) pos) (wSl sem wx wl wh) := pei_of (pe_slice hr hx hl hh) fun c ρ σ G H Φ Ξ Q S hw p ex => by
  refine ⟨c, ρ, G, _, Ξ, S, hw, fun v r G1 H1 t1 o1 h1 => ?_, ex⟩
  obtain ⟨G1', t1', i1⟩ := freeze S t1 o1
  refine ⟨c, ρ, G1', _, Ξ, S.tr t1', h1, fun lo G2 H2 t2 h2 => ?_, ex.tr t1'⟩
  refine ⟨c, ρ, G2, _, Ξ, (S.tr t1').tr t2, h2, fun hi G3 H3 t3 h3 => ?_, ex.tr (t1'.trans t2)⟩
  exact ho c ρ σ G3 H3 _ v lo hi Φ Q (((S.tr t1').tr t2).tr t3) ((i1.mono t2.eg).mono t3.eg) h3 (p.tr ((t1'.trans t2).trans t3))
def sSlT : SemS := fun a lo hi Φ => ∃ ds, a = .tuple ds ∧ Φ (.dat (.tuple (cutD ds lo hi)))
def sSlL : SemS := fun a lo hi Φ => ∃ ds, a = .list ds ∧ Φ (.lst (cutD ds lo hi))
def sSlS : SemS := fun a lo hi Φ => ∃ s, a = .str s ∧ s.length ≤ 1000000 ∧ Φ (.dat (.str (cutS s lo hi)))
theorem ops_T : OpS X (rSlA X.K) sSlT := fun c ρ σ G H d x lo hi Φ Q S i1 hs p => by
  obtain ⟨ds, rfl, h⟩ := hs
  rw [im_tuple] at i1
  obtain ⟨a, xs, rfl, ht, il⟩ := i1
  have hl := il.len
  refine ⟨a, xs, rfl, ex_t S.ex2 ht, fun q => ?_, fun _ q hq => ?_⟩
  · refine p _ (.dat (.tuple (cutD ds lo hi))) G H (.refl S) ?_ h
    show Im _ _ _ _
    rw [cutD_all ds lo hi (by rw [hl]; exact q), im_tuple]
    exact ⟨a, xs, rfl, ht, il⟩
  · refine p _ (.dat (.tuple (cutD ds lo hi))) _ _ (.newG S hq) ?_ h
    show Im _ _ _ _
    rw [im_tuple]
    exact ⟨q, _, rfl, st_of upd_same, (cutD_im il lo hi).mono (.new (S.ex2.back hq))⟩
theorem ops_L : OpS X (rSlL X.K) sSlL := fun c ρ σ G H d x lo hi Φ Q S i1 hs p => by
  obtain ⟨ds, rfl, h⟩ := hs
  rw [im_list] at i1
  obtain ⟨a, xs, rfl, ht, il⟩ := i1
  refine ⟨a, xs, rfl, sq_of (S.ex2 a _ ht), fun q hq => ?_⟩
  exact p _ (.lst (cutD ds lo hi)) _ _ (.newH S hq) ⟨q, _, rfl, hq, S.ex2.back hq, upd_same, cutD_im il lo hi⟩ h
theorem ops_S : OpS X rSlS sSlS := fun c ρ σ G H d x lo hi Φ Q S i1 hs p => by
  obtain ⟨s, rfl, hz, h⟩ := hs
  rw [im_str] at i1
  exact ⟨s, i1, Nat.le_trans hz (by decide), p _ (.dat (.str _)) G H (.refl S) (by show Im _ _ _ _; rw [im_str]) h⟩
theorem pei_slT {lo hi : Option Expr} {p2 : Pos} {wl wh : WO} (hx : PEI X b x wx) (hl : POI X b lo wl) (hh : POI X b hi wh) : PEI X b (.Subscript x (.Slice lo hi none p2) pos) (wSl sSlT wx wl wh) := pei_slice sl_tupA ops_T hx hl hh
theorem pei_slL {lo hi : Option Expr} {p2 : Pos} {wl wh : WO} (hx : PEI X b x wx) (hl : POI X b lo wl) (hh : POI X b hi wh) : PEI X b (.Subscript x (.Slice lo hi none p2) pos) (wSl sSlL wx wl wh) := pei_slice sl_list ops_L hx hl hh
theorem pei_slS {lo hi : Option Expr} {p2 : Pos} {wl wh : WO} (hx : PEI X b x wx) (hl : POI X b lo wl) (hh : POI X b hi wh) : PEI X b (.Subscript x (.Slice lo hi none p2) pos) (wSl sSlS wx wl wh) := pei_slice sl_str ops_S hx hl hh
def sRev : Sem1 := fun a Φ => ∃ ds, a = .list ds ∧ Φ (.lst ds.reverse)
theorem pei_rev {k : Nat} {p1 p2 p3 : Pos} (hx : PEI X b x wx) : PEI X b (.Subscript x (.Slice none none (some (.UnaryOp .USub (.Constant (.int 1) k p1) p2)) p3) pos) (wUn sRev wx) :=
  pei_un (r := fun x H Q => ∃ a xs, x = .ref a ∧ SqL X.K H a xs ∧ ∀ p, H p = none → Q (.ref p) (upd H p (.lst xs.reverse))) (pe_revL hx) fun c ρ σ G H d x Φ Q S i1 hs p => by
    obtain ⟨ds, rfl, h⟩ := hs
    rw [im_list] at i1
    obtain ⟨a, xs, rfl, ht, il⟩ := i1
    exact ⟨a, xs, rfl, sq_of (S.ex2 a _ ht), fun q hq => p _ (.lst ds.reverse) _ _ (.newH S hq) ⟨q, _, rfl, hq, S.ex2.back hq, upd_same, il.rev⟩ h⟩
def sNeg : Sem1 := fun a Φ => ∃ i, a = .int i ∧ Φ (.dat (.int (-i)))
theorem pei_neg (hx : PEI X b x wx) : PEI X b (.UnaryOp .USub x pos) (wUn sNeg wx) := pei_un (r := rU fun i => .int (-i)) (pe_un un_neg hx) fun c ρ σ G H d x Φ Q S i1 hs p => by
  obtain ⟨i, rfl, h⟩ := hs
  rw [im_int] at i1
  exact ⟨i, i1, p _ (.dat (.int _)) G H (.refl S) (by show Im _ _ _ _; rw [im_int]) h⟩
/-! ### sums of lists, tuples, texts -/
def sCatL : Sem2 := fun a c Φ => ∃ ds es, a = .list ds ∧ c = .list es ∧ ds.length + es.length ≤ 1000000 ∧ Φ (.lst (ds ++ es))
def sCatT : Sem2 := fun a c Φ => ∃ ds es, a = .tuple ds ∧ c = .tuple es ∧ ds.length + es.length ≤ 1000000 ∧ Φ (.dat (.tuple (ds ++ es)))
def sCatS : Sem2 := fun a c Φ => ∃ s t, a = .str s ∧ c = .str t ∧ s.length + t.length ≤ 1000000 ∧ Φ (.dat (.str (s ++ t)))
theorem pei_catL (hx : PEI X b x wx) (hy : PEI X b y wy) : PEI X b (.BinOp x .Add y pos) (wOp sCatL wx wy) := pei_op (pe_op op_cat hx hy) fun c ρ σ G H d1 d2 x y Φ Q S i1 i2 hs p => by
  obtain ⟨ds, es, rfl, rfl, hz, h⟩ := hs
  rw [im_list] at i1 i2
  obtain ⟨a, xs, rfl, ha, il⟩ := i1
  obtain ⟨a2, ys, rfl, ha2, il2⟩ := i2
  refine ⟨a, a2, xs, ys, rfl, rfl, S.ex2 a _ ha, S.ex2 a2 _ ha2, ?_, fun q hq => p _ (.lst (ds ++ es)) _ _ (.newH S hq) ⟨q, _, rfl, hq, S.ex2.back hq, upd_same, il.append il2⟩ h⟩
  rw [← il.len, ← il2.len]
  exact Nat.le_trans hz (by decide)
theorem pei_catT (hx : PEI X b x wx) (hy : PEI X b y wy) : PEI X b (.BinOp x .Add y pos) (wOp sCatT wx wy) := pei_op (pe_op op_catA hx hy) fun c ρ σ G H d1 d2 x y Φ Q S i1 i2 hs p => by
  obtain ⟨ds, es, rfl, rfl, hz, h⟩ := hs
  have i1' := i1
  have i2' := i2
  rw [im_tuple] at i1 i2
  obtain ⟨a, xs, rfl, ha, il⟩ := i1
  obtain ⟨a2, ys, rfl, ha2, il2⟩ := i2
  refine ⟨a, a2, xs, ys, rfl, rfl, ex_t S.ex2 ha, ex_t S.ex2 ha2, ?_, fun q => ?_, fun q1 q2 => ?_, fun q1 q2 q hq => ?_⟩
  · rw [← il.len, ← il2.len]
    exact Nat.le_trans hz (by decide)
  · subst q
    have e : ds = [] := List.eq_nil_of_length_eq_zero (by rw [il.len]; rfl)
    subst e
    exact p _ (.dat (.tuple ([] ++ es))) G H (.refl S) (by show Im _ _ _ _; rw [List.nil_append]; exact i2') h
  · subst q2
    have e : es = [] := List.eq_nil_of_length_eq_zero (by rw [il2.len]; rfl)
    subst e
    refine p _ (.dat (.tuple (ds ++ []))) G H (.refl S) ?_ h
    show Im _ _ _ _
    rw [List.append_nil]
    exact i1'
  · refine p _ (.dat (.tuple (ds ++ es))) _ _ (.newG S hq) ?_ h
    show Im _ _ _ _
    rw [im_tuple]
    exact ⟨q, _, rfl, st_of upd_same, (il.append il2).mono (.new (S.ex2.back hq))⟩
theorem pei_catS (hx : PEI X b x wx) (hy : PEI X b y wy) : PEI X b (.BinOp x .Add y pos) (wOp sCatS wx wy) := pei_op (pe_op op_add_str hx hy) fun c ρ σ G H d1 d2 x y Φ Q S i1 i2 hs p => by
  obtain ⟨s, t, rfl, rfl, hz, h⟩ := hs
  rw [im_str] at i1 i2
  exact ⟨s, t, i1, i2, Nat.le_trans hz (by decide), p _ (.dat (.str _)) G H (.refl S) (by show Im _ _ _ _; rw [im_str]) h⟩
/-! ### argument lists, displays -/
def wNil : WA := fun _ Φ _ => Φ []
def wCons (w : WE) (wr : WA) : WA := fun ρ Φ Ξ => w ρ (fun r => wr ρ (fun ds => Φ (r.frz :: ds)) Ξ) Ξ
theorem pai_nil : PAI X b 0 [] wNil := pa_imp pa_nil fun σ H Q ⟨c, ρ, G, Φ, Ξ, S, hw, p, ex⟩ => p [] [] G H (.refl S) .nil rfl hw
theorem pai_cons {n : Nat} {wr : WA} (hx : PEI X b x wx) (hr : PAI X b n es wr) (hs : starEach (x :: es) X.env = (false, eval x X.env) :: starEach es X.env := by rfl) : PAI X b (n + 1) (x :: es) (wCons wx wr) := pa_imp (pa_cons hx hr hs) fun σ H Q ⟨c, ρ, G, Φ, Ξ, S, hw, p, ex⟩ => by
  refine ⟨c, ρ, G, _, Ξ, S, hw, fun v r G1 H1 t1 o1 h1 => ?_, ex⟩
  obtain ⟨G1', t1', i1⟩ := freeze S t1 o1
  refine ⟨c, ρ, G1', _, Ξ, S.tr t1', h1, fun vs ds G2 H2 t2 il hn h2 => ?_, ex.tr t1'⟩
  exact p (v :: vs) (r.frz :: ds) G2 H2 (t1'.trans t2) (.cons (i1.mono t2.eg) il) (by rw [List.length_cons, hn]) h2
def wTup (wa : WA) : WE := fun ρ Φ Ξ => wa ρ (fun ds => Φ (.dat (.tuple ds))) Ξ
def wLst (wa : WA) : WE := fun ρ Φ Ξ => wa ρ (fun ds => Φ (.lst ds)) Ξ
theorem pei_tup {n k : Nat} {wa : WA} (h : PAI X b n es wa) (hn : n ≤ 100 := by decide) : PEI X b (.Tuple es k pos) (wTup wa) := pei_of (pe_tup h) fun c ρ σ G H Φ Ξ Q S hw p ex => by
  refine ⟨c, ρ, G, _, Ξ, S, hw, fun vs ds G1 H1 t1 il hl h1 => ?_, ex⟩
  refine ⟨by rw [← il.len, hl]; exact Nat.le_trans hn (by decide), fun q hq => ?_⟩
  have S1 := S.tr t1
  refine p _ (.dat (.tuple ds)) _ _ (t1.trans (.newG S1 hq)) ?_ h1
  show Im _ _ _ _
  rw [im_tuple]
  exact ⟨q, _, rfl, st_of upd_same, il.mono (.new (S1.ex2.back hq))⟩
theorem pei_lst {n : Nat} {wa : WA} (h : PAI X b n es wa) (hn : n ≤ 100 := by decide) : PEI X b (.List es pos) (wLst wa) := pei_of (pe_lst h) fun c ρ σ G H Φ Ξ Q S hw p ex => by
  refine ⟨c, ρ, G, _, Ξ, S, hw, fun vs ds G1 H1 t1 il hl h1 => ?_, ex⟩
  refine ⟨by rw [← il.len, hl]; exact Nat.le_trans hn (by decide), fun q hq => ?_⟩
  have S1 := S.tr t1
  exact p _ (.lst ds) _ _ (t1.trans (.newH S1 hq)) ⟨q, _, rfl, t1.back hq, S1.ex2.back hq, upd_same, il⟩ h1
/-! ### built-ins by name -/
abbrev SemA := List PyData → (Res → Prop) → Prop
def wCall (sem : SemA) (wa : WA) : WE := fun ρ Φ Ξ => wa ρ (fun ds => sem ds Φ) Ξ
def OpA (X : Cx) (r : List V → Hp → VK → Prop) (sem : SemA) : Prop := ∀ c ρ σ G H ds xs Φ Q, Sat X.K c ρ σ G H → ImL X.K G ds xs → sem ds Φ → PostE X.K ρ σ G H Φ Q → r xs H Q
theorem pei_cb {e : Expr} {r : List V → Hp → VK → Prop} {sem : SemA} {n : Nat} {wa : WA} (h : PE X e (tCB r (taOf X.K b n wa))) (ho : OpA X r sem) : PEI X b e (wCall sem wa) := pei_of h fun c ρ σ G H Φ Ξ Q S hw p ex => by
  refine ⟨c, ρ, G, _, Ξ, S, hw, fun vs ds G1 H1 t1 il hl h1 => ?_, ex⟩
  exact ho c ρ σ G1 H1 ds vs Φ Q (S.tr t1) il h1 (p.tr t1)
theorem imL_1 {K : PySem.W.Frag} {G : Hp} {d : PyData} {xs : List V} (h : ImL K G [d] xs) : ∃ x, xs = [x] ∧ Im K G d x := by
  rw [imL_cons] at h
  obtain ⟨x, r, rfl, h1, h2⟩ := h
  rw [imL_nil] at h2
  subst h2
  exact ⟨x, rfl, h1⟩
theorem imL_2 {K : PySem.W.Frag} {G : Hp} {d e : PyData} {xs : List V} (h : ImL K G [d, e] xs) : ∃ x y, xs = [x, y] ∧ Im K G d x ∧ Im K G e y := by
  rw [imL_cons] at h
  obtain ⟨x, r, rfl, h1, h2⟩ := h
  obtain ⟨y, rfl, h3⟩ := imL_1 h2
  exact ⟨x, y, rfl, h1, h3⟩
def sLen : SemA := fun ds Φ => ∃ d n, ds = [d] ∧ ((∃ es, d = .tuple es ∧ n = es.length) ∨ (∃ es, d = .list es ∧ n = es.length)) ∧ Φ (.dat (.int (n : Nat)))
theorem pei_len {p : Pos} {wa : WA} (hm : X.mg "len" = none) (hg : Gl X "len") (h : PAI X b 1 [x] wa) (he : starEach [x] X.env = (false, eval x X.env) :: starEach [] X.env := by rfl) (hpl : (backTo pos (starEach [] X.env)).any (·.1) = false := by rfl) : PEI X b (.Call (.Name "len" p) [x] [] pos) (wCall sLen wa) :=
  pei_cb (pe_callB call_len_seq hg hm PySem.boot_len h (he := he) (hpl := hpl)) fun c ρ σ G H ds xs Φ Q S il hs p => by
    obtain ⟨d, n, rfl, hd, hΦ⟩ := hs
    obtain ⟨v, rfl, im⟩ := imL_1 il
    have fin : Q (.int (n : Nat)) H := p _ (.dat (.int (n : Nat))) G H (.refl S) (by show Im _ _ _ _; rw [im_int]) hΦ
    rcases hd with ⟨es, rfl, rfl⟩ | ⟨es, rfl, rfl⟩
    · rw [im_tuple] at im
      obtain ⟨a, ys, rfl, ha, il2⟩ := im
      exact ⟨a, ys, rfl, .inr (ex_t S.ex2 ha), by rw [← il2.len]; exact fin⟩
    · rw [im_list] at im
      obtain ⟨a, ys, rfl, ha, il2⟩ := im
      exact ⟨a, ys, rfl, .inl (sq_of (S.ex2 a _ ha)), by rw [← il2.len]; exact fin⟩
def sMax2 : SemA := fun ds Φ => ∃ i j, ds = [.int i, .int j] ∧ Φ (.dat (.int (max i j)))
def sMin2 : SemA := fun ds Φ => ∃ i j, ds = [.int i, .int j] ∧ Φ (.dat (.int (min i j)))
theorem opa_max2 : OpA X (fun xs H Q => ∃ i j, xs = [.int i, .int j] ∧ Q (.int (if j > i then j else i)) H) sMax2 := fun c ρ σ G H ds xs Φ Q S il hs p => by
  obtain ⟨i, j, rfl, h⟩ := hs
  obtain ⟨v, u, rfl, i1, i2⟩ := imL_2 il
  rw [im_int] at i1 i2
  subst i1 i2
  refine ⟨i, j, rfl, p _ (.dat (.int (max i j))) G H (.refl S) ?_ h⟩
  show Im _ _ _ _
  rw [im_int]
  congr 1
  split <;> omega
theorem opa_min2 : OpA X (fun xs H Q => ∃ i j, xs = [.int i, .int j] ∧ Q (.int (if j < i then j else i)) H) sMin2 := fun c ρ σ G H ds xs Φ Q S il hs p => by
  obtain ⟨i, j, rfl, h⟩ := hs
  obtain ⟨v, u, rfl, i1, i2⟩ := imL_2 il
  rw [im_int] at i1 i2
  subst i1 i2
  refine ⟨i, j, rfl, p _ (.dat (.int (min i j))) G H (.refl S) ?_ h⟩
  show Im _ _ _ _
  rw [im_int]
  congr 1
  split <;> omega
theorem pei_max2 {p : Pos} {wa : WA} (hm : X.mg "max" = none) (hg : Gl X "max") (hc : X.calm = true) (h : PAI X b 2 [x, y] wa) (he : starEach [x, y] X.env = (false, eval x X.env) :: starEach [y] X.env := by rfl)
    (hpl : (backTo pos (starEach [y] X.env)).any (·.1) = false := by rfl) : PEI X b (.Call (.Name "max" p) [x, y] [] pos) (wCall sMax2 wa) := pei_cb (pe_callB (call_max2 hc) hg hm (by decide +kernel) h (he := he) (hpl := hpl)) opa_max2
theorem pei_min2 {p : Pos} {wa : WA} (hm : X.mg "min" = none) (hg : Gl X "min") (hc : X.calm = true) (h : PAI X b 2 [x, y] wa) (he : starEach [x, y] X.env = (false, eval x X.env) :: starEach [y] X.env := by rfl)
    (hpl : (backTo pos (starEach [y] X.env)).any (·.1) = false := by rfl) : PEI X b (.Call (.Name "min" p) [x, y] [] pos) (wCall sMin2 wa) := pei_cb (pe_callB (call_min2 hc) hg hm (by decide +kernel) h (he := he) (hpl := hpl)) opa_min2
def sListOf : SemA := fun ds Φ => ∃ d es, ds = [d] ∧ (d = .tuple es ∨ d = .list es) ∧ Φ (.lst es)
theorem opa_list : OpA X (fun xs H Q => ∃ p ys, xs = [.ref p] ∧ (SqL X.K H p ys ∨ SqT X.K H p ys) ∧ ∀ l, H l = none → Q (.ref l) (upd H l (.lst ys))) sListOf := fun c ρ σ G H ds xs Φ Q S il hs p => by
  obtain ⟨d, es, rfl, hd, h⟩ := hs
  obtain ⟨v, rfl, im⟩ := imL_1 il
  have fin : ∀ ys, ImL X.K G es ys → ∀ l, H l = none → Q (.ref l) (upd H l (.lst ys)) := fun ys iy q hq => p _ (.lst es) _ _ (.newH S hq) ⟨q, _, rfl, hq, S.ex2.back hq, upd_same, iy⟩ h
  rcases hd with rfl | rfl
  · rw [im_tuple] at im
    obtain ⟨a, ys, rfl, ha, il2⟩ := im
    exact ⟨a, ys, rfl, .inr (ex_t S.ex2 ha), fin ys il2⟩
  · rw [im_list] at im
    obtain ⟨a, ys, rfl, ha, il2⟩ := im
    exact ⟨a, ys, rfl, .inl (sq_of (S.ex2 a _ ha)), fin ys il2⟩
theorem pei_list {p : Pos} {wa : WA} (hm : X.mg "list" = none) (hg : Gl X "list") (h : PAI X b 1 [x] wa) (he : starEach [x] X.env = (false, eval x X.env) :: starEach [] X.env := by rfl) (hpl : (backTo pos (starEach [] X.env)).any (·.1) = false := by rfl) : PEI X b (.Call (.Name "list" p) [x] [] pos) (wCall sListOf wa) :=
  pei_cb (pe_callTy call_list_of hg hm (by decide +kernel) h (he := he) (hpl := hpl)) opa_list
def sTupleOf : SemA := fun ds Φ => ∃ d es, ds = [d] ∧ (d = .tuple es ∨ d = .list es) ∧ Φ (.dat (.tuple es))
theorem opa_tuple : OpA X (fun xs H Q => ∃ p ys, xs = [.ref p] ∧ ((SqL X.K H p ys ∧ ∀ l, H l = none → Q (.ref l) (upd H l (.tup ys))) ∨ (SqT X.K H p ys ∧ Q (.ref p) H))) sTupleOf := fun c ρ σ G H ds xs Φ Q S il hs p => by
  obtain ⟨d, es, rfl, hd, h⟩ := hs
  obtain ⟨v, rfl, im⟩ := imL_1 il
  rcases hd with rfl | rfl
  · have im' := im
    rw [im_tuple] at im
    obtain ⟨a, ys, rfl, ha, il2⟩ := im
    exact ⟨a, ys, rfl, .inr ⟨ex_t S.ex2 ha, p _ (.dat (.tuple es)) G H (.refl S) im' h⟩⟩
  · rw [im_list] at im
    obtain ⟨a, ys, rfl, ha, il2⟩ := im
    refine ⟨a, ys, rfl, .inl ⟨sq_of (S.ex2 a _ ha), fun q hq => p _ (.dat (.tuple es)) _ _ (.newG S hq) ?_ h⟩⟩
    show Im _ _ _ _
    rw [im_tuple]
    exact ⟨q, _, rfl, st_of upd_same, il2.mono (.new (S.ex2.back hq))⟩
theorem pei_tuple {p : Pos} {wa : WA} (hm : X.mg "tuple" = none) (hg : Gl X "tuple") (h : PAI X b 1 [x] wa) (he : starEach [x] X.env = (false, eval x X.env) :: starEach [] X.env := by rfl) (hpl : (backTo pos (starEach [] X.env)).any (·.1) = false := by rfl) : PEI X b (.Call (.Name "tuple" p) [x] [] pos) (wCall sTupleOf wa) :=
  pei_cb (pe_callTy call_tuple_of hg hm (by decide +kernel) h (he := he) (hpl := hpl)) opa_tuple
def sIntB : SemA := fun ds Φ => ∃ k, ds = [.bool k] ∧ Φ (.dat (.int (if k then 1 else 0)))
theorem opa_intB : OpA X (fun xs H Q => (∃ i, xs = [.int i] ∧ Q (.int i) H) ∨ ∃ k, xs = [.bl k] ∧ Q (.int (if k then 1 else 0)) H) sIntB := fun c ρ σ G H ds xs Φ Q S il hs p => by
  obtain ⟨k, rfl, h⟩ := hs
  obtain ⟨v, rfl, im⟩ := imL_1 il
  rw [im_bool] at im
  subst im
  exact .inr ⟨k, rfl, p _ (.dat (.int (if k then 1 else 0))) G H (.refl S) (by show Im _ _ _ _; rw [im_int]) h⟩
theorem pei_intB {p : Pos} {wa : WA} (hm : X.mg "int" = none) (hg : Gl X "int") (h : PAI X b 1 [x] wa) (he : starEach [x] X.env = (false, eval x X.env) :: starEach [] X.env := by rfl) (hpl : (backTo pos (starEach [] X.env)).any (·.1) = false := by rfl) : PEI X b (.Call (.Name "int" p) [x] [] pos) (wCall sIntB wa) :=
  pei_cb (pe_callTy call_int1 hg hm (by decide +kernel) h (he := he) (hpl := hpl)) opa_intB
/-- list(range(n)) -/
def sRng (n : Int) (Φ : Res → Prop) : Prop := n ≤ 1000000 ∧ Φ (.lst ((List.range n.toNat).map fun i : Nat => PyData.int (i : Int)))
def wLstRg (w : WE) : WE := fun ρ Φ Ξ => w ρ (fun r => ∃ n, r = .dat (.int n) ∧ 0 ≤ n ∧ sRng n Φ) Ξ
theorem pei_listRange {p p1 pos1 : Pos} (hm : X.mg "list" = none) (hg : Gl X "list") (hm1 : X.mg "range" = none) (hg1 : Gl X "range") (hc : X.calm = true) (h : PEI X b x wx) (na : starEach [x] X.env = (false, eval x X.env) :: starEach [] X.env := by rfl)
    (nb : starEach [.Call (.Name "range" p1) [x] [] pos1] X.env = (false, eval (.Call (.Name "range" p1) [x] [] pos1) X.env) :: starEach [] X.env := by rfl) : PEI X b (.Call (.Name "list" p) [.Call (.Name "range" p1) [x] [] pos1] [] pos) (wLstRg wx) :=
  pei_of (pe_listRg hc hg hm (prg_1 hg1 hm1 h na) nb) fun c ρ σ G H Φ Ξ Q S hw p ex => by
    refine ⟨c, ρ, G, _, Ξ, S, hw, fun v r G1 H1 t1 o1 h1 => ?_, ex⟩
    obtain ⟨n, rfl, hn, hz, h1⟩ := h1
    have o1 : Im X.K G1 (.int n) v := o1
    rw [im_int] at o1
    refine ⟨n, o1, .of_le (Int.le_refl 0) (by omega) (by omega) hn, fun q hq => ?_⟩
    have S1 := S.tr t1
    refine p _ (.lst _) _ _ (t1.trans (.newH S1 hq)) ⟨q, _, rfl, t1.back hq, S1.ex2.back hq, upd_same, ?_⟩ h1
    unfold rgV
    rw [Int.sub_zero]
    refine .of_get (by simp) fun i d x h1 h2 => ?_
    rw [List.getElem?_map] at h1 h2
    cases e : (List.range n.toNat)[i]? with
    | none => rw [e] at h1; cases h1
    | some k =>
      rw [e] at h1 h2
      cases h1
      cases h2
      rw [im_int]
      show V.int (0 + ((k : Nat) : Int)) = _
      rw [Int.zero_add]
/-! ### calls of defs of the text -/
abbrev Tf := List PyData → (Res → Prop) → (Exn → Prop) → Prop
def spP (K : PySem.W.Frag) (XR : Exn → Value → Option Addr → Hp → Prop) (T : Tf) : Sp := fun vs H Q E => ∃ (G : Hp) (ds : List PyData) (Φ : Res → Prop) (Ξ : Exn → Prop), Ex G H ∧ ImL K G ds vs ∧ T ds Φ Ξ ∧
  (∀ v r G' H', Fin' K ⟨none, G, H⟩ G' H' → Out K H G' H' r v → Φ r → Q v H') ∧ ∀ ex cls d G' H', Fin' K ⟨none, G, H⟩ G' H' → XR ex cls d G' → Ξ ex → E cls d H'
def spR (K : PySem.W.Frag) (XR : Exn → Value → Option Addr → Hp → Prop) (T : Tf) : Sp := fun vs H Q E => ∃ (r : Addr) (us : List V) (G : Hp) (ds : List PyData) (Φ : Res → Prop) (Ξ : Exn → Prop), vs = .ref r :: us ∧ Ex G H ∧ RowAt K G H r ∧ ImL K G ds us ∧ T ds Φ Ξ ∧
  (∀ v e G' H', Fin' K ⟨some r, G, H⟩ G' H' → Out K H G' H' e v → Φ e → Q v H') ∧ ∀ ex cls d G' H', Fin' K ⟨some r, G, H⟩ G' H' → XR ex cls d G' → Ξ ex → E cls d H'
def wDef (T : Tf) (wa : WA) : WE := fun ρ Φ Ξ => wa ρ (fun ds => T ds Φ Ξ) Ξ
theorem Fin'.tr {K : PySem.W.Frag} {c : Cn} {ρ : Rho} {σ : L2.St} {G H G' H' : Hp} (S : Sat K c ρ σ G H) (f : Fin' K ⟨none, G, H⟩ G' H') : Tr K ρ σ G H G' H' :=
  ⟨f.ex1, f.ex2, fun a o h _ m => f.keep a o h (fun z => by cases z) m, f.tbl, fun a h h' => f.avoid a h h', fun r h => by
    have z := S.rowAt h
    exact z.go f.ex1 (f.avoid r z.1 z.there) fun o e => f.keep r _ e (fun z => by cases z) ntL⟩
theorem Fin'.trR {K : PySem.W.Frag} {c : Cn} {ρ : Rho} {σ : L2.St} {G H G' H' : Hp} {r : Addr} (S : Sat K c ρ σ G H) (hr : IsRow ρ σ r) (f : Fin' K ⟨some r, G, H⟩ G' H') : Tr K ρ σ G H G' H' :=
  ⟨f.ex1, f.ex2, fun a o h n m => f.keep a o h (fun z => n (by cases z; exact hr)) m, f.tbl, fun a h h' => f.avoid a h h', fun q h => by
    by_cases e : q = r
    · subst e
      exact f.mrow q rfl
    · have z := S.rowAt h
      exact z.go f.ex1 (f.avoid q z.1 z.there) fun o e' => f.keep q _ e' (fun z => e (by cases z; rfl)) ntL⟩
theorem pei_def {CX : CXT} {k : Nat} {f : Addr} {fd : FuncData} {ps : List Str} {T : Tf} {n : Nat} {fx : Str} {p : Pos} {wa : WA} (F : FnOk X.prog X.w X.K X.mg X.base CX k f fd ps (spP X.K b.XR T)) (hr : Room k X.A) (hm : X.mg fx = some (.ref f)) (hk : PySem.W.keepIn X.K (.ref f) = true) (hb : Binds X.K fd ps []) (hx : Passes CX X b.E)
    (ha : PAI X b n (x :: es) wa) (hg : Gl X fx) (hdb : (fx == ("__debug__" : Str)) = false := by decide) (he : starEach (x :: es) X.env = (false, eval x X.env) :: starEach es X.env := by rfl) (hpl : (backTo pos (starEach es X.env)).any (·.1) = false := by rfl) :
    PEI X b (.Call (.Name fx p) (x :: es) [] pos) (wDef T wa) := pei_of (pe_call F hr hg hm hk hb .nil hx ha hdb he hpl) fun c ρ σ G H Φ Ξ Q S hw p ex => by
  refine ⟨c, ρ, G, _, Ξ, S, hw, fun vs ds G1 H1 t1 il hl h1 => ?_, ex⟩
  have S1 := S.tr t1
  show spP X.K b.XR T (vs ++ []) H1 Q b.E
  rw [List.append_nil]
  refine ⟨G1, ds, Φ, Ξ, S1.ex2, il, h1, fun v r G' H' fi o hΦ => ?_, fun exn cls d G' H' fi xr hΞ => ?_⟩
  · exact p v r G' H' (t1.trans (fi.tr S1)) (o.back fun _ q => t1.back q) hΦ
  · exact ex exn cls d G' H' (t1.trans (fi.tr S1)) xr hΞ
/-- a def whose first parameter is the row -/
def wDefR (i : Nat) (T : Tf) (wa : WA) : WE := fun ρ Φ Ξ => ρ[i]? = some .row ∧ wa ρ (fun ds => T ds Φ Ξ) Ξ
theorem pei_defR {CX : CXT} {k : Nat} {f : Addr} {fd : FuncData} {ps : List Str} {T : Tf} {n : Nat} {fx rx : Str} {p rp : Pos} {wa : WA} (i : Nat) (F : FnOk X.prog X.w X.K X.mg X.base CX k f fd ps (spR X.K b.XR T)) (hr : Room k X.A) (hm : X.mg fx = some (.ref f)) (hk : PySem.W.keepIn X.K (.ref f) = true) (hb : Binds X.K fd ps []) (hx : Passes CX X b.E)
    (ha : PAI X b n es wa) (hg : Gl X fx) (hN : X.N[i]? = some rx := by rfl) (hv : Vis X.env.scope rx := by first | exact Or.inl rfl | exact Or.inr (Or.inl rfl) | exact Or.inr (Or.inr rfl)) (hd1 : (rx == ("__debug__" : Str)) = false := by decide) (hcd : (rx == ("__classdict__" : Str)) = false := by decide)
    (hdb : (fx == ("__debug__" : Str)) = false := by decide) (he : starEach (.Name rx rp :: es) X.env = (false, eval (.Name rx rp) X.env) :: starEach es X.env := by rfl) (hpl : (backTo pos (starEach es X.env)).any (·.1) = false := by rfl) :
    PEI X b (.Call (.Name fx p) (.Name rx rp :: es) [] pos) (wDefR i T wa) := pei_of (pe_call F hr hg hm hk hb .nil hx (pa_cons (pe_var hN hv hd1 hcd) ha he) hdb he hpl) fun c ρ σ G H Φ Ξ Q S hw p ex => by
  obtain ⟨hi, hw⟩ := hw
  obtain ⟨r, e1, _⟩ := S.rowVar hi
  refine ⟨.ref r, e1, c, ρ, G, _, Ξ, S, hw, fun vs ds G1 H1 t1 il hl h1 => ?_, ex⟩
  have S1 := S.tr t1
  have ir : IsRow ρ σ r := ⟨i, hi, e1⟩
  show spR X.K b.XR T ((.ref r :: vs) ++ []) H1 Q b.E
  rw [List.append_nil]
  refine ⟨r, vs, G1, ds, Φ, Ξ, rfl, S1.ex2, t1.row r ir, il, h1, fun v e G' H' fi o hΦ => ?_, fun exn cls d G' H' fi xr hΞ => ?_⟩
  · exact p v e G' H' (t1.trans (fi.trR S1 ir)) (o.back fun _ q => t1.back q) hΦ
  · exact ex exn cls d G' H' (t1.trans (fi.trR S1 ir)) xr hΞ
/-! ### a list of one's own, looked into -/
def nolR : Res → Bool
  | .dat d => nol d
  | .lst ds => nolL ds
theorem Sat.frz {K : PySem.W.Frag} {c : Cn} {ρ : Rho} {σ : L2.St} {G H : Hp} (S : Sat K c ρ σ G H) {i : Nat} {ds : List PyData} {l : Addr} {xs : List V} (h1 : ρ[i]? = some (.ls ds)) (h2 : σ[i]? = some (some (.ref l))) (h3 : H l = some (.lst xs)) (h4 : G l = none) (h5 : ImL K G ds xs) :
    Sat K c (ρ.set i (.dat (.list ds))) σ (upd G l (.lst xs)) H := by
  have hx : Ex G (upd G l (.lst xs)) := .new h4
  have hi : i < ρ.length := (List.getElem?_eq_some_iff.mp h1).1
  have hHe : c.He l = none := by
    rcases S.own i _ l h1 rfl h2 with z | z
    · exact z
    · cases z.2
  have nm : ∀ (j : Nat) e, ρ[j]? = some e → e.isM = true → i ≠ j → σ[j]? ≠ some (some (.ref l)) := fun j e q1 q2 q3 => S.ne i j _ e l q3 h1 q1 rfl q2 h2
  have gt : ∀ (j : Nat) e, (ρ.set i (.dat (.list ds)))[j]? = some e → e.isM = true → ρ[j]? = some e ∧ i ≠ j := fun j e q1 q2 => by
    by_cases q : i = j
    · subst q
      rw [List.getElem?_set_self hi] at q1
      cases q1
      cases q2
    · rw [List.getElem?_set_ne q] at q1
      exact ⟨q1, q⟩
  refine ⟨S.ex1.trans hx, fun a o h => ?_, S.keep, S.tbl, S.there, fun a h h' => ?_, fun r h => ?_, S.mhe, by rw [List.length_set, S.len], fun j e u q1 q2 => ?_, fun j e l2 q1 qm q2 => ?_, fun j k e f l2 hne q1 q2 m1 m2 q3 q4 => ?_⟩
  · by_cases q : a = l
    · subst q
      rw [upd_same] at h
      cases h
      exact h3
    · rw [upd_ne q] at h
      exact S.ex2 a o h
  · rw [upd_ne (show a ≠ l from fun e => h' (by rw [e]; exact hHe))]
    exact S.avoid a h h'
  · have z := S.mrow r h
    have ne : r ≠ l := fun e => S.mhe r h (by rw [e]; exact hHe)
    exact z.go hx (by rw [upd_ne ne]; exact z.1) fun _ e => e
  · by_cases q : i = j
    · subst q
      rw [List.getElem?_set_self hi] at q1
      cases q1
      rw [h2] at q2
      cases q2
      refine ⟨.ref l, rfl, ?_⟩
      rw [im_list]
      exact ⟨l, xs, rfl, upd_same, h5.mono hx⟩
    · rw [List.getElem?_set_ne q] at q1
      have z := S.slot j e u q1 q2
      cases e with
      | no => trivial
      | dat d =>
        obtain ⟨v, e, im⟩ := z
        exact ⟨v, e, im.mono hx⟩
      | ls ds2 =>
        obtain ⟨l3, xs3, rfl, z2, z3, z4⟩ := z
        have : l3 ≠ l := fun e => nm j _ q1 rfl q (e ▸ q2)
        exact ⟨l3, xs3, rfl, z2, by rw [upd_ne this]; exact z3, z4.mono hx⟩
      | row =>
        obtain ⟨r, rfl, z⟩ := z
        have ne : r ≠ l := fun e => nm j _ q1 rfl q (e ▸ q2)
        exact ⟨r, rfl, z.go hx (by rw [upd_ne ne]; exact z.1) fun _ e => e⟩
      | ob k2 =>
        obtain ⟨l3, u3, rfl, z2, z3, z4⟩ := z
        have : l3 ≠ l := fun e => nm j _ q1 rfl q (e ▸ q2)
        exact ⟨l3, u3, rfl, z2, by rw [upd_ne this]; exact z3, k2.mono _ _ _ _ _ hx z4⟩
      | val k2 =>
        refine ⟨z.1, k2.mono _ _ _ _ _ hx (.refl _) (fun a ps y n => ?_) z.2⟩
        rw [upd_ne (fun w => by rw [w, h3] at y; cases y)]
        exact n
  · obtain ⟨q, _⟩ := gt j e q1 qm
    exact S.own j e l2 q qm q2
  · obtain ⟨a1, _⟩ := gt j e q1 m1
    obtain ⟨b1, _⟩ := gt k f q2 m2
    exact S.ne j k e f l2 hne a1 b1 m1 m2 q3 q4
theorem isRow_set {ρ : Rho} {σ : L2.St} {i : Nat} {ds : List PyData} {d : PyData} (h1 : ρ[i]? = some (.ls ds)) (r : Addr) : IsRow (ρ.set i (.dat d)) σ r ↔ IsRow ρ σ r := by
  have hi : i < ρ.length := (List.getElem?_eq_some_iff.mp h1).1
  constructor
  · rintro ⟨j, e1, e2⟩
    by_cases q : i = j
    · subst q
      rw [List.getElem?_set_self hi] at e1
      cases e1
    · rw [List.getElem?_set_ne q] at e1
      exact ⟨j, e1, e2⟩
  · rintro ⟨j, e1, e2⟩
    have q : i ≠ j := by
      rintro rfl
      rw [h1] at e1
      cases e1
    exact ⟨j, by rw [List.getElem?_set_ne q]; exact e1, e2⟩
/-- back from a look: what stands at l is one's own again -/
theorem Tr.unfrz {K : PySem.W.Frag} {c : Cn} {ρ : Rho} {σ : L2.St} {G H G' H' : Hp} (S : Sat K c ρ σ G H) {i : Nat} {ds : List PyData} {l : Addr} {xs : List V} (h1 : ρ[i]? = some (.ls ds)) (h2 : σ[i]? = some (some (.ref l))) (h3 : H l = some (.lst xs)) (h4 : G l = none)
    (t : Tr K (ρ.set i (.dat (.list ds))) σ (upd G l (.lst xs)) H G' H') : Tr K ρ σ G H (cut G' l) H' ∧ G' l = some (.lst xs) := by
  have hl : G' l = some (.lst xs) := t.eg l _ upd_same
  refine ⟨⟨fun a o h => ?_, Ex.cut.trans t.eh, fun a o h n m => t.keep a o h (fun z => n ((isRow_set h1 a).mp z)) m, t.tbl, fun a h h' => ?_, fun r h => ?_⟩, hl⟩
  · have q : a ≠ l := by
      rintro rfl
      rw [h4] at h
      cases h
    rw [cut_ne q]
    exact t.eg a o (by rw [upd_ne q]; exact h)
  · by_cases q : a = l
    · subst q
      exact cut_same
    · rw [cut_ne q]
      exact t.avoid a (by rw [upd_ne q]; exact h) h'
  · have z := t.row r ((isRow_set h1 r).mpr h)
    have ne : r ≠ l := by
      rintro rfl
      have z1 := z.1
      rw [hl] at z1
      cases z1
    obtain ⟨z1, s, ns, a, x, z2, z3, z4⟩ := z
    exact ⟨by rw [cut_ne ne]; exact z1, s, ns, a, x, z2, z3.cut hl, z4⟩
theorem Out.unfrz {K : PySem.W.Frag} {H G' H' : Hp} {l : Addr} {xs : List V} (hl : G' l = some (.lst xs)) : ∀ {r : Res} {v : V}, nolR r = true → Out K H G' H' r v → Out K H (cut G' l) H' r v
  | .dat d, v, n, o => Im.monoT (ExT.cut hl) n o
  | .lst ds, v, n, o => by
    obtain ⟨l2, ys, e, o1, o2, o3, o4⟩ := o
    refine ⟨l2, ys, e, o1, ?_, o3, ImL.monoT (ExT.cut hl) n o4⟩
    by_cases q : l2 = l
    · rw [q]; exact cut_same
    · rw [cut_ne q]; exact o2
def wPeek (i : Nat) (w : WE) : WE := fun ρ Φ Ξ => ∃ ds, ρ[i]? = some (.ls ds) ∧ w (ρ.set i (.dat (.list ds))) (fun r => nolR r = true ∧ Φ r) (fun _ => False)
theorem pei_peek (i : Nat) (h : PEI X b e we) : PEI X b e (wPeek i we) := pei_of h fun c ρ σ G H Φ Ξ Q S hw p ex => by
  obtain ⟨ds, h1, hw⟩ := hw
  obtain ⟨l, xs, h2, h3, h4, h5⟩ := S.mutAt h1
  refine ⟨c, _, _, _, _, S.frz h1 h2 h3 h4 h5, hw, fun v r G1 H1 t1 o1 hΦ => ?_, fun _ _ _ _ _ _ _ z => z.elim⟩
  obtain ⟨t, hl⟩ := Tr.unfrz S h1 h2 h3 h4 t1
  exact p v r _ H1 t (o1.unfrz hl hΦ.1) hΦ.2
def wPeekT (i : Nat) (w : WT) : WT := fun ρ Φ Ξ => ∃ ds, ρ[i]? = some (.ls ds) ∧ w (ρ.set i (.dat (.list ds))) Φ (fun _ => False)
theorem pti_peek {wt : WT} (i : Nat) (h : PTI X b e wt) : PTI X b e (wPeekT i wt) := pti_of h fun c ρ σ G H Φ Ξ Q S hw p ex => by
  obtain ⟨ds, h1, hw⟩ := hw
  obtain ⟨l, xs, h2, h3, h4, h5⟩ := S.mutAt h1
  refine ⟨c, _, _, _, _, S.frz h1 h2 h3 h4 h5, hw, fun k G1 H1 t1 hΦ => ?_, fun _ _ _ _ _ _ _ z => z.elim⟩
  obtain ⟨t, hl⟩ := Tr.unfrz S h1 h2 h3 h4 t1
  exact p k _ H1 t hΦ
theorem hu64 {k : Nat} {A : Around} (hr : Room k A) : A.units + 64 < cLine := by have := hr.un; omega
theorem hu65 {k : Nat} {A : Around} (hr : Room k A) : A.units + 65 < cLine := by have := hr.un; omega
theorem passE {X : Cx} {E : XK} : Passes CX0 X E := fun _ _ _ _ _ _ _ h => h.elim
end
end SF

/-! ## Statements, loops, comprehensions, defs over data -/
namespace SF
open PySem PySem.Spec PyProof.Rows L2
/-! ### targets -/
inductive Tgt where
  | nm (i : Nat) | tp (is : List Nat)
def gNames : List Nat → TGs
  | [] => gNil
  | i :: is => gCons (gName i) (gNames is)
def tgOf (K : PySem.W.Frag) : Tgt → TG
  | .nm i => gName i
  | .tp is => gTup K is.length (gNames is)
def setsE : Rho → List Nat → List PyData → Rho
  | ρ, i :: is, d :: ds => setsE (ρ.set i (.dat d)) is ds
  | ρ, _, _ => ρ
def bindT : Tgt → PyData → Rho → (Rho → Prop) → Prop
  | .nm i, d, ρ, Φ => Φ (ρ.set i (.dat d))
  | .tp is, d, ρ, Φ => ∃ ds, d = .tuple ds ∧ ds.length = is.length ∧ Φ (setsE ρ is ds)
def Tgt.slots : Tgt → List Nat
  | .nm i => [i]
  | .tp is => is
section
variable {K : PySem.W.Frag} {c : Cn} {ρ : Rho} {σ : L2.St} {G G' H H' G1 H1 : Hp}
/-- what a binding leaves -/
structure Bnd (is : List Nat) (ρ : Rho) (σ : L2.St) (ρ' : Rho) (σ' : L2.St) : Prop where
  len : σ'.length = σ.length
  st : ∀ (n : Nat), n ∉ is → σ'[n]? = σ[n]?
  rh : ∀ (n : Nat), n ∉ is → ρ'[n]? = ρ[n]?
  nr : ∀ (n : Nat), n ∈ is → ρ'[n]? ≠ some .row
theorem gNames_ok : ∀ {is : List Nat} {ds : List PyData} {xs : List V} {ρ : Rho} {σ : L2.St} {Q : L2.St → Hp → Prop}, Sat K c ρ σ G H → ImL K G ds xs → ds.length = is.length →
    (∀ σ', Sat K c (setsE ρ is ds) σ' G H → Bnd is ρ σ (setsE ρ is ds) σ' → Q σ' H) → gNames is xs σ H Q
  | [], [], xs, ρ, σ, Q, S, h, hl, q => by
    rw [imL_nil] at h
    exact ⟨h, q σ S ⟨rfl, fun _ _ => rfl, fun _ _ => rfl, fun _ h => by simp at h⟩⟩
  | [], d :: ds, xs, ρ, σ, Q, S, h, hl, q => by simp at hl
  | i :: is, [], xs, ρ, σ, Q, S, h, hl, q => by simp at hl
  | i :: is, d :: ds, xs, ρ, σ, Q, S, h, hl, q => by
    rw [imL_cons] at h
    obtain ⟨x, r, rfl, h1, h2⟩ := h
    refine ⟨x, r, rfl, ?_⟩
    show gNames is r (σ.set i (some x)) H Q
    refine gNames_ok (S.setDat h1) h2 (by simpa using hl) fun σ' S' hs => q σ' S' ⟨by rw [hs.len, List.length_set], fun n hn => ?_, fun n hn => ?_, fun n hn => ?_⟩
    · rw [List.mem_cons, not_or] at hn
      rw [hs.st n hn.2, List.getElem?_set_ne (Ne.symm hn.1)]
    · rw [List.mem_cons, not_or] at hn
      have e := hs.rh n hn.2
      rw [List.getElem?_set_ne (Ne.symm hn.1)] at e
      exact e
    · by_cases k : n ∈ is
      · exact hs.nr n k
      · have e := hs.rh n k
        have en : n = i := by
          rcases List.mem_cons.mp hn with z | z
          · exact z
          · exact absurd z k
        subst en
        show (setsE (ρ.set n (.dat d)) is ds)[n]? ≠ some .row
        rw [e]
        by_cases hn2 : n < ρ.length
        · rw [List.getElem?_set_self hn2]
          exact fun z => by cases z
        · rw [List.getElem?_eq_none (by rw [List.length_set]; omega)]
          exact fun z => by cases z
theorem tgt_ok {tgt : Tgt} {d : PyData} {x : V} {Φ : Rho → Prop} {Q : L2.St → Hp → Prop} (S : Sat K c ρ σ G H) (im : Im K G d x) (h : bindT tgt d ρ Φ) (q : ∀ ρ' σ', Sat K c ρ' σ' G H → Φ ρ' → Bnd tgt.slots ρ σ ρ' σ' → Q σ' H) : tgOf K tgt x σ H Q := by
  cases tgt with
  | nm i =>
    have ne : ∀ n, n ∉ (Tgt.nm i).slots → i ≠ n := fun n hn e => hn (by rw [e]; exact List.mem_singleton.mpr rfl)
    refine q _ _ (S.setDat im) h ⟨List.length_set, fun n hn => ?_, fun n hn => ?_, fun n hn => ?_⟩
    · rw [List.getElem?_set_ne (ne n hn)]
    · rw [List.getElem?_set_ne (ne n hn)]
    · have e : n = i := List.mem_singleton.mp hn
      subst e
      by_cases hn2 : n < ρ.length
      · rw [List.getElem?_set_self hn2]
        exact fun z => by cases z
      · rw [List.getElem?_eq_none (by rw [List.length_set]; omega)]
        exact fun z => by cases z
  | tp is =>
    obtain ⟨ds, rfl, hl, h⟩ := h
    rw [im_tuple] at im
    obtain ⟨a, xs, rfl, ht, il⟩ := im
    exact ⟨a, xs, rfl, ex_t S.ex2 ht, by rw [← il.len, hl], gNames_ok S il hl fun σ' S' hs => q _ σ' S' h hs⟩
theorem Sat.up (S : Sat K c ρ σ G H) : Sat K { c with Ge := G } ρ σ G H :=
  ⟨.refl _, S.ex2, S.keep, S.tbl, S.there, fun _ h _ => h, S.mrow, S.mhe, S.len, S.slot, S.own, S.ne⟩
theorem Sat.down {ρ' : Rho} {σ' : L2.St} (S0 : Sat K c ρ σ G H) (S : Sat K { c with Ge := G } ρ' σ' G' H') : Sat K c ρ' σ' G' H' :=
  ⟨S0.ex1.trans S.ex1, S.ex2, S.keep, S.tbl, S.there, fun a h h' => S.avoid a (S0.avoid a h h') h', S.mrow, S.mhe, S.len, S.slot, S.own, S.ne⟩
theorem Fin'.down (S0 : Sat K c ρ σ G H) (S : Fin' K { c with Ge := G } G' H') : Fin' K c G' H' :=
  ⟨S0.ex1.trans S.ex1, S.ex2, S.keep, S.tbl, S.there, fun a h h' => S.avoid a (S0.avoid a h h') h', S.mrow⟩
theorem PostS.up {b : Bs} {Ψ : Pst} {D : Ends} (S0 : Sat K c ρ σ G H) (p : PostS K b c Ψ D) : PostS K b { c with Ge := G } Ψ D where
  nx := fun ρ' σ' G' H' S h => p.nx ρ' σ' G' H' (S0.down S) h
  rt := fun v r G' H' f o h => p.rt v r G' H' (f.down S0) o h
  bk := fun ρ' σ' G' H' S h => p.bk ρ' σ' G' H' (S0.down S) h
  ct := fun ρ' σ' G' H' S h => p.ct ρ' σ' G' H' (S0.down S) h
  xc := fun ex cls d G' H' f x h => p.xc ex cls d G' H' (f.down S0) x h
theorem PostS.exc {b : Bs} {Ψ : Pst} {D : Ends} (p : PostS K b c Ψ D) (S : Sat K c ρ σ G H) : ExcE K b ρ σ G H Ψ.xc := fun ex cls d G' H' t x h => p.xc ex cls d G' H' (S.tr t).fin x h
theorem Sat.backHe (S : Sat K c ρ σ G H) {a : Addr} (h : H a = none) : c.He a = none := by
  cases e : c.He a with
  | none => rfl
  | some u => exact absurd h (S.there a (by rw [e]; exact fun z => by cases z))
end
section
variable {X : Cx} {b : Bs} {x y z e : Expr} {pos : Pos} {we wx wy wz : WE} {es : List Expr} {st : Stmt} {rest body orelse : List Stmt} {w u : WS} {wt : WT}
/-! ### blocks -/
def wSkip : WS := fun ρ Ψ => Ψ.nx ρ
def wSeq (w u : WS) : WS := fun ρ Ψ => w ρ { Ψ with nx := fun ρ' => u ρ' Ψ }
def wNever : WS := fun _ _ => False
theorem psis_nil : PSsI X b [] wSkip := pss_imp pss_nil fun D σ H ⟨c, ρ, G, Ψ, S, hw, p⟩ => p.nx ρ σ G H S hw
theorem psis_one (h : PSI X b st w) : PSsI X b [st] w := pss_one h
theorem psis_cons (h : PSI X b st w) (h2 : PSsI X b rest u) : PSsI X b (st :: rest) (wSeq w u) := pss_imp (pss_cons h h2) fun D σ H ⟨c, ρ, G, Ψ, S, hw, p⟩ =>
  ⟨c, ρ, G, _, S, hw, ⟨fun ρ' σ' G' H' S' h' => ⟨c, ρ', G', Ψ, S', h', p⟩, p.rt, p.bk, p.ct, p.xc⟩⟩
theorem psi_never : PSI X b st wNever := psi_of (t := tNever) ps_never fun c ρ σ G H Ψ D S hw p => hw
/-! ### statements -/
def wSet (i : Nat) (w : WE) : WS := fun ρ Ψ => w ρ (fun r => Ψ.nx (ρ.set i r.ent)) Ψ.xc
def wSetF (i : Nat) (w : WE) : WS := fun ρ Ψ => w ρ (fun r => Ψ.nx (ρ.set i (.dat r.frz))) Ψ.xc
theorem asg_ok {K : PySem.W.Frag} {w : WE} {i : Nat} {D : Ends} {σ : L2.St} {H : Hp} {te : TE} (h : ∀ σ H Q, teOf K b w σ H Q → te σ H Q) : tsOf K b (wSet i w) D σ H → tAsg te (gName i) D σ H := fun ⟨c, ρ, G, Ψ, S, hw, p⟩ =>
  h σ H _ ⟨c, ρ, G, _, Ψ.xc, S, hw, fun v r G1 H1 t1 o1 h1 => p.nx _ _ G1 H1 (S.setOut t1 o1) h1, p.exc S⟩
theorem asgF_ok {K : PySem.W.Frag} {w : WE} {i : Nat} {D : Ends} {σ : L2.St} {H : Hp} {te : TE} (h : ∀ σ H Q, teOf K b w σ H Q → te σ H Q) : tsOf K b (wSetF i w) D σ H → tAsg te (gName i) D σ H := fun ⟨c, ρ, G, Ψ, S, hw, p⟩ =>
  h σ H _ ⟨c, ρ, G, _, Ψ.xc, S, hw, fun v r G1 H1 t1 o1 h1 => by
    obtain ⟨G2, t2, im⟩ := freeze S t1 o1
    exact p.nx _ _ G2 H1 ((S.tr t2).setDat im) h1, p.exc S⟩
theorem psi_set (i : Nat) {nm : Str} {np : Pos} (he : PEI X b e we) (hN : X.N.Nodup) (hi : X.N[i]? = some nm := by rfl) (hx : Loc X.env.scope nm := by first | exact Or.inl rfl | exact Or.inr rfl)
    (hs : swapsWithSole [Expr.Name nm np] e pos.line X.env = pure false := by rfl) (hw : swappedStores [Expr.Name nm np] e X.env = pure none := by rfl) (h1 : (assignEach [Expr.Name nm np] X.env).map (·.2) = [assign (Expr.Name nm np) X.env] := by rfl)
    (hf : X.fn nm = true ∨ X.env.scope.names.lookup nm = some .local := by first | exact .inl rfl | exact .inr rfl) : PSI X b (.Assign [.Name nm np] e pos) (wSet i we) :=
  ps_imp (ps_asg he (pg_name hN hi hx hf) hs hw h1) fun D σ H q => asg_ok (fun _ _ _ q => q) q
theorem psi_setF (i : Nat) {nm : Str} {np : Pos} (he : PEI X b e we) (hN : X.N.Nodup) (hi : X.N[i]? = some nm := by rfl) (hx : Loc X.env.scope nm := by first | exact Or.inl rfl | exact Or.inr rfl)
    (hs : swapsWithSole [Expr.Name nm np] e pos.line X.env = pure false := by rfl) (hw : swappedStores [Expr.Name nm np] e X.env = pure none := by rfl) (h1 : (assignEach [Expr.Name nm np] X.env).map (·.2) = [assign (Expr.Name nm np) X.env] := by rfl)
    (hf : X.fn nm = true ∨ X.env.scope.names.lookup nm = some .local := by first | exact .inl rfl | exact .inr rfl) : PSI X b (.Assign [.Name nm np] e pos) (wSetF i we) :=
  ps_imp (ps_asg he (pg_name hN hi hx hf) hs hw h1) fun D σ H q => asgF_ok (fun _ _ _ q => q) q
/-- a, b = e -/
def wUnpack (is : List Nat) (w : WE) : WS := fun ρ Ψ => w ρ (fun r => ∃ ds, r.frz = .tuple ds ∧ ds.length = is.length ∧ Ψ.nx (setsE ρ is ds)) Ψ.xc
theorem psi_unpack (is : List Nat) {tg : Expr} (he : PEI X b e we) (hg : PG X tg (tgOf X.K (.tp is)))
    (hs : swapsWithSole [tg] e pos.line X.env = pure false := by rfl) (hw : swappedStores [tg] e X.env = pure none := by rfl) (h1 : (assignEach [tg] X.env).map (·.2) = [assign tg X.env] := by rfl) : PSI X b (.Assign [tg] e pos) (wUnpack is we) :=
  psi_of (ps_asg he hg hs hw h1) fun c ρ σ G H Ψ D S hw p => by
    refine ⟨c, ρ, G, _, Ψ.xc, S, hw, fun v r G1 H1 t1 o1 h1 => ?_, p.exc S⟩
    obtain ⟨G2, t2, im⟩ := freeze S t1 o1
    obtain ⟨ds, e, hl, h⟩ := h1
    rw [e] at im
    exact tgt_ok (tgt := .tp is) (S.tr t2) im ⟨ds, rfl, hl, h⟩ fun ρ' σ' S' h' _ => p.nx ρ' σ' G2 H1 S' h'
def wRet (w : WE) : WS := fun ρ Ψ => w ρ Ψ.rt Ψ.xc
theorem psi_ret (he : PEI X b e we) : PSI X b (.Return (some e) pos) (wRet we) := psi_of (ps_ret he) fun c ρ σ G H Ψ D S hw p =>
  ⟨c, ρ, G, _, Ψ.xc, S, hw, fun v r G1 H1 t1 o1 h1 => p.rt v r G1 H1 (S.tr t1).fin (o1.back fun _ q => S.backHe q) h1, p.exc S⟩
def wRetM (i : Nat) : WS := fun ρ Ψ => ∃ ds, ρ[i]? = some (.ls ds) ∧ Ψ.rt (.lst ds)
theorem psi_retM (i : Nat) {nm : Str} {np : Pos} (hN : X.N[i]? = some nm := by rfl) (hv : Vis X.env.scope nm := by first | exact Or.inl rfl | exact Or.inr (Or.inl rfl) | exact Or.inr (Or.inr rfl)) (hd : (nm == ("__debug__" : Str)) = false := by decide)
    (hcd : (nm == ("__classdict__" : Str)) = false := by decide) : PSI X b (.Return (some (.Name nm np)) pos) (wRetM i) := psi_of (ps_ret (pe_var hN hv hd hcd)) fun c ρ σ G H Ψ D S hw p => by
  obtain ⟨ds, h1, h⟩ := hw
  obtain ⟨l, xs, h2, h3, h4, h5⟩ := S.mutAt h1
  have hHe : c.He l = none := by
    rcases S.own i _ l h1 rfl h2 with z | z
    · exact z
    · cases z.2
  exact ⟨.ref l, h2, p.rt _ (.lst ds) G H S.fin ⟨l, xs, rfl, hHe, h4, h3, h5⟩ h⟩
def wDrop (w : WE) : WS := fun ρ Ψ => w ρ (fun _ => Ψ.nx ρ) Ψ.xc
theorem psi_expr (he : PEI X b e we) (hs : swapsWith e none pos.line X.env = pure false := by rfl) : PSI X b (.Expr e pos) (wDrop we) := psi_of (ps_expr he hs) fun c ρ σ G H Ψ D S hw p =>
  ⟨c, ρ, G, _, Ψ.xc, S, hw, fun v r G1 H1 t1 o1 h1 => p.nx ρ σ G1 H1 (S.tr t1) h1, p.exc S⟩
def wIfS (wt : WT) (w u : WS) : WS := fun ρ Ψ => wt ρ (fun k => if k = true then w ρ Ψ else u ρ Ψ) Ψ.xc
theorem psi_if (ht : PTI X b e wt) (h1 : PSsI X b body w) (h2 : PSsI X b orelse u) : PSI X b (.If e body orelse pos) (wIfS wt w u) := psi_of (ps_if ht h1 h2) fun c ρ σ G H Ψ D S hw p => by
  refine ⟨c, ρ, G, _, Ψ.xc, S, hw, fun k G1 H1 t1 h => ?_, p.exc S⟩
  cases k with
  | true => exact ⟨c, ρ, G1, Ψ, S.tr t1, h, p⟩
  | false => exact ⟨c, ρ, G1, Ψ, S.tr t1, h, p⟩
/-- a list of one's own is frozen from here on -/
def wFrz (i : Nat) (w : WS) : WS := fun ρ Ψ => ∃ ds, ρ[i]? = some (.ls ds) ∧ w (ρ.set i (.dat (.list ds))) Ψ
theorem psi_frz (i : Nat) (h : PSI X b st w) : PSI X b st (wFrz i w) := psi_of h fun c ρ σ G H Ψ D S hw p => by
  obtain ⟨ds, h1, hw⟩ := hw
  obtain ⟨l, xs, h2, h3, h4, h5⟩ := S.mutAt h1
  exact ⟨c, _, _, Ψ, S.frz h1 h2 h3 h4 h5, hw, p⟩
theorem psis_frz (i : Nat) (h : PSsI X b body w) : PSsI X b body (wFrz i w) := pss_imp h fun D σ H ⟨c, ρ, G, Ψ, S, hw, p⟩ => by
  obtain ⟨ds, h1, hw⟩ := hw
  obtain ⟨l, xs, h2, h3, h4, h5⟩ := S.mutAt h1
  exact ⟨c, _, _, Ψ, S.frz h1 h2 h3 h4 h5, hw, p⟩
/-- xs.append(e) -/
def wApp (i : Nat) (w : WE) : WS := fun ρ Ψ => ∃ ds, ρ[i]? = some (.ls ds) ∧ ds.length < 1000000 ∧ w ρ (fun r => Ψ.nx (ρ.set i (.ls (ds ++ [r.frz])))) Ψ.xc
theorem psi_app (i : Nat) {nm : Str} {np apos cpos : Pos} (he : PEI X b e we) (hN : X.N[i]? = some nm := by rfl) (hv : Vis X.env.scope nm := by first | exact Or.inl rfl | exact Or.inr (Or.inl rfl) | exact Or.inr (Or.inr rfl)) (hd : (nm == ("__debug__" : Str)) = false := by decide)
    (hcd : (nm == ("__classdict__" : Str)) = false := by decide) (hb : attributeBase (.Name nm np) "append" X.env (eval (.Name nm np) X.env) = eval (.Name nm np) X.env := by rfl)
    (hfew : ((backTo cpos (starEach [e] X.env)).all (fun x => !x.1) && (backToKw cpos (keywordEach [] X.env)).all (fun x => x.1.isSome) && decide ([e].length + ([] : List Keyword).length + (if ([] : List Keyword).isEmpty then 0 else 1) < 30)) = true := by rfl)
    (hline : (apos.endLine == cpos.line) = true := by rfl) (hse : starEach [e] X.env = (false, eval e X.env) :: starEach [] X.env := by rfl) (hpl : (backTo cpos (starEach [] X.env)).any (·.1) = false := by rfl)
    (hs : swapsWith (.Call (.Attribute (.Name nm np) "append" apos) [e] [] cpos) none pos.line X.env = pure false := by rfl) :
    PSI X b (.Expr (.Call (.Attribute (.Name nm np) "append" apos) [e] [] cpos) pos) (wApp i we) :=
  psi_of (ps_expr (pe_bm PySem.F.plainAttrs_list PySem.F.slot_list_append PySem.F.type_list_append mt_append (pe_var hN hv hd hcd) (pa_cons he pa_nil hse) hb hfew hline hse hpl) hs) fun c ρ σ G H Ψ D S hw p => by
    obtain ⟨ds, h1, hz, hw⟩ := hw
    obtain ⟨l, xs, h2, h3, h4, h5⟩ := S.mutAt h1
    refine ⟨.ref l, h2, .inl ⟨rfl, xs, sq_of h3⟩, c, ρ, G, _, Ψ.xc, S, hw, fun v r G1 H1 t1 o1 hn => ?_, p.exc S⟩
    obtain ⟨G2, t2, im⟩ := freeze S t1 o1
    have S2 := S.tr t2
    have k3 := t2.keep l _ h3 (S.neRow h1 h2) ntL
    refine ⟨l, xs, v, rfl, rfl, k3, ?_, ?_⟩
    · rw [← h5.len]
      exact Nat.lt_of_lt_of_le hz (by decide)
    · exact p.nx _ _ G2 _ (S2.write h1 h2 ((h5.mono t2.eg).append (.one im))) hn
/-- xs[k] = e -/
def wStore (i : Nat) (w wk : WE) : WS := fun ρ Ψ => ∃ ds, ρ[i]? = some (.ls ds) ∧ w ρ (fun r => wk ρ (fun q => ∃ n j, q.frz = .int n ∧ ixN ds.length n = some j ∧ Ψ.nx (ρ.set i (.ls (ds.set j r.frz)))) Ψ.xc) Ψ.xc
theorem psi_store (i : Nat) {nm : Str} {np spos : Pos} {k : Expr} {wk : WE} (he : PEI X b e we) (hg : PG X (.Subscript (.Name nm np) k spos) (gSub (tVar i) (teOf X.K b wk) rSetL)) (hs : swapsWithSole [.Subscript (.Name nm np) k spos] e pos.line X.env = pure false := by rfl)
    (hw : swappedStores [.Subscript (.Name nm np) k spos] e X.env = pure none := by rfl) (h1 : (assignEach [.Subscript (.Name nm np) k spos] X.env).map (·.2) = [assign (.Subscript (.Name nm np) k spos) X.env] := by rfl) :
    PSI X b (.Assign [.Subscript (.Name nm np) k spos] e pos) (wStore i we wk) :=
  psi_of (ps_asg he hg hs hw h1) fun c ρ σ G H Ψ D S hw p => by
    obtain ⟨ds, h1, hw⟩ := hw
    obtain ⟨l, xs, h2, h3, h4, h5⟩ := S.mutAt h1
    have nr := S.neRow h1 h2
    refine ⟨c, ρ, G, _, Ψ.xc, S, hw, fun v r G1 H1 t1 o1 hn => ?_, p.exc S⟩
    obtain ⟨G1', t1', i1⟩ := freeze S t1 o1
    have S1 := S.tr t1'
    refine ⟨.ref l, h2, c, ρ, G1', _, Ψ.xc, S1, hn, fun v2 r2 G2 H2 t2 o2 hq => ?_, (p.exc S).tr t1'⟩
    obtain ⟨G2', t2', i2⟩ := freeze S1 t2 o2
    obtain ⟨n, j, e, hj, hΨ⟩ := hq
    rw [e, im_int] at i2
    subst i2
    refine ⟨l, xs, n, j, rfl, rfl, t2'.keep l _ (t1'.keep l _ h3 nr ntL) nr ntL, by rw [← h5.len]; exact hj, ?_⟩
    exact p.nx _ _ G2' _ ((S1.tr t2').write h1 h2 (((h5.mono t1'.eg).mono t2'.eg).set j (i1.mono t2'.eg))) hΨ
/-- x = xs.pop(e) -/
def wPopAt (i j : Nat) (w : WE) : WS := fun ρ Ψ => ∃ ds, ρ[j]? = some (.ls ds) ∧ w ρ (fun r => ∃ (k : Nat) (d : PyData), r.frz = .int k ∧ k < 1000000 ∧ ds[k]? = some d ∧ Ψ.nx ((ρ.set j (.ls (ds.eraseIdx k))).set i (.dat d))) Ψ.xc
theorem psi_popAt (i j : Nat) {nm tn : Str} {np tp apos cpos : Pos} (he : PEI X b e we) (hN : X.N[j]? = some nm := by rfl) (hv : Vis X.env.scope nm := by first | exact Or.inl rfl | exact Or.inr (Or.inl rfl) | exact Or.inr (Or.inr rfl)) (hd : (nm == ("__debug__" : Str)) = false := by decide)
    (hcd : (nm == ("__classdict__" : Str)) = false := by decide) (hb : attributeBase (.Name nm np) "pop" X.env (eval (.Name nm np) X.env) = eval (.Name nm np) X.env := by rfl)
    (hfew : ((backTo cpos (starEach [e] X.env)).all (fun x => !x.1) && (backToKw cpos (keywordEach [] X.env)).all (fun x => x.1.isSome) && decide ([e].length + ([] : List Keyword).length + (if ([] : List Keyword).isEmpty then 0 else 1) < 30)) = true := by rfl)
    (hline : (apos.endLine == cpos.line) = true := by rfl) (hse : starEach [e] X.env = (false, eval e X.env) :: starEach [] X.env := by rfl) (hpl : (backTo cpos (starEach [] X.env)).any (·.1) = false := by rfl)
    (hN2 : X.N.Nodup) (hi : X.N[i]? = some tn := by rfl) (hx : Loc X.env.scope tn := by first | exact Or.inl rfl | exact Or.inr rfl)
    (hs : swapsWithSole [Expr.Name tn tp] (.Call (.Attribute (.Name nm np) "pop" apos) [e] [] cpos) pos.line X.env = pure false := by rfl) (hw : swappedStores [Expr.Name tn tp] (.Call (.Attribute (.Name nm np) "pop" apos) [e] [] cpos) X.env = pure none := by rfl)
    (h1 : (assignEach [Expr.Name tn tp] X.env).map (·.2) = [assign (Expr.Name tn tp) X.env] := by rfl) (hf : X.fn tn = true ∨ X.env.scope.names.lookup tn = some .local := by first | exact .inl rfl | exact .inr rfl) :
    PSI X b (.Assign [.Name tn tp] (.Call (.Attribute (.Name nm np) "pop" apos) [e] [] cpos) pos) (wPopAt i j we) :=
  psi_of (ps_asg (pe_bm PySem.F.plainAttrs_list PySem.F.slot_list_pop PySem.F.type_list_pop mt_popAt (pe_var hN hv hd hcd) (pa_cons he pa_nil hse) hb hfew hline hse hpl) (pg_name hN2 hi hx hf) hs hw h1) fun c ρ σ G H Ψ D S hw p => by
    obtain ⟨ds, h1, hw⟩ := hw
    obtain ⟨l, xs, h2, h3, h4, h5⟩ := S.mutAt h1
    refine ⟨.ref l, h2, .inl ⟨rfl, xs, sq_of h3⟩, c, ρ, G, _, Ψ.xc, S, hw, fun v r G1 H1 t1 o1 hn => ?_, p.exc S⟩
    obtain ⟨G2, t2, im⟩ := freeze S t1 o1
    have S2 := S.tr t2
    have k3 := t2.keep l _ h3 (S.neRow h1 h2) ntL
    obtain ⟨k, d, e, hk, hd, hΨ⟩ := hn
    rw [e, im_int] at im
    subst im
    obtain ⟨y, hy, imy⟩ := h5.get hd
    have hkl : k < xs.length := (List.getElem?_eq_some_iff.mp hy).1
    refine ⟨l, xs, (k : Nat), k, y, rfl, rfl, k3, by omega, by omega, ?_, hy, ?_⟩
    · rw [seqIndex_of (by omega) (by omega), Int.toNat_natCast]
    · have S3 := S2.write h1 h2 ((h5.mono t2.eg).eraseIdx k)
      exact p.nx _ _ G2 _ (S3.setDat (imy.mono t2.eg)) hΨ
/-! ### for -/
def ForI (tgt : Tgt) (wb : WS) (ds : List PyData) (ρ : Rho) (Ψ : Pst) : Prop := ∃ I : Nat → Rho → Prop, I 0 ρ ∧ (∀ (i : Nat) d ρ', ds[i]? = some d → I i ρ' → bindT tgt d ρ' (fun ρ2 => wb ρ2 { Ψ with nx := I (i + 1), ct := I (i + 1), bk := Ψ.nx })) ∧ ∀ ρ', I ds.length ρ' → Ψ.nx ρ'
def ForR (tgt : Tgt) (wb : WS) (lo : Int) (n : Nat) (ρ : Rho) (Ψ : Pst) : Prop := ∃ I : Nat → Rho → Prop, I 0 ρ ∧ (∀ (i : Nat) ρ', i < n → I i ρ' → bindT tgt (.int (lo + (i : Nat))) ρ' (fun ρ2 => wb ρ2 { Ψ with nx := I (i + 1), ct := I (i + 1), bk := Ψ.nx })) ∧ ∀ ρ', I n ρ' → Ψ.nx ρ'
def wForL (tgt : Tgt) (w : WE) (wb : WS) : WS := fun ρ Ψ => w ρ (fun r => ∃ ds, r.frz = .list ds ∧ ForI tgt wb ds ρ Ψ) Ψ.xc
def wForT (tgt : Tgt) (w : WE) (wb : WS) : WS := fun ρ Ψ => w ρ (fun r => ∃ ds, r.frz = .tuple ds ∧ ForI tgt wb ds ρ Ψ) Ψ.xc
def wForR1 (tgt : Tgt) (wa : WA) (wb : WS) : WS := fun ρ Ψ => wa ρ (fun ds => ∃ n : Int, ds = [.int n] ∧ -1000000 ≤ n ∧ n ≤ 1000000 ∧ ForR tgt wb 0 n.toNat ρ Ψ) Ψ.xc
def wForR2 (tgt : Tgt) (wa : WA) (wb : WS) : WS := fun ρ Ψ => wa ρ (fun ds => ∃ lo n : Int, ds = [.int lo, .int n] ∧ (-1000000 ≤ lo ∧ lo ≤ 1000000 ∧ -1000000 ≤ n ∧ n ≤ 1000000) ∧ ForR tgt wb lo (n - lo).toNat ρ Ψ) Ψ.xc
theorem turnS {K : PySem.W.Frag} {c : Cn} {ρ : Rho} {σ : L2.St} {G H : Hp} {Ψ : Pst} {D : Ends} {tgt : Tgt} {wb : WS} {Pi : L2.St → Hp → Prop} {Ii : Rho → Prop} {d : PyData} {v : V} (S : Sat K c ρ σ G H) (im : Im K G d v) (p : PostS K b c Ψ D)
    (hP : ∀ ρ' σ' G' H', Sat K c ρ' σ' G' H' → Ii ρ' → Pi σ' H') (h : bindT tgt d ρ fun ρ2 => wb ρ2 { Ψ with nx := Ii, ct := Ii, bk := Ψ.nx }) : tgOf K tgt v σ H fun σ2 H2 => tsOf K b wb { D with nx := Pi, ct := Pi, bk := D.nx } σ2 H2 :=
  tgt_ok S im h fun ρ' σ' S' h' _ => ⟨c, ρ', G, _, S', h', ⟨hP, p.rt, p.nx, hP, p.xc⟩⟩
theorem psi_forL (tgt : Tgt) {tg : Expr} (hp : PassesOwn (model X.prog X.w) X.A X.env X.xe) (hc : X.calm = true) (he : PEI X b e we) (hg : PG X tg (tgOf X.K tgt)) (hb : PSsI X b body w) (hs : ∀ x, foldedSetIterable e X.env x = pure x := by intro _; rfl) :
    PSI X b (.For tg e body [] pos) (wForL tgt we w) := psi_of (ps_for hp hc (pi_list he) hg hb hs) fun c ρ σ G H Ψ D S hw p => by
  refine ⟨c, ρ, G, _, Ψ.xc, S, hw, fun v r G1 H1 t1 o1 hn => ?_, p.exc S⟩
  obtain ⟨G2, t2, im⟩ := freeze S t1 o1
  obtain ⟨ds, e, I, h0, hI, hd⟩ := hn
  rw [e, im_list] at im
  obtain ⟨a, xs, rfl, ha, il⟩ := im
  have S2 := S.tr t2
  have S2' := S2.up
  refine ⟨a, rfl, ⟨xs, sq_of (S2.ex2 a _ ha)⟩, for_list (xs := xs) (fun i σ' H' => ∃ ρ' G', Sat X.K { c with Ge := G2 } ρ' σ' G' H' ∧ I i ρ') ⟨ρ, G2, S2', h0⟩ (fun i σ' H' _ ⟨ρ', G', S', _⟩ => sq_of (S'.ex2 a _ (S'.ex1 a _ ha))) (fun i x σ' H' hx ⟨ρ', G', S', hi⟩ => ?_) (fun σ' H' ⟨ρ', G', S', hi⟩ => ?_)⟩
  · have hl : i < ds.length := by rw [il.len]; exact (List.getElem?_eq_some_iff.mp hx).1
    obtain ⟨y, hy, iy⟩ := il.get (List.getElem?_eq_getElem hl)
    rw [hx] at hy
    cases hy
    exact turnS S' (iy.mono S'.ex1) (p.up S2) (fun ρ2 σ2 G3 H3 S3 h3 => ⟨ρ2, G3, S3, h3⟩) (hI i _ ρ' (List.getElem?_eq_getElem hl) hi)
  · exact p.nx ρ' σ' G' H' (S2.down S') (hd ρ' (by rw [il.len]; exact hi))
theorem psi_forT (tgt : Tgt) {tg : Expr} (hp : PassesOwn (model X.prog X.w) X.A X.env X.xe) (hc : X.calm = true) (he : PEI X b e we) (hg : PG X tg (tgOf X.K tgt)) (hb : PSsI X b body w) (hs : ∀ x, foldedSetIterable e X.env x = pure x := by intro _; rfl) :
    PSI X b (.For tg e body [] pos) (wForT tgt we w) := psi_of (ps_for hp hc (pi_tup he) hg hb hs) fun c ρ σ G H Ψ D S hw p => by
  refine ⟨c, ρ, G, _, Ψ.xc, S, hw, fun v r G1 H1 t1 o1 hn => ?_, p.exc S⟩
  obtain ⟨G2, t2, im⟩ := freeze S t1 o1
  obtain ⟨ds, e, I, h0, hI, hd⟩ := hn
  rw [e, im_tuple] at im
  obtain ⟨a, xs, rfl, ha, il⟩ := im
  have S2 := S.tr t2
  have S2' := S2.up
  refine ⟨a, rfl, ⟨xs, ex_t S2.ex2 ha⟩, for_tup (xs := xs) (fun i σ' H' => ∃ ρ' G', Sat X.K { c with Ge := G2 } ρ' σ' G' H' ∧ I i ρ') ⟨ρ, G2, S2', h0⟩ (fun i σ' H' _ ⟨ρ', G', S', _⟩ => ex_t S'.ex2 (ex_t S'.ex1 ha)) (fun i x σ' H' hx ⟨ρ', G', S', hi⟩ => ?_) (fun σ' H' ⟨ρ', G', S', hi⟩ => ?_)⟩
  · have hl : i < ds.length := by rw [il.len]; exact (List.getElem?_eq_some_iff.mp hx).1
    obtain ⟨y, hy, iy⟩ := il.get (List.getElem?_eq_getElem hl)
    rw [hx] at hy
    cases hy
    exact turnS S' (iy.mono S'.ex1) (p.up S2) (fun ρ2 σ2 G3 H3 S3 h3 => ⟨ρ2, G3, S3, h3⟩) (hI i _ ρ' (List.getElem?_eq_getElem hl) hi)
  · exact p.nx ρ' σ' G' H' (S2.down S') (hd ρ' (by rw [il.len]; exact hi))
theorem forR_ok {K : PySem.W.Frag} {c : Cn} {ρ : Rho} {σ : L2.St} {G H : Hp} {Ψ : Pst} {D : Ends} {tgt : Tgt} {wb : WS} {lo : Int} {n : Nat} (S : Sat K c ρ σ G H) (p : PostS K b c Ψ D) (h : ForR tgt wb lo n ρ Ψ) :
    ∃ W : Nat → Nat → L2.St → Hp → Prop, (∃ m, W 0 m σ H) ∧ ∀ i m σ H, W i m σ H →
      ((Itr lo n).stop i H ∧ D.nx σ H) ∨ ((Itr lo n).go i H ∧ ∃ N : L2.St → Hp → Prop, (∀ σ' H', N σ' H' → ∃ m', m' < m ∧ W (i + 1) m' σ' H') ∧ ∀ x H', (Itr lo n).yld i H x H' → tgOf K tgt x σ H' fun σ2 H2 => tsOf K b wb { D with nx := N, ct := N, bk := D.nx } σ2 H2) := by
  obtain ⟨I, h0, hI, hd⟩ := h
  refine for_range (lo := lo) (n := n) (fun i σ' H' => ∃ ρ' G', Sat K c ρ' σ' G' H' ∧ I i ρ') ⟨ρ, G, S, h0⟩ (fun i σ' H' hi ⟨ρ', G', S', h'⟩ => ?_) (fun σ' H' ⟨ρ', G', S', h'⟩ => p.nx ρ' σ' G' H' S' (hd ρ' h'))
  exact turnS S' (by rw [im_int]) p (fun ρ2 σ2 G3 H3 S3 h3 => ⟨ρ2, G3, S3, h3⟩) (hI i ρ' hi h')
theorem psi_forR1 (tgt : Tgt) {tg : Expr} {p1 p2 : Pos} {wa : WA} (hp : PassesOwn (model X.prog X.w) X.A X.env X.xe) (hc : X.calm = true) (hm : X.mg "range" = none) (hgl : Gl X "range") (ha : PAI X b 1 [x] wa) (hg : PG X tg (tgOf X.K tgt)) (hb : PSsI X b body w)
    (hse : starEach [x] X.env = [(false, eval x X.env)] := by rfl) (hs : ∀ y, foldedSetIterable (.Call (.Name "range" p1) [x] [] p2) X.env y = pure y := by intro _; rfl) :
    PSI X b (.For tg (.Call (.Name "range" p1) [x] [] p2) body [] pos) (wForR1 tgt wa w) := psi_of (ps_for hp hc (pi_range1 hgl hm ha hse) hg hb hs) fun c ρ σ G H Ψ D S hw p => by
  refine ⟨c, ρ, G, _, Ψ.xc, S, hw, fun vs ds G1 H1 t1 il hl hn => ?_, p.exc S⟩
  obtain ⟨n, rfl, h1, h2, hf⟩ := hn
  obtain ⟨v, rfl, im⟩ := imL_1 il
  rw [im_int] at im
  subst im
  exact ⟨n, rfl, by omega, by omega, forR_ok (S.tr t1) p hf⟩
theorem psi_forR2 (tgt : Tgt) {tg : Expr} {p1 p2 : Pos} {wa : WA} (hp : PassesOwn (model X.prog X.w) X.A X.env X.xe) (hc : X.calm = true) (hm : X.mg "range" = none) (hgl : Gl X "range") (ha : PAI X b 2 [x, y] wa) (hg : PG X tg (tgOf X.K tgt)) (hb : PSsI X b body w)
    (hse : starEach [x, y] X.env = [(false, eval x X.env), (false, eval y X.env)] := by rfl) (hse2 : starEach [y] X.env = [(false, eval y X.env)] := by rfl) (hs : ∀ z, foldedSetIterable (.Call (.Name "range" p1) [x, y] [] p2) X.env z = pure z := by intro _; rfl) :
    PSI X b (.For tg (.Call (.Name "range" p1) [x, y] [] p2) body [] pos) (wForR2 tgt wa w) := psi_of (ps_for hp hc (pi_range2 hgl hm ha hse hse2) hg hb hs) fun c ρ σ G H Ψ D S hw p => by
  refine ⟨c, ρ, G, _, Ψ.xc, S, hw, fun vs ds G1 H1 t1 il hl hn => ?_, p.exc S⟩
  obtain ⟨lo, n, rfl, h1, hf⟩ := hn
  obtain ⟨v, u, rfl, im, im2⟩ := imL_2 il
  rw [im_int] at im im2
  subst im im2
  exact ⟨lo, n, rfl, ⟨by omega, by omega, by omega, by omega⟩, forR_ok (S.tr t1) p hf⟩
/-! ### while -/
def wWhile (wt : WT) (wb : WS) : WS := fun ρ Ψ => ∃ I : Nat → Rho → Prop, (∃ m, I m ρ) ∧ ∀ m ρ', I m ρ' → wt ρ' (fun k => if k = true then wb ρ' { Ψ with nx := fun ρ2 => ∃ m', m' < m ∧ I m' ρ2, ct := fun ρ2 => ∃ m', m' < m ∧ I m' ρ2, bk := Ψ.nx } else Ψ.nx ρ') Ψ.xc
theorem psi_while (hp : PassesOwn (model X.prog X.w) X.A X.env X.xe) (ht : PTI X b e wt) (hb : PSsI X b body w) : PSI X b (.While e body [] pos) (wWhile wt w) := psi_of (ps_while hp ht hb) fun c ρ σ G H Ψ D S hw p => by
  obtain ⟨I, ⟨m0, h0⟩, hI⟩ := hw
  refine ⟨fun m σ' H' => ∃ ρ' G', Sat X.K c ρ' σ' G' H' ∧ I m ρ', ⟨m0, ρ, G, S, h0⟩, fun m σ' H' ⟨ρ', G', S', hi⟩ => ?_⟩
  refine ⟨c, ρ', G', _, Ψ.xc, S', hI m ρ' hi, fun k G1 H1 t1 h => ?_, p.exc S'⟩
  cases k with
  | true =>
    rw [if_pos rfl] at h ⊢
    refine ⟨fun σ2 H2 => ∃ m', m' < m ∧ ∃ ρ2 G2, Sat X.K c ρ2 σ2 G2 H2 ∧ I m' ρ2, fun σ2 H2 q => q, c, ρ', G1, _, S'.tr t1, h, ⟨?_, p.rt, p.nx, ?_, p.xc⟩⟩
    · exact fun ρ2 σ2 G2 H2 S2 ⟨m', hm, h2⟩ => ⟨m', hm, ρ2, G2, S2, h2⟩
    · exact fun ρ2 σ2 G2 H2 S2 ⟨m', hm, h2⟩ => ⟨m', hm, ρ2, G2, S2, h2⟩
  | false =>
    rw [if_neg (by decide)] at h ⊢
    exact p.nx ρ' σ' G1 H1 (S'.tr t1) h
end
end SF

/-! ## Comprehensions and defs over data -/
namespace SF
open PySem PySem.Spec PyProof.Rows L2
def wipeE : Rho → List Nat → Rho
  | ρ, [] => ρ
  | ρ, v :: vs => (wipeE ρ vs).set v .no
def noRow (ρ : Rho) (vs : List Nat) : Bool := vs.all fun i => match ρ[i]? with
  | some .row => false
  | _ => true
section
variable {K : PySem.W.Frag} {c : Cn} {ρ : Rho} {σ : L2.St} {G G' H H' G1 H1 : Hp}
theorem Sat.wipe (S : Sat K c ρ σ G H) : ∀ vs : List Nat, Sat K c (wipeE ρ vs) (wipe σ vs) G H
  | [] => S
  | v :: vs => (S.wipe vs).setNo
theorem wipeE_get {i : Nat} : ∀ {vs : List Nat}, i ∉ vs → (wipeE ρ vs)[i]? = ρ[i]?
  | [], _ => rfl
  | v :: vs, h => by
    rw [List.mem_cons, not_or] at h
    show ((wipeE ρ vs).set v .no)[i]? = _
    rw [List.getElem?_set_ne (Ne.symm h.1), wipeE_get h.2]
theorem wipe_get {i : Nat} : ∀ {vs : List Nat}, i ∉ vs → (wipe σ vs)[i]? = σ[i]?
  | [], _ => rfl
  | v :: vs, h => by
    rw [List.mem_cons, not_or] at h
    show ((wipe σ vs).set v none)[i]? = _
    rw [List.getElem?_set_ne (Ne.symm h.1), wipe_get h.2]
theorem wipe_in {i : Nat} : ∀ {vs : List Nat}, i ∈ vs → i < σ.length → (wipe σ vs)[i]? = some none
  | [], h, _ => by simp at h
  | v :: vs, h, hl => by
    show ((wipe σ vs).set v none)[i]? = _
    by_cases q : v = i
    · subst q
      rw [List.getElem?_set_self (by rw [wipe_length]; exact hl)]
    · rw [List.getElem?_set_ne q]
      refine wipe_in ?_ hl
      rcases List.mem_cons.mp h with e | e
      · exact absurd e.symm q
      · exact e
theorem wipe_eq {σ' : L2.St} {vs : List Nat} (hl : σ'.length = σ.length) (h : ∀ (n : Nat), n ∉ vs → σ'[n]? = (wipe σ vs)[n]?) : wipe σ' vs = wipe σ vs := by
  apply List.ext_getElem?
  intro n
  by_cases q : n ∈ vs
  · by_cases k : n < σ.length
    · rw [wipe_in q (by rw [hl]; exact k), wipe_in q k]
    · rw [List.getElem?_eq_none (by rw [wipe_length, hl]; omega), List.getElem?_eq_none (by rw [wipe_length]; omega)]
  · rw [wipe_get q, h n q]
/-- the slots that a binding sets -/
theorem setsE_get {i : Nat} : ∀ {is : List Nat} {ds : List PyData} {ρ : Rho}, i ∉ is → (setsE ρ is ds)[i]? = ρ[i]?
  | [], ds, ρ, _ => by cases ds <;> rfl
  | j :: is, [], ρ, _ => rfl
  | j :: is, d :: ds, ρ, h => by
    rw [List.mem_cons, not_or] at h
    show (setsE (ρ.set j (.dat d)) is ds)[i]? = _
    rw [setsE_get h.2, List.getElem?_set_ne (Ne.symm h.1)]
theorem wipeE_length (ρ : Rho) : ∀ vs : List Nat, (wipeE ρ vs).length = ρ.length
  | [] => rfl
  | v :: vs => by show ((wipeE ρ vs).set v .no).length = _; rw [List.length_set, wipeE_length ρ vs]
theorem wipeE_in {i : Nat} : ∀ {vs : List Nat}, i ∈ vs → (wipeE ρ vs)[i]? = if i < ρ.length then some .no else none
  | [], h => by simp at h
  | v :: vs, h => by
    show ((wipeE ρ vs).set v .no)[i]? = _
    by_cases q : v = i
    · subst q
      rw [List.getElem?_set, if_pos rfl, wipeE_length]
    · rw [List.getElem?_set_ne q]
      refine wipeE_in ?_
      rcases List.mem_cons.mp h with e | e
      · exact absurd e.symm q
      · exact e
/-- rows are those of the state ahead -/
structure Rows (ρ : Rho) (σ : L2.St) (ρ' : Rho) (σ' : L2.St) : Prop where
  iff : ∀ r, IsRow ρ' σ' r ↔ IsRow ρ σ r
theorem Tr.lift {ρ' : Rho} {σ' : L2.St} (h : ∀ r, IsRow ρ' σ' r ↔ IsRow ρ σ r) (t : Tr K ρ' σ' G H G' H') : Tr K ρ σ G H G' H' :=
  ⟨t.eg, t.eh, fun a o q n m => t.keep a o q (fun z => n ((h a).mp z)) m, t.tbl, t.avoid, fun r q => t.row r ((h r).mpr q)⟩
/-- the list that is made: at D, untracked by slots -/
theorem Tr.side {D : Addr} {o : HO} (S1 : Sat K c ρ σ G1 H1) (t : Tr K ρ σ G1 H1 G H) (h1 : H1 D = none) (hG : G D = none) {xs : List V} (hD : H D = some (.lst xs)) : Tr K ρ σ G1 H1 G (upd H D o) :=
  ⟨t.eg, t.eh.out hG, fun a u h n m => by
    rw [upd_ne (fun e => by rw [e, h1] at h; cases h)]
    exact t.keep a u h n m, t.tbl.trans (.lst hD), t.avoid, fun r h => by
    have z := t.row r h
    have ne : r ≠ D := fun e => (S1.rowAt h).there (by rw [e]; exact h1)
    exact z.go (.refl _) z.1 fun u e => by rw [upd_ne ne]; exact e⟩
end
section
variable {X : Cx} {b : Bs} {x y z e elt tg : Expr} {ifs : List Expr} {scope : Scope} {pos : Pos} {we w : WE} {wt : WT} {tgt : Tgt} {own : List (Str × Nat)}
abbrev PTsI (X : Cx) (b : Bs) (ifs : List Expr) (w : WT) : Prop := PTs X ifs (ttOf X.K b w)
def wYes : WT := fun _ Φ _ => Φ true
theorem pts_imp {ifs : List Expr} {t t' : TT} (h : PTs X ifs t) (hi : ∀ σ H Q, t' σ H Q → t σ H Q) : PTs X ifs t' := ⟨fun pins s σ H Q I q => h.run pins s σ H Q I (hi σ H Q q)⟩
theorem ptsi_nil : PTsI X b [] wYes := pts_imp pts_nil fun σ H Q ⟨c, ρ, G, Φ, Ξ, S, hw, p, ex⟩ => p true G H (.refl S) hw
theorem ptsi_one (h : PTI X b x wt) : PTsI X b [x] wt := pts_one h
def LcTurn (tgt : Tgt) (vs : List Nat) (wt : WT) (w : WE) (I : Nat → List PyData → Prop) (i : Nat) (d : PyData) (ρ : Rho) : Prop := ∀ acc, I i acc → acc.length < 1000000 ∧ bindT tgt d (wipeE ρ vs) (fun ρ2 => wt ρ2 (fun k => if k = true then w ρ2 (fun r => I (i + 1) (acc ++ [r.frz])) (fun _ => False) else I (i + 1) acc) (fun _ => False))
def LcI (tgt : Tgt) (vs : List Nat) (wt : WT) (w : WE) (ds : List PyData) (ρ : Rho) (Φ : Res → Prop) : Prop := noRow ρ vs = true ∧ ∃ I : Nat → List PyData → Prop, I 0 [] ∧ (∀ (i : Nat) d, ds[i]? = some d → LcTurn tgt vs wt w I i d ρ) ∧ ∀ acc, I ds.length acc → Φ (.lst acc)
def LcR (tgt : Tgt) (vs : List Nat) (wt : WT) (w : WE) (lo : Int) (n : Nat) (ρ : Rho) (Φ : Res → Prop) : Prop := noRow ρ vs = true ∧ ∃ I : Nat → List PyData → Prop, I 0 [] ∧ (∀ (i : Nat), i < n → LcTurn tgt vs wt w I i (.int (lo + (i : Nat))) ρ) ∧ ∀ acc, I n acc → Φ (.lst acc)
def wLcL (tgt : Tgt) (vs : List Nat) (wi : WE) (wt : WT) (w : WE) : WE := fun ρ Φ Ξ => wi ρ (fun r => ∃ ds, r.frz = .list ds ∧ LcI tgt vs wt w ds ρ Φ) Ξ
def wLcT (tgt : Tgt) (vs : List Nat) (wi : WE) (wt : WT) (w : WE) : WE := fun ρ Φ Ξ => wi ρ (fun r => ∃ ds, r.frz = .tuple ds ∧ LcI tgt vs wt w ds ρ Φ) Ξ
def wLcR1 (tgt : Tgt) (vs : List Nat) (wa : WA) (wt : WT) (w : WE) : WE := fun ρ Φ Ξ => wa ρ (fun ds => ∃ n : Int, ds = [.int n] ∧ -1000000 ≤ n ∧ n ≤ 1000000 ∧ LcR tgt vs wt w 0 n.toNat ρ Φ) Ξ
def PvLc (K : PySem.W.Frag) (ρ : Rho) (σ : L2.St) (G1 H1 : Hp) (D : Addr) (I : Nat → List PyData → Prop) (i : Nat) (H' : Hp) : Prop := ∃ G' acc ys, Tr K ρ σ G1 H1 G' H' ∧ H' D = some (.lst ys) ∧ G' D = none ∧ ImL K G' acc ys ∧ I i acc
/-- one turn -/
theorem lc_turn {K : PySem.W.Frag} {c : Cn} {ρ : Rho} {σ : L2.St} {G1 H1 G H : Hp} {vs : List Nat} {D : Addr} {I : Nat → List PyData → Prop} {i : Nat} {d : PyData} {v : V} {acc : List PyData} {xs : List V} {Pv : Nat → Hp → Prop} (hts : ∀ n ∈ tgt.slots, n ∈ vs) (S1 : Sat K c ρ σ G1 H1) (hn : noRow ρ vs = true)
    (t : Tr K ρ σ G1 H1 G H) (hD1 : H1 D = none) (hD : H D = some (.lst xs)) (hG : G D = none) (il : ImL K G acc xs) (hI : I i acc) (im : Im K G d v) (h : LcTurn tgt vs wt w I i d ρ)
    (hP : ∀ G' H' acc' xs', Tr K ρ σ G1 H1 G' H' → H' D = some (.lst xs') → G' D = none → ImL K G' acc' xs' → I (i + 1) acc' → Pv (i + 1) H') :
    tgOf K tgt v (wipe σ vs) H fun σ2 H2 => wipe σ2 vs = wipe σ vs ∧ ttOf K b wt σ2 H2 fun k H3 => if k = true then teOf K b w σ2 H3 fun y H4 => ∃ acc, H4 D = some (.lst acc) ∧ acc.length < sizeLine ∧ Pv (i + 1) (upd H4 D (.lst (acc ++ [y]))) else Pv (i + 1) H3 := by
  have S := S1.tr t
  obtain ⟨hz, h⟩ := h acc hI
  refine tgt_ok (S.wipe vs) im h fun ρ2 σ2 S2 h2 hs => ?_
  have hl2 : σ2.length = σ.length := by rw [hs.len, wipe_length]
  have hw : wipe σ2 vs = wipe σ vs := wipe_eq hl2 fun n hn' => hs.st n fun z => hn' (hts n z)
  have rows : ∀ r, IsRow ρ2 σ2 r ↔ IsRow ρ σ r := fun r => by
    constructor
    · rintro ⟨j, e1, e2⟩
      have h1 : j ∉ tgt.slots := fun z => hs.nr j z e1
      rw [hs.rh j h1] at e1
      rw [hs.st j h1] at e2
      have h3 : j ∉ vs := fun z => by rw [wipeE_in z] at e1; split at e1 <;> cases e1
      rw [wipeE_get h3] at e1
      rw [wipe_get h3] at e2
      exact ⟨j, e1, e2⟩
    · rintro ⟨j, e1, e2⟩
      have h3 : j ∉ vs := fun z => by
        have q := List.all_eq_true.mp hn j z
        rw [e1] at q
        cases q
      have h1 : j ∉ tgt.slots := fun z => h3 (hts j z)
      exact ⟨j, by rw [hs.rh j h1, wipeE_get h3]; exact e1, by rw [hs.st j h1, wipe_get h3]; exact e2⟩
  have nD : ¬ IsRow ρ σ D := fun z => (S1.rowAt z).there hD1
  refine ⟨hw, c, ρ2, G, _, _, S2, h2, fun k G3 H3 t3 h3 => ?_, fun _ _ _ _ _ _ _ z => z.elim⟩
  have t3' : Tr K ρ σ G1 H1 G3 H3 := t.trans (t3.lift rows)
  have S3 := S2.tr t3
  have hD3 : H3 D = some (.lst xs) := t3.keep D _ hD (fun z => nD ((rows D).mp z)) ntL
  have hG3 : G3 D = none := t3.avoid D hG (by rw [hD]; exact fun z => by cases z)
  cases k with
  | false =>
    rw [if_neg (by decide)] at h3
    exact hP G3 H3 acc xs t3' hD3 hG3 (il.mono t3.eg) h3
  | true =>
    rw [if_pos rfl] at h3
    refine ⟨c, ρ2, G3, _, _, S3, h3, fun y r G4 H4 t4 o4 h4 => ?_, fun _ _ _ _ _ _ _ z => z.elim⟩
    obtain ⟨G5, t5, im5⟩ := freeze S3 t4 o4
    have t5' : Tr K ρ σ G1 H1 G5 H4 := t3'.trans (t5.lift rows)
    have hD5 : H4 D = some (.lst xs) := t5.keep D _ hD3 (fun z => nD ((rows D).mp z)) ntL
    have hG5 : G5 D = none := t5.avoid D hG3 (by rw [hD3]; exact fun z => by cases z)
    have il5 : ImL K G5 acc xs := (il.mono t3.eg).mono t5.eg
    refine ⟨xs, hD5, by rw [← il5.len]; exact Nat.lt_of_lt_of_le hz (by decide), ?_⟩
    exact hP G5 _ (acc ++ [r.frz]) (xs ++ [y]) (Tr.side S1 t5' hD1 hG5 hD5) upd_same hG5 (il5.append (.one im5)) h4
variable {K : PySem.W.Frag}
theorem lcL_ok (hts : ∀ n ∈ tgt.slots, n ∈ own.map (·.2)) (σ : L2.St) (H : Hp) (Q : VK) (h : teOf K b (wLcL tgt (own.map (·.2)) we wt w) σ H Q) : tLc (iList K (teOf K b we)) (tgOf K tgt) (ttOf K b wt) (teOf K b w) (own.map (·.2)) σ H Q := by
  obtain ⟨c, ρ, G, Φ, Ξ, S, hw, p, ex⟩ := h
  refine ⟨c, ρ, G, _, Ξ, S, hw, fun v r G1 H1 t1 o1 h1 => ?_, ex⟩
  obtain ⟨G2, t2, im⟩ := freeze S t1 o1
  obtain ⟨ds, e, hn, I, h0, hI, hd⟩ := h1
  rw [e, im_list] at im
  obtain ⟨a, xs, rfl, ha, il⟩ := im
  have S2 := S.tr t2
  refine ⟨a, rfl, ⟨xs, sq_of (S2.ex2 a _ ha)⟩, fun D hD => ?_⟩
  refine lc_list (xs := xs) (PvLc K ρ σ G2 H1 D I) ⟨G2, [], [], Tr.newH S2 hD, upd_same, S2.ex2.back hD, .nil, h0⟩ (fun i H' _ ⟨G', acc, ys, t, _⟩ => sq_of (t.eh a _ (t.eg a _ ha))) (fun i x H' hx ⟨G', acc, ys, t, k1, k2, k3, k4⟩ => ?_) (fun H' ⟨G', acc, ys, t, k1, k2, k3, k4⟩ => ?_)
  · have hl : i < ds.length := by rw [il.len]; exact (List.getElem?_eq_some_iff.mp hx).1
    obtain ⟨y, hy, iy⟩ := il.get (List.getElem?_eq_getElem hl)
    rw [hx] at hy
    cases hy
    exact lc_turn (b := b) (Pv := PvLc K ρ σ G2 H1 D I) hts S2 hn t hD k1 k2 k3 k4 (iy.mono t.eg) (hI i _ (List.getElem?_eq_getElem hl)) fun G' H' acc' xs' q1 q2 q3 q4 q5 => ⟨G', acc', xs', q1, q2, q3, q4, q5⟩
  · exact p _ (.lst acc) G' H' (t2.trans t) ⟨D, ys, rfl, t2.back hD, k2, k1, k3⟩ (hd acc (by rw [il.len]; exact k4))
theorem lcT_ok (hts : ∀ n ∈ tgt.slots, n ∈ own.map (·.2)) (σ : L2.St) (H : Hp) (Q : VK) (h : teOf K b (wLcT tgt (own.map (·.2)) we wt w) σ H Q) : tLc (iTup K (teOf K b we)) (tgOf K tgt) (ttOf K b wt) (teOf K b w) (own.map (·.2)) σ H Q := by
  obtain ⟨c, ρ, G, Φ, Ξ, S, hw, p, ex⟩ := h
  refine ⟨c, ρ, G, _, Ξ, S, hw, fun v r G1 H1 t1 o1 h1 => ?_, ex⟩
  obtain ⟨G2, t2, im⟩ := freeze S t1 o1
  obtain ⟨ds, e, hn, I, h0, hI, hd⟩ := h1
  rw [e, im_tuple] at im
  obtain ⟨a, xs, rfl, ha, il⟩ := im
  have S2 := S.tr t2
  refine ⟨a, rfl, ⟨xs, ex_t S2.ex2 ha⟩, fun D hD => ?_⟩
  refine lc_tup (xs := xs) (PvLc K ρ σ G2 H1 D I) ⟨G2, [], [], Tr.newH S2 hD, upd_same, S2.ex2.back hD, .nil, h0⟩ (fun i H' _ ⟨G', acc, ys, t, _⟩ => ex_t t.eh (ex_t t.eg ha)) (fun i x H' hx ⟨G', acc, ys, t, k1, k2, k3, k4⟩ => ?_) (fun H' ⟨G', acc, ys, t, k1, k2, k3, k4⟩ => ?_)
  · have hl : i < ds.length := by rw [il.len]; exact (List.getElem?_eq_some_iff.mp hx).1
    obtain ⟨y, hy, iy⟩ := il.get (List.getElem?_eq_getElem hl)
    rw [hx] at hy
    cases hy
    exact lc_turn (b := b) (Pv := PvLc K ρ σ G2 H1 D I) hts S2 hn t hD k1 k2 k3 k4 (iy.mono t.eg) (hI i _ (List.getElem?_eq_getElem hl)) fun G' H' acc' xs' q1 q2 q3 q4 q5 => ⟨G', acc', xs', q1, q2, q3, q4, q5⟩
  · exact p _ (.lst acc) G' H' (t2.trans t) ⟨D, ys, rfl, t2.back hD, k2, k1, k3⟩ (hd acc (by rw [il.len]; exact k4))
theorem lcR_ok {wa : WA} (hts : ∀ n ∈ tgt.slots, n ∈ own.map (·.2)) (σ : L2.St) (H : Hp) (Q : VK) (h : teOf K b (wLcR1 tgt (own.map (·.2)) wa wt w) σ H Q) : tLc (iRng1 (taOf K b 1 wa)) (tgOf K tgt) (ttOf K b wt) (teOf K b w) (own.map (·.2)) σ H Q := by
  obtain ⟨c, ρ, G, Φ, Ξ, S, hw, p, ex⟩ := h
  refine ⟨c, ρ, G, _, Ξ, S, hw, fun vs ds G1 H1 t1 il hl h1 => ?_, ex⟩
  obtain ⟨n, rfl, b1, b2, hn, I, h0, hI, hd⟩ := h1
  obtain ⟨v, rfl, im⟩ := imL_1 il
  rw [im_int] at im
  subst im
  have S2 := S.tr t1
  refine ⟨n, rfl, by omega, by omega, fun D hD => ?_⟩
  refine lc_range (lo := 0) (n := n.toNat) (PvLc K ρ σ G1 H1 D I) ⟨G1, [], [], Tr.newH S2 hD, upd_same, S2.ex2.back hD, .nil, h0⟩ (fun i H' hi ⟨G', acc, ys, t, k1, k2, k3, k4⟩ => ?_) (fun H' ⟨G', acc, ys, t, k1, k2, k3, k4⟩ => ?_)
  · exact lc_turn (b := b) (Pv := PvLc K ρ σ G1 H1 D I) hts S2 hn t hD k1 k2 k3 k4 (by rw [im_int]) (hI i hi) fun G' H' acc' xs' q1 q2 q3 q4 q5 => ⟨G', acc', xs', q1, q2, q3, q4, q5⟩
  · exact p _ (.lst acc) G' H' (t1.trans t) ⟨D, ys, rfl, t1.back hD, k2, k1, k3⟩ (hd acc k4)
/-- the parts of a comprehension within its block -/
structure Blk (X : Cx) (b : Bs) (scope : Scope) (own : List (Str × Nat)) (tg : Expr) (ifs : List Expr) (elt : Expr) (tgt : Tgt) (wt : WT) (w : WE) : Prop where
  ok : BlkOk X.N X.env.scope scope own
  sl : ∀ n ∈ tgt.slots, n ∈ own.map (·.2)
  hg : ∀ (s : Shared) (H : Hp) (C : Addr) (cl : List (Str × Addr)) (fp : List Addr), PG (X.blk s H scope (compEnvC scope cl C X.env) fp) tg (tgOf X.K tgt)
  ht : ∀ (s : Shared) (H : Hp) (C : Addr) (cl : List (Str × Addr)) (fp : List Addr), PTsI (X.blk s H scope (compEnvC scope cl C X.env) fp) b ifs wt
  he : ∀ (s : Shared) (H : Hp) (C : Addr) (cl : List (Str × Addr)) (fp : List Addr), PEI (X.blk s H scope (compEnvC scope cl C X.env) fp) b elt w
theorem pei_lcL (hc : X.calm = true) (hN : X.N.Nodup) (hi : PEI X b e we) (B : Blk X b scope own tg ifs elt tgt wt w) (hs : ∀ x, foldedSetIterable e X.env x = pure x := by intro _; rfl) : PEI X b (.ListComp elt [⟨tg, e, ifs, 0⟩] scope pos) (wLcL tgt (own.map (·.2)) we wt w) :=
  pe_imp (pe_lc hc hN (pi_list hi) B.ok B.hg B.ht B.he hs) (lcL_ok B.sl)
theorem pei_lcT (hc : X.calm = true) (hN : X.N.Nodup) (hi : PEI X b e we) (B : Blk X b scope own tg ifs elt tgt wt w) (hs : ∀ x, foldedSetIterable e X.env x = pure x := by intro _; rfl) : PEI X b (.ListComp elt [⟨tg, e, ifs, 0⟩] scope pos) (wLcT tgt (own.map (·.2)) we wt w) :=
  pe_imp (pe_lc hc hN (pi_tup hi) B.ok B.hg B.ht B.he hs) (lcT_ok B.sl)
theorem pei_lcR {wa : WA} {p1 p2 : Pos} (hc : X.calm = true) (hN : X.N.Nodup) (hm : X.mg "range" = none) (hgl : Gl X "range") (ha : PAI X b 1 [x] wa) (B : Blk X b scope own tg ifs elt tgt wt w) (hse : starEach [x] X.env = [(false, eval x X.env)] := by rfl)
    (hs : ∀ y, foldedSetIterable (.Call (.Name "range" p1) [x] [] p2) X.env y = pure y := by intro _; rfl) : PEI X b (.ListComp elt [⟨tg, .Call (.Name "range" p1) [x] [] p2, ifs, 0⟩] scope pos) (wLcR1 tgt (own.map (·.2)) wa wt w) :=
  pe_imp (pe_lc hc hN (pi_range1 hgl hm ha hse) B.ok B.hg B.ht B.he hs) (lcR_ok B.sl)
/-- name = [..] -/
theorem psi_setLcL (i : Nat) {nm : Str} {np spos : Pos} (hc : X.calm = true) (hN : X.N.Nodup) (hi : PEI X b e we) (B : Blk X b scope own tg ifs elt tgt wt w) (hsw : swapsWith (.ListComp elt [⟨tg, e, ifs, 0⟩] scope pos) (some (.Name nm np)) spos.line X.env = pure true) (hy : X.N[i]? = some nm := by rfl) (hyl : X.env.scope.names.lookup nm = some .local := by rfl)
    (hs : ∀ x, foldedSetIterable e X.env x = pure x := by intro _; rfl) : PSI X b (.Assign [.Name nm np] (.ListComp elt [⟨tg, e, ifs, 0⟩] scope pos) spos) (wSet i (wLcL tgt (own.map (·.2)) we wt w)) :=
  ps_imp (ps_setLc hc hN hy hyl hsw (pi_list hi) B.ok B.hg B.ht B.he hs) fun D σ H q => asg_ok (lcL_ok B.sl) q
theorem psi_setFLcL (i : Nat) {nm : Str} {np spos : Pos} (hc : X.calm = true) (hN : X.N.Nodup) (hi : PEI X b e we) (B : Blk X b scope own tg ifs elt tgt wt w) (hsw : swapsWith (.ListComp elt [⟨tg, e, ifs, 0⟩] scope pos) (some (.Name nm np)) spos.line X.env = pure true) (hy : X.N[i]? = some nm := by rfl) (hyl : X.env.scope.names.lookup nm = some .local := by rfl)
    (hs : ∀ x, foldedSetIterable e X.env x = pure x := by intro _; rfl) : PSI X b (.Assign [.Name nm np] (.ListComp elt [⟨tg, e, ifs, 0⟩] scope pos) spos) (wSetF i (wLcL tgt (own.map (·.2)) we wt w)) :=
  ps_imp (ps_setLc hc hN hy hyl hsw (pi_list hi) B.ok B.hg B.ht B.he hs) fun D σ H q => asgF_ok (lcL_ok B.sl) q
theorem psi_setFLcT (i : Nat) {nm : Str} {np spos : Pos} (hc : X.calm = true) (hN : X.N.Nodup) (hi : PEI X b e we) (B : Blk X b scope own tg ifs elt tgt wt w) (hsw : swapsWith (.ListComp elt [⟨tg, e, ifs, 0⟩] scope pos) (some (.Name nm np)) spos.line X.env = pure true) (hy : X.N[i]? = some nm := by rfl) (hyl : X.env.scope.names.lookup nm = some .local := by rfl)
    (hs : ∀ x, foldedSetIterable e X.env x = pure x := by intro _; rfl) : PSI X b (.Assign [.Name nm np] (.ListComp elt [⟨tg, e, ifs, 0⟩] scope pos) spos) (wSetF i (wLcT tgt (own.map (·.2)) we wt w)) :=
  ps_imp (ps_setLc hc hN hy hyl hsw (pi_tup hi) B.ok B.hg B.ht B.he hs) fun D σ H q => asgF_ok (lcT_ok B.sl) q
theorem psi_setLcR (i : Nat) {nm : Str} {np spos p1 p2 : Pos} {wa : WA} (hc : X.calm = true) (hN : X.N.Nodup) (hm : X.mg "range" = none) (hgl : Gl X "range") (ha : PAI X b 1 [x] wa) (B : Blk X b scope own tg ifs elt tgt wt w)
    (hsw : swapsWith (.ListComp elt [⟨tg, .Call (.Name "range" p1) [x] [] p2, ifs, 0⟩] scope pos) (some (.Name nm np)) spos.line X.env = pure true) (hy : X.N[i]? = some nm := by rfl) (hyl : X.env.scope.names.lookup nm = some .local := by rfl) (hse : starEach [x] X.env = [(false, eval x X.env)] := by rfl)
    (hs : ∀ y, foldedSetIterable (.Call (.Name "range" p1) [x] [] p2) X.env y = pure y := by intro _; rfl) : PSI X b (.Assign [.Name nm np] (.ListComp elt [⟨tg, .Call (.Name "range" p1) [x] [] p2, ifs, 0⟩] scope pos) spos) (wSet i (wLcR1 tgt (own.map (·.2)) wa wt w)) :=
  ps_imp (ps_setLc hc hN hy hyl hsw (pi_range1 hgl hm ha hse) B.ok B.hg B.ht B.he hs) fun D σ H q => asg_ok (lcR_ok B.sl) q
theorem psi_setFLcR (i : Nat) {nm : Str} {np spos p1 p2 : Pos} {wa : WA} (hc : X.calm = true) (hN : X.N.Nodup) (hm : X.mg "range" = none) (hgl : Gl X "range") (ha : PAI X b 1 [x] wa) (B : Blk X b scope own tg ifs elt tgt wt w)
    (hsw : swapsWith (.ListComp elt [⟨tg, .Call (.Name "range" p1) [x] [] p2, ifs, 0⟩] scope pos) (some (.Name nm np)) spos.line X.env = pure true) (hy : X.N[i]? = some nm := by rfl) (hyl : X.env.scope.names.lookup nm = some .local := by rfl) (hse : starEach [x] X.env = [(false, eval x X.env)] := by rfl)
    (hs : ∀ y, foldedSetIterable (.Call (.Name "range" p1) [x] [] p2) X.env y = pure y := by intro _; rfl) : PSI X b (.Assign [.Name nm np] (.ListComp elt [⟨tg, .Call (.Name "range" p1) [x] [] p2, ifs, 0⟩] scope pos) spos) (wSetF i (wLcR1 tgt (own.map (·.2)) wa wt w)) :=
  ps_imp (ps_setLc hc hN hy hyl hsw (pi_range1 hgl hm ha hse) B.ok B.hg B.ht B.he hs) fun D σ H q => asgF_ok (lcR_ok B.sl) q
end
/-! ### defs -/
section
variable {P : Program} {w : World} {K : PySem.W.Frag} {mg : Str → Option Value} {base : Heap}
/-- the slots at a def's start -/
def startE (es : List Ent) (n : Nat) : Rho := es ++ List.replicate n .no
theorem start_len {N : List Str} {vs : List V} {n : Nat} (h : N.length = vs.length + n) : L2.start N vs = vs.map some ++ List.replicate n none := by
  unfold L2.start
  rw [h, Nat.add_sub_cancel_left]
theorem sat_startP {G H : Hp} {ds : List PyData} {vs : List V} {n : Nat} (e : Ex G H) (il : ImL K G ds vs) : Sat K ⟨none, G, H⟩ (startE (ds.map .dat) n) (vs.map some ++ List.replicate n none) G H where
  ex1 := .refl _
  ex2 := e
  keep := fun _ _ h _ _ => h
  tbl := .refl _
  there := fun _ h => h
  avoid := fun _ h _ => h
  mrow := fun _ h => by cases h
  mhe := fun _ h => by cases h
  len := by unfold startE; rw [List.length_append, List.length_append, List.length_map, List.length_map, il.len, List.length_replicate, List.length_replicate]
  slot := fun i u o h1 h2 => by
    unfold startE at h1
    by_cases q : i < ds.length
    · rw [List.getElem?_append_left (by rw [List.length_map]; exact q), List.getElem?_map, List.getElem?_eq_getElem q] at h1
      rw [List.getElem?_append_left (by rw [List.length_map, ← il.len]; exact q), List.getElem?_map] at h2
      obtain ⟨x, hx, im⟩ := il.get (List.getElem?_eq_getElem q)
      rw [hx] at h2
      cases h1
      cases h2
      exact ⟨x, rfl, im⟩
    · rw [List.getElem?_append_right (by rw [List.length_map]; omega)] at h1
      have e := List.mem_of_getElem? h1
      rw [List.mem_replicate] at e
      rw [e.2]
      trivial
  own := fun i u l h1 hm h2 => by
    unfold startE at h1
    have hmem := List.mem_of_getElem? h1
    rcases List.mem_append.mp hmem with z | z
    · obtain ⟨d, _, rfl⟩ := List.mem_map.mp z
      cases hm
    · rw [List.mem_replicate] at z
      rw [z.2] at hm
      cases hm
  ne := fun i j u f l hne h1 h2 m1 m2 h3 => by
    unfold startE at h1
    have hmem := List.mem_of_getElem? h1
    rcases List.mem_append.mp hmem with z | z
    · obtain ⟨d, _, rfl⟩ := List.mem_map.mp z
      cases m1
    · rw [List.mem_replicate] at z
      rw [z.2] at m1
      cases m1
theorem sat_startR {G H : Hp} {r : Addr} {ds : List PyData} {vs : List V} {n : Nat} (e : Ex G H) (hr : RowAt K G H r) (il : ImL K G ds vs) : Sat K ⟨some r, G, H⟩ (.row :: startE (ds.map .dat) n) (some (.ref r) :: (vs.map some ++ List.replicate n none)) G H := by
  have S := sat_startP (K := K) (n := n) e il
  have nomut : ∀ (i : Nat) u, (startE (ds.map .dat) n)[i]? = some u → u.isM = false := fun i u h1 => by
    unfold startE at h1
    have hmem := List.mem_of_getElem? h1
    rcases List.mem_append.mp hmem with z | z
    · obtain ⟨d, _, rfl⟩ := List.mem_map.mp z
      rfl
    · rw [List.mem_replicate] at z
      rw [z.2]
      rfl
  refine ⟨.refl _, e, fun _ _ h _ _ => h, .refl _, fun _ h => h, fun _ h _ => h, fun q h => by cases h; exact hr, fun q h => by cases h; exact hr.there, by rw [List.length_cons, List.length_cons]; exact congrArg (· + 1) S.len, fun i u o h1 h2 => ?_, fun i u l h1 hm h2 => ?_, fun i j u f l hne h1 h2 m1 m2 h3 h4 => ?_⟩
  · cases i with
    | zero =>
      cases h1
      cases h2
      exact ⟨r, rfl, hr⟩
    | succ i => exact S.slot i u o (by simpa using h1) (by simpa using h2)
  · cases i with
    | zero =>
      cases h1
      cases h2
      exact .inr ⟨rfl, rfl⟩
    | succ i =>
      rw [nomut i u (by simpa using h1)] at hm
      cases hm
  · cases i with
    | zero =>
      cases j with
      | zero => exact hne rfl
      | succ j =>
        rw [nomut j f (by simpa using h2)] at m2
        cases m2
    | succ i =>
      rw [nomut i u (by simpa using h1)] at m1
      cases m1
def endP (Φ : Res → Prop) (Ξ : Exn → Prop) : Pst := { nx := fun _ => Φ (.dat .none), rt := Φ, xc := Ξ }
theorem post_end {b : Bs} {c : Cn} {Φ : Res → Prop} {Ξ : Exn → Prop} {Q : VK} (q : ∀ v r G' H', Fin' K c G' H' → Out K c.He G' H' r v → Φ r → Q v H') (x : ∀ ex cls d G' H', Fin' K c G' H' → b.XR ex cls d G' → Ξ ex → b.E cls d H') :
    PostS K b c (endP Φ Ξ) { nx := fun _ H' => Q .non H', rt := Q } :=
  ⟨fun ρ' σ' G' H' S h => q .non (.dat .none) G' H' S.fin (by show Im _ _ _ _; rw [im_none]) h, q, fun _ _ _ _ _ h => h.elim, fun _ _ _ _ _ h => h.elim, x⟩
/-- THE RULE for a def of the text whose arguments are data: it keeps the promise T -/
theorem okP {x qual : Str} {st : Stmt} {f : Addr} {fd : FuncData} {N ps : List Str} {k n : Nat} {XR : Exn → Value → Option Addr → Hp → Prop} {T : Tf} (F : Fun K x qual st f fd) (S : FnScope N ps (defScope st)) (hn : N.length = ps.length + n) (hT : ∀ ds Φ Ξ, T ds Φ Ξ → ds.length = ps.length)
    (hbody : ∀ (cdv : Value) (A : Around) (outer : List Env) (s : Shared) (H : Hp) (E : XK), Room k (A.deeper (envOfC qual (defScope st) s.heap.objs.size f cdv)) →
      ∃ wS, PSsI (cxOf CX0 P w K mg base N qual (defScope st) f cdv A outer s H E).nox ⟨XR, E⟩ (defBody st) wS ∧ ∀ ds Φ Ξ, T ds Φ Ξ → wS (startE (ds.map .dat) n) (endP Φ Ξ)) : FnOk P w K mg base CX0 (k + 1) f fd ps (spP K XR T) :=
  F.ok S (fun vs H Q E ⟨G, ds, Φ, Ξ, e, il, hT', _⟩ => by rw [← il.len]; exact hT ds Φ Ξ hT') fun cdv A outer s H vs Q E hr ⟨G, ds, Φ, Ξ, e, il, hT', q, ex⟩ => by
    obtain ⟨wS, h1, h2⟩ := hbody cdv A outer s H E hr
    refine ⟨_, h1, ⟨none, G, H⟩, _, G, _, ?_, h2 ds Φ Ξ hT', post_end q ex⟩
    rw [start_len (n := n) (by rw [hn, ← hT ds Φ Ξ hT', il.len])]
    exact sat_startP e il
/-- .. whose first argument is the row -/
theorem okR {x qual : Str} {st : Stmt} {f : Addr} {fd : FuncData} {N ps : List Str} {k n : Nat} {XR : Exn → Value → Option Addr → Hp → Prop} {T : Tf} (F : Fun K x qual st f fd) (S : FnScope N ps (defScope st)) (hn : N.length = ps.length + n) (hT : ∀ ds Φ Ξ, T ds Φ Ξ → ds.length + 1 = ps.length)
    (hbody : ∀ (cdv : Value) (A : Around) (outer : List Env) (s : Shared) (H : Hp) (E : XK), Room k (A.deeper (envOfC qual (defScope st) s.heap.objs.size f cdv)) →
      ∃ wS, PSsI (cxOf CX0 P w K mg base N qual (defScope st) f cdv A outer s H E).nox ⟨XR, E⟩ (defBody st) wS ∧ ∀ ds Φ Ξ, T ds Φ Ξ → wS (.row :: startE (ds.map .dat) n) (endP Φ Ξ)) : FnOk P w K mg base CX0 (k + 1) f fd ps (spR K XR T) :=
  F.ok S (fun vs H Q E ⟨r, us, G, ds, Φ, Ξ, ev, e, hr, il, hT', _⟩ => by rw [ev, List.length_cons, ← il.len]; exact hT ds Φ Ξ hT') fun cdv A outer s H vs Q E hr ⟨r, us, G, ds, Φ, Ξ, ev, e, hrow, il, hT', q, ex⟩ => by
    obtain ⟨wS, h1, h2⟩ := hbody cdv A outer s H E hr
    subst ev
    refine ⟨_, h1, ⟨some r, G, H⟩, _, G, _, ?_, h2 ds Φ Ξ hT', post_end q ex⟩
    rw [start_len (n := n) (by rw [hn, ← hT ds Φ Ξ hT', List.length_cons, il.len])]
    exact sat_startR e hrow il
end
end SF

/-! ## How a reading over data is computed -/
namespace SF
open PySem PySem.Spec PyProof.Rows L2
def XR0 : Exn → Value → Option Addr → Hp → Prop := fun _ _ _ _ => False
section
variable {Φ : Res → Prop} {i j : Int} {ds es : List PyData} {x y z u : PyData}
theorem r_sII {f : Int → Int → PyData} : sII f (.int i) (.int j) Φ = Φ (.dat (f i j)) := by simp [sII]
theorem r_sIIc {C : Int → Int → Prop} {f : Int → Int → PyData} : sIIc C f (.int i) (.int j) Φ = (C i j ∧ Φ (.dat (f i j))) := by simp [sIIc]
theorem r_sIsN : sIsN x .none Φ = Φ (.dat (.bool (isNone x))) := by simp [sIsN]
theorem r_sNotN : sNotN x .none Φ = Φ (.dat (.bool (!isNone x))) := by simp [sNotN]
theorem r_sInL {f : Bool → Bool} : sInL f x (.list ds) Φ = (SeqAt.shaped x = true ∧ SeqAt.shaped (.list ds) = true ∧ Φ (.dat (.bool (f (ds.any fun z => PyData.eqv z x))))) := by simp [sInL]
theorem r_sInT {f : Bool → Bool} : sInT f x (.tuple ds) Φ = (isSc x = true ∧ ds.all isSc = true ∧ Φ (.dat (.bool (f (ds.any fun z => PyData.eqv z x))))) := by simp [sInT]
theorem r_sIxT : sIxT (.tuple ds) (.int i) Φ = ∃ d, atI ds i = some d ∧ Φ (.dat d) := by simp [sIxT]
theorem r_sIxL : sIxL (.list ds) (.int i) Φ = ∃ d, atI ds i = some d ∧ Φ (.dat d) := by simp [sIxL]
theorem r_sSlT {lo hi : Option Int} : sSlT (.tuple ds) lo hi Φ = Φ (.dat (.tuple (cutD ds lo hi))) := by simp [sSlT]
theorem r_sSlL {lo hi : Option Int} : sSlL (.list ds) lo hi Φ = Φ (.lst (cutD ds lo hi)) := by simp [sSlL]
theorem r_sCatL : sCatL (.list ds) (.list es) Φ = (ds.length + es.length ≤ 1000000 ∧ Φ (.lst (ds ++ es))) := by simp [sCatL]
theorem r_sCatT : sCatT (.tuple ds) (.tuple es) Φ = (ds.length + es.length ≤ 1000000 ∧ Φ (.dat (.tuple (ds ++ es)))) := by simp [sCatT]
theorem r_sLenT : sLen [.tuple ds] Φ = Φ (.dat (.int ((ds.length : Nat) : Int))) := by simp [sLen]
theorem r_sLenL : sLen [.list ds] Φ = Φ (.dat (.int ((ds.length : Nat) : Int))) := by simp [sLen]
theorem r_sMax2 : sMax2 [.int i, .int j] Φ = Φ (.dat (.int (max i j))) := by simp [sMax2, and_assoc]
theorem r_sMin2 : sMin2 [.int i, .int j] Φ = Φ (.dat (.int (min i j))) := by simp [sMin2, and_assoc]
theorem r_sListT : sListOf [.tuple ds] Φ = Φ (.lst ds) := by simp [sListOf]
theorem r_sListL : sListOf [.list ds] Φ = Φ (.lst ds) := by simp [sListOf]
theorem r_sTupL : sTupleOf [.list ds] Φ = Φ (.dat (.tuple ds)) := by simp [sTupleOf]
theorem r_sIntB {k : Bool} : sIntB [.bool k] Φ = Φ (.dat (.int (if k then 1 else 0))) := by simp [sIntB]
theorem r_isB {k : Bool} {Θ : Bool → Prop} : isB (.dat (.bool k)) Θ = Θ k := by simp [isB]
theorem r_rev : sRev (.list ds) Φ = Φ (.lst ds.reverse) := by simp [sRev]
theorem r_neg : sNeg (.int i) Φ = Φ (.dat (.int (-i))) := by simp [sNeg]
theorem r_part {w : WE} {ρ : Rho} {Θ : Option Int → Prop} {Ξ : Exn → Prop} : wPart w ρ Θ Ξ = w ρ (fun r => ∃ i, r = .dat (.int i) ∧ Θ (some i)) Ξ := rfl
theorem r_at0 : atI (x :: ds) 0 = some x := atI_nat (j := 0) rfl
theorem r_at1 : atI (x :: y :: ds) 1 = some y := atI_nat (j := 1) rfl
theorem r_at2 : atI (x :: y :: z :: ds) 2 = some z := atI_nat (j := 2) rfl
theorem r_at3 : atI (x :: y :: z :: u :: ds) 3 = some u := atI_nat (j := 3) rfl
theorem r_ex {p : PyData → Prop} : (∃ d, some x = some d ∧ p d) = p x := by simp
theorem r_exr {p : PyData → Prop} : (∃ d, some (Ent.dat x) = some (Ent.dat d) ∧ p d) = p x := by simp
theorem r_exl {p : List PyData → Prop} : (∃ d, some (Ent.ls ds) = some (Ent.ls d) ∧ p d) = p ds := by simp
theorem r_ext {p : List PyData → Prop} : (∃ d, PyData.tuple ds = PyData.tuple d ∧ p d) = p ds := by simp
theorem r_exL {p : List PyData → Prop} : (∃ d, PyData.list ds = PyData.list d ∧ p d) = p ds := by simp
theorem r_exi {p : Int → Prop} : (∃ k, Res.dat (PyData.int i) = Res.dat (PyData.int k) ∧ p k) = p i := by simp
theorem r_exI {p : Int → Prop} : (∃ k, ([PyData.int i] : List PyData) = [PyData.int k] ∧ p k) = p i := by simp
theorem r_exII {p : Int → Int → Prop} : (∃ k l, ([PyData.int i, PyData.int j] : List PyData) = [PyData.int k, PyData.int l] ∧ p k l) = p i j := by simp [and_assoc]
theorem r_fd : (Res.dat x).frz = x := rfl
theorem r_fl : (Res.lst ds).frz = .list ds := rfl
theorem r_ed : (Res.dat x).ent = .dat x := rfl
theorem r_el : (Res.lst ds).ent = .ls ds := rfl
theorem r_sEq : sEq x y Φ = (SeqAt.shaped x = true ∧ SeqAt.shaped y = true ∧ Φ (.dat (.bool (PyData.eqv x y)))) := rfl
theorem r_sNe : sNe x y Φ = (SeqAt.shaped x = true ∧ SeqAt.shaped y = true ∧ Φ (.dat (.bool (!PyData.eqv x y)))) := rfl
theorem n_none : isNone .none = true := rfl
theorem n_int : isNone (.int i) = false := rfl
theorem n_tuple : isNone (.tuple ds) = false := rfl
theorem n_list : isNone (.list ds) = false := rfl
theorem n_str {s : Str} : isNone (.str s) = false := rfl
theorem v_str {s t : Str} : PyData.eqv (.str s) (.str t) = (s == t) := by rw [PyData.eqv]
theorem v_int : PyData.eqv (.int i) (.int j) = (i == j) := by rw [PyData.eqv]
theorem v_noneint : PyData.eqv .none (.int j) = false := by rw [PyData.eqv]
theorem v_intnone : PyData.eqv (.int i) .none = false := by rw [PyData.eqv]
theorem v_none : PyData.eqv .none .none = true := by rw [PyData.eqv]
theorem h_int : SeqAt.shaped (.int i) = true := rfl
theorem h_none : SeqAt.shaped .none = true := rfl
theorem h_bool {k : Bool} : SeqAt.shaped (.bool k) = true := rfl
end
/-! ### comprehensions that filter and map -/
theorem lcR_fm {tgt : Tgt} {vs : List Nat} {wt : WT} {w : WE} {lo : Int} {n : Nat} {ρ : Rho} {Φ : Res → Prop} (p : Nat → Bool) (g : Nat → PyData) (hn : noRow ρ vs = true) (hz : n ≤ 50000)
    (h : ∀ (i : Nat), i < n → ∀ (A : PyData → Prop) (B : Prop), (p i = true → A (g i)) → (p i = false → B) → bindT tgt (.int (lo + (i : Nat))) (wipeE ρ vs) (fun ρ2 => wt ρ2 (fun k => if k = true then w ρ2 (fun r => A r.frz) (fun _ => False) else B) (fun _ => False)))
    (hΦ : Φ (.lst (((List.range n).filter p).map g))) : LcR tgt vs wt w lo n ρ Φ := by
  refine ⟨hn, fun i acc => acc = ((List.range i).filter p).map g, rfl, fun i hi acc ha => ⟨?_, ?_⟩, fun acc ha => by rw [ha]; exact hΦ⟩
  · have h1 := List.length_filter_le p (List.range i)
    rw [List.length_range] at h1
    rw [ha, List.length_map]
    omega
  · refine h i hi (fun z => acc ++ [z] = ((List.range (i + 1)).filter p).map g) (acc = ((List.range (i + 1)).filter p).map g) (fun hp => ?_) (fun hp => ?_)
    · show acc ++ [g i] = _
      rw [List.range_succ, List.filter_append, List.map_append, List.filter_cons, if_pos hp, ha]
      rfl
    · rw [List.range_succ, List.filter_append, List.map_append, List.filter_cons, if_neg (by rw [hp]; decide), ha]
      show _ = _ ++ []
      rw [List.append_nil]
theorem lcI_fm {tgt : Tgt} {vs : List Nat} {wt : WT} {w : WE} {ds : List PyData} {ρ : Rho} {Φ : Res → Prop} (p : PyData → Bool) (g : PyData → PyData) (hn : noRow ρ vs = true) (hz : ds.length ≤ 50000)
    (h : ∀ d, d ∈ ds → ∀ (A : PyData → Prop) (B : Prop), (p d = true → A (g d)) → (p d = false → B) → bindT tgt d (wipeE ρ vs) (fun ρ2 => wt ρ2 (fun k => if k = true then w ρ2 (fun r => A r.frz) (fun _ => False) else B) (fun _ => False)))
    (hΦ : Φ (.lst ((ds.filter p).map g))) : LcI tgt vs wt w ds ρ Φ := by
  refine ⟨hn, fun i acc => acc = ((ds.take i).filter p).map g, rfl, fun i d hd acc ha => ⟨?_, ?_⟩, fun acc ha => by rw [ha, List.take_length]; exact hΦ⟩
  · have h1 := List.length_filter_le p (ds.take i)
    have h2 := List.length_take_le i ds
    have h3 : i < ds.length := (List.getElem?_eq_some_iff.mp hd).1
    rw [List.length_take] at h1
    rw [ha, List.length_map]
    omega
  · refine h d (List.mem_of_getElem? hd) (fun z => acc ++ [z] = ((ds.take (i + 1)).filter p).map g) (acc = ((ds.take (i + 1)).filter p).map g) (fun hp => ?_) (fun hp => ?_)
    · show acc ++ [g d] = _
      rw [List.take_add_one, hd, List.filter_append, List.map_append, ha]
      show _ = _ ++ (List.filter p [d]).map g
      rw [List.filter_cons, if_pos hp]
      rfl
    · rw [List.take_add_one, hd, List.filter_append, List.map_append, ha]
      show _ = _ ++ (List.filter p [d]).map g
      rw [List.filter_cons, if_neg (by rw [hp]; decide)]
      show _ = _ ++ []
      rw [List.append_nil]
/-- a promise that tells a value; one that tells what holds of it -/
def mkT {α : Type} (enc : α → List PyData) (pre : α → Prop) (F : α → Res) : Tf := fun ds Φ _ => ∃ a : α, ds = enc a ∧ pre a ∧ Φ (F a)
def mkTR {α : Type} (enc : α → List PyData) (pre : α → Prop) (post : α → Res → Prop) : Tf := fun ds Φ _ => ∃ a : α, ds = enc a ∧ pre a ∧ ∀ r, post a r → Φ r
end SF

/-! ## Files as plain data, and what is done with them -/
namespace SF
open PySem PySem.Spec PyProof.Rows L2
abbrev Lk := Option Nat
inductive Cell where
  | row (n : Nat) | free (l : Lk)
  deriving DecidableEq
structure File where
  head : Lk
  cells : List Cell
  deriving DecidableEq
abbrev sRow : Str := Str.ofString "row"
abbrev sFree : Str := Str.ofString "free"
def dL : Lk → PyData
  | none => .none
  | some i => .int (i : Int)
def dC : Cell → PyData
  | .row n => .tuple [.str sRow, .int (n : Int)]
  | .free l => .tuple [.str sFree, dL l]
theorem dL_none : dL none = .none := rfl
theorem dL_some {i : Nat} : dL (some i) = .int (i : Int) := rfl
theorem dC_row {n : Nat} : dC (.row n) = .tuple [.str sRow, .int (n : Int)] := rfl
theorem dC_free {l : Lk} : dC (.free l) = .tuple [.str sFree, dL l] := rfl
def dF (f : File) : PyData := .tuple [dL f.head, .tuple (f.cells.map dC)]
def linkOk (n : Nat) : Lk → Bool
  | none => true
  | some i => decide (i < n)
def cellOk (n : Nat) : Cell → Bool
  | .row k => decide (k ≤ 999)
  | .free l => linkOk n l
/-- what need_file lets by -/
structure Fine (f : File) : Prop where
  head : linkOk f.cells.length f.head = true
  few : f.cells.length ≤ 12
  cells : ∀ c ∈ f.cells, cellOk f.cells.length c = true
def isRow : Cell → Bool
  | .row _ => true
  | .free _ => false
def dWhat : Cell → PyData
  | .row n => .int (n : Int)
  | .free l => dL l
def wordOf : Cell → Str
  | .row _ => sRow
  | .free _ => sFree
theorem dC_eq (c : Cell) : dC c = .tuple [.str (wordOf c), dWhat c] := by cases c <;> rfl
def dNat (n : Nat) : PyData := .int (n : Int)
def dNats (l : List Nat) : PyData := .list (l.map dNat)
/-- the places that hold a row, that are free -/
def rowAt (cs : List Cell) (i : Nat) : Bool := match cs[i]? with
  | some (.row _) => true
  | _ => false
def freeAt (cs : List Cell) (i : Nat) : Bool := match cs[i]? with
  | some (.free _) => true
  | _ => false
def numAt (cs : List Cell) (i : Nat) : Nat := match cs[i]? with
  | some (.row n) => n
  | _ => 0
def rowsL (cs : List Cell) : List Nat := (List.range cs.length).filter (rowAt cs)
def freeL (cs : List Cell) : List Nat := (List.range cs.length).filter (freeAt cs)
def dRow (cs : List Cell) (i : Nat) : PyData := .tuple [dNat i, dNat (numAt cs i)]
def dRows (cs : List Cell) : PyData := .list ((rowsL cs).map (dRow cs))
/-- along the chain: the places gone through, and where one stands -/
def walk (cs : List Cell) : Nat → List Nat → Lk → List Nat × Lk
  | 0, found, l => (found, l)
  | _ + 1, found, none => (found, none)
  | k + 1, found, some p => match cs[p]? with
    | some (.free l) => if found.contains p = true then (found, some p) else walk cs k (found ++ [p]) l
    | _ => (found, some p)
def gone (f : File) : List Nat × Lk := walk f.cells (f.cells.length + 1) [] f.head
def chain (f : File) : List Nat := (gone f).1
def stop (f : File) : Lk := (gone f).2
def endWord (f : File) : Str := match stop f with
  | none => Str.ofString "end"
  | some p => match f.cells[p]? with
    | some (.free _) => Str.ofString "ring"
    | _ => Str.ofString "row"
def looseL (f : File) : List Nat := (freeL f.cells).filter fun p => !(chain f).contains p
abbrev sWhole : Str := Str.ofString "whole"
def word (f : File) : Str := if stop f ≠ none then Str.ofString "broken" else if looseL f ≠ [] then Str.ofString "loose" else sWhole
def whole (f : File) : Bool := decide (stop f = none) && decide (looseL f = [])
theorem word_whole (f : File) : (word f == sWhole) = whole f := by
  unfold word whole
  by_cases h : stop f = none
  · rw [if_neg (fun q => q h), decide_eq_true h]
    by_cases h2 : looseL f = []
    · rw [if_neg (fun q => q h2), decide_eq_true h2]
      decide +kernel
    · rw [if_pos h2, decide_eq_false h2]
      decide +kernel
  · rw [if_pos h, decide_eq_false h, Bool.false_and]
    decide +kernel
def dChecked (f : File) : PyData := .tuple [.str (word f), dRows f.cells, dNats (chain f), dNats (looseL f)]
/-- a chain of some places, in order -/
def relink (cs : List Cell) : List Nat → List Cell
  | [] => cs
  | p :: ps => relink (cs.set p (.free ps.head?)) ps
def mendF (f : File) : File := if whole f = true then f else ⟨(freeL f.cells).head?, relink f.cells (freeL f.cells)⟩
inductive What where
  | link (l : Lk) | cell (c : Cell)
  deriving DecidableEq
abbrev Write := Lk × What
def dWh : What → PyData
  | .link l => dL l
  | .cell c => dC c
def dW (w : Write) : PyData := .tuple [dL w.1, dWh w.2]
def dWs (ws : List Write) : List PyData := ws.map dW
/-- the places where two lists of cells differ -/
def diffs (a b : List Cell) (n : Nat) : List Write := ((List.range n).filter fun i => decide (a[i]? ≠ b[i]?)).map fun i => (some i, .cell (a.getD i (.row 0)))
def mendsF (f : File) : List Write := if whole f = true then [] else [(none, .link none)] ++ diffs (mendF f).cells f.cells (mendF f).cells.length ++ [(none, .link (mendF f).head)]
/-! ### facts -/
theorem relink_len : ∀ (ps : List Nat) (cs : List Cell), (relink cs ps).length = cs.length
  | [], _ => rfl
  | p :: ps, cs => by rw [relink, relink_len ps, List.length_set]
theorem mendF_len (f : File) : (mendF f).cells.length = f.cells.length := by
  unfold mendF
  split
  · rfl
  · exact relink_len _ _
theorem freeL_lt {cs : List Cell} {i : Nat} (h : i ∈ freeL cs) : i < cs.length := List.mem_range.mp (List.mem_filter.mp h).1
theorem freeL_head {cs : List Cell} : linkOk cs.length (freeL cs).head? = true := by
  cases e : freeL cs with
  | nil => rfl
  | cons p ps =>
    show decide (p < cs.length) = true
    exact decide_eq_true (freeL_lt (by rw [e]; exact List.mem_cons_self))
theorem relink_ok {n : Nat} : ∀ (ps : List Nat) (cs : List Cell), (∀ p ∈ ps, p < n) → (∀ c ∈ cs, cellOk n c = true) → ∀ c ∈ relink cs ps, cellOk n c = true
  | [], cs, _, h => h
  | p :: ps, cs, hp, h => by
    rw [relink]
    refine relink_ok ps _ (fun q hq => hp q (List.mem_cons_of_mem _ hq)) fun c hc => ?_
    rcases List.mem_or_eq_of_mem_set hc with z | z
    · exact h c z
    · subst z
      show linkOk n ps.head? = true
      cases ps with
      | nil => rfl
      | cons q qs => exact decide_eq_true (hp q (List.mem_cons_of_mem _ List.mem_cons_self))
theorem mendF_fine {f : File} (h : Fine f) : Fine (mendF f) := by
  have hl := mendF_len f
  unfold mendF at hl ⊢
  split
  · exact h
  · rename_i hw
    rw [if_neg hw] at hl
    refine ⟨?_, ?_, ?_⟩
    · show linkOk (relink f.cells (freeL f.cells)).length (freeL f.cells).head? = true
      rw [relink_len]
      exact freeL_head
    · show (relink f.cells (freeL f.cells)).length ≤ 12
      rw [relink_len]
      exact h.few
    · show ∀ c ∈ relink f.cells (freeL f.cells), cellOk (relink f.cells (freeL f.cells)).length c = true
      rw [relink_len]
      exact relink_ok _ _ (fun p hp => freeL_lt hp) h.cells
/-! the walk along the chain -/
/-- places told so far: each once, each free -/
def Told (cs : List Cell) (found : List Nat) : Prop := found.Nodup ∧ ∀ p ∈ found, p < cs.length
theorem Told.len {cs : List Cell} {found : List Nat} (h : Told cs found) : found.length ≤ cs.length := by
  have h2 := List.Nodup.length_le_of_subset h.1 (l₂ := List.range cs.length) fun p hp => List.mem_range.mpr (h.2 p hp)
  rwa [List.length_range] at h2
/-! ### shapes -/
def Shp (n : Nat) (d : PyData) : Prop := d.canLay0 = true ∧ d.depth ≤ n
theorem Shp.shaped {n : Nat} {d : PyData} (h : Shp n d) (hn : n ≤ 64) : SeqAt.shaped d = true := by
  unfold SeqAt.shaped
  rw [h.1, decide_eq_true (Nat.le_trans h.2 hn)]
  rfl
theorem Shp.mono {n m : Nat} {d : PyData} (h : Shp n d) (hn : n ≤ m) : Shp m d := ⟨h.1, Nat.le_trans h.2 hn⟩
theorem canAll : ∀ {ds : List PyData}, (∀ d ∈ ds, d.canLay0 = true) → PyData.canLayAll0 ds = true
  | [], _ => by rw [PyData.canLayAll0]
  | d :: ds, h => by
    rw [PyData.canLayAll0, h d List.mem_cons_self, canAll fun e he => h e (List.mem_cons_of_mem _ he)]
    rfl
theorem depAll {n : Nat} : ∀ {ds : List PyData}, (∀ d ∈ ds, d.depth ≤ n) → PyData.depthAll ds ≤ n
  | [], _ => by rw [PyData.depthAll]; exact Nat.zero_le _
  | d :: ds, h => by
    rw [PyData.depthAll]
    exact Nat.max_le.mpr ⟨h d List.mem_cons_self, depAll fun e he => h e (List.mem_cons_of_mem _ he)⟩
theorem Shp.tuple {n : Nat} {ds : List PyData} (h : ∀ d ∈ ds, Shp n d) : Shp (n + 1) (.tuple ds) := by
  refine ⟨?_, ?_⟩
  · rw [PyData.canLay0]
    exact canAll fun d hd => (h d hd).1
  · rw [PyData.depth]
    exact Nat.succ_le_succ (depAll fun d hd => (h d hd).2)
theorem Shp.list {n : Nat} {ds : List PyData} (h : ∀ d ∈ ds, Shp n d) : Shp (n + 1) (.list ds) := by
  refine ⟨?_, ?_⟩
  · rw [PyData.canLay0]
    exact canAll fun d hd => (h d hd).1
  · rw [PyData.depth]
    exact Nat.succ_le_succ (depAll fun d hd => (h d hd).2)
theorem Shp.none {n : Nat} : Shp n .none := ⟨by rw [PyData.canLay0], by rw [PyData.depth]; exact Nat.zero_le _⟩
theorem Shp.int {n : Nat} {i : Int} : Shp n (.int i) := ⟨by rw [PyData.canLay0], by rw [PyData.depth]; exact Nat.zero_le _⟩
theorem Shp.bool {n : Nat} {i : Bool} : Shp n (.bool i) := ⟨by rw [PyData.canLay0], by rw [PyData.depth]; exact Nat.zero_le _⟩
theorem Shp.str {n : Nat} {x : Str} (h : PyData.strOk x = true) : Shp n (.str x) := ⟨by rw [PyData.canLay0]; exact h, by rw [PyData.depth]; exact Nat.zero_le _⟩
theorem Shp.tup2 {n : Nat} {a b : PyData} (ha : Shp n a) (hb : Shp n b) : Shp (n + 1) (.tuple [a, b]) := .tuple fun d hd => by
  rcases List.mem_cons.mp hd with e | e
  · rw [e]; exact ha
  · rw [List.mem_singleton.mp e]; exact hb
theorem shp_dL {n : Nat} {l : Lk} : Shp n (dL l) := by
  cases l with
  | none => exact .none
  | some i => exact .int
theorem shp_dC (c : Cell) : Shp 1 (dC c) := by
  cases c with
  | row n => exact .tup2 (.str (by decide +kernel)) .int
  | free l => exact .tup2 (.str (by decide +kernel)) shp_dL
theorem shp_cells (cs : List Cell) : Shp 2 (.tuple (cs.map dC)) := .tuple fun d hd => by
  obtain ⟨c, _, rfl⟩ := List.mem_map.mp hd
  exact shp_dC c
theorem shp_dF (f : File) : Shp 3 (dF f) := .tup2 (shp_dL.mono (Nat.zero_le _)) (shp_cells _)
theorem shp_ints (l : List Nat) : Shp 1 (dNats l) := .list fun d hd => by
  obtain ⟨c, _, rfl⟩ := List.mem_map.mp hd
  exact .int
theorem shp_dWh (w : What) : Shp 1 (dWh w) := by
  cases w with
  | link l => exact shp_dL
  | cell c => exact shp_dC c
theorem shp_dW (w : Write) : Shp 2 (dW w) := .tup2 (shp_dL.mono (Nat.zero_le _)) (shp_dWh _)
theorem h_str {x : Str} (h : PyData.strOk x = true) : SeqAt.shaped (.str x) = true := (Shp.str (n := 0) h).shaped (by decide)
theorem h_row : SeqAt.shaped (.str sRow) = true := h_str (by decide +kernel)
theorem h_free : SeqAt.shaped (.str sFree) = true := h_str (by decide +kernel)
theorem h_dL {l : Lk} : SeqAt.shaped (dL l) = true := (shp_dL (n := 0)).shaped (by decide)
theorem h_word (c : Cell) : SeqAt.shaped (.str (wordOf c)) = true := by cases c <;> first | exact h_row | exact h_free
theorem w_rr : (sRow == sRow) = true := by decide +kernel
theorem w_fr : (sFree == sRow) = false := by decide +kernel
theorem w_rf : (sRow == sFree) = false := by decide +kernel
theorem w_ff : (sFree == sFree) = true := by decide +kernel
theorem w_row (c : Cell) : (wordOf c == sRow) = isRow c := by
  cases c with
  | row n => exact w_rr
  | free l => exact w_fr
theorem w_free (c : Cell) : (wordOf c == sFree) = !isRow c := by
  cases c with
  | row n => exact w_rf
  | free l => exact w_ff
/-! ### items -/
theorem atC {cs : List Cell} {i : Nat} {c : Cell} (h : cs[i]? = some c) : atI (cs.map dC) ((i : Nat) : Int) = some (dC c) := atI_nat (by rw [List.getElem?_map, h]; rfl)
theorem atN {l : List Nat} {i : Nat} {c : Nat} (h : l[i]? = some c) : atI (l.map dNat) ((i : Nat) : Int) = some (dNat c) := atI_nat (by rw [List.getElem?_map, h]; rfl)
theorem Fine.at {f : File} (h : Fine f) {i : Nat} (hi : i < f.cells.length) : ∃ c, f.cells[i]? = some c ∧ cellOk f.cells.length c = true :=
  ⟨f.cells[i], List.getElem?_eq_getElem hi, h.cells _ (List.getElem_mem hi)⟩
theorem lt_cast {i n : Nat} : decide ((i : Int) < (n : Int)) = decide (i < n) := by
  rw [Bool.eq_iff_iff, decide_eq_true_iff, decide_eq_true_iff]
  omega
theorem le_cast {i n : Nat} : decide ((i : Int) ≤ (n : Int)) = decide (i ≤ n) := by
  rw [Bool.eq_iff_iff, decide_eq_true_iff, decide_eq_true_iff]
  omega
theorem nn {i : Nat} : decide ((0 : Int) ≤ (i : Int)) = true := decide_eq_true (by omega)
theorem eq_cast {i j : Nat} : ((i : Int) == (j : Int)) = decide (i = j) := by
  rw [Bool.eq_iff_iff, beq_iff_eq, decide_eq_true_iff]
  omega
theorem contains_dNat {l : List Nat} {p : Nat} : ((l.map dNat).any fun z => PyData.eqv z (.int (p : Int))) = l.contains p := by
  induction l with
  | nil => rfl
  | cons a r ih =>
    rw [List.map_cons, List.any_cons, ih, List.contains_cons]
    congr 1
    show PyData.eqv (.int (a : Int)) (.int (p : Int)) = _
    rw [PyData.eqv, eq_cast, Bool.eq_iff_iff, decide_eq_true_iff, beq_iff_eq]
    exact eq_comm
theorem ixN_of {n j : Nat} (h : j < n) : ixN n ((j : Nat) : Int) = some j := by
  unfold ixN
  rw [if_pos (by omega), if_pos (by omega), Int.toNat_natCast]
theorem v_nil {α : Type} {g : α → PyData} {l : List α} : PyData.eqv (.list (l.map g)) (.list []) = l.isEmpty := by
  cases l with
  | nil => rfl
  | cons a r => rfl
theorem h_nil : SeqAt.shaped (.list []) = true := rfl
theorem cast1 {i : Nat} : ((i : Int) + 1) = ((i + 1 : Nat) : Int) := by omega
theorem v_dL {a b : Lk} : PyData.eqv (dL a) (dL b) = decide (a = b) := by
  cases a <;> cases b
  · rfl
  · rfl
  · rfl
  · rename_i x y
    show PyData.eqv (.int (x : Int)) (.int (y : Int)) = _
    rw [PyData.eqv, eq_cast, Bool.eq_iff_iff, decide_eq_true_iff, decide_eq_true_iff]
    exact ⟨fun e => by rw [e], fun e => Option.some.inj e⟩
theorem v_dC {a b : Cell} : PyData.eqv (dC a) (dC b) = decide (a = b) := by
  cases a <;> cases b
  · rename_i x y
    show PyData.eqv (.tuple [.str sRow, .int (x : Int)]) (.tuple [.str sRow, .int (y : Int)]) = _
    simp only [PyData.eqv, PyData.eqvAll, w_rr, eq_cast, Bool.true_and, Bool.and_true]
    rw [Bool.eq_iff_iff, decide_eq_true_iff, decide_eq_true_iff]
    exact ⟨fun e => by rw [e], fun e => by cases e; rfl⟩
  · show PyData.eqv (.tuple [.str sRow, _]) (.tuple [.str sFree, _]) = _
    simp only [PyData.eqv, PyData.eqvAll, w_rf, Bool.false_and]
    exact (decide_eq_false (fun z => by cases z)).symm
  · show PyData.eqv (.tuple [.str sFree, _]) (.tuple [.str sRow, _]) = _
    simp only [PyData.eqv, PyData.eqvAll, w_fr, Bool.false_and]
    exact (decide_eq_false (fun z => by cases z)).symm
  · rename_i x y
    show PyData.eqv (.tuple [.str sFree, dL x]) (.tuple [.str sFree, dL y]) = _
    simp only [PyData.eqv, PyData.eqvAll, w_ff, v_dL, Bool.true_and, Bool.and_true]
    rw [Bool.eq_iff_iff, decide_eq_true_iff, decide_eq_true_iff]
    exact ⟨fun e => by rw [e], fun e => by cases e; rfl⟩
theorem v_mapD {α : Type} [DecidableEq α] {g : α → PyData} (h : ∀ a b, PyData.eqv (g a) (g b) = decide (a = b)) : ∀ {l m : List α}, PyData.eqvAll (l.map g) (m.map g) = decide (l = m)
  | [], [] => rfl
  | [], b :: m => by
    rw [decide_eq_false (fun z => by cases z)]
    rfl
  | a :: l, [] => by
    rw [decide_eq_false (fun z => by cases z)]
    rfl
  | a :: l, b :: m => by
    rw [List.map_cons, List.map_cons, PyData.eqvAll, h, v_mapD h, Bool.eq_iff_iff, Bool.and_eq_true, decide_eq_true_iff, decide_eq_true_iff, decide_eq_true_iff]
    exact ⟨fun ⟨x, y⟩ => by rw [x, y], fun z => by cases z; exact ⟨rfl, rfl⟩⟩
theorem v_dF {a b : File} : PyData.eqv (dF a) (dF b) = decide (a = b) := by
  unfold dF
  rw [PyData.eqv, PyData.eqvAll, PyData.eqvAll, PyData.eqvAll, v_dL, PyData.eqv, v_mapD (fun x y => v_dC), Bool.and_true, Bool.eq_iff_iff, Bool.and_eq_true, decide_eq_true_iff, decide_eq_true_iff, decide_eq_true_iff]
  cases a
  cases b
  exact ⟨fun ⟨x, y⟩ => by simp only at x y; rw [x, y], fun z => by cases z; exact ⟨rfl, rfl⟩⟩
theorem h_dC (c : Cell) : SeqAt.shaped (dC c) = true := (shp_dC c).shaped (by decide)
theorem h_dF (f : File) : SeqAt.shaped (dF f) = true := (shp_dF f).shaped (by decide)
theorem diffs_succ {a b : List Cell} {i : Nat} {c d : Cell} (ha : a[i]? = some c) (hb : b[i]? = some d) : diffs a b (i + 1) = diffs a b i ++ if c = d then [] else [(some i, .cell c)] := by
  unfold diffs
  rw [List.range_succ, List.filter_append, List.map_append]
  congr 1
  rw [List.filter_cons, ha, hb]
  by_cases e : c = d
  · subst e
    rw [if_pos rfl, if_neg (by simp)]
    rfl
  · rw [if_neg e, if_pos (by simpa using e)]
    have hi : i < a.length := (List.getElem?_eq_some_iff.mp ha).1
    show [(some i, What.cell (a.getD i (.row 0)))] = _
    rw [List.getD_eq_getElem?_getD, ha]
    rfl
theorem diffs_len {a b : List Cell} {n : Nat} : (diffs a b n).length ≤ n := by
  unfold diffs
  rw [List.length_map]
  have := List.length_filter_le (fun i => decide (a[i]? ≠ b[i]?)) (List.range n)
  rw [List.length_range] at this
  exact this
/-! ## Deeds -/
abbrev Rule := Bool × Bool
abbrev sHead : Str := Str.ofString "head"
abbrev sSlot : Str := Str.ofString "slot"
def dWd : Bool → PyData
  | true => .str sHead
  | false => .str sSlot
def dRule (r : Rule) : PyData := .tuple [dWd r.1, dWd r.2]
abbrev sTake : Str := Str.ofString "take"
abbrev sGive : Str := Str.ofString "give"
abbrev sMend : Str := Str.ofString "mend"
inductive Deed where
  | take (n : Int) | give (p : Int) | mend | other (w : Str) (n : Int)
  deriving DecidableEq
def dDeed : Deed → PyData
  | .take n => .tuple [.str sTake, .int n]
  | .give n => .tuple [.str sGive, .int n]
  | .mend => .tuple [.str sMend]
  | .other w n => .tuple [.str w, .int n]
def deedOk : Deed → Bool
  | .other w _ => PyData.strOk w && !(w == sTake) && !(w == sGive) && !(w == sMend)
  | _ => true
def inOrder (b : Bool) (h s : Write) : List Write := if b = true then [h, s] else [s, h]
def freeLk (cs : List Cell) (h : Nat) : Lk := match cs[h]? with
  | some (.free l) => l
  | _ => none
def takeW (f : File) (r : Rule) (room n : Nat) : Option (List Write) := match f.head with
  | none => if f.cells.length < room then some [(some f.cells.length, .cell (.row n))] else none
  | some h => some (inOrder r.1 (none, .link (freeLk f.cells h)) (some h, .cell (.row n)))
def writesF (f : File) (r : Rule) (room : Nat) : Deed → Option (List Write)
  | .mend => some (mendsF f)
  | .take n => if 0 ≤ n ∧ n ≤ 999 then takeW f r room n.toNat else none
  | .give p => if 0 ≤ p ∧ p < (f.cells.length : Int) ∧ rowAt f.cells p.toNat = true then some (inOrder r.2 (none, .link (some p.toNat)) (some p.toNat, .cell (.free f.head))) else none
  | .other _ _ => none
def optW : Option (List Write) → Res
  | none => .dat .none
  | some ws => .lst (ws.map dW)
def put (f : File) : Write → File
  | (none, .link l) => ⟨l, f.cells⟩
  | (some p, .cell c) => if p = f.cells.length then ⟨f.head, f.cells ++ [c]⟩ else ⟨f.head, f.cells.set p c⟩
  | _ => f
theorem put_cell {f : File} {p : Nat} {c : Cell} : put f (some p, .cell c) = if p = f.cells.length then ⟨f.head, f.cells ++ [c]⟩ else ⟨f.head, f.cells.set p c⟩ := rfl
theorem put_link {f : File} {l : Lk} : put f (none, .link l) = ⟨l, f.cells⟩ := rfl
/-- a write that can be done upon n cells -/
def wOk (n : Nat) : Write → Bool
  | (none, .link l) => linkOk n l
  | (some p, .cell c) => decide (p < n) && cellOk n c
  | _ => false
/-- .. or a row behind the last one -/
def wEnd (n : Nat) : Write → Bool
  | (some p, .cell (.row k)) => decide (p = n) && decide (n < 12) && decide (k ≤ 999)
  | _ => false
theorem linkOk_mono {n m : Nat} (h : n ≤ m) {l : Lk} (k : linkOk n l = true) : linkOk m l = true := by
  cases l with
  | none => rfl
  | some i => exact decide_eq_true (Nat.lt_of_lt_of_le (of_decide_eq_true k) h)
theorem cellOk_mono {n m : Nat} (h : n ≤ m) {c : Cell} (k : cellOk n c = true) : cellOk m c = true := by
  cases c with
  | row n => exact k
  | free l => exact linkOk_mono h k
theorem put_fine {f : File} {w : Write} (h : Fine f) (hw : wOk f.cells.length w = true) : Fine (put f w) ∧ (put f w).cells.length = f.cells.length := by
  obtain ⟨p, q⟩ := w
  cases p with
  | none =>
    cases q with
    | link l => exact ⟨⟨hw, h.few, h.cells⟩, rfl⟩
    | cell c => cases hw
  | some p =>
    cases q with
    | link l => cases hw
    | cell c =>
      have hw : (decide (p < f.cells.length) && cellOk f.cells.length c) = true := hw
      rw [Bool.and_eq_true, decide_eq_true_iff] at hw
      have e : put f (some p, .cell c) = ⟨f.head, f.cells.set p c⟩ := by
        rw [put_cell, if_neg (by omega)]
      rw [e]
      refine ⟨⟨?_, ?_, ?_⟩, ?_⟩
      · show linkOk (f.cells.set p c).length f.head = true
        rw [List.length_set]
        exact h.head
      · show (f.cells.set p c).length ≤ 12
        rw [List.length_set]
        exact h.few
      · show ∀ d ∈ f.cells.set p c, cellOk (f.cells.set p c).length d = true
        rw [List.length_set]
        intro d hd
        rcases List.mem_or_eq_of_mem_set hd with z | z
        · exact h.cells d z
        · rw [z]; exact hw.2
      · show (f.cells.set p c).length = _
        rw [List.length_set]
theorem putEnd_fine {f : File} {w : Write} (h : Fine f) (hw : wEnd f.cells.length w = true) : Fine (put f w) ∧ (put f w).cells.length = f.cells.length + 1 := by
  obtain ⟨p, q⟩ := w
  cases p with
  | none => cases q <;> cases hw
  | some p =>
    cases q with
    | link l => cases hw
    | cell c =>
      cases c with
      | free l => cases hw
      | row k =>
        have hw : (decide (p = f.cells.length) && decide (f.cells.length < 12) && decide (k ≤ 999)) = true := hw
        rw [Bool.and_eq_true, Bool.and_eq_true, decide_eq_true_iff, decide_eq_true_iff, decide_eq_true_iff] at hw
        obtain ⟨⟨e1, e2⟩, e3⟩ := hw
        have e : put f (some p, .cell (.row k)) = ⟨f.head, f.cells ++ [.row k]⟩ := by
          rw [put_cell, if_pos e1]
        rw [e]
        have el : (f.cells ++ [Cell.row k]).length = f.cells.length + 1 := by rw [List.length_append]; rfl
        refine ⟨⟨?_, ?_, ?_⟩, el⟩
        · show linkOk (f.cells ++ [Cell.row k]).length f.head = true
          rw [el]
          exact linkOk_mono (Nat.le_succ _) h.head
        · show (f.cells ++ [Cell.row k]).length ≤ 12
          omega
        · show ∀ d ∈ f.cells ++ [Cell.row k], cellOk (f.cells ++ [Cell.row k]).length d = true
          rw [el]
          intro d hd
          rcases List.mem_append.mp hd with z | z
          · exact cellOk_mono (Nat.le_succ _) (h.cells d z)
          · rw [List.mem_singleton.mp z]
            exact decide_eq_true e3
/-- the writes of a deed upon n cells -/
def wsOk (n : Nat) (ws : List Write) : Prop := (∀ w ∈ ws, wOk n w = true) ∨ ∃ w, ws = [w] ∧ wEnd n w = true
theorem diffs_ok {a b : List Cell} {n m : Nat} (hl : a.length ≤ m) (h : ∀ c ∈ a, cellOk m c = true) (hn : n ≤ a.length) : ∀ w ∈ diffs a b n, wOk m w = true := fun w hw => by
  unfold diffs at hw
  obtain ⟨i, hi, rfl⟩ := List.mem_map.mp hw
  have hin : i < n := List.mem_range.mp (List.mem_filter.mp hi).1
  show (decide (i < m) && cellOk m (a.getD i (.row 0))) = true
  rw [Bool.and_eq_true, decide_eq_true_iff]
  refine ⟨by omega, ?_⟩
  rw [List.getD_eq_getElem?_getD, List.getElem?_eq_getElem (by omega)]
  exact h _ (List.getElem_mem _)
theorem mendsF_ok {f : File} (h : Fine f) : ∀ w ∈ mendsF f, wOk f.cells.length w = true := by
  unfold mendsF
  split
  · intro w hw
    cases hw
  · intro w hw
    have hf2 := mendF_fine h
    have hl := mendF_len f
    rcases List.mem_append.mp hw with z | z
    · rcases List.mem_append.mp z with y | y
      · rw [List.mem_singleton.mp y]
        rfl
      · exact diffs_ok (by omega) (by rw [← hl]; exact hf2.cells) (Nat.le_refl _) w y
    · rw [List.mem_singleton.mp z]
      show linkOk f.cells.length (mendF f).head = true
      rw [← hl]
      exact hf2.head
theorem freeLk_ok {f : File} (h : Fine f) (p : Nat) : linkOk f.cells.length (freeLk f.cells p) = true := by
  unfold freeLk
  cases e : f.cells[p]? with
  | none => rfl
  | some c =>
    cases c with
    | row n => rfl
    | free l => exact h.cells _ (List.mem_of_getElem? e)
theorem inOrder_mem {b : Bool} {h s w : Write} (hw : w ∈ inOrder b h s) : w = h ∨ w = s := by
  unfold inOrder at hw
  cases b with
  | true =>
    rw [if_pos rfl] at hw
    rcases List.mem_cons.mp hw with z | z
    · exact .inl z
    · exact .inr (List.mem_singleton.mp z)
  | false =>
    rw [if_neg (by decide)] at hw
    rcases List.mem_cons.mp hw with z | z
    · exact .inr z
    · exact .inl (List.mem_singleton.mp z)
theorem writesF_ok {f : File} {r : Rule} {room : Nat} {d : Deed} {ws : List Write} (h : Fine f) (hr : room ≤ 12) (e : writesF f r room d = some ws) : wsOk f.cells.length ws := by
  cases d with
  | mend =>
    cases e
    exact .inl (mendsF_ok h)
  | other w n => cases e
  | give p =>
    have e : (if 0 ≤ p ∧ p < (f.cells.length : Int) ∧ rowAt f.cells p.toNat = true then some (inOrder r.2 (none, .link (some p.toNat)) (some p.toNat, .cell (.free f.head))) else none) = some ws := e
    split at e
    · rename_i hp
      cases e
      refine .inl fun w hw => ?_
      rcases inOrder_mem hw with z | z
      · rw [z]
        exact decide_eq_true (by omega)
      · rw [z]
        show (decide (p.toNat < f.cells.length) && linkOk f.cells.length f.head) = true
        rw [h.head, Bool.and_true]
        exact decide_eq_true (by omega)
    · cases e
  | take n =>
    have e : (if 0 ≤ n ∧ n ≤ 999 then takeW f r room n.toNat else none) = some ws := e
    split at e
    · rename_i hn
      unfold takeW at e
      cases hh : f.head with
      | none =>
        rw [hh] at e
        have e : (if f.cells.length < room then some [((some f.cells.length, .cell (.row n.toNat)) : Write)] else none) = some ws := e
        split at e
        · cases e
          refine .inr ⟨_, rfl, ?_⟩
          show (decide (f.cells.length = f.cells.length) && decide (f.cells.length < 12) && decide (n.toNat ≤ 999)) = true
          rw [decide_eq_true rfl, decide_eq_true (by omega), decide_eq_true (by omega)]
          rfl
        · cases e
      | some p =>
        rw [hh] at e
        have e : some (inOrder r.1 (none, .link (freeLk f.cells p)) (some p, .cell (.row n.toNat))) = some ws := e
        cases e
        refine .inl fun w hw => ?_
        rcases inOrder_mem hw with z | z
        · rw [z]
          exact freeLk_ok h p
        · rw [z]
          have hd := h.head
          rw [hh] at hd
          show (decide (p < f.cells.length) && decide (n.toNat ≤ 999)) = true
          rw [show decide (p < f.cells.length) = true from hd, decide_eq_true (by omega)]
          rfl
    · cases e
theorem foldPut_fine : ∀ {ws : List Write} {f : File}, Fine f → (∀ w ∈ ws, wOk f.cells.length w = true) → Fine (ws.foldl put f) ∧ (ws.foldl put f).cells.length = f.cells.length
  | [], f, h, _ => ⟨h, rfl⟩
  | w :: ws, f, h, hw => by
    obtain ⟨h1, h2⟩ := put_fine h (hw w List.mem_cons_self)
    obtain ⟨h3, h4⟩ := foldPut_fine (ws := ws) h1 fun v hv => by rw [h2]; exact hw v (List.mem_cons_of_mem _ hv)
    exact ⟨h3, by rw [List.foldl_cons, h4, h2]⟩
abbrev Many := Option Int
def dMany : Many → PyData
  | none => .none
  | some i => .int i
abbrev Step := Deed × Many
def dStep (s : Step) : PyData := .tuple [dDeed s.1, dMany s.2]
def isOther : Deed → Bool
  | .other _ _ => true
  | _ => false
def doneF (f : File) (ws : List Write) : Many → Option File
  | none => some (ws.foldl put f)
  | some k => if 0 ≤ k ∧ k ≤ (ws.length : Int) then some ((ws.take k.toNat).foldl put f) else none
def steppedF (f : File) (r : Rule) (room : Nat) (s : Step) : Option File := match writesF f r room s.1 with
  | none => none
  | some ws => doneF f ws s.2
def playedF (f : File) (r : Rule) (room : Nat) : List Step → Option (List File)
  | [] => some []
  | s :: ss => match steppedF f r room s with
    | none => none
    | some g => (playedF g r room ss).map (g :: ·)
theorem wsOk_fold {f : File} {ws : List Write} (h : Fine f) (hw : wsOk f.cells.length ws) : Fine (ws.foldl put f) := by
  rcases hw with hw | ⟨w, rfl, hw⟩
  · exact (foldPut_fine h hw).1
  · exact (putEnd_fine h hw).1
theorem wsOk_take {n k : Nat} {ws : List Write} (hw : wsOk n ws) : wsOk n (ws.take k) := by
  rcases hw with hw | ⟨w, rfl, hw⟩
  · exact .inl fun w h => hw w (List.mem_of_mem_take h)
  · cases k with
    | zero => exact .inl fun w h => by simp at h
    | succ k => exact .inr ⟨w, by simp, hw⟩
theorem doneF_fine {f g : File} {ws : List Write} {m : Many} (h : Fine f) (hw : wsOk f.cells.length ws) (e : doneF f ws m = some g) : Fine g := by
  cases m with
  | none =>
    cases e
    exact wsOk_fold h hw
  | some k =>
    have e : (if 0 ≤ k ∧ k ≤ (ws.length : Int) then some ((ws.take k.toNat).foldl put f) else none) = some g := e
    split at e
    · cases e
      exact wsOk_fold h (wsOk_take hw)
    · cases e
theorem steppedF_fine {f g : File} {r : Rule} {room : Nat} {s : Step} (h : Fine f) (hr : room ≤ 12) (e : steppedF f r room s = some g) : Fine g := by
  unfold steppedF at e
  cases hw : writesF f r room s.1 with
  | none => rw [hw] at e; cases e
  | some ws =>
    rw [hw] at e
    exact doneF_fine h (writesF_ok h hr hw) e
theorem hs_row : SeqAt.shaped (.str (Str.ofString "row")) = true := h_str (by decide +kernel)
theorem ws_row : (Str.ofString "row" == Str.ofString "row") = true := by decide +kernel
theorem hs_free : SeqAt.shaped (.str (Str.ofString "free")) = true := h_str (by decide +kernel)
theorem ws_free : (Str.ofString "free" == Str.ofString "free") = true := by decide +kernel
theorem hs_head : SeqAt.shaped (.str (Str.ofString "head")) = true := h_str (by decide +kernel)
theorem ws_head : (Str.ofString "head" == Str.ofString "head") = true := by decide +kernel
theorem hs_slot : SeqAt.shaped (.str (Str.ofString "slot")) = true := h_str (by decide +kernel)
theorem ws_slot : (Str.ofString "slot" == Str.ofString "slot") = true := by decide +kernel
theorem hs_take : SeqAt.shaped (.str (Str.ofString "take")) = true := h_str (by decide +kernel)
theorem ws_take : (Str.ofString "take" == Str.ofString "take") = true := by decide +kernel
theorem hs_give : SeqAt.shaped (.str (Str.ofString "give")) = true := h_str (by decide +kernel)
theorem ws_give : (Str.ofString "give" == Str.ofString "give") = true := by decide +kernel
theorem hs_mend : SeqAt.shaped (.str (Str.ofString "mend")) = true := h_str (by decide +kernel)
theorem ws_mend : (Str.ofString "mend" == Str.ofString "mend") = true := by decide +kernel
theorem hs_whole : SeqAt.shaped (.str (Str.ofString "whole")) = true := h_str (by decide +kernel)
theorem ws_whole : (Str.ofString "whole" == Str.ofString "whole") = true := by decide +kernel
theorem hs_broken : SeqAt.shaped (.str (Str.ofString "broken")) = true := h_str (by decide +kernel)
theorem ws_broken : (Str.ofString "broken" == Str.ofString "broken") = true := by decide +kernel
theorem hs_loose : SeqAt.shaped (.str (Str.ofString "loose")) = true := h_str (by decide +kernel)
theorem ws_loose : (Str.ofString "loose" == Str.ofString "loose") = true := by decide +kernel
theorem hs_end : SeqAt.shaped (.str (Str.ofString "end")) = true := h_str (by decide +kernel)
theorem ws_end : (Str.ofString "end" == Str.ofString "end") = true := by decide +kernel
theorem hs_ring : SeqAt.shaped (.str (Str.ofString "ring")) = true := h_str (by decide +kernel)
theorem ws_ring : (Str.ofString "ring" == Str.ofString "ring") = true := by decide +kernel
theorem we_take_give : (Str.ofString "take" == Str.ofString "give") = false := by decide +kernel
theorem we_give_take : (Str.ofString "give" == Str.ofString "take") = false := by decide +kernel
theorem we_take_mend : (Str.ofString "take" == Str.ofString "mend") = false := by decide +kernel
theorem we_mend_take : (Str.ofString "mend" == Str.ofString "take") = false := by decide +kernel
theorem we_give_mend : (Str.ofString "give" == Str.ofString "mend") = false := by decide +kernel
theorem we_mend_give : (Str.ofString "mend" == Str.ofString "give") = false := by decide +kernel
theorem we_head_slot : (Str.ofString "head" == Str.ofString "slot") = false := by decide +kernel
theorem we_slot_head : (Str.ofString "slot" == Str.ofString "head") = false := by decide +kernel
theorem we_whole_broken : (Str.ofString "whole" == Str.ofString "broken") = false := by decide +kernel
theorem we_broken_whole : (Str.ofString "broken" == Str.ofString "whole") = false := by decide +kernel
theorem we_whole_loose : (Str.ofString "whole" == Str.ofString "loose") = false := by decide +kernel
theorem we_loose_whole : (Str.ofString "loose" == Str.ofString "whole") = false := by decide +kernel
theorem h_dWd {b : Bool} : SeqAt.shaped (dWd b) = true := by cases b; exact hs_slot; exact hs_head
theorem v_dWdH {b : Bool} : PyData.eqv (dWd b) (.str (Str.ofString "head")) = b := by
  cases b
  · show PyData.eqv (.str (Str.ofString "slot")) _ = _
    rw [v_str, we_slot_head]
  · show PyData.eqv (.str (Str.ofString "head")) _ = _
    rw [v_str, ws_head]
theorem sc_dWd {b : Bool} : isSc (dWd b) = true := by cases b <;> rfl
theorem in_firsts {b : Bool} : ([PyData.str (Str.ofString "head"), .str (Str.ofString "slot")].any fun z => PyData.eqv z (dWd b)) = true := by
  cases b
  · show (PyData.eqv (.str (Str.ofString "head")) (.str (Str.ofString "slot")) || (PyData.eqv (.str (Str.ofString "slot")) (.str (Str.ofString "slot")) || false)) = true
    rw [v_str, v_str, ws_slot]
    simp
  · show (PyData.eqv (.str (Str.ofString "head")) (.str (Str.ofString "head")) || _) = true
    rw [v_str, ws_head]
    rfl
theorem set_split {α : Type} : ∀ {l : List α} {p : Nat} {c : α}, p < l.length → l.take p ++ [c] ++ l.drop (p + 1) = l.set p c
  | [], p, c, h => by simp at h
  | a :: l, 0, c, h => rfl
  | a :: l, p + 1, c, h => by
    have ih := set_split (l := l) (p := p) (c := c) (by simpa using h)
    show a :: (l.take p ++ [c] ++ l.drop (p + 1)) = a :: l.set p c
    rw [ih]
theorem cut_to {α : Type} {l : List α} {p : Nat} (h : p ≤ l.length) : cutD l none (some (p : Int)) = l.take p := by
  unfold cutD
  rw [HT.sIx_nat, HT.sIx_none, Nat.min_eq_left h]
  simp
theorem cut_from {α : Type} {l : List α} {p : Nat} (h : p ≤ l.length) : cutD l (some (p : Int)) none = l.drop p := by
  unfold cutD
  rw [HT.sIx_nat, HT.sIx_none, Nat.min_eq_left h]
  exact List.take_of_length_le (by rw [List.length_drop]; exact Nat.le_refl _)
end SF

/-! ## The law's own def: its row is made first -/
namespace SF
open PySem PySem.Spec PyProof.Rows L2
def spL (K : PySem.W.Frag) : Sp := fun vs H Q _ => ∃ (a : Addr) (ns : List Int), vs = [.ref a] ∧ Only H ∧ SqL K H a (ns.map V.int) ∧ ∀ H', Q (.bl true) H'
section
variable {P : Program} {w : World} {K : PySem.W.Frag} {mg : Str → Option Value} {base : Heap}
theorem law_slot {n : Nat} {i : Nat} {u : Ent} (h : (Ent.no :: .row :: List.replicate n .no)[i]? = some u) : u = .no ∨ (i = 1 ∧ u = .row) := by
  match i with
  | 0 => cases h; exact .inl rfl
  | 1 => cases h; exact .inr ⟨rfl, rfl⟩
  | i + 2 =>
    have h : (List.replicate n Ent.no)[i]? = some u := by simpa using h
    exact .inl (List.eq_of_mem_replicate (List.mem_of_getElem? h))
theorem sat_law {n : Nat} {H : Hp} {a p : Addr} {ns : List Int} (ho : Only H) (hS : SqL K H a (ns.map V.int)) (hp : H p = none) : Sat K ⟨none, H, H⟩ (.no :: .row :: List.replicate n .no) (some (.ref a) :: some (.ref p) :: List.replicate n none) H (upd H p (.lst [.ref a, .int 0, .int 0])) where
  ex1 := .refl _
  ex2 := .new hp
  keep := fun b o h _ _ => Ex.new hp b o h
  tbl := .new hp
  there := fun b h => by
    rw [upd_ne (show b ≠ p from fun e => h (e ▸ hp))]
    exact h
  avoid := fun _ h _ => h
  mrow := fun _ h => by cases h
  mhe := fun _ h => by cases h
  len := by simp
  slot := fun i u o h1 h2 => by
    rcases law_slot h1 with rfl | ⟨rfl, rfl⟩
    · trivial
    · cases h2
      exact ⟨p, rfl, hp, a, ns, 0, 0, upd_same, ScrAt.of hS ho, Int.le_refl _, Int.le_refl _, by decide⟩
  own := fun i u l h1 hm h2 => by
    rcases law_slot h1 with rfl | ⟨rfl, rfl⟩
    · cases hm
    · cases h2
      exact .inl hp
  ne := fun i j u f l hne h1 h2 m1 m2 h3 => by
    rcases law_slot h1 with rfl | ⟨rfl, rfl⟩
    · cases m1
    · rcases law_slot h2 with rfl | ⟨rfl, rfl⟩
      · cases m2
      · exact absurd rfl hne
/-- THE RULE for the law -/
theorem okLaw {x qual : Str} {st : Stmt} {f : Addr} {fd : FuncData} {N : List Str} {k n : Nat} (F : Fun K x qual st f fd) (S : FnScope N ["_law_script"] (defScope st)) (hn : N.length = n + 2)
    (hbody : ∀ (cdv : Value) (A : Around) (outer : List Env) (s : Shared) (H : Hp) (E : XK), Room k (A.deeper (envOfC qual (defScope st) s.heap.objs.size f cdv)) →
      ∃ (st1 : Stmt) (rest : List Stmt) (wS : WS), defBody st = st1 :: rest ∧ PS (cxOf CX0 P w K mg base N qual (defScope st) f cdv A outer s H E).nox st1 (tAsg (tLst (tCons (tVar 0) (tCons (tC (.int 0)) (tCons (tC (.int 0)) tNil)))) (gName 1)) ∧
        PSsI (cxOf CX0 P w K mg base N qual (defScope st) f cdv A outer s H E).nox ⟨XR0, E⟩ rest wS ∧ wS (.no :: .row :: List.replicate n .no) (endP (fun r => r = .dat (.bool true)) (fun _ => False))) : FnOk P w K mg base CX0 (k + 1) f fd ["_law_script"] (spL K) :=
  F.ok S (fun vs H Q E ⟨a, ns, e, _⟩ => by rw [e]; rfl) fun cdv A outer s H vs Q E hr ⟨a, ns, e, ho, hS, q⟩ => by
    obtain ⟨st1, rest, wS, e1, h1, h2, hw⟩ := hbody cdv A outer s H E hr
    subst e
    rw [e1]
    refine ⟨_, pss_cons h1 h2, ?_⟩
    rw [start_len (n := n + 1) (by rw [hn]; show n + 2 = 1 + (n + 1); omega)]
    refine ⟨.ref a, rfl, (by show 3 ≤ sizeLine; decide), fun p hp => ?_⟩
    refine ⟨⟨none, H, H⟩, _, H, _, sat_law ho hS hp, hw, post_end (fun v r G' H' _ o e => ?_) fun _ _ _ _ _ _ _ h => h.elim⟩
    subst e
    have o : Im K G' (.bool true) v := o
    rw [im_bool] at o
    subst o
    exact q H'
end
end SF

/-! ## Chains, mending: plain laws -/
namespace SF
open PySem PySem.Spec PyProof.Rows L2
/-- from l the places ps in order, then the end -/
def Links (cs : List Cell) : Lk → List Nat → Prop
  | l, [] => l = none
  | l, p :: ps => l = some p ∧ ∃ m, cs[p]? = some (.free m) ∧ Links cs m ps
theorem Links.mono {cs cs' : List Cell} : ∀ {ps : List Nat} {l : Lk}, Links cs l ps → (∀ i ∈ ps, cs'[i]? = cs[i]?) → Links cs' l ps
  | [], l, h, _ => h
  | p :: ps, l, ⟨e, m, hm, h⟩, q => ⟨e, m, by rw [q p List.mem_cons_self]; exact hm, h.mono fun i hi => q i (List.mem_cons_of_mem _ hi)⟩
theorem Links.walk {cs : List Cell} : ∀ {ps : List Nat} {l : Lk} {k : Nat} {found : List Nat}, Links cs l ps → (found ++ ps).Nodup → ps.length ≤ k → SF.walk cs k found l = (found ++ ps, none)
  | [], l, k, found, h, _, _ => by
    cases h
    rw [List.append_nil]
    cases k <;> rfl
  | p :: ps, l, 0, found, h, _, hk => by simp at hk
  | p :: ps, l, k + 1, found, ⟨e, m, hm, h⟩, nd, hk => by
    subst e
    rw [SF.walk, hm]
    have hp : found.contains p = false := by
      rw [Bool.eq_false_iff]
      intro z
      rw [List.contains_iff_mem] at z
      rw [List.nodup_append] at nd
      exact nd.2.2 p z p List.mem_cons_self rfl
    show (if found.contains p = true then _ else _) = _
    rw [if_neg (by rw [hp]; decide), Links.walk h (by rw [List.append_assoc]; exact nd) (by simpa using hk), List.append_assoc]
    rfl
theorem nodup_le {n : Nat} {ps : List Nat} (nd : ps.Nodup) (h : ∀ p ∈ ps, p < n) : ps.length ≤ n := by
  have h2 := List.Nodup.length_le_of_subset nd (l₂ := List.range n) fun p hp => List.mem_range.mpr (h p hp)
  rwa [List.length_range] at h2
theorem Links.lt {cs : List Cell} : ∀ {ps : List Nat} {l : Lk}, Links cs l ps → ∀ p ∈ ps, p < cs.length
  | p :: ps, l, ⟨e, m, hm, h⟩, q, hq => by
    rcases List.mem_cons.mp hq with z | z
    · rw [z]
      exact (List.getElem?_eq_some_iff.mp hm).1
    · exact h.lt q z
theorem Links.gone {f : File} {ps : List Nat} (h : Links f.cells f.head ps) (nd : ps.Nodup) : gone f = (ps, none) := by
  unfold SF.gone
  have hl := nodup_le nd h.lt
  rw [Links.walk h (by rw [List.nil_append]; exact nd) (by omega)]
  rfl
/-- and the other way -/
theorem walk_links {cs : List Cell} : ∀ {k : Nat} {found : List Nat} {l : Lk}, found.Nodup → (walk cs k found l).2 = none → ∃ ps, Links cs l ps ∧ (found ++ ps).Nodup ∧ (walk cs k found l).1 = found ++ ps
  | 0, found, l, nd, h => by
    cases h
    exact ⟨[], rfl, by rw [List.append_nil]; exact nd, by rw [List.append_nil]; rfl⟩
  | k + 1, found, none, nd, h => ⟨[], rfl, by rw [List.append_nil]; exact nd, by rw [List.append_nil]; rfl⟩
  | k + 1, found, some p, nd, h => by
    rw [walk] at h ⊢
    cases hc : cs[p]? with
    | none => rw [hc] at h; cases h
    | some c =>
      rw [hc] at h
      cases c with
      | row n => cases h
      | free l =>
        have h : (if found.contains p = true then (found, some p) else walk cs k (found ++ [p]) l).2 = none := h
        show ∃ ps, _ ∧ _ ∧ (if found.contains p = true then (found, some p) else walk cs k (found ++ [p]) l).1 = _
        by_cases q : found.contains p = true
        · rw [if_pos q] at h
          cases h
        · rw [if_neg q] at h ⊢
          have nd2 : (found ++ [p]).Nodup := by
            rw [List.nodup_append]
            refine ⟨nd, by simp, fun a ha b hb e => ?_⟩
            rw [List.mem_singleton] at hb
            subst hb
            subst e
            exact q (List.contains_iff_mem.mpr ha)
          obtain ⟨ps, h1, h2, h3⟩ := walk_links nd2 h
          exact ⟨p :: ps, ⟨rfl, l, hc, h1⟩, by rw [List.append_assoc] at h2; exact h2, by rw [h3, List.append_assoc]; rfl⟩
theorem stop_links {f : File} (h : stop f = none) : Links f.cells f.head (chain f) ∧ (chain f).Nodup := by
  obtain ⟨ps, h1, h2, h3⟩ := walk_links (cs := f.cells) (k := f.cells.length + 1) (found := []) (l := f.head) List.nodup_nil h
  have e : chain f = ps := h3
  rw [e]
  exact ⟨h1, h2⟩
/-! ### relinking -/
theorem relink_out : ∀ {ps : List Nat} {cs : List Cell} {i : Nat}, i ∉ ps → (relink cs ps)[i]? = cs[i]?
  | [], cs, i, _ => rfl
  | p :: ps, cs, i, h => by
    rw [List.mem_cons, not_or] at h
    rw [relink, relink_out h.2, List.getElem?_set_ne (Ne.symm h.1)]
theorem relink_links : ∀ {ps : List Nat} {cs : List Cell}, ps.Nodup → (∀ p ∈ ps, p < cs.length) → Links (relink cs ps) ps.head? ps
  | [], cs, _, _ => rfl
  | p :: ps, cs, nd, h => by
    rw [List.nodup_cons] at nd
    refine ⟨rfl, ps.head?, ?_, ?_⟩
    · rw [relink, relink_out nd.1, List.getElem?_set_self (h p List.mem_cons_self)]
    · rw [relink]
      exact relink_links nd.2 fun q hq => by rw [List.length_set]; exact h q (List.mem_cons_of_mem _ hq)
theorem relink_congr : ∀ {ps : List Nat} {cs cs' : List Cell}, cs.length = cs'.length → (∀ i, i ∉ ps → cs[i]? = cs'[i]?) → relink cs ps = relink cs' ps
  | [], cs, cs', hl, h => List.ext_getElem? fun i => h i (by simp)
  | p :: ps, cs, cs', hl, h => by
    rw [relink, relink]
    refine relink_congr (by rw [List.length_set, List.length_set, hl]) fun i hi => ?_
    rw [List.getElem?_set, List.getElem?_set, hl]
    by_cases q : p = i
    · rw [if_pos q, if_pos q]
    · rw [if_neg q, if_neg q]
      exact h i fun z => by
        rcases List.mem_cons.mp z with y | y
        · exact q y.symm
        · exact hi y
theorem freeL_nodup {cs : List Cell} : (freeL cs).Nodup := List.Pairwise.filter _ List.nodup_range
theorem mem_freeL {cs : List Cell} {i : Nat} : i ∈ freeL cs ↔ freeAt cs i = true := by
  unfold freeL
  rw [List.mem_filter, List.mem_range]
  refine ⟨fun h => h.2, fun h => ⟨?_, h⟩⟩
  unfold freeAt at h
  cases e : cs[i]? with
  | none => rw [e] at h; cases h
  | some c => exact (List.getElem?_eq_some_iff.mp e).1
/-- free where the other is free, else the same -/
structure Sim (cs b : List Cell) : Prop where
  len : cs.length = b.length
  out : ∀ i, i ∉ freeL b → cs[i]? = b[i]?
  inn : ∀ i, i ∈ freeL b → freeAt cs i = true
theorem Sim.refl (b : List Cell) : Sim b b := ⟨rfl, fun _ _ => rfl, fun _ h => mem_freeL.mp h⟩
theorem Sim.freeAt {cs b : List Cell} (h : Sim cs b) (i : Nat) : freeAt cs i = freeAt b i := by
  by_cases q : i ∈ freeL b
  · rw [h.inn i q, mem_freeL.mp q]
  · unfold SF.freeAt
    rw [h.out i q]
theorem Sim.freeL {cs b : List Cell} (h : Sim cs b) : freeL cs = freeL b := by
  unfold SF.freeL
  rw [h.len, show SF.freeAt cs = SF.freeAt b from funext h.freeAt]
theorem Sim.rowAt {cs b : List Cell} (h : Sim cs b) (i : Nat) : rowAt cs i = rowAt b i := by
  by_cases q : i ∈ SF.freeL b
  · have h1 := h.inn i q
    have h2 := mem_freeL.mp q
    unfold SF.freeAt at h1 h2
    unfold SF.rowAt
    cases e1 : cs[i]? with
    | none => rw [e1] at h1; cases h1
    | some c =>
      rw [e1] at h1
      cases e2 : b[i]? with
      | none => rw [e2] at h2; cases h2
      | some d =>
        rw [e2] at h2
        cases c with
        | row n => cases h1
        | free l =>
          cases d with
          | row n => cases h2
          | free m => rfl
  · unfold SF.rowAt
    rw [h.out i q]
theorem row_not_free {cs : List Cell} {i : Nat} (h : rowAt cs i = true) : i ∉ freeL cs := fun z => by
  have z := mem_freeL.mp z
  unfold freeAt at z
  unfold rowAt at h
  cases e : cs[i]? with
  | none => rw [e] at z; cases z
  | some c => rw [e] at z h; cases c with
    | row n => cases z
    | free l => cases h
theorem Sim.rows {cs b : List Cell} (h : Sim cs b) : dRows cs = dRows b := by
  have e : rowsL cs = rowsL b := by
    unfold rowsL
    rw [h.len, show SF.rowAt cs = SF.rowAt b from funext h.rowAt]
  unfold dRows
  rw [e]
  refine congrArg PyData.list (List.map_congr_left fun i hi => ?_)
  have hr : SF.rowAt b i = true := (List.mem_filter.mp hi).2
  unfold dRow numAt
  rw [h.out i (row_not_free hr)]
theorem Sim.relink {cs b : List Cell} (h : Sim cs b) : relink cs (SF.freeL cs) = SF.relink b (SF.freeL b) := by
  rw [h.freeL]
  exact relink_congr h.len h.out
theorem links_free {cs : List Cell} : ∀ {ps : List Nat} {l : Lk}, Links cs l ps → ∀ p ∈ ps, freeAt cs p = true
  | p :: ps, l, ⟨e, m, hm, h⟩, q, hq => by
    rcases List.mem_cons.mp hq with z | z
    · rw [z]
      unfold freeAt
      rw [hm]
    · exact links_free h q z
theorem sim_relink (b : List Cell) : Sim (relink b (freeL b)) b :=
  ⟨relink_len _ _, fun i h => relink_out h, fun i h => links_free (relink_links freeL_nodup fun p hp => freeL_lt hp) i h⟩
/-- writes that put cells of a into b -/
theorem sim_put {a b cs : List Cell} {l : Lk} {i : Nat} (h : Sim cs b) (ha : Sim a b) (hi : i < a.length) : ∃ cs', put ⟨l, cs⟩ (some i, .cell (a.getD i (.row 0))) = ⟨l, cs'⟩ ∧ Sim cs' b ∧ cs' = cs.set i (a.getD i (.row 0)) := by
  have hlen : i < cs.length := by rw [h.len, ← ha.len]; exact hi
  have hg : a[i]? = some (a.getD i (.row 0)) := by
    rw [List.getD_eq_getElem?_getD, List.getElem?_eq_getElem hi]
    rfl
  refine ⟨cs.set i (a.getD i (.row 0)), by rw [put_cell]; show (if i = cs.length then _ else _) = _; rw [if_neg (by omega)], ⟨by rw [List.length_set, h.len], fun j hj => ?_, fun j hj => ?_⟩, rfl⟩
  · rw [List.getElem?_set]
    by_cases q : i = j
    · rw [if_pos q, if_pos hlen, ← hg, q]
      exact ha.out j hj
    · rw [if_neg q]
      exact h.out j hj
  · unfold SF.freeAt
    rw [List.getElem?_set]
    by_cases q : i = j
    · rw [if_pos q, if_pos hlen, ← hg, q]
      exact ha.inn j hj
    · rw [if_neg q]
      exact h.inn j hj
theorem sim_fold {a b : List Cell} (ha : Sim a b) {l : Lk} : ∀ {js : List Nat} {cs : List Cell}, Sim cs b → (∀ i ∈ js, i < a.length) →
    ∃ cs', (js.map fun i => ((some i, .cell (a.getD i (.row 0))) : Write)).foldl put ⟨l, cs⟩ = ⟨l, cs'⟩ ∧ Sim cs' b ∧ ∀ i, cs'[i]? = if i ∈ js then a[i]? else cs[i]?
  | [], cs, h, _ => ⟨cs, rfl, h, fun i => by simp⟩
  | j :: js, cs, h, hj => by
    obtain ⟨c1, e1, h1, e2⟩ := sim_put (l := l) h ha (hj j List.mem_cons_self)
    obtain ⟨c2, e3, h2, e4⟩ := sim_fold ha (l := l) (js := js) h1 fun i hi => hj i (List.mem_cons_of_mem _ hi)
    refine ⟨c2, by rw [List.map_cons, List.foldl_cons, e1, e3], h2, fun i => ?_⟩
    rw [e4 i]
    by_cases q : i ∈ js
    · rw [if_pos q, if_pos (List.mem_cons_of_mem _ q)]
    · rw [if_neg q, e2, List.getElem?_set]
      by_cases q2 : j = i
      · subst q2
        have hja := hj j List.mem_cons_self
        rw [if_pos rfl, if_pos (by rw [h.len, ← ha.len]; exact hja), if_pos List.mem_cons_self, List.getD_eq_getElem?_getD, List.getElem?_eq_getElem hja]
        rfl
      · rw [if_neg q2, if_neg]
        exact fun z => by
          rcases List.mem_cons.mp z with y | y
          · exact q2 y.symm
          · exact q y
/-- what a mending leaves at any place of its writes -/
theorem mend_cases {f : File} (hw : whole f = false) {k : Nat} (hk : k ≤ (mendsF f).length) : ((mendsF f).take k).foldl put f = f ∧ k = 0 ∨ (∃ cs, ((mendsF f).take k).foldl put f = ⟨none, cs⟩ ∧ Sim cs f.cells ∧ 0 < k ∧ k < (mendsF f).length) ∨ ((mendsF f).take k).foldl put f = mendF f ∧ k = (mendsF f).length := by
  have em : mendsF f = (none, .link none) :: (diffs (mendF f).cells f.cells (mendF f).cells.length ++ [(none, .link (mendF f).head)]) := by
    unfold mendsF
    rw [if_neg (by rw [hw]; decide)]
    rfl
  have hc : (mendF f).cells = relink f.cells (freeL f.cells) := by
    unfold mendF
    rw [if_neg (by rw [hw]; decide)]
  have ha : Sim (mendF f).cells f.cells := by rw [hc]; exact sim_relink _
  have hlt : ∀ i ∈ (List.range (mendF f).cells.length).filter (fun i => decide ((mendF f).cells[i]? ≠ f.cells[i]?)), i < (mendF f).cells.length := fun i hi => List.mem_range.mp (List.mem_filter.mp hi).1
  rw [em] at hk ⊢
  cases k with
  | zero => exact .inl ⟨rfl, rfl⟩
  | succ k =>
    right
    rw [List.take_succ_cons, List.foldl_cons, put_link]
    generalize hD : diffs (mendF f).cells f.cells (mendF f).cells.length = D at hk ⊢
    unfold diffs at hD
    by_cases q : k ≤ D.length
    · left
      rw [List.take_append_of_le_length q, ← hD, ← List.map_take]
      obtain ⟨cs, e1, e2, _⟩ := sim_fold ha (l := none) (js := ((List.range (mendF f).cells.length).filter (fun i => decide ((mendF f).cells[i]? ≠ f.cells[i]?))).take k) (Sim.refl f.cells) fun i hi => hlt i (List.mem_of_mem_take hi)
      refine ⟨cs, e1, e2, Nat.succ_pos _, ?_⟩
      rw [hD, List.length_cons, List.length_append]
      show k + 1 < D.length + 1 + 1
      omega
    · right
      have ek : k = D.length + 1 := by
        rw [List.length_cons, List.length_append] at hk
        have hk : k + 1 ≤ D.length + 1 + 1 := hk
        omega
      rw [List.take_of_length_le (by rw [List.length_append, ek]; exact Nat.le_refl _), List.foldl_append, ← hD]
      obtain ⟨cs, e1, e2, e3⟩ := sim_fold ha (l := none) (js := ((List.range (mendF f).cells.length).filter (fun i => decide ((mendF f).cells[i]? ≠ f.cells[i]?)))) (Sim.refl f.cells) hlt
      refine ⟨?_, ?_⟩
      · rw [e1]
        show (⟨(mendF f).head, cs⟩ : File) = mendF f
        have ec : cs = (mendF f).cells := List.ext_getElem? fun i => by
          rw [e3 i]
          by_cases q1 : i < (mendF f).cells.length
          · by_cases q2 : (mendF f).cells[i]? = f.cells[i]?
            · rw [if_neg (show ¬ i ∈ _ from fun z => absurd q2 (of_decide_eq_true (p := (mendF f).cells[i]? ≠ f.cells[i]?) (List.mem_filter.mp z).2)), q2]
            · rw [if_pos (List.mem_filter.mpr ⟨List.mem_range.mpr q1, decide_eq_true q2⟩)]
          · rw [if_neg (fun z => q1 (List.mem_range.mp (List.mem_filter.mp z).1)), List.getElem?_eq_none (by rw [mendF_len] at q1; omega), List.getElem?_eq_none (by omega)]
        rw [ec]
      · rw [hD, ek, List.length_cons, List.length_append]
        rfl
theorem mendF_links {f : File} (hw : whole f = false) : Links (mendF f).cells (mendF f).head (freeL f.cells) := by
  unfold mendF
  rw [if_neg (by rw [hw]; decide)]
  exact relink_links freeL_nodup fun p hp => freeL_lt hp
theorem mendF_whole (f : File) : whole (mendF f) = true := by
  cases hw : whole f with
  | true =>
    unfold mendF
    rw [if_pos hw]
    exact hw
  | false =>
    have hl := mendF_links hw
    have hg := hl.gone freeL_nodup
    have hs : Sim (mendF f).cells f.cells := by
      unfold mendF
      rw [if_neg (by rw [hw]; decide)]
      exact sim_relink _
    unfold whole looseL stop chain
    rw [hg, hs.freeL, decide_eq_true rfl, Bool.true_and]
    refine decide_eq_true (List.filter_eq_nil_iff.mpr fun p hp => ?_)
    rw [show (freeL f.cells).contains p = true from List.contains_iff_mem.mpr hp]
    decide
theorem whole_stop {f : File} (h : whole f = true) : stop f = none := by
  unfold whole at h
  rw [Bool.and_eq_true] at h
  exact of_decide_eq_true h.1
theorem mendF_of {g : File} (h : whole g = true) : mendF g = g := by
  unfold mendF
  rw [if_pos h]
theorem mend_law {f : File} {k : Nat} (hk : k ≤ (mendsF f).length) : dRows (((mendsF f).take k).foldl put f).cells = dRows f.cells ∧ (0 < k → stop (((mendsF f).take k).foldl put f) = none) ∧
    mendF (((mendsF f).take k).foldl put f) = (if whole (((mendsF f).take k).foldl put f) = true then ((mendsF f).take k).foldl put f else mendF f) ∧ (k = (mendsF f).length → ((mendsF f).take k).foldl put f = mendF f) := by
  cases hw : whole f with
  | true =>
    have e : mendsF f = [] := by
      unfold mendsF
      rw [if_pos hw]
    have em : mendF f = f := by
      unfold mendF
      rw [if_pos hw]
    rw [e] at hk ⊢
    have hk : k ≤ 0 := hk
    have hk : k = 0 := by omega
    subst hk
    refine ⟨rfl, fun h => absurd h (by decide), ?_, fun _ => em.symm⟩
    show mendF f = if whole f = true then f else mendF f
    rw [if_pos hw, em]
  | false =>
    have hself : mendF (mendF f) = mendF f := by
      exact mendF_of (mendF_whole f)
    rcases mend_cases hw hk with ⟨e, e0⟩ | ⟨cs, e, hs, h0, hlt⟩ | ⟨e, e0⟩
    · rw [e]
      refine ⟨rfl, fun h => by omega, ?_, fun h => ?_⟩
      · rw [if_neg (by rw [hw]; decide)]
      · exfalso
        have hz : 0 < (mendsF f).length := by
          unfold mendsF
          rw [if_neg (by rw [hw]; decide)]
          simp
        omega
    · rw [e]
      refine ⟨hs.rows, fun _ => ?_, ?_, fun h => by omega⟩
      · unfold stop gone
        rfl
      · by_cases q : whole ⟨none, cs⟩ = true
        · rw [if_pos q]
          unfold mendF
          rw [if_pos q]
        · rw [if_neg q]
          unfold mendF
          rw [if_neg q, if_neg (by rw [hw]; decide)]
          show (⟨(freeL cs).head?, relink cs (freeL cs)⟩ : File) = _
          rw [hs.relink, hs.freeL]
    · rw [e]
      refine ⟨?_, fun _ => whole_stop (mendF_whole f), ?_, fun _ => rfl⟩
      · have hs : Sim (mendF f).cells f.cells := by
          unfold mendF
          rw [if_neg (by rw [hw]; decide)]
          exact sim_relink _
        exact hs.rows
      · rw [if_pos (mendF_whole f), hself]
theorem we_loose_broken : (Str.ofString "loose" == Str.ofString "broken") = false := by decide +kernel
theorem we_broken_loose : (Str.ofString "broken" == Str.ofString "loose") = false := by decide +kernel
theorem shp_ws (ws : List Write) : Shp 3 (.list (ws.map dW)) := .list fun d hd => by
  obtain ⟨c, _, rfl⟩ := List.mem_map.mp hd
  exact shp_dW c
theorem shp_rows (cs : List Cell) : Shp 2 (dRows cs) := .list fun d hd => by
  obtain ⟨c, _, rfl⟩ := List.mem_map.mp hd
  exact .tup2 .int .int
theorem mends_few {f : File} (h : Fine f) : (mendsF f).length ≤ 14 := by
  unfold mendsF
  split
  · simp
  · have h1 := diffs_len (a := (mendF f).cells) (b := f.cells) (n := (mendF f).cells.length)
    have h2 := mendF_len f
    have h3 := h.few
    rw [List.length_append, List.length_append]
    show 1 + _ + 1 ≤ 14
    omega
theorem word_broken {f : File} : (word f == Str.ofString "broken") = decide (stop f ≠ none) := by
  unfold word
  by_cases h : stop f = none
  · rw [if_neg (fun q => q h), decide_eq_false (fun q => q h)]
    split
    · exact we_loose_broken
    · exact we_whole_broken
  · rw [if_pos h, decide_eq_true h]
    exact ws_broken
theorem h_wordF {f : File} : SeqAt.shaped (.str (word f)) = true := by
  unfold word
  split
  · exact hs_broken
  · split
    · exact hs_loose
    · exact hs_whole
theorem eqv_ws {ws : List Write} : PyData.eqv (.list (ws.map dW)) (.list (ws.map dW)) = true := SeqAt.eqv_refl _ (shp_ws ws).1
theorem eqv_rows {cs : List Cell} : PyData.eqv (dRows cs) (dRows cs) = true := SeqAt.eqv_refl _ (shp_rows cs).1
theorem h_ws {ws : List Write} : SeqAt.shaped (.list (ws.map dW)) = true := (shp_ws ws).shaped (by decide)
theorem h_rows {cs : List Cell} : SeqAt.shaped (dRows cs) = true := (shp_rows cs).shaped (by decide)
theorem stepped_mend {f : File} {r : Rule} {n k : Nat} (hk : k ≤ (mendsF f).length) : playedF f r n [(.mend, some (k : Int))] = some [((mendsF f).take k).foldl put f] := by
  have e : steppedF f r n (.mend, some (k : Int)) = some (((mendsF f).take k).foldl put f) := by
    show (if 0 ≤ (k : Int) ∧ (k : Int) ≤ ((mendsF f).length : Int) then some (((mendsF f).take (k : Int).toNat).foldl put f) else none) = _
    rw [if_pos ⟨by omega, by omega⟩, Int.toNat_natCast]
  unfold playedF
  rw [e]
  rfl
end SF

/-! ## Deeds that are never stopped -/
namespace SF
open PySem PySem.Spec PyProof.Rows L2
theorem whole_links {f : File} (h : whole f = true) : Links f.cells f.head (chain f) ∧ (chain f).Nodup ∧ ∀ i, freeAt f.cells i = true → i ∈ chain f := by
  obtain ⟨h1, h2⟩ := stop_links (whole_stop h)
  refine ⟨h1, h2, fun i hi => ?_⟩
  unfold whole at h
  rw [Bool.and_eq_true] at h
  have h3 : looseL f = [] := of_decide_eq_true h.2
  have h4 := List.filter_eq_nil_iff.mp h3 i (mem_freeL.mpr hi)
  cases q : (chain f).contains i with
  | true => exact List.contains_iff_mem.mp q
  | false => rw [q] at h4; exact absurd rfl h4
theorem whole_of {f : File} {ps : List Nat} (h : Links f.cells f.head ps) (nd : ps.Nodup) (hf : ∀ i, freeAt f.cells i = true → i ∈ ps) : whole f = true := by
  unfold whole looseL stop chain
  rw [h.gone nd, decide_eq_true rfl, Bool.true_and]
  refine decide_eq_true (List.filter_eq_nil_iff.mpr fun p hp => ?_)
  rw [show ps.contains p = true from List.contains_iff_mem.mpr (hf p (mem_freeL.mp hp))]
  decide
theorem put_two {f : File} {b : Bool} {l : Lk} {p : Nat} {c : Cell} (hp : p < f.cells.length) : (inOrder b (none, .link l) (some p, .cell c)).foldl put f = ⟨l, f.cells.set p c⟩ := by
  unfold inOrder
  cases b with
  | true =>
    rw [if_pos rfl]
    show put (put f (none, .link l)) (some p, .cell c) = _
    rw [put_link, put_cell]
    show (if p = f.cells.length then _ else (⟨l, f.cells.set p c⟩ : File)) = _
    rw [if_neg (by omega)]
  | false =>
    rw [if_neg (by decide)]
    show put (put f (some p, .cell c)) (none, .link l) = _
    rw [put_cell, if_neg (by omega), put_link]
/-- what a whole deed leaves: no rule in it -/
theorem writes_rule {f : File} {r : Rule} {room : Nat} {d : Deed} {ws : List Write} (hf : Fine f) (h : writesF f r room d = some ws) (r' : Rule) : ∃ ws', writesF f r' room d = some ws' ∧ ws'.foldl put f = ws.foldl put f := by
  cases d with
  | mend => cases h; exact ⟨_, rfl, rfl⟩
  | other w n => cases h
  | give p =>
    have h : (if 0 ≤ p ∧ p < (f.cells.length : Int) ∧ rowAt f.cells p.toNat = true then some (inOrder r.2 (none, .link (some p.toNat)) (some p.toNat, .cell (.free f.head))) else none) = some ws := h
    split at h
    · rename_i hp
      cases h
      refine ⟨_, if_pos hp, ?_⟩
      rw [put_two (by omega), put_two (by omega)]
    · cases h
  | take n =>
    have h : (if 0 ≤ n ∧ n ≤ 999 then takeW f r room n.toNat else none) = some ws := h
    split at h
    · rename_i hn
      show ∃ ws', (if 0 ≤ n ∧ n ≤ 999 then takeW f r' room n.toNat else none) = some ws' ∧ _
      rw [if_pos hn]
      unfold takeW at h ⊢
      cases hh : f.head with
      | none =>
        rw [hh] at h
        exact ⟨ws, h, rfl⟩
      | some p =>
        rw [hh] at h
        have h : some (inOrder r.1 (none, .link (freeLk f.cells p)) (some p, .cell (.row n.toNat))) = some ws := h
        cases h
        have hp : p < f.cells.length := of_decide_eq_true (by have := hf.head; rw [hh] at this; exact this)
        exact ⟨_, rfl, by rw [put_two hp, put_two hp]⟩
    · cases h
theorem free_set {cs : List Cell} {p i : Nat} {c : Cell} (h : freeAt (cs.set p c) i = true) : i = p ∨ freeAt cs i = true := by
  by_cases q : p = i
  · exact .inl q.symm
  · right
    unfold freeAt at h ⊢
    rw [List.getElem?_set_ne q] at h
    exact h
theorem free_set_row {cs : List Cell} {p i n : Nat} (h : freeAt (cs.set p (.row n)) i = true) : i ≠ p ∧ freeAt cs i = true := by
  by_cases q : p = i
  · subst q
    unfold freeAt at h
    rw [List.getElem?_set] at h
    rw [if_pos rfl] at h
    by_cases k : p < cs.length
    · rw [if_pos k] at h; cases h
    · rw [if_neg k] at h; cases h
  · refine ⟨fun e => q e.symm, ?_⟩
    unfold freeAt at h ⊢
    rw [List.getElem?_set_ne q] at h
    exact h
/-- giving back a row -/
theorem give_links {f : File} {p : Nat} (hw : whole f = true) (hp : rowAt f.cells p = true) : Links (f.cells.set p (.free f.head)) (some p) (p :: chain f) ∧ (p :: chain f).Nodup ∧ ∀ i, freeAt (f.cells.set p (.free f.head)) i = true → i ∈ p :: chain f := by
  obtain ⟨h1, h2, h3⟩ := whole_links hw
  have hpl : p < f.cells.length := by
    unfold rowAt at hp
    cases e : f.cells[p]? with
    | none => rw [e] at hp; cases hp
    | some c => exact (List.getElem?_eq_some_iff.mp e).1
  have hpc : p ∉ chain f := fun z => row_not_free hp (mem_freeL.mpr (links_free h1 p z))
  refine ⟨⟨rfl, f.head, List.getElem?_set_self hpl, h1.mono fun i hi => List.getElem?_set_ne (show p ≠ i from fun e => hpc (by rw [e]; exact hi))⟩, List.nodup_cons.mpr ⟨hpc, h2⟩, fun i hi => ?_⟩
  rcases free_set hi with z | z
  · rw [z]; exact List.mem_cons_self
  · exact List.mem_cons_of_mem _ (h3 i z)
theorem whole_deed {f : File} {r : Rule} {room : Nat} {d : Deed} {ws : List Write} (hf : Fine f) (hw : whole f = true) (h : writesF f r room d = some ws) : whole (ws.foldl put f) = true := by
  cases d with
  | mend =>
    cases h
    have e : mendsF f = [] := by
      unfold mendsF
      rw [if_pos hw]
    rw [e]
    exact hw
  | other w n => cases h
  | give p =>
    have h : (if 0 ≤ p ∧ p < (f.cells.length : Int) ∧ rowAt f.cells p.toNat = true then some (inOrder r.2 (none, .link (some p.toNat)) (some p.toNat, .cell (.free f.head))) else none) = some ws := h
    split at h
    · rename_i hp
      cases h
      rw [put_two (by omega)]
      obtain ⟨h1, h2, h3⟩ := give_links hw hp.2.2
      exact whole_of h1 h2 h3
    · cases h
  | take n =>
    have h : (if 0 ≤ n ∧ n ≤ 999 then takeW f r room n.toNat else none) = some ws := h
    obtain ⟨h1, h2, h3⟩ := whole_links hw
    split at h
    · unfold takeW at h
      cases hh : f.head with
      | none =>
        rw [hh] at h h1
        have h : (if f.cells.length < room then some [((some f.cells.length, .cell (.row n.toNat)) : Write)] else none) = some ws := h
        split at h
        · cases h
          have ec : chain f = [] := by
            cases e : chain f with
            | nil => rfl
            | cons q qs => rw [e] at h1; cases h1.1
          have e : [((some f.cells.length, .cell (.row n.toNat)) : Write)].foldl put f = ⟨none, f.cells ++ [.row n.toNat]⟩ := by
            show put f (some f.cells.length, .cell (.row n.toNat)) = _
            rw [put_cell, if_pos rfl, hh]
          rw [e]
          refine whole_of (ps := []) rfl List.nodup_nil fun i hi => ?_
          rw [← ec]
          refine h3 i ?_
          have hi : freeAt (f.cells ++ [.row n.toNat]) i = true := hi
          unfold freeAt at hi ⊢
          by_cases q : i < f.cells.length
          · rw [List.getElem?_append_left q] at hi
            exact hi
          · by_cases q2 : i = f.cells.length
            · subst q2
              rw [List.getElem?_append_right (Nat.le_refl _), Nat.sub_self] at hi
              cases hi
            · rw [List.getElem?_eq_none (by rw [List.length_append]; show f.cells.length + 1 ≤ i; omega)] at hi
              cases hi
        · cases h
      | some p =>
        rw [hh] at h h1
        have h : some (inOrder r.1 (none, .link (freeLk f.cells p)) (some p, .cell (.row n.toNat))) = some ws := h
        cases h
        cases e : chain f with
        | nil => rw [e] at h1; cases h1
        | cons q qs =>
          rw [e] at h1 h2 h3
          obtain ⟨e1, m, hm, hl⟩ := h1
          cases e1
          have hp : p < f.cells.length := (List.getElem?_eq_some_iff.mp hm).1
          rw [List.nodup_cons] at h2
          have em : freeLk f.cells p = m := by
            unfold freeLk
            rw [hm]
          rw [put_two hp, em]
          refine whole_of (ps := qs) (hl.mono fun i hi => List.getElem?_set_ne (show p ≠ i from fun z => h2.1 (by rw [z]; exact hi))) h2.2 fun i hi => ?_
          obtain ⟨z1, z2⟩ := free_set_row hi
          rcases List.mem_cons.mp (h3 i z2) with y | y
          · exact absurd y z1
          · exact y
    · cases h
/-- deeds, each whole -/
def wholeS (ds : List Deed) : List Step := ds.map fun d => (d, none)
theorem stepped_none {f : File} {r : Rule} {room : Nat} {d : Deed} {ws : List Write} (h : writesF f r room d = some ws) : steppedF f r room (d, none) = some (ws.foldl put f) := by
  unfold steppedF
  rw [show writesF f r room (d, (none : Many)).1 = some ws from h]
  rfl
theorem stepped_rule {f g : File} {r : Rule} {room : Nat} {d : Deed} (hf : Fine f) (h : steppedF f r room (d, none) = some g) (r' : Rule) : steppedF f r' room (d, none) = some g := by
  unfold steppedF at h
  cases hw : writesF f r room d with
  | none => rw [show writesF f r room (d, (none : Many)).1 = none from hw] at h; cases h
  | some ws =>
    rw [show writesF f r room (d, (none : Many)).1 = some ws from hw] at h
    cases h
    obtain ⟨ws', h1, h2⟩ := writes_rule hf hw r'
    rw [stepped_none h1, h2]
theorem played_cons {f g : File} {r : Rule} {room : Nat} {s : Step} {ss : List Step} {fs : List File} (h : playedF f r room (s :: ss) = some fs) : ∃ g gs, steppedF f r room s = some g ∧ playedF g r room ss = some gs ∧ fs = g :: gs := by
  unfold playedF at h
  cases e : steppedF f r room s with
  | none => rw [e] at h; cases h
  | some g =>
    rw [e] at h
    have h : (playedF g r room ss).map (g :: ·) = some fs := h
    cases e2 : playedF g r room ss with
    | none => rw [e2] at h; cases h
    | some gs =>
      rw [e2] at h
      cases h
      exact ⟨g, gs, rfl, e2, rfl⟩
theorem played_mk {f g : File} {r : Rule} {room : Nat} {s : Step} {ss : List Step} {gs : List File} (h1 : steppedF f r room s = some g) (h2 : playedF g r room ss = some gs) : playedF f r room (s :: ss) = some (g :: gs) := by
  unfold playedF
  rw [h1]
  show (playedF g r room ss).map (g :: ·) = _
  rw [h2]
  rfl
theorem played_rule {r : Rule} {room : Nat} (hro : room ≤ 12) (r' : Rule) : ∀ {ds : List Deed} {f : File} {fs : List File}, Fine f → playedF f r room (wholeS ds) = some fs → playedF f r' room (wholeS ds) = some fs
  | [], f, fs, _, h => h
  | d :: ds, f, fs, hf, h => by
    obtain ⟨g, gs, h1, h2, e⟩ := played_cons (g := f) (s := (d, none)) (ss := wholeS ds) h
    subst e
    exact played_mk (s := (d, none)) (ss := wholeS ds) (stepped_rule hf h1 r') (played_rule hro r' (steppedF_fine hf hro h1) h2)
theorem stepped_ws {f g : File} {r : Rule} {room : Nat} {d : Deed} (h : steppedF f r room (d, none) = some g) : ∃ ws, writesF f r room d = some ws ∧ g = ws.foldl put f := by
  unfold steppedF at h
  cases hw : writesF f r room d with
  | none => rw [show writesF f r room (d, (none : Many)).1 = none from hw] at h; cases h
  | some ws =>
    rw [show writesF f r room (d, (none : Many)).1 = some ws from hw] at h
    cases h
    exact ⟨ws, rfl, rfl⟩
theorem played_whole {r : Rule} {room : Nat} (hro : room ≤ 12) : ∀ {ds : List Deed} {f : File} {fs : List File}, Fine f → whole f = true → playedF f r room (wholeS ds) = some fs → ∀ g ∈ fs, Fine g ∧ whole g = true
  | [], f, fs, _, _, h => by cases h; intro g hg; cases hg
  | d :: ds, f, fs, hf, hw, h => by
    obtain ⟨g, gs, h1, h2, e⟩ := played_cons (g := f) (s := (d, none)) (ss := wholeS ds) h
    subst e
    obtain ⟨ws, w1, w2⟩ := stepped_ws h1
    have hg : Fine g := steppedF_fine hf hro h1
    have hgw : whole g = true := by rw [w2]; exact whole_deed hf hw w1
    intro k hk
    rcases List.mem_cons.mp hk with z | z
    · rw [z]; exact ⟨hg, hgw⟩
    · exact played_whole hro hg hgw h2 k z
theorem played_snoc {r : Rule} {room : Nat} {s : Step} {g : File} : ∀ {ss : List Step} {f : File} {fs : List File}, playedF f r room ss = some fs → steppedF ((f :: fs).getLast (List.cons_ne_nil _ _)) r room s = some g → playedF f r room (ss ++ [s]) = some (fs ++ [g])
  | [], f, fs, h, h2 => by
    cases h
    exact played_mk h2 rfl
  | t :: ss, f, fs, h, h2 => by
    obtain ⟨k, gs, h1, h3, e⟩ := played_cons (g := f) h
    subst e
    refine played_mk h1 (played_snoc h3 ?_)
    rw [List.getLast_cons (List.cons_ne_nil _ _)] at h2
    exact h2
/-- given back, taken in, given back -/
theorem round_trip {f : File} {r : Rule} {room : Nat} {p n : Nat} (hf : Fine f) (hc : f.cells[p]? = some (.row n)) : playedF f r room [(.give (p : Int), none), (.take (n : Int), none), (.give (p : Int), none)] = some [⟨some p, f.cells.set p (.free f.head)⟩, f, ⟨some p, f.cells.set p (.free f.head)⟩] := by
  have hp : p < f.cells.length := (List.getElem?_eq_some_iff.mp hc).1
  have hr : rowAt f.cells p = true := by unfold rowAt; rw [hc]
  have hn : n ≤ 999 := of_decide_eq_true (hf.cells _ (List.mem_of_getElem? hc))
  have s1 : steppedF f r room (.give (p : Int), none) = some ⟨some p, f.cells.set p (.free f.head)⟩ := by
    have hw : writesF f r room (.give (p : Int)) = some (inOrder r.2 (none, .link (some p)) (some p, .cell (.free f.head))) := by
      show (if 0 ≤ (p : Int) ∧ (p : Int) < (f.cells.length : Int) ∧ rowAt f.cells (p : Int).toNat = true then some (inOrder r.2 (none, .link (some (p : Int).toNat)) (some (p : Int).toNat, .cell (.free f.head))) else none) = _
      rw [Int.toNat_natCast, if_pos ⟨by omega, by omega, hr⟩]
    rw [stepped_none hw, put_two hp]
  have s2 : steppedF ⟨some p, f.cells.set p (.free f.head)⟩ r room (.take (n : Int), none) = some f := by
    have hw : writesF ⟨some p, f.cells.set p (.free f.head)⟩ r room (.take (n : Int)) = some (inOrder r.1 (none, .link f.head) (some p, .cell (.row n))) := by
      show (if 0 ≤ (n : Int) ∧ (n : Int) ≤ 999 then takeW ⟨some p, f.cells.set p (.free f.head)⟩ r room (n : Int).toNat else none) = _
      rw [if_pos ⟨by omega, by omega⟩, Int.toNat_natCast]
      show some (inOrder r.1 (none, .link (freeLk (f.cells.set p (.free f.head)) p)) (some p, .cell (.row n))) = _
      unfold freeLk
      rw [List.getElem?_set_self hp]
    rw [stepped_none hw, put_two (by show p < (f.cells.set p (.free f.head)).length; rw [List.length_set]; exact hp)]
    show some (⟨f.head, (f.cells.set p (.free f.head)).set p (.row n)⟩ : File) = some f
    have e : f.cells.set p (.row n) = f.cells := List.ext_getElem? fun i => by
      rw [List.getElem?_set]
      by_cases q : p = i
      · subst q
        rw [if_pos rfl, if_pos hp, hc]
      · rw [if_neg q]
    rw [List.set_set, e]
  exact played_mk s1 (played_mk s2 (played_mk s1 rfl))
theorem deed_room {f : File} {r : Rule} {room : Nat} {d : Deed} {ws : List Write} (hf : Fine f) (hl : f.cells.length ≤ room) (h : writesF f r room d = some ws) : (ws.foldl put f).cells.length ≤ room := by
  cases d with
  | mend =>
    cases h
    rw [(foldPut_fine hf (mendsF_ok hf)).2]
    exact hl
  | other w n => cases h
  | give p =>
    have h : (if 0 ≤ p ∧ p < (f.cells.length : Int) ∧ rowAt f.cells p.toNat = true then some (inOrder r.2 (none, .link (some p.toNat)) (some p.toNat, .cell (.free f.head))) else none) = some ws := h
    split at h
    · cases h
      rw [put_two (by omega)]
      show (f.cells.set p.toNat (.free f.head)).length ≤ room
      rw [List.length_set]
      exact hl
    · cases h
  | take n =>
    have h : (if 0 ≤ n ∧ n ≤ 999 then takeW f r room n.toNat else none) = some ws := h
    split at h
    · unfold takeW at h
      cases hh : f.head with
      | none =>
        rw [hh] at h
        have h : (if f.cells.length < room then some [((some f.cells.length, .cell (.row n.toNat)) : Write)] else none) = some ws := h
        split at h
        · rename_i hlt
          cases h
          show (put f (some f.cells.length, .cell (.row n.toNat))).cells.length ≤ room
          rw [put_cell, if_pos rfl]
          show (f.cells ++ [Cell.row n.toNat]).length ≤ room
          rw [List.length_append]
          exact hlt
        · cases h
      | some p =>
        rw [hh] at h
        have h : some (inOrder r.1 (none, .link (freeLk f.cells p)) (some p, .cell (.row n.toNat))) = some ws := h
        cases h
        have hp : p < f.cells.length := of_decide_eq_true (by have := hf.head; rw [hh] at this; exact this)
        rw [put_two hp]
        show (f.cells.set p (.row n.toNat)).length ≤ room
        rw [List.length_set]
        exact hl
    · cases h
theorem played_room {r : Rule} {room : Nat} (hro : room ≤ 12) : ∀ {ds : List Deed} {f : File} {fs : List File}, Fine f → f.cells.length ≤ room → playedF f r room (wholeS ds) = some fs → ∀ g ∈ fs, g.cells.length ≤ room
  | [], f, fs, _, _, h => by cases h; intro g hg; cases hg
  | d :: ds, f, fs, hf, hw, h => by
    obtain ⟨g, gs, h1, h2, e⟩ := played_cons (g := f) (s := (d, none)) (ss := wholeS ds) h
    subst e
    obtain ⟨ws, w1, w2⟩ := stepped_ws h1
    have hg : Fine g := steppedF_fine hf hro h1
    have hgl : g.cells.length ≤ room := by rw [w2]; exact deed_room hf hw w1
    intro k hk
    rcases List.mem_cons.mp hk with z | z
    · rw [z]; exact hgl
    · exact played_room hro hg hgl h2 k z
theorem last_all {P : File → Prop} {f : File} {fs : List File} (h0 : P f) (h : ∀ g ∈ fs, P g) : P ((f :: fs).getLast (List.cons_ne_nil _ _)) := by
  rcases List.mem_cons.mp (List.getLast_mem (List.cons_ne_nil f fs)) with z | z
  · rw [z]; exact h0
  · exact h _ z
theorem last_snoc {f g : File} {fs : List File} : (f :: (fs ++ [g])).getLast (List.cons_ne_nil _ _) = g := by
  show ((f :: fs) ++ [g]).getLast _ = g
  exact List.getLast_concat
theorem at_last {f : File} {fs : List File} : atI ((f :: fs).map dF) (-1) = some (dF ((f :: fs).getLast (List.cons_ne_nil _ _))) := by
  have e : (f :: fs).map dF = ((f :: fs).dropLast.map dF) ++ [dF ((f :: fs).getLast (List.cons_ne_nil _ _))] := by
    rw [← List.map_singleton, ← List.map_append, List.dropLast_concat_getLast]
  rw [e]
  exact atI_last _ _
theorem nol_dL {l : Lk} : nol (dL l) = true := by cases l <;> rfl
theorem nol_dC {c : Cell} : nol (dC c) = true := by
  cases c with
  | row n => rfl
  | free l => cases l <;> rfl
theorem nol_dF {f : File} : nol (dF f) = true := by
  have e : ∀ cs : List Cell, nolL (cs.map dC) = true := fun cs => by
    rw [nolL_all, List.all_eq_true]
    intro d hd
    obtain ⟨c, _, rfl⟩ := List.mem_map.mp hd
    exact nol_dC
  show (nol (dL f.head) && (nolL (f.cells.map dC) && true)) = true
  rw [nol_dL, e]
  rfl
theorem shp_fs (fs : List File) : Shp 4 (.list (fs.map dF)) := .list fun d hd => by
  obtain ⟨c, _, rfl⟩ := List.mem_map.mp hd
  exact shp_dF c
theorem eqv_fs {fs : List File} : PyData.eqv (.list (fs.map dF)) (.list (fs.map dF)) = true := SeqAt.eqv_refl _ (shp_fs fs).1
theorem h_fs {fs : List File} : SeqAt.shaped (.list (fs.map dF)) = true := (shp_fs fs).shaped (by decide)
end SF

/-! ## isinstance; items of lists or tuples; defs by what they are handed -/
namespace SF
open PySem PySem.Spec PyProof.Rows L2
def tyName : PyData → String
  | .none => "NoneType"
  | .bool _ => "bool"
  | .int _ => "int"
  | .str _ => "str"
  | .list _ => "list"
  | .tuple _ => "tuple"
  | .dict _ => "dict"
theorem Im.ty {K : PySem.W.Frag} {G H : Hp} (e : Ex G H) {d : PyData} {v : V} (h : Im K G d v) : TyX K H v (.type (tyName d)) := by
  cases d with
  | none => rw [im_none] at h; subst h; exact .base .non
  | bool b => rw [im_bool] at h; subst h; exact .base (.bl _)
  | int i => rw [im_int] at h; subst h; exact .base (.int _)
  | str s => rw [im_str] at h; subst h; exact .base (.str _)
  | list ds =>
    rw [im_list] at h
    obtain ⟨a, xs, rfl, h1, _⟩ := h
    exact .base (.lst (e a _ h1))
  | tuple ds =>
    rw [im_tuple] at h
    obtain ⟨a, xs, rfl, h1, _⟩ := h
    rcases h1 with (h1 | ⟨o, h1⟩) | ⟨o, its, n, h1, h2, _⟩
    · exact .base (.tup (e a _ h1))
    · exact .fTuple (e a _ h1)
    · exact .kTuple h1 h2
  | dict _ => rw [im_dict] at h; exact h.elim
def sIs (T : String) : Sem1 := fun d Φ => ∃ k, kitB (tyName d) T = some k ∧ Φ (.dat (.bool k))
def isSeq : PyData → Bool
  | .list _ => true
  | .tuple _ => true
  | _ => false
def sIsTL : Sem1 := fun d Φ => (∀ es, d ≠ .dict es) ∧ Φ (.dat (.bool (isSeq d)))
section
variable {X : Cx} {b : Bs} {x y : Expr} {pos : Pos} {wx wy : WE}
theorem pei_isi {p p2 : Pos} {nm : Str} {T : String} (hm : X.mg "isinstance" = none) (hg : Gl X "isinstance") (hm2 : X.mg nm = none) (hg2 : Gl X nm) (hb : bootBuiltins nm = some (.type T)) (hx : PEI X b x wx)
    (hn1 : nm ≠ Str.ofString "__name__" := by decide) (hn2 : (nm == Str.ofString "__debug__") = false := by decide)
    (he : starEach [x, .Name nm p2] X.env = (false, eval x X.env) :: starEach [.Name nm p2] X.env := by rfl) (he2 : starEach [.Name nm p2] X.env = (false, eval (.Name nm p2) X.env) :: starEach [] X.env := by rfl)
    (hpl : ((backTo pos (starEach [.Name nm p2] X.env)).any fun z => z.1) = false := by rfl) : PEI X b (.Call (.Name "isinstance" p) [x, .Name nm p2] [] pos) (wUn (sIs T) wx) :=
  pei_un (r := fun v H Q => rIsi X.K [v, .ty T] H Q) (pe_callB call_isi hg hm (by rfl) (pa_cons hx (pa_cons (pe_bltn hg2 hm2 hb (v := .ty T) rfl hn1 hn2) pa_nil he2) he) (by decide) (by decide) he hpl) fun c ρ σ G H d v Φ Q S i hs p => by
    obtain ⟨k, hk, h⟩ := hs
    exact ⟨v, .ty T, .type (tyName d), .type T, k, rfl, .ty T, i.ty S.ex2, kit_ty hk, p _ (.dat (.bool k)) G H (.refl S) (by show Im _ _ _ _; rw [im_bool]) h⟩
theorem kit_seq {K : PySem.W.Frag} {d : PyData} (h : ∀ es, d ≠ .dict es) : PySem.W.kitAny K (.type (tyName d)) [.type "tuple", .type "list"] = some (isSeq d) := by
  have go : ∀ {r1 r2 : Bool}, kitB (tyName d) "tuple" = some r1 → kitB (tyName d) "list" = some r2 → PySem.W.kitAny K (.type (tyName d)) [.type "tuple", .type "list"] = some (r1 || r2) := fun {r1 r2} e1 e2 => by
    rw [PySem.W.kitAny.eq_2, kit_ty e1]
    cases r1 with
    | true => rfl
    | false =>
      show PySem.W.kitAny K (.type (tyName d)) [.type "list"] = _
      rw [PySem.W.kitAny.eq_2, kit_ty e2]
      cases r2 with
      | true => rfl
      | false =>
        show PySem.W.kitAny K (.type (tyName d)) [] = _
        rw [PySem.W.kitAny.eq_1]
        rfl
  cases d with
  | dict es => exact absurd rfl (h es)
  | none => exact go (r1 := false) (r2 := false) (by decide +kernel) (by decide +kernel)
  | bool b => exact go (r1 := false) (r2 := false) (by show kitB "bool" _ = _; decide +kernel) (by show kitB "bool" _ = _; decide +kernel)
  | int b => exact go (r1 := false) (r2 := false) (by show kitB "int" _ = _; decide +kernel) (by show kitB "int" _ = _; decide +kernel)
  | str b => exact go (r1 := false) (r2 := false) (by show kitB "str" _ = _; decide +kernel) (by show kitB "str" _ = _; decide +kernel)
  | list b => exact go (r1 := false) (r2 := true) (by show kitB "list" _ = _; decide +kernel) (by show kitB "list" _ = _; decide +kernel)
  | tuple b => exact go (r1 := true) (r2 := false) (by show kitB "tuple" _ = _; decide +kernel) (by show kitB "tuple" _ = _; decide +kernel)
theorem pei_isiTL {p p2 p3 p4 : Pos} {k0 : Nat} (hm : X.mg "isinstance" = none) (hg : Gl X "isinstance") (hm2 : X.mg "tuple" = none) (hg2 : Gl X "tuple") (hm3 : X.mg "list" = none) (hg3 : Gl X "list") (hx : PEI X b x wx)
    (he : starEach [x, .Tuple [.Name "tuple" p2, .Name "list" p3] k0 p4] X.env = (false, eval x X.env) :: starEach [.Tuple [.Name "tuple" p2, .Name "list" p3] k0 p4] X.env := by rfl)
    (he2 : starEach [.Tuple [.Name "tuple" p2, .Name "list" p3] k0 p4] X.env = (false, eval (.Tuple [.Name "tuple" p2, .Name "list" p3] k0 p4) X.env) :: starEach [] X.env := by rfl)
    (he3 : starEach [.Name "tuple" p2, .Name "list" p3] X.env = (false, eval (.Name "tuple" p2) X.env) :: starEach [.Name "list" p3] X.env := by rfl)
    (he4 : starEach [.Name "list" p3] X.env = (false, eval (.Name "list" p3) X.env) :: starEach [] X.env := by rfl)
    (hpl : ((backTo pos (starEach [.Tuple [.Name "tuple" p2, .Name "list" p3] k0 p4] X.env)).any fun z => z.1) = false := by rfl) : PEI X b (.Call (.Name "isinstance" p) [x, .Tuple [.Name "tuple" p2, .Name "list" p3] k0 p4] [] pos) (wUn sIsTL wx) :=
  pei_un (r := fun v H Q => 2 ≤ sizeLine ∧ ∀ q, H q = none → rIsiT X.K [v, .ref q] (upd H q (.tup [.ty "tuple", .ty "list"])) Q)
    (pe_callB call_isiT hg hm (by rfl) (pa_cons hx (pa_cons (pe_tup (pa_cons (pe_bltn hg2 hm2 (by rfl) (v := .ty "tuple") rfl) (pa_cons (pe_bltn hg3 hm3 (by rfl) (v := .ty "list") rfl) pa_nil he4) he3)) pa_nil he2) he) (by decide) (by decide) he hpl) fun c ρ σ G H d v Φ Q S i hs p => by
    refine ⟨by decide, fun q hq => ?_⟩
    obtain ⟨hd, h⟩ := hs
    exact ⟨v, q, _, .type (tyName d), _, isSeq d, rfl, upd_same, .cons (.ty _) (.cons (.ty _) .nil), i.ty (S.ex2.out (S.ex2.back hq)), kit_seq hd, p _ (.dat (.bool _)) G _ (.newH S hq) (by show Im _ _ _ _; rw [im_bool]) h⟩
/-! items of a list or a tuple -/
def sIxA : Sem2 := fun a i Φ => ∃ ds j d, (a = .list ds ∨ a = .tuple ds) ∧ i = .int j ∧ atI ds j = some d ∧ Φ (.dat d)
theorem op2_ixA : Op2 X (rIx X.K) sIxA := fun c ρ σ G H d1 d2 x y Φ Q S i1 i2 hs p => by
  obtain ⟨ds, j, d, h0, rfl, e, h⟩ := hs
  rcases h0 with rfl | rfl
  · exact .inl (op2_ixL c ρ σ G H _ _ x y Φ Q S i1 i2 ⟨ds, j, d, rfl, rfl, e, h⟩ p)
  · exact .inr (.inl (op2_ixT c ρ σ G H _ _ x y Φ Q S i1 i2 ⟨ds, j, d, rfl, rfl, e, h⟩ p))
theorem pei_ixA (hx : PEI X b x wx) (hy : PEI X b y wy) (hs : PlainIx y := by intro _ _; rfl) : PEI X b (.Subscript x y pos) (wOp sIxA wx wy) := pei_op (pe_ix ix_seq hx hy hs) op2_ixA
end
theorem r_sIs {d : PyData} {T : String} {k : Bool} {Φ : Res → Prop} (h : kitB (tyName d) T = some k) : sIs T d Φ = Φ (.dat (.bool k)) := by
  unfold sIs
  rw [h]
  simp
theorem is_none_tuple {Φ : Res → Prop} : sIs "tuple" (.none) Φ = Φ (.dat (.bool false)) := r_sIs (by show kitB "NoneType" "tuple" = some false; decide +kernel)
theorem is_none_list {Φ : Res → Prop} : sIs "list" (.none) Φ = Φ (.dat (.bool false)) := r_sIs (by show kitB "NoneType" "list" = some false; decide +kernel)
theorem is_none_bool {Φ : Res → Prop} : sIs "bool" (.none) Φ = Φ (.dat (.bool false)) := r_sIs (by show kitB "NoneType" "bool" = some false; decide +kernel)
theorem is_none_str {Φ : Res → Prop} : sIs "str" (.none) Φ = Φ (.dat (.bool false)) := r_sIs (by show kitB "NoneType" "str" = some false; decide +kernel)
theorem is_none_int {Φ : Res → Prop} : sIs "int" (.none) Φ = Φ (.dat (.bool false)) := r_sIs (by show kitB "NoneType" "int" = some false; decide +kernel)
theorem isTL_none {Φ : Res → Prop} : sIsTL (.none) Φ = Φ (.dat (.bool false)) := by simp [sIsTL, isSeq]
theorem is_bool_tuple {Φ : Res → Prop} {k : Bool} : sIs "tuple" (.bool k) Φ = Φ (.dat (.bool false)) := r_sIs (by show kitB "bool" "tuple" = some false; decide +kernel)
theorem is_bool_list {Φ : Res → Prop} {k : Bool} : sIs "list" (.bool k) Φ = Φ (.dat (.bool false)) := r_sIs (by show kitB "bool" "list" = some false; decide +kernel)
theorem is_bool_bool {Φ : Res → Prop} {k : Bool} : sIs "bool" (.bool k) Φ = Φ (.dat (.bool true)) := r_sIs (by show kitB "bool" "bool" = some true; decide +kernel)
theorem is_bool_str {Φ : Res → Prop} {k : Bool} : sIs "str" (.bool k) Φ = Φ (.dat (.bool false)) := r_sIs (by show kitB "bool" "str" = some false; decide +kernel)
theorem is_bool_int {Φ : Res → Prop} {k : Bool} : sIs "int" (.bool k) Φ = Φ (.dat (.bool true)) := r_sIs (by show kitB "bool" "int" = some true; decide +kernel)
theorem isTL_bool {Φ : Res → Prop} {k : Bool} : sIsTL (.bool k) Φ = Φ (.dat (.bool false)) := by simp [sIsTL, isSeq]
theorem is_int_tuple {Φ : Res → Prop} {i : Int} : sIs "tuple" (.int i) Φ = Φ (.dat (.bool false)) := r_sIs (by show kitB "int" "tuple" = some false; decide +kernel)
theorem is_int_list {Φ : Res → Prop} {i : Int} : sIs "list" (.int i) Φ = Φ (.dat (.bool false)) := r_sIs (by show kitB "int" "list" = some false; decide +kernel)
theorem is_int_bool {Φ : Res → Prop} {i : Int} : sIs "bool" (.int i) Φ = Φ (.dat (.bool false)) := r_sIs (by show kitB "int" "bool" = some false; decide +kernel)
theorem is_int_str {Φ : Res → Prop} {i : Int} : sIs "str" (.int i) Φ = Φ (.dat (.bool false)) := r_sIs (by show kitB "int" "str" = some false; decide +kernel)
theorem is_int_int {Φ : Res → Prop} {i : Int} : sIs "int" (.int i) Φ = Φ (.dat (.bool true)) := r_sIs (by show kitB "int" "int" = some true; decide +kernel)
theorem isTL_int {Φ : Res → Prop} {i : Int} : sIsTL (.int i) Φ = Φ (.dat (.bool false)) := by simp [sIsTL, isSeq]
theorem is_str_tuple {Φ : Res → Prop} {s : Str} : sIs "tuple" (.str s) Φ = Φ (.dat (.bool false)) := r_sIs (by show kitB "str" "tuple" = some false; decide +kernel)
theorem is_str_list {Φ : Res → Prop} {s : Str} : sIs "list" (.str s) Φ = Φ (.dat (.bool false)) := r_sIs (by show kitB "str" "list" = some false; decide +kernel)
theorem is_str_bool {Φ : Res → Prop} {s : Str} : sIs "bool" (.str s) Φ = Φ (.dat (.bool false)) := r_sIs (by show kitB "str" "bool" = some false; decide +kernel)
theorem is_str_str {Φ : Res → Prop} {s : Str} : sIs "str" (.str s) Φ = Φ (.dat (.bool true)) := r_sIs (by show kitB "str" "str" = some true; decide +kernel)
theorem is_str_int {Φ : Res → Prop} {s : Str} : sIs "int" (.str s) Φ = Φ (.dat (.bool false)) := r_sIs (by show kitB "str" "int" = some false; decide +kernel)
theorem isTL_str {Φ : Res → Prop} {s : Str} : sIsTL (.str s) Φ = Φ (.dat (.bool false)) := by simp [sIsTL, isSeq]
theorem is_list_tuple {Φ : Res → Prop} {ds : List PyData} : sIs "tuple" (.list ds) Φ = Φ (.dat (.bool false)) := r_sIs (by show kitB "list" "tuple" = some false; decide +kernel)
theorem is_list_list {Φ : Res → Prop} {ds : List PyData} : sIs "list" (.list ds) Φ = Φ (.dat (.bool true)) := r_sIs (by show kitB "list" "list" = some true; decide +kernel)
theorem is_list_bool {Φ : Res → Prop} {ds : List PyData} : sIs "bool" (.list ds) Φ = Φ (.dat (.bool false)) := r_sIs (by show kitB "list" "bool" = some false; decide +kernel)
theorem is_list_str {Φ : Res → Prop} {ds : List PyData} : sIs "str" (.list ds) Φ = Φ (.dat (.bool false)) := r_sIs (by show kitB "list" "str" = some false; decide +kernel)
theorem is_list_int {Φ : Res → Prop} {ds : List PyData} : sIs "int" (.list ds) Φ = Φ (.dat (.bool false)) := r_sIs (by show kitB "list" "int" = some false; decide +kernel)
theorem isTL_list {Φ : Res → Prop} {ds : List PyData} : sIsTL (.list ds) Φ = Φ (.dat (.bool true)) := by simp [sIsTL, isSeq]
theorem is_tuple_tuple {Φ : Res → Prop} {ds : List PyData} : sIs "tuple" (.tuple ds) Φ = Φ (.dat (.bool true)) := r_sIs (by show kitB "tuple" "tuple" = some true; decide +kernel)
theorem is_tuple_list {Φ : Res → Prop} {ds : List PyData} : sIs "list" (.tuple ds) Φ = Φ (.dat (.bool false)) := r_sIs (by show kitB "tuple" "list" = some false; decide +kernel)
theorem is_tuple_bool {Φ : Res → Prop} {ds : List PyData} : sIs "bool" (.tuple ds) Φ = Φ (.dat (.bool false)) := r_sIs (by show kitB "tuple" "bool" = some false; decide +kernel)
theorem is_tuple_str {Φ : Res → Prop} {ds : List PyData} : sIs "str" (.tuple ds) Φ = Φ (.dat (.bool false)) := r_sIs (by show kitB "tuple" "str" = some false; decide +kernel)
theorem is_tuple_int {Φ : Res → Prop} {ds : List PyData} : sIs "int" (.tuple ds) Φ = Φ (.dat (.bool false)) := r_sIs (by show kitB "tuple" "int" = some false; decide +kernel)
theorem isTL_tuple {Φ : Res → Prop} {ds : List PyData} : sIsTL (.tuple ds) Φ = Φ (.dat (.bool true)) := by simp [sIsTL, isSeq]
theorem v_bool {a b : Bool} : PyData.eqv (.bool a) (.bool b) = (a == b) := by cases a <;> cases b <;> rfl
theorem r_sIxAT {ds : List PyData} {i : Int} {Φ : Res → Prop} : sIxA (.tuple ds) (.int i) Φ = ∃ d, atI ds i = some d ∧ Φ (.dat d) := by simp [sIxA]
theorem r_sIxAL {ds : List PyData} {i : Int} {Φ : Res → Prop} : sIxA (.list ds) (.int i) Φ = ∃ d, atI ds i = some d ∧ Φ (.dat d) := by simp [sIxA]
end SF

/-! ## Texts -/
namespace SF
open PySem PySem.Spec PyProof.Rows L2
def dStr (s : Str) : PyData := .str s
theorem imL_strs {K : PySem.W.Frag} {G : Hp} {ss : List Str} : ImL K G (ss.map PyData.str) (ss.map V.str) := by
  refine .of_get (by simp) fun i d x h1 h2 => ?_
  rw [List.getElem?_map] at h1 h2
  cases e : ss[i]? with
  | none => rw [e] at h1; cases h1
  | some n =>
    rw [e] at h1 h2
    cases h1
    cases h2
    rw [im_str]
theorem imL_strs' {K : PySem.W.Frag} {G : Hp} : ∀ {ss : List Str} {xs : List V}, ImL K G (ss.map PyData.str) xs → xs = ss.map V.str
  | [], xs, h => by rw [List.map_nil, imL_nil] at h; exact h
  | s :: ss, xs, h => by
    rw [List.map_cons, imL_cons] at h
    obtain ⟨x, r, rfl, h1, h2⟩ := h
    rw [im_str] at h1
    rw [h1, imL_strs' h2]
    rfl
section
variable {X : Cx} {b : Bs} {x y e : Expr} {pos : Pos} {wx wy we : WE}
def sStrI : SemA := fun ds Φ => ∃ i, ds = [.int i] ∧ i.natAbs.log2 < 1920 ∧ Φ (.dat (.str (Str.ofString (toString i))))
theorem pei_strI {p : Pos} {wa : WA} (hm : X.mg "str" = none) (hg : Gl X "str") (h : PAI X b 1 [x] wa) (he : starEach [x] X.env = (false, eval x X.env) :: starEach [] X.env := by rfl) (hpl : ((backTo pos (starEach [] X.env)).any fun z => z.1) = false := by rfl) : PEI X b (.Call (.Name "str" p) [x] [] pos) (wCall sStrI wa) :=
  pei_cb (pe_callTy call_str_int hg hm (by rfl) h (by decide) (by decide) he hpl) fun c ρ σ G H ds xs Φ Q S il hs p => by
    obtain ⟨i, rfl, hz, h⟩ := hs
    obtain ⟨v, rfl, im⟩ := imL_1 il
    rw [im_int] at im
    subst im
    exact ⟨i, rfl, hz, p _ (.dat (.str _)) G H (.refl S) (by show Im _ _ _ _; rw [im_str]) h⟩
def sIntS : SemA := fun ds Φ => ∃ s n, ds = [.str s] ∧ intText? s = some n ∧ s.length ≤ 640 ∧ Φ (.dat (.int n))
theorem pei_intS {p : Pos} {wa : WA} (hm : X.mg "int" = none) (hg : Gl X "int") (h : PAI X b 1 [x] wa) (he : starEach [x] X.env = (false, eval x X.env) :: starEach [] X.env := by rfl) (hpl : ((backTo pos (starEach [] X.env)).any fun z => z.1) = false := by rfl) : PEI X b (.Call (.Name "int" p) [x] [] pos) (wCall sIntS wa) :=
  pei_cb (pe_callTy call_int_str hg hm (by rfl) h (by decide) (by decide) he hpl) fun c ρ σ G H ds xs Φ Q S il hs p => by
    obtain ⟨s, n, rfl, h1, h2, h⟩ := hs
    obtain ⟨v, rfl, im⟩ := imL_1 il
    rw [im_str] at im
    subst im
    exact ⟨s, n, rfl, h1, h2, p _ (.dat (.int _)) G H (.refl S) (by show Im _ _ _ _; rw [im_int]) h⟩
def sLenS : SemA := fun ds Φ => ∃ s, ds = [.str s] ∧ s.length ≤ 1000000 ∧ Φ (.dat (.int ((s.length : Nat) : Int)))
/-- a text's own method with one argument -/
def wOpS (sem : Str → PyData → (Res → Prop) → Prop) (w u : WE) : WE := fun ρ Φ Ξ => w ρ (fun r => ∃ s, r.frz = .str s ∧ u ρ (fun q => sem s q.frz Φ) Ξ) Ξ
def sSplit : Str → PyData → (Res → Prop) → Prop := fun s c Φ => ∃ t, c = .str t ∧ (t.length == 0) = false ∧ s.length ≤ 1000000 ∧ Φ (.lst ((Txt.split s t).map PyData.str))
theorem pei_split {apos : Pos} (hx : PEI X b x wx) (hy : PEI X b y wy) (h1 : starEach [y] X.env = [(false, eval y X.env)] := by rfl) (h2 : attributeBase x "split" X.env (eval x X.env) = eval x X.env := by rfl) (h3 : (apos.endLine == pos.line) = true := by rfl) :
    PEI X b (.Call (.Attribute x "split" apos) [y] [] pos) (wOpS sSplit wx wy) := pei_of (pe_split hx hy h1 h2 h3) fun c ρ σ G H Φ Ξ Q S hw p ex => by
  refine ⟨c, ρ, G, _, Ξ, S, hw, fun v1 r1 G1 H1 t1 o1 h1 => ?_, ex⟩
  obtain ⟨G1', t1', i1⟩ := freeze S t1 o1
  obtain ⟨s0, e0, h1⟩ := h1
  rw [e0, im_str] at i1
  subst i1
  refine ⟨⟨s0, rfl⟩, c, ρ, G1', _, Ξ, S.tr t1', h1, fun v2 r2 G2 H2 t2 o2 h2 => ?_, ex.tr t1'⟩
  obtain ⟨G2', t2', i2⟩ := freeze (S.tr t1') t2 o2
  obtain ⟨t, e2, hz, hl, h⟩ := h2
  rw [e2, im_str] at i2
  subst i2
  refine ⟨_, _, rfl, rfl, hz, ?_, fun q hq => ?_⟩
  · rw [sizeLine_eq]
    omega
  · have S2 := (S.tr t1').tr t2'
    exact p _ (.lst _) _ _ ((t1'.trans t2').trans (.newH S2 hq)) ⟨q, _, rfl, (t1'.trans t2').back hq, S2.ex2.back hq, upd_same, imL_strs⟩ h
def sJoin : Str → PyData → (Res → Prop) → Prop := fun s c Φ => ∃ ts, c = .list (ts.map PyData.str) ∧ (ts.map (·.length)).sum + ts.length * s.length ≤ 16777216 ∧ Φ (.dat (.str (Txt.join s ts)))
theorem pei_join {apos : Pos} (hx : PEI X b x wx) (hy : PEI X b y wy) (h1 : starEach [y] X.env = [(false, eval y X.env)] := by rfl) (h2 : attributeBase x "join" X.env (eval x X.env) = eval x X.env := by rfl) (h3 : (apos.endLine == pos.line) = true := by rfl) :
    PEI X b (.Call (.Attribute x "join" apos) [y] [] pos) (wOpS sJoin wx wy) := pei_of (pe_join hx hy h1 h2 h3) fun c ρ σ G H Φ Ξ Q S hw p ex => by
  refine ⟨c, ρ, G, _, Ξ, S, hw, fun v1 r1 G1 H1 t1 o1 h1 => ?_, ex⟩
  obtain ⟨G1', t1', i1⟩ := freeze S t1 o1
  obtain ⟨s0, e0, h1⟩ := h1
  rw [e0, im_str] at i1
  subst i1
  refine ⟨⟨s0, rfl⟩, c, ρ, G1', _, Ξ, S.tr t1', h1, fun v2 r2 G2 H2 t2 o2 h2 => ?_, ex.tr t1'⟩
  obtain ⟨G2', t2', i2⟩ := freeze (S.tr t1') t2 o2
  obtain ⟨ts, e2, hz, h⟩ := h2
  rw [e2, im_list] at i2
  obtain ⟨a, xs, rfl, ha, il⟩ := i2
  have S2 := (S.tr t1').tr t2'
  rw [imL_strs' il] at ha
  exact ⟨_, a, ts, rfl, rfl, .inl (sq_of (S2.ex2 a _ ha)), hz, p _ (.dat (.str _)) _ _ (t1'.trans t2') (by show Im _ _ _ _; rw [im_str]) h⟩
/-! a sign of a text -/
def sInS (f : Bool → Bool) : Sem2 := fun a c Φ => ∃ k z, a = .str ⟨#[k]⟩ ∧ c = .str z ∧ Φ (.dat (.bool (f (decide (k ∈ z.cps.toList)))))
theorem op2_inS : Op2 X (fun x y H Q => ∃ c z, x = V.str ⟨#[c]⟩ ∧ y = V.str z ∧ Q (V.bl (decide (c ∈ z.cps.toList))) H) (sInS fun k => k) := fun c ρ σ G H d1 d2 x y Φ Q S i1 i2 hs p => by
  obtain ⟨k, z, rfl, rfl, h⟩ := hs
  rw [im_str] at i1 i2
  exact ⟨k, z, i1, i2, p _ (.dat (.bool _)) G H (.refl S) (by show Im _ _ _ _; rw [im_bool]) h⟩
theorem op2_notInS : Op2 X (fun x y H Q => ∃ c z, x = V.str ⟨#[c]⟩ ∧ y = V.str z ∧ Q (V.bl (!decide (c ∈ z.cps.toList))) H) (sInS not) := fun c ρ σ G H d1 d2 x y Φ Q S i1 i2 hs p => by
  obtain ⟨k, z, rfl, rfl, h⟩ := hs
  rw [im_str] at i1 i2
  exact ⟨k, z, i1, i2, p _ (.dat (.bool _)) G H (.refl S) (by show Im _ _ _ _; rw [im_bool]) h⟩
theorem pei_lenS {p : Pos} {wa : WA} (hm : X.mg "len" = none) (hg : Gl X "len") (h : PAI X b 1 [x] wa) (he : starEach [x] X.env = (false, eval x X.env) :: starEach [] X.env := by rfl) (hpl : ((backTo pos (starEach [] X.env)).any fun z => z.1) = false := by rfl) : PEI X b (.Call (.Name "len" p) [x] [] pos) (wCall sLenS wa) :=
  pei_cb (pe_callB call_len_str hg hm PySem.boot_len h (by decide) (by decide) he hpl) fun c ρ σ G H ds xs Φ Q S il hs p => by
    obtain ⟨s, rfl, hz, h⟩ := hs
    obtain ⟨v, rfl, im⟩ := imL_1 il
    rw [im_str] at im
    subst im
    exact ⟨s, rfl, by rw [sizeLine_eq]; omega, p _ (.dat (.int _)) G H (.refl S) (by show Im _ _ _ _; rw [im_int]) h⟩
/-! x.extend(e) -/
def wExt (i : Nat) (w : WE) : WS := fun ρ Ψ => ∃ ds, ρ[i]? = some (.ls ds) ∧ w ρ (fun r => ∃ es, r.frz = .list es ∧ ds.length + es.length ≤ 1000000 ∧ Ψ.nx (ρ.set i (.ls (ds ++ es)))) Ψ.xc
theorem psi_ext (i : Nat) {nm : Str} {np apos cpos : Pos} (he : PEI X b e we) (hN : X.N[i]? = some nm := by rfl) (hv : Vis X.env.scope nm := by first | exact Or.inl rfl | exact Or.inr (Or.inl rfl) | exact Or.inr (Or.inr rfl)) (hd : (nm == ("__debug__" : Str)) = false := by decide)
    (hcd : (nm == ("__classdict__" : Str)) = false := by decide) (hb : attributeBase (.Name nm np) "extend" X.env (eval (.Name nm np) X.env) = eval (.Name nm np) X.env := by rfl)
    (hfew : ((backTo cpos (starEach [e] X.env)).all (fun x => !x.1) && (backToKw cpos (keywordEach [] X.env)).all (fun x => x.1.isSome) && decide ([e].length + ([] : List Keyword).length + (if ([] : List Keyword).isEmpty then 0 else 1) < 30)) = true := by rfl)
    (hline : (apos.endLine == cpos.line) = true := by rfl) (hse : starEach [e] X.env = (false, eval e X.env) :: starEach [] X.env := by rfl) (hpl : (backTo cpos (starEach [] X.env)).any (·.1) = false := by rfl)
    (hs : swapsWith (.Call (.Attribute (.Name nm np) "extend" apos) [e] [] cpos) none pos.line X.env = pure false := by rfl) :
    PSI X b (.Expr (.Call (.Attribute (.Name nm np) "extend" apos) [e] [] cpos) pos) (wExt i we) :=
  psi_of (ps_expr (pe_bm PySem.F.plainAttrs_list PySem.F.slot_list_extend PySem.F.type_list_extend mt_extend (pe_var hN hv hd hcd) (pa_cons he pa_nil hse) hb hfew hline hse hpl) hs) fun c ρ σ G H Ψ D S hw p => by
    obtain ⟨ds, h1, hw⟩ := hw
    obtain ⟨l, xs, h2, h3, h4, h5⟩ := S.mutAt h1
    refine ⟨.ref l, h2, .inl ⟨rfl, xs, sq_of h3⟩, c, ρ, G, _, Ψ.xc, S, hw, fun v r G1 H1 t1 o1 hn => ?_, p.exc S⟩
    obtain ⟨G2, t2, im⟩ := freeze S t1 o1
    obtain ⟨es, e0, hz, hn⟩ := hn
    rw [e0, im_list] at im
    obtain ⟨a, ys, rfl, ha, il⟩ := im
    have S2 := S.tr t2
    have k3 := t2.keep l _ h3 (S.neRow h1 h2) ntL
    refine ⟨l, a, xs, ys, rfl, rfl, k3, S2.ex2 a _ ha, ?_, ?_⟩
    · rw [← h5.len, ← il.len]
      exact Nat.le_trans hz (by decide)
    · exact p.nx _ _ G2 _ (S2.write h1 h2 ((h5.mono t2.eg).append il)) hn
end
/-! ### comprehensions over a text -/
theorem lc_str {x : Str} {g : TG} {tt : TT} {te : TE} {vs : List Nat} {σ : L2.St} {H1 : Hp} {D : Addr} {Qd : Hp → Prop} (Pv : Nat → Hp → Prop) (h0 : Pv 0 (upd H1 D (.lst [])))
    (hs : ∀ i k H, x.cps[i]? = some k → Pv i H → g (.str ⟨#[k]⟩) (wipe σ vs) H fun σ2 H2 => wipe σ2 vs = wipe σ vs ∧ tt σ2 H2 fun b H3 =>
      if b = true then te σ2 H3 fun y H4 => ∃ acc, H4 D = some (.lst acc) ∧ acc.length < sizeLine ∧ Pv (i + 1) (upd H4 D (.lst (acc ++ [y]))) else Pv (i + 1) H3) (hd : ∀ H, Pv x.cps.size H → Qd H) :
    ∃ W : Nat → Nat → Hp → Prop, (∃ m, W 0 m (upd H1 D (.lst []))) ∧ ∀ i m H, W i m H →
      ((Its x).stop i H ∧ Qd H) ∨ ((Its x).go i H ∧ ∃ Nx : Hp → Prop, (∀ H', Nx H' → ∃ m', m' < m ∧ W (i + 1) m' H') ∧ ∀ v H', (Its x).yld i H v H' → g v (wipe σ vs) H' fun σ2 H2 => wipe σ2 vs = wipe σ vs ∧ tt σ2 H2 fun b H3 =>
        if b = true then te σ2 H3 fun y H4 => ∃ acc, H4 D = some (.lst acc) ∧ acc.length < sizeLine ∧ Nx (upd H4 D (.lst (acc ++ [y]))) else Nx H3) := by
  refine ⟨fun i m H => m = x.cps.size - i ∧ i ≤ x.cps.size ∧ Pv i H, ⟨x.cps.size, by simp, Nat.zero_le _, h0⟩, ?_⟩
  rintro i m H ⟨rfl, hi, p⟩
  by_cases hlt : i < x.cps.size
  · refine .inr ⟨hlt, Pv (i + 1), fun H' p' => ⟨x.cps.size - (i + 1), by omega, rfl, hlt, p'⟩, fun v H' y => ?_⟩
    obtain ⟨e, k, hk, y⟩ := y
    subst e y
    exact hs i k _ hk p
  · have e : i = x.cps.size := by omega
    subst e
    exact .inl ⟨Nat.le_refl _, hd H p⟩
/-- the signs of a text, each as a text -/
def signs (s : Str) : List PyData := s.cps.toList.map fun k => PyData.str ⟨#[k]⟩
def wLcS (tgt : Tgt) (vs : List Nat) (wi : WE) (wt : WT) (w : WE) : WE := fun ρ Φ Ξ => wi ρ (fun r => ∃ s, r.frz = .str s ∧ LcI tgt vs wt w (signs s) ρ Φ) Ξ
section
variable {X : Cx} {b : Bs} {tgt : Tgt} {wt : WT} {w we : WE} {own : List (Str × Nat)} {scope : Scope} {tg e elt : Expr} {ifs : List Expr} {pos : Pos} {K : PySem.W.Frag}
theorem lcS_ok (hts : ∀ n ∈ tgt.slots, n ∈ own.map (·.2)) (σ : L2.St) (H : Hp) (Q : VK) (h : teOf K b (wLcS tgt (own.map (·.2)) we wt w) σ H Q) : tLc (iStr (teOf K b we)) (tgOf K tgt) (ttOf K b wt) (teOf K b w) (own.map (·.2)) σ H Q := by
  obtain ⟨c, ρ, G, Φ, Ξ, S, hw, p, ex⟩ := h
  refine ⟨c, ρ, G, _, Ξ, S, hw, fun v r G1 H1 t1 o1 h1 => ?_, ex⟩
  obtain ⟨G2, t2, im⟩ := freeze S t1 o1
  obtain ⟨s, e, hn, I, h0, hI, hd⟩ := h1
  rw [e, im_str] at im
  subst im
  have S2 := S.tr t2
  refine ⟨s, rfl, fun D hD => ?_⟩
  have hlen : (signs s).length = s.cps.size := by unfold signs; rw [List.length_map, Array.length_toList]
  refine lc_str (x := s) (PvLc K ρ σ G2 H1 D I) ⟨G2, [], [], Tr.newH S2 hD, upd_same, S2.ex2.back hD, .nil, h0⟩ (fun i k H' hk ⟨G', acc, ys, t, k1, k2, k3, k4⟩ => ?_) (fun H' ⟨G', acc, ys, t, k1, k2, k3, k4⟩ => ?_)
  · have hk2 : (signs s)[i]? = some (.str ⟨#[k]⟩) := by
      unfold signs
      rw [List.getElem?_map, Array.getElem?_toList, hk]
      rfl
    exact lc_turn (b := b) (Pv := PvLc K ρ σ G2 H1 D I) hts S2 hn t hD k1 k2 k3 k4 (by rw [im_str]) (hI i _ hk2) fun G' H' acc' xs' q1 q2 q3 q4 q5 => ⟨G', acc', xs', q1, q2, q3, q4, q5⟩
  · exact p _ (.lst acc) G' H' (t2.trans t) ⟨D, ys, rfl, t2.back hD, k2, k1, k3⟩ (hd acc (by rw [hlen]; exact k4))
theorem pei_lcS (hc : X.calm = true) (hN : X.N.Nodup) (hi : PEI X b e we) (B : Blk X b scope own tg ifs elt tgt wt w) (hs : ∀ x, foldedSetIterable e X.env x = pure x := by intro _; rfl) : PEI X b (.ListComp elt [⟨tg, e, ifs, 0⟩] scope pos) (wLcS tgt (own.map (·.2)) we wt w) :=
  pe_imp (pe_lc hc hN (pi_str hi) B.ok B.hg B.ht B.he hs) (lcS_ok B.sl)
/-! ### a table of the top, its keys texts -/
def sKdIn (g : Str → Bool) : Sem1 := fun d Φ => ∃ z, d = .str z ∧ Φ (.dat (.bool (g z)))
def sKdAt (g : Str → Option Str) : Sem1 := fun d Φ => ∃ z u, d = .str z ∧ g z = some u ∧ Φ (.dat (.str u))
/-- what the table tells of a text -/
def KdAs (K : PySem.W.Frag) (d : Addr) (g : Str → Option Str) : Prop := ∀ z, PySem.W.nsIn K d z = some none ∧ g z = none ∨ ∃ u t, PySem.W.nsIn K d z = some (some (.str u t)) ∧ g z = some u
variable {d : Addr} {es : Array DictEntry} {n : Nat} {x : Expr} {wx : WE} {nm : Str} {np : Pos}
theorem pei_notInKd {g : Str → Option Str} (D : KDict X.K X.w d es n) (hk : KdAs X.K d g) (hg : Gl X nm) (hm : X.mg nm = some (.ref d)) (hx : PEI X b x wx) (hn2 : (nm == Str.ofString "__debug__") = false := by decide) : PTI X b (.Compare x [.NotIn] [.Name nm np] pos) (wTest (wUn (sKdIn fun z => !(g z).isSome) wx)) :=
  pti_of (pt_cmpR (op_notIn_kd D) hx (pe_glob hg hm (v := .ref d) rfl hn2) (by rfl)) fun c ρ σ G H Φ Ξ Q S hw p ex => by
    refine ⟨c, ρ, G, _, Ξ, S, hw, fun v1 r1 G1 H1 t1 o1 h1 => ?_, ex⟩
    obtain ⟨G1', t1', i1⟩ := freeze S t1 o1
    obtain ⟨z, e0, k, e1, h⟩ := h1
    rw [e0, im_str] at i1
    cases e1
    have h : Φ (!(g z).isSome) := h
    rcases hk z with ⟨h1, h2⟩ | ⟨u, t, h1, h2⟩
    · exact ⟨z, none, i1, rfl, h1, _, rfl, p _ G1' H1 t1' (by rw [h2] at h; exact h)⟩
    · exact ⟨z, _, i1, rfl, h1, _, rfl, p _ G1' H1 t1' (by rw [h2] at h; exact h)⟩
theorem pei_ixKd {g : Str → Option Str} (D : KDict X.K X.w d es n) (hk : KdAs X.K d g) (hg : Gl X nm) (hm : X.mg nm = some (.ref d)) (hx : PEI X b x wx) (hn2 : (nm == Str.ofString "__debug__") = false := by decide) (hs : PlainIx x := by intro _ _; rfl) : PEI X b (.Subscript (.Name nm np) x pos) (wUn (sKdAt g) wx) :=
  pei_un (r := fun v H Q => rIxD X.K X.w (.ref d) v H Q) (pe_ix ix_kdict (pe_glob hg hm (v := .ref d) rfl hn2) hx hs) fun c ρ σ G H dd v Φ Q S i hs p => by
    obtain ⟨z, u, rfl, hz, h⟩ := hs
    rw [im_str] at i
    rcases hk z with ⟨h1, h2⟩ | ⟨u2, t, h1, h2⟩
    · rw [h2] at hz; cases hz
    · rw [h2] at hz
      cases hz
      exact ⟨d, z, .str u, rfl, i, ⟨es, n, _, D.at_, D.lit, h1, ⟨t, rfl⟩⟩, p _ (.dat (.str _)) G H (.refl S) (by show Im _ _ _ _; rw [im_str]) h⟩
end
/-! ### the signs of kinds of cells -/
def signsG (z : Str) : Option Str := if (Str.ofString "r" == z) = true then some (Str.ofString "row") else if (Str.ofString "f" == z) = true then some (Str.ofString "free") else none
theorem kd_signs {K : PySem.W.Frag} {a : Addr} {ha hb : Int} {ta tb tc td} {n : Nat} {oc : Value} {od : Option Addr} {sl : Array (Option Value)} (h : K.lookup a = some ⟨oc, od, .dict #[⟨ha, .str (Str.ofString "r") ta, .str (Str.ofString "row") tb⟩, ⟨hb, .str (Str.ofString "f") tc, .str (Str.ofString "free") td⟩] n, sl⟩) : KdAs K a signsG := fun z => by
  rw [PySem.W.nsIn, h]
  have e1 : (Value.str (Str.ofString "r") ta).isStr z = (Str.ofString "r" == z) := rfl
  have e2 : (Value.str (Str.ofString "f") tc).isStr z = (Str.ofString "f" == z) := rfl
  unfold signsG
  cases h1 : (Str.ofString "r" == z) with
  | true =>
    right
    refine ⟨_, tb, ?_, by rw [if_pos rfl]⟩
    show (match List.find? (fun x : DictEntry => x.key.isStr z) [⟨ha, .str (Str.ofString "r") ta, .str (Str.ofString "row") tb⟩, ⟨hb, .str (Str.ofString "f") tc, .str (Str.ofString "free") td⟩] with | some e => some (some e.val) | none => _) = _
    rw [List.find?_cons_of_pos (by rw [e1]; exact h1)]
  | false =>
    rw [if_neg (by decide)]
    cases h2 : (Str.ofString "f" == z) with
    | true =>
      right
      refine ⟨_, td, ?_, by rw [if_pos rfl]⟩
      show (match List.find? (fun x : DictEntry => x.key.isStr z) [⟨ha, .str (Str.ofString "r") ta, .str (Str.ofString "row") tb⟩, ⟨hb, .str (Str.ofString "f") tc, .str (Str.ofString "free") td⟩] with | some e => some (some e.val) | none => _) = _
      rw [List.find?_cons_of_neg (by rw [e1, h1]; decide), List.find?_cons_of_pos (by rw [e2]; exact h2)]
    | false =>
      left
      refine ⟨?_, by rw [if_neg (by decide)]⟩
      show (match List.find? (fun x : DictEntry => x.key.isStr z) [⟨ha, .str (Str.ofString "r") ta, .str (Str.ofString "row") tb⟩, ⟨hb, .str (Str.ofString "f") tc, .str (Str.ofString "free") td⟩] with | some e => some (some e.val) | none => if ([⟨ha, .str (Str.ofString "r") ta, .str (Str.ofString "row") tb⟩, ⟨hb, .str (Str.ofString "f") tc, .str (Str.ofString "free") td⟩] : List DictEntry).any (·.refKey) = true then none else some none) = _
      rw [List.find?_cons_of_neg (by rw [e1, h1]; decide), List.find?_cons_of_neg (by rw [e2, h2]; decide), List.find?_nil]
      rfl
/-! ### what texts tell of cells -/
def numS : Lk → Str
  | none => Str.ofString "-"
  | some n => Str.ofString (toString (n : Int))
def headS : Cell → Str
  | .row _ => Str.ofString "r"
  | .free _ => Str.ofString "f"
def whatL : Cell → Lk
  | .row n => some n
  | .free l => l
def cellS (c : Cell) : Str := headS c ++ numS (whatL c)
def wordsF (f : File) : List Str := numS f.head :: f.cells.map cellS
def textF (f : File) : Str := Txt.join (Str.ofString " ") (wordsF f)
/-- a number's text, looked through -/
def numOk (n : Nat) : Bool :=
  let s := Str.ofString (toString (n : Int))
  (intText? s == some (n : Int)) && decide (1 ≤ s.length) && decide (s.length ≤ 3) && (s.cps.toList.all fun k => decide (k ∈ (Str.ofString "0123456789").cps.toList)) && (!(s == Str.ofString "-")) && (match s.cps.toList with | k :: _ => !((⟨#[k]⟩ : Str) == Str.ofString "0") || (s == Str.ofString "0") | [] => false) && (s.cps.toList.all fun k => !(k == 32)) && PyData.strOk s && PyData.strOk (Str.ofString "r" ++ s) && !(Str.ofString "r" ++ s == Str.ofString "r-")
theorem numOk_all : ((List.range 1000).all numOk) = true := by decide +kernel
section
variable {Φ : Res → Prop} {s t z : Str} {i : Int} {k : Nat}
theorem r_sIxS : sIxS (.str s) (.int i) Φ = (s.length ≤ 1000000 ∧ ∃ k, atI s.cps.toList i = some k ∧ Φ (.dat (.str ⟨#[k]⟩))) := by simp [sIxS]
theorem r_sStrI : sStrI [.int i] Φ = (i.natAbs.log2 < 1920 ∧ Φ (.dat (.str (Str.ofString (toString i))))) := by simp [sStrI]
theorem r_sIntS : sIntS [.str s] Φ = ∃ n, intText? s = some n ∧ s.length ≤ 640 ∧ Φ (.dat (.int n)) := by simp [sIntS]
theorem r_sLenS : sLenS [.str s] Φ = (s.length ≤ 1000000 ∧ Φ (.dat (.int ((s.length : Nat) : Int)))) := by simp [sLenS]
theorem r_sInS {f : Bool → Bool} : sInS f (.str ⟨#[k]⟩) (.str z) Φ = Φ (.dat (.bool (f (decide (k ∈ z.cps.toList))))) := by simp [sInS]
theorem r_sCatS : sCatS (.str s) (.str t) Φ = (s.length + t.length ≤ 1000000 ∧ Φ (.dat (.str (s ++ t)))) := by simp [sCatS]
theorem r_sSlS {lo hi : Option Int} : sSlS (.str s) lo hi Φ = (s.length ≤ 1000000 ∧ Φ (.dat (.str (cutS s lo hi)))) := by simp [sSlS]
theorem r_exs {p : Str → Prop} : (∃ x, PyData.str s = PyData.str x ∧ p x) = p s := by simp
theorem r_sSplit : sSplit s (.str t) Φ = ((t.length == 0) = false ∧ s.length ≤ 1000000 ∧ Φ (.lst ((Txt.split s t).map PyData.str))) := by simp [sSplit]
theorem r_sKdIn {g : Str → Bool} : sKdIn g (.str z) Φ = Φ (.dat (.bool (g z))) := by simp [sKdIn]
theorem r_sKdAt {g : Str → Option Str} : sKdAt g (.str z) Φ = ∃ u, g z = some u ∧ Φ (.dat (.str u)) := by simp [sKdAt]
end
/-- what is known of a number's text -/
structure NumF (n : Nat) : Prop where
  val : intText? (numS (some n)) = some (n : Int)
  lo : 1 ≤ (numS (some n)).length
  hi : (numS (some n)).length ≤ 3
  fig : ∀ k ∈ (numS (some n)).cps.toList, k ∈ (Str.ofString "0123456789").cps.toList
  ne : (numS (some n) == Str.ofString "-") = false
  fst : ∃ k r, (numS (some n)).cps.toList = k :: r ∧ (((⟨#[k]⟩ : Str) == Str.ofString "0") && !(numS (some n) == Str.ofString "0")) = false
  sp : 32 ∉ (numS (some n)).cps.toList
  ok : PyData.strOk (numS (some n)) = true
  rok : PyData.strOk (Str.ofString "r" ++ numS (some n)) = true
  rne : (Str.ofString "r" ++ numS (some n) == Str.ofString "r-") = false
theorem numF {n : Nat} (h : n ≤ 999) : NumF n := by
  have h := List.all_eq_true.mp numOk_all n (List.mem_range.mpr (by omega))
  unfold numOk at h
  simp only [Bool.and_eq_true, decide_eq_true_eq, List.all_eq_true, beq_iff_eq, Bool.not_eq_true', beq_eq_false_iff_ne] at h
  obtain ⟨⟨⟨⟨⟨⟨⟨⟨⟨h1, h2⟩, h3⟩, h4⟩, h5⟩, h6⟩, h7⟩, h8⟩, h9⟩, h10⟩ := h
  refine ⟨h1, h2, h3, h4, ?_, ?_, fun z => h7 32 z rfl, h8, h9, ?_⟩
  · rw [Bool.eq_false_iff]
    intro z
    exact h5 (eq_of_beq z)
  · show ∃ k r, (Str.ofString (toString (n : Int))).cps.toList = k :: r ∧ _
    cases e : (Str.ofString (toString (n : Int))).cps.toList with
    | nil => rw [e] at h6; cases h6
    | cons k r =>
      rw [e] at h6
      refine ⟨k, r, rfl, ?_⟩
      have h6 : (!((⟨#[k]⟩ : Str) == Str.ofString "0") || (Str.ofString (toString (n : Int)) == Str.ofString "0")) = true := h6
      show (((⟨#[k]⟩ : Str) == Str.ofString "0") && !(Str.ofString (toString (n : Int)) == Str.ofString "0")) = false
      revert h6
      cases ((⟨#[k]⟩ : Str) == Str.ofString "0") <;> cases (Str.ofString (toString (n : Int)) == Str.ofString "0") <;> decide
  · rw [Bool.eq_false_iff]
    intro z
    exact h10 (eq_of_beq z)
end SF

/-! ## What is told is changed behind: old data, new data -/
namespace SF
open PySem PySem.Spec PyProof.Rows L2
/-- a heap's part without lists -/
def noLst (G : Hp) : Hp := fun a => match G a with
  | some (.lst _) => none
  | o => o
theorem noLst_ex {G : Hp} : Ex (noLst G) G := fun a o h => by
  unfold noLst at h
  cases e : G a with
  | none => rw [e] at h; cases h
  | some u =>
    rw [e] at h
    cases u <;> first | exact h | cases h
theorem noLst_t {G : Hp} : ExT G (noLst G) := fun a xs r => by
  rcases r with r | ⟨o, r⟩
  · refine .inl ?_
    unfold noLst
    rw [r]
  · refine .inr ⟨o, ?_⟩
    unfold noLst
    rw [r]
theorem noLst_l {G : Hp} {a : Addr} {xs : List V} : noLst G a ≠ some (.lst xs) := fun h => by
  unfold noLst at h
  cases e : G a with
  | none => rw [e] at h; cases h
  | some u =>
    rw [e] at h
    cases u <;> cases h
theorem noLst_none {G : Hp} {a : Addr} (h : G a = none) : noLst G a = none := by
  unfold noLst
  rw [h]
def uni (G G' : Hp) : Hp := fun a => match G a with
  | some o => some o
  | none => G' a
theorem uni_l {G G' : Hp} : Ex G (uni G G') := fun a o h => by
  unfold uni
  rw [h]
section
variable {K : PySem.W.Frag} {c : Cn} {ρ : Rho} {σ : L2.St} {G H G' H' : Hp}
/-- a call over what is no list: all lists of the answer are new -/
theorem call_new (S : Sat K c ρ σ G H) (f : Fin' K ⟨none, noLst G, H⟩ G' H') {r : Res} {v : V} (o : Out K H G' H' r v) :
    ∃ G2 Gn, Tr K ρ σ G H G2 H' ∧ Im K Gn r.frz v ∧ Ex Gn G2 ∧ ∀ a xs, Gn a = some (.lst xs) → H a = none := by
  obtain ⟨Gn, hn, im, hnH, hav, hEx⟩ : ∃ Gn, Ex G' Gn ∧ Im K Gn r.frz v ∧ Ex Gn H' ∧ (∀ a, noLst G a = none → H a ≠ none → Gn a = none) ∧ Ex (noLst G) Gn := by
    cases r with
    | dat d => exact ⟨G', .refl _, o, f.ex2, f.avoid, f.ex1⟩
    | lst ds =>
      obtain ⟨l, xs, rfl, o1, o2, o3, o4⟩ := o
      have hx : Ex G' (upd G' l (.lst xs)) := .new o2
      refine ⟨upd G' l (.lst xs), hx, ?_, fun a u h => ?_, fun a h h' => ?_, f.ex1.trans hx⟩
      · show Im K _ (.list ds) _
        rw [im_list]
        exact ⟨l, xs, rfl, upd_same, o4.mono hx⟩
      · by_cases q : a = l
        · subst q
          rw [upd_same] at h
          cases h
          exact o3
        · rw [upd_ne q] at h
          exact f.ex2 a u h
      · rw [upd_ne (show a ≠ l from fun e => h' (by rw [e]; exact o1))]
        exact f.avoid a h h'
  have hkeep : ∀ a o, G a = some o → H' a = some o := fun a o h => by
    by_cases q : ∃ xs, o = .lst xs
    · obtain ⟨xs, rfl⟩ := q
      exact f.keep a _ (S.ex2 a _ h) (by intro z; cases z) ntL
    · refine f.ex2 a o (f.ex1 a o ?_)
      show noLst G a = some o
      unfold noLst
      rw [h]
      cases o with
      | lst xs => exact absurd ⟨xs, rfl⟩ q
      | _ => rfl
  have new : ∀ a xs, Gn a = some (.lst xs) → H a = none := fun a xs h => by
    cases e : H a with
    | none => rfl
    | some u =>
      cases e2 : noLst G a with
      | none => rw [hav a e2 (by rw [e]; exact fun z => by cases z)] at h; cases h
      | some w =>
        rw [hEx a w e2] at h
        cases h
        exact absurd e2 noLst_l
  have same : ∀ a o o', Gn a = some o → G a = some o' → o' = o := fun a o o' h h' => by
    have h1 := hkeep a o' h'
    have h2 := hnH a o h
    rw [h1] at h2
    exact Option.some.inj h2
  refine ⟨uni G Gn, Gn, ⟨uni_l, fun a o h => ?_, fun a o h _ m => f.keep a o h (by intro z; cases z) m, f.tbl, fun a h h' => ?_, fun q hq => ?_⟩, im, fun a o h => ?_, new⟩
  · unfold uni at h
    cases e : G a with
    | some u =>
      rw [e] at h
      cases h
      exact hkeep a _ e
    | none =>
      rw [e] at h
      exact hnH a o h
  · unfold uni
    rw [h]
    exact hav a (noLst_none h) h'
  · have z := S.rowAt hq
    refine z.go uni_l ?_ fun o e => f.keep q _ e (by intro z; cases z) ntL
    unfold uni
    rw [z.1]
    exact hav q (noLst_none z.1) z.there
  · unfold uni
    cases e : G a with
    | none => exact h
    | some u => rw [same a o u h e]
/-- a slot's entry that tells less -/
theorem Sat.reent (S : Sat K c ρ σ G H) {i : Nat} {e' : Ent} (h : ∀ o, σ[i]? = some o → SlotOk K G H e' o) (hm : e'.isM = false) : Sat K c (ρ.set i e') σ G H := by
  have gt : ∀ {j : Nat} {e : Ent}, (ρ.set i e')[j]? = some e → e.isM = true → ρ[j]? = some e := fun {j e} h1 h2 => by
    by_cases q : i = j
    · subst q
      by_cases k : i < ρ.length
      · rw [List.getElem?_set_self k] at h1
        cases h1
        rw [hm] at h2
        cases h2
      · rw [List.getElem?_eq_none (by rw [List.length_set]; omega)] at h1
        cases h1
    · rw [List.getElem?_set_ne q] at h1
      exact h1
  refine ⟨S.ex1, S.ex2, S.keep, S.tbl, S.there, S.avoid, S.mrow, S.mhe, by rw [List.length_set, S.len], fun j e o h1 h2 => ?_, fun j e l h1 h2 h3 => S.own j e l (gt h1 h2) h2 h3, fun j k e f l hne h1 h2 m1 m2 h3 => S.ne j k e f l hne (gt h1 m1) (gt h2 m2) m1 m2 h3⟩
  by_cases q : i = j
  · subst q
    have k : i < ρ.length := by
      have := (List.getElem?_eq_some_iff.mp h1).1
      rwa [List.length_set] at this
    rw [List.getElem?_set_self k] at h1
    cases h1
    exact h o h2
  · rw [List.getElem?_set_ne q] at h1
    exact S.slot j e o h1 h2
end
end SF

/-! ## for s in x[1:]: s.append(0) -/
namespace SF
open PySem PySem.Spec PyProof.Rows L2
def tSpoil (K : PySem.W.Frag) (i s : Nat) : TS := fun D σ H => ∃ (t : Addr) (v0 : V) (ls : List Addr), σ[i]? = some (some (.ref t)) ∧ SqT K H t (v0 :: ls.map V.ref) ∧ (∀ l ∈ ls, ∃ xs, H l = some (.lst xs) ∧ xs.length ≤ 1000) ∧ ls.length ≤ 10 ∧ s < σ.length ∧
  ∀ (o : Option V) H', (∀ a u, a ∉ ls → H a = some u → H' a = some u) → (∀ a, H a ≠ none → H' a ≠ none) → D.nx (σ.set s o) H'
section
variable {X : Cx} {pos p1 p2 p3 pn ps pi p0 apos cpos epos : Pos} {ni ns : Str} {j1 j0 : Nat}
theorem ps_spoil (i s : Nat) (hp : PassesOwn (model X.prog X.w) X.A X.env X.xe) (hc : X.calm = true) (hN : X.N.Nodup) (hi : X.N[i]? = some ni := by rfl) (hsn : X.N[s]? = some ns := by rfl) (hvi : Vis X.env.scope ni := by first | exact Or.inl rfl | exact Or.inr (Or.inl rfl) | exact Or.inr (Or.inr rfl))
    (hvs : Vis X.env.scope ns := by first | exact Or.inl rfl | exact Or.inr (Or.inl rfl) | exact Or.inr (Or.inr rfl)) (hls : L2.Loc X.env.scope ns := by first | exact Or.inl rfl | exact Or.inr rfl)
    (d1 : (ni == ("__debug__" : Str)) = false := by decide) (d2 : (ni == ("__classdict__" : Str)) = false := by decide) (d3 : (ns == ("__debug__" : Str)) = false := by decide) (d4 : (ns == ("__classdict__" : Str)) = false := by decide)
    (hf : X.fn ns = true ∨ X.env.scope.names.lookup ns = some .local := by first | exact .inl rfl | exact .inr rfl)
    (hb : attributeBase (.Name ns pn) "append" X.env (eval (.Name ns pn) X.env) = eval (.Name ns pn) X.env := by rfl)
    (hfew : ((backTo cpos (starEach [.Constant (.int 0) j0 p0] X.env)).all (fun x => !x.1) && (backToKw cpos (keywordEach [] X.env)).all (fun x => x.1.isSome) && decide ([Expr.Constant (.int 0) j0 p0].length + ([] : List Keyword).length + (if ([] : List Keyword).isEmpty then 0 else 1) < 30)) = true := by rfl)
    (hline : (apos.endLine == cpos.line) = true := by rfl) (hse : starEach [.Constant (.int 0) j0 p0] X.env = (false, eval (.Constant (.int 0) j0 p0) X.env) :: starEach [] X.env := by rfl) (hpl : (backTo cpos (starEach [] X.env)).any (·.1) = false := by rfl)
    (hs : swapsWith (.Call (.Attribute (.Name ns pn) "append" apos) [.Constant (.int 0) j0 p0] [] cpos) none epos.line X.env = pure false := by rfl)
    (hfs : ∀ x, foldedSetIterable (.Subscript (.Name ni pi) (.Slice (some (.Constant (.int 1) j1 p1)) none none p2) p3) X.env x = pure x := by intro _; rfl) :
    PS X (.For (.Name ns ps) (.Subscript (.Name ni pi) (.Slice (some (.Constant (.int 1) j1 p1)) none none p2) p3) [.Expr (.Call (.Attribute (.Name ns pn) "append" apos) [.Constant (.int 0) j0 p0] [] cpos) epos] [] pos) (tSpoil X.K i s) :=
  ps_imp (ps_for hp hc (pi_tup (pe_slice sl_tupA (pe_var hi hvi d1 d2) (po_some pe_int) po_none)) (pg_name hN hsn hls hf) (pss_one (ps_expr (pe_bm PySem.F.plainAttrs_list PySem.F.slot_list_append PySem.F.type_list_append mt_append (pe_var hsn hvs d3 d4) (pa_cons pe_int pa_nil hse) hb hfew hline hse hpl) hs)) hfs) fun D σ H h => by
    obtain ⟨t, v0, ls, h1, h2, h3, h4, h5, q⟩ := h
    have ec : cutV (v0 :: ls.map V.ref) (some 1) none = ls.map V.ref := by
      unfold cutV
      rw [HT.sIx_none, show HT.sIx (v0 :: ls.map V.ref).length 0 (some 1) = min 1 (v0 :: ls.map V.ref).length from HT.sIx_nat _ _ 1]
      rw [show min 1 (v0 :: ls.map V.ref).length = 1 by rw [List.length_cons]; omega]
      show ((v0 :: ls.map V.ref).drop 1).take ((v0 :: ls.map V.ref).length - 1) = _
      rw [List.drop_succ_cons, List.drop_zero, List.length_cons, Nat.add_sub_cancel, List.take_length]
    refine ⟨.ref t, h1, 1, rfl, t, _, rfl, h2, fun z => ?_, fun _ p hpn => ?_⟩
    · exfalso
      have z1 := z.1
      rw [show HT.sIx (v0 :: ls.map V.ref).length 0 (some 1) = min 1 (v0 :: ls.map V.ref).length from HT.sIx_nat _ _ 1, List.length_cons] at z1
      omega
    · rw [ec]
      have hpl' : p ∉ ls := fun z => by
        obtain ⟨xs, hx, _⟩ := h3 p z
        rw [hpn] at hx
        cases hx
      refine ⟨p, rfl, ⟨_, st_of upd_same⟩, for_tup (xs := ls.map V.ref) (fun k σ' H' => ∃ o, σ' = σ.set s o ∧ H' p = some (.tup (ls.map V.ref)) ∧ (∀ a u, a ∉ ls → H a = some u → H' a = some u) ∧ (∀ a, H a ≠ none → H' a ≠ none) ∧ ∀ l ∈ ls, ∃ xs, H' l = some (.lst xs) ∧ xs.length ≤ 1000 + k) ?_ (fun k σ' H' _ ⟨o, _, e, _⟩ => st_of e) (fun k x σ' H' hx ⟨o, e1, e2, e3, e4, e5⟩ => ?_) (fun σ' H' ⟨o, e1, e2, e3, e4, e5⟩ => by rw [e1]; exact q o H' e3 e4)⟩
      · refine ⟨(σ[s]?).getD none, List.ext_getElem? fun n => ?_, upd_same, fun a u _ h => ?_, fun a h => ?_, fun l hl => ?_⟩
        · rw [List.getElem?_set]
          by_cases z : s = n
          · subst z
            rw [if_pos rfl]
            by_cases y : s < σ.length
            · rw [if_pos y, List.getElem?_eq_getElem y]
              rfl
            · rw [if_neg y, List.getElem?_eq_none (by omega)]
          · rw [if_neg z]
        · rw [upd_ne (ne_of_none h hpn)]
          exact h
        · rw [upd_ne (show a ≠ p from fun e => h (e ▸ hpn))]
          exact h
        · obtain ⟨xs, hx, hz⟩ := h3 l hl
          exact ⟨xs, by rw [upd_ne (ne_of_none hx hpn)]; exact hx, by omega⟩
      · rw [List.getElem?_map] at hx
        cases hk : ls[k]? with
        | none => rw [hk] at hx; cases hx
        | some l =>
          rw [hk] at hx
          cases hx
          have hlm : l ∈ ls := List.mem_of_getElem? hk
          have hkl : k < ls.length := (List.getElem?_eq_some_iff.mp hk).1
          obtain ⟨xs, hx, hz⟩ := e5 l hlm
          have hget : (σ'.set s (some (.ref l)))[s]? = some (some (.ref l)) ∨ σ.length ≤ s := by
            by_cases y : s < σ.length
            · left
              rw [e1, List.set_set, List.getElem?_set_self y]
            · exact .inr (by omega)
          rcases hget with hget | hbad
          · refine ⟨.ref l, hget, .inl ⟨rfl, xs, sq_of hx⟩, l, xs, .int 0, rfl, rfl, hx, Nat.lt_of_le_of_lt hz (by rw [sizeLine_eq]; omega), some (.ref l), by rw [e1, List.set_set], ?_, fun a u ha h => ?_, fun a h => ?_, fun m hm => ?_⟩
            · rw [upd_ne (show p ≠ l from fun e => hpl' (e ▸ hlm))]
              exact e2
            · rw [upd_ne (show a ≠ l from fun e => ha (e ▸ hlm))]
              exact e3 a u ha h
            · by_cases y : a = l
              · rw [y, upd_same]
                exact fun z => by cases z
              · rw [upd_ne y]
                exact e4 a h
            · by_cases y : m = l
              · subst y
                exact ⟨_, upd_same, by rw [List.length_append]; show xs.length + 1 ≤ _; omega⟩
              · obtain ⟨ys, hy, hz2⟩ := e5 m hm
                exact ⟨ys, by rw [upd_ne y]; exact hy, by omega⟩
          · exact absurd h5 (by omega)
end
end SF

/-! ## the state behind a change of what was told -/
namespace SF
open PySem PySem.Spec PyProof.Rows L2
def cutL (G : Hp) (ls : List Addr) : Hp := fun a => if a ∈ ls then none else G a
theorem cutL_none {G : Hp} {ls : List Addr} {a : Addr} (h : G a = none) : cutL G ls a = none := by
  unfold cutL
  split
  · rfl
  · exact h
theorem cutL_in {G : Hp} {ls : List Addr} {a : Addr} (h : a ∈ ls) : cutL G ls a = none := if_pos h
theorem cutL_out {G : Hp} {ls : List Addr} {a : Addr} (h : a ∉ ls) : cutL G ls a = G a := if_neg h
section
variable {K : PySem.W.Frag} {c : Cn} {ρ : Rho} {σ : L2.St} {G1 H1 G4 H4 H5 : Hp}
theorem spoil_sat {ls : List Addr} {i k s : Nat} {d : PyData} {es : List PyData} {o1 o2 o : Option V} (S1 : Sat K c ρ σ G1 H1) (S4 : Sat K c ((ρ.set i (.dat d)).set k (.ls es)) ((σ.set i o1).set k o2) G4 H4) (e14 : Ex G1 G4)
    (k14 : ∀ a u, H1 a = some u → ¬ IsRow ρ σ a → NTbl u → H4 a = some u) (t14 : TblK K H1 H4) (a14 : AvT H1 G1 G4) (hnew : ∀ l ∈ ls, H1 l = none) (hG4 : ∀ l ∈ ls, ∃ xs, G4 l = some (.lst xs)) (hes : nolL es = true)
    (h45 : ∀ a u, a ∉ ls → H4 a = some u → H5 a = some u) (h45' : ∀ a, H4 a ≠ none → H5 a ≠ none) (t45 : TblK K H4 H5) : Sat K c (((ρ.set i .no).set k (.ls es)).set s .no) (((σ.set i o1).set k o2).set s o) (cutL G4 ls) H5 := by
  have hHe : ∀ a, c.He a ≠ none → a ∉ ls := fun a h z => S1.there a h (hnew a z)
  have hG1 : ∀ a u, G1 a = some u → a ∉ ls := fun a u h z => by
    have := S1.ex2 a u h
    rw [hnew a z] at this
    cases this
  have e15 : Ex G1 (cutL G4 ls) := fun a u h => by
    rw [cutL_out (hG1 a u h)]
    exact e14 a u h
  have x45 : ExT G4 (cutL G4 ls) := fun a xs r => by
    have q : a ∉ ls := fun z => by
      obtain ⟨ys, hy⟩ := hG4 a z
      rcases r with r | ⟨o, r⟩ <;> rw [hy] at r <;> cases r
    rcases r with r | ⟨o, r⟩
    · exact .inl (by rw [cutL_out q]; exact r)
    · exact .inr ⟨o, by rw [cutL_out q]; exact r⟩
  have rowOk : ∀ r, RowAt K G4 H4 r → RowAt K (cutL G4 ls) H5 r := fun r z => by
    obtain ⟨z1, sc, ns, i, x, z2, z3, z4⟩ := z
    have q : r ∉ ls := fun y => by
      obtain ⟨ys, hy⟩ := hG4 r y
      rw [z1] at hy
      cases hy
    refine ⟨by rw [cutL_out q]; exact z1, sc, ns, i, x, h45 r _ q z2, ?_, z4⟩
    rcases z3 with ⟨oo, z3⟩ | z3
    · refine .inl ⟨oo, ?_⟩
      rw [cutL_out (fun y => by obtain ⟨ys, hy⟩ := hG4 sc y; rw [z3] at hy; cases hy)]
      exact z3
    · exact .inr z3
  have S5 : Sat K c ((ρ.set i .no).set k (.ls es)) ((σ.set i o1).set k o2) (cutL G4 ls) H5 := by
    have gt : ∀ {j : Nat} {e : Ent}, ((ρ.set i .no).set k (.ls es))[j]? = some e → e.isM = true → ((ρ.set i (.dat d)).set k (.ls es))[j]? = some e := fun {j e} h1 h2 => by
      by_cases q : k = j
      · subst q
        by_cases y : k < ρ.length
        · rw [List.getElem?_set_self (by rw [List.length_set]; exact y)] at h1 ⊢
          exact h1
        · rw [List.getElem?_eq_none (by rw [List.length_set, List.length_set]; omega)] at h1
          cases h1
      · rw [List.getElem?_set_ne q] at h1 ⊢
        by_cases q2 : i = j
        · subst q2
          by_cases y : i < ρ.length
          · rw [List.getElem?_set_self y] at h1
            cases h1
            cases h2
          · rw [List.getElem?_eq_none (by rw [List.length_set]; omega)] at h1
            cases h1
        · rw [List.getElem?_set_ne q2] at h1 ⊢
          exact h1
    refine ⟨fun a u h => e15 a u (S1.ex1 a u h), fun a u h => ?_, fun a u h hm m => h45 a u (hHe a (by rw [h]; exact fun z => by cases z)) (S4.keep a u h hm m), S4.tbl.trans t45, fun a h => h45' a (S4.there a h), fun a h h' => ?_, fun r h => rowOk r (S4.mrow r h), S4.mhe, ?_, fun j e u q1 q2 => ?_, fun j e l q1 q2 q3 => S4.own j e l (gt q1 q2) q2 q3, fun j m e f l hne q1 q2 m1 m2 q3 => S4.ne j m e f l hne (gt q1 m1) (gt q2 m2) m1 m2 q3⟩
    · by_cases q : a ∈ ls
      · rw [cutL_in q] at h
        cases h
      · rw [cutL_out q] at h
        exact h45 a u q (S4.ex2 a u h)
    · by_cases q : a ∈ ls
      · exact cutL_in q
      · rw [cutL_out q]
        exact S4.avoid a h h'
    · rw [List.length_set, List.length_set, List.length_set, List.length_set, S1.len]
    · by_cases q : k = j
      · subst q
        have hk : k < ρ.length := by
          have := (List.getElem?_eq_some_iff.mp q1).1
          rwa [List.length_set, List.length_set] at this
        rw [List.getElem?_set_self (by rw [List.length_set]; exact hk)] at q1
        cases q1
        obtain ⟨l, ys, e1, e2, e3, e4⟩ := S4.slot k (.ls es) u (by rw [List.getElem?_set_self (by rw [List.length_set]; exact hk)]) q2
        have hl : l ∉ ls := fun z => by
          obtain ⟨zs, hz⟩ := hG4 l z
          rw [e3] at hz
          cases hz
        exact ⟨l, ys, e1, h45 l _ hl e2, by rw [cutL_out hl]; exact e3, e4.monoT x45 hes⟩
      · by_cases q3 : i = j
        · subst q3
          have hi : i < ρ.length := by
            have := (List.getElem?_eq_some_iff.mp q1).1
            rwa [List.length_set, List.length_set] at this
          rw [List.getElem?_set_ne q, List.getElem?_set_self hi] at q1
          cases q1
          trivial
        · have q1' := q1
          have q2' := q2
          rw [List.getElem?_set_ne q, List.getElem?_set_ne q3] at q1 q2
          have z := S1.slot j e u q1 q2
          have z4 := S4.slot j e u (by rw [List.getElem?_set_ne q, List.getElem?_set_ne q3]; exact q1) q2'
          cases e with
          | no => trivial
          | dat d =>
            obtain ⟨v, e1, im⟩ := z
            exact ⟨v, e1, im.mono e15⟩
          | ls ds =>
            obtain ⟨l, xs, e1, e2, e3, e4⟩ := z
            subst e1
            have hl : l ∉ ls := fun y => by rw [hnew l y] at e2; cases e2
            obtain ⟨l', xs', f1, f2, f3, f4⟩ := z4
            cases f1
            exact ⟨l, xs, rfl, h45 l _ hl (k14 l _ e2 (S1.neRow q1 q2) ntL), by rw [cutL_out hl]; exact f3, e4.mono e15⟩
          | row =>
            obtain ⟨r, e1, e2⟩ := z4
            exact ⟨r, e1, rowOk r e2⟩
          | ob k2 =>
            obtain ⟨l, u2, e1, e2, e3, e4⟩ := z
            subst e1
            have hl : l ∉ ls := fun y => by rw [hnew l y] at e2; cases e2
            obtain ⟨l', u3, f1, f2, f3, f4⟩ := z4
            cases f1
            exact ⟨l, u2, rfl, h45 l _ hl (k14 l _ e2 (S1.neRowM q1 rfl (fun z => by cases z) q2) (k2.nt _ _ _ _ e4)), by rw [cutL_out hl]; exact f3, k2.mono _ _ _ _ _ e15 e4⟩
          | val k2 => exact ⟨z.1, k2.mono _ _ _ _ _ e15 (t14.trans t45) (fun a ps q n => cutL_none (a14 a ps q n)) z.2⟩
  exact S5.setNo
end
end SF

/-! ## x = f(..); y = g(..); if ..: return; for s in x[1:]: s.append(0) -/
namespace SF
open PySem PySem.Spec PyProof.Rows L2
theorem isRow_setD {ρ : Rho} {σ : L2.St} {i : Nat} {e : Ent} {o : Option V} (hm : e ≠ .row) {r : Addr} (h : IsRow (ρ.set i e) (σ.set i o) r) : IsRow ρ σ r := by
  obtain ⟨j, e1, e2⟩ := h
  by_cases q : i = j
  · subst q
    by_cases k : i < ρ.length
    · rw [List.getElem?_set_self k] at e1
      exact absurd (Option.some.inj e1) hm
    · rw [List.getElem?_eq_none (by rw [List.length_set]; omega)] at e1
      cases e1
  · rw [List.getElem?_set_ne q] at e1 e2
    exact ⟨j, e1, e2⟩
theorem imL_refs {K : PySem.W.Frag} {G : Hp} : ∀ {dss : List (List PyData)} {xs : List V}, ImL K G (dss.map PyData.list) xs → ∃ ls : List Addr, xs = ls.map V.ref ∧ ls.length = dss.length ∧ ∀ l ∈ ls, ∃ ys, G l = some (.lst ys) ∧ ∃ ds ∈ dss, ds.length = ys.length
  | [], xs, h => by
    rw [List.map_nil, imL_nil] at h
    subst h
    exact ⟨[], rfl, rfl, fun l hl => by cases hl⟩
  | ds :: dss, xs, h => by
    rw [List.map_cons, imL_cons] at h
    obtain ⟨x, r, rfl, h1, h2⟩ := h
    rw [im_list] at h1
    obtain ⟨a, ys, rfl, h3, h4⟩ := h1
    obtain ⟨ls, e1, e2, e3⟩ := imL_refs h2
    refine ⟨a :: ls, by rw [e1]; rfl, by rw [List.length_cons, List.length_cons, e2], fun l hl => ?_⟩
    rcases List.mem_cons.mp hl with z | z
    · rw [z]
      exact ⟨ys, h3, ds, List.mem_cons_self, h4.len⟩
    · obtain ⟨zs, q1, es, q2, q3⟩ := e3 l z
      exact ⟨zs, q1, es, List.mem_cons_of_mem _ q2, q3⟩
section
variable {X : Cx} {b : Bs} {st1 st2 st3 st4 : Stmt} {rest : List Stmt} {t1 t2 t3 : TS} {w2 : WE} {wt : WT} {wa : WA} {w5 : WS}
def wSpoil (i k s : Nat) (T : Tf) (wa : WA) (w2 : WE) (wt : WT) (w5 : WS) : WS := fun ρ Ψ => (i < ρ.length ∧ s < ρ.length) ∧ wa ρ (fun ds => nolL ds = true ∧ T ds (fun r1 => w2 (ρ.set i (.dat r1.frz)) (fun r2 => wt ((ρ.set i (.dat r1.frz)).set k r2.ent) (fun q => q = false ∧
  (∃ (d0 : PyData) (dss : List (List PyData)), r1.frz = .tuple (d0 :: dss.map PyData.list) ∧ dss.length ≤ 10 ∧ ∀ ds ∈ dss, ds.length ≤ 1000) ∧ (∃ es, r2 = .lst es ∧ nolL es = true) ∧ w5 (((ρ.set i .no).set k r2.ent).set s .no) Ψ) (fun _ => False)) (fun _ => False)) (fun _ => False)) Ψ.xc
theorem psis_spoil (i k s : Nat) {T : Tf} {n : Nat} (hik : i ≠ k)
    (h1 : PS X st1 t1) (H1 : ∀ D σ H, taOf X.K b n wa σ H (fun vs H1 => spP X.K b.XR T (vs ++ []) H1 (fun v H2 => D.nx (σ.set i (some v)) H2) b.E) → t1 D σ H)
    (h2 : PS X st2 t2) (H2 : ∀ D σ H, teOf X.K b w2 σ H (fun v H1 => D.nx (σ.set k (some v)) H1) → t2 D σ H)
    (h3 : PS X st3 t3) (H3 : ∀ D σ H, ttOf X.K b wt σ H (fun q H1 => q = false ∧ D.nx σ H1) → t3 D σ H)
    (h4 : PS X st4 (tSpoil X.K i s)) (h5 : PSsI X b rest w5) : PSsI X b (st1 :: st2 :: st3 :: st4 :: rest) (wSpoil i k s T wa w2 wt w5) :=
  pss_imp (pss_cons h1 (pss_cons h2 (pss_cons h3 (pss_cons h4 h5)))) fun D σ H ⟨c, ρ, G, Ψ, S, ⟨⟨hi, hsl⟩, hw⟩, p⟩ => by
    refine H1 _ _ _ ⟨c, ρ, G, _, Ψ.xc, S, hw, fun vs ds G1 H1' t1' il hl hh => ?_, p.exc S⟩
    have S1 := S.tr t1'
    obtain ⟨hnl, hT⟩ := hh
    show spP X.K b.XR T (vs ++ []) H1' _ b.E
    rw [List.append_nil]
    refine ⟨noLst G1, ds, _, _, noLst_ex.trans S1.ex2, il.monoT noLst_t hnl, hT, fun v1 r1 G' H' fi o hΦ => ?_, fun exn cls d G' H' fi xr hΞ => hΞ.elim⟩
    obtain ⟨G2, Gn, tr2, im, hx2, hnew⟩ := call_new S1 fi o
    have S2 := (S1.tr tr2).setDat (i := i) (im.mono hx2)
    refine H2 _ _ _ ⟨c, _, G2, _, _, S2, hΦ, fun v2 r2 G3 H3' tr3 o3 h3' => ?_, fun _ _ _ _ _ _ _ z => z.elim⟩
    have S3 := S2.setOut tr3 (i := k) o3
    refine H3 _ _ _ ⟨c, _, G3, _, _, S3, h3', fun q G4 H4 tr4 h4' => ?_, fun _ _ _ _ _ _ _ z => z.elim⟩
    obtain ⟨hq, ⟨d0, dss, er, hdl, hds⟩, ⟨es, e2, hnles⟩, hw5⟩ := h4'
    have S4 := S3.tr tr4
    refine ⟨hq, ?_⟩
    subst e2
    have x34 : Ex G2 G4 := tr3.eg.trans tr4.eg
    have xH : Ex Gn H4 := (hx2.trans x34).trans S4.ex2
    rw [er, im_tuple] at im
    obtain ⟨t, xs, ev, ht, il2⟩ := im
    rw [imL_cons] at il2
    obtain ⟨x0, r, rfl, _, il3⟩ := il2
    obtain ⟨ls, rfl, hll, hls⟩ := imL_refs il3
    have hlen := S.len
    have hiσ : i < σ.length := by omega
    show tSpoil X.K i s _ ((σ.set i (some v1)).set k (some v2)) H4
    refine ⟨t, x0, ls, ?_, ex_t xH ht, fun l hl => ?_, by omega, by rw [List.length_set, List.length_set]; omega, fun o H5 k1 k2 => ?_⟩
    · rw [List.getElem?_set_ne (Ne.symm hik), List.getElem?_set_self hiσ, ev]
    · obtain ⟨ys, q1, ds, q2, q3⟩ := hls l hl
      exact ⟨ys, xH l _ q1, by rw [← q3]; exact hds ds q2⟩
    · refine ⟨c, _, cutL G4 ls, Ψ, spoil_sat (d := r1.frz) S1 S4 (tr2.eg.trans x34) (fun a u h n m => ?_) (tr2.tbl.trans (tr3.tbl.trans tr4.tbl)) (fun a ps q n => tr4.avoid a (tr3.avoid a (tr2.avoid a n (by rw [q]; exact fun z => by cases z)) (tr2.there (by rw [q]; exact fun z => by cases z))) (tr3.there (tr2.there (by rw [q]; exact fun z => by cases z)))) (fun l hl => ?_) (fun l hl => ?_) hnles k1 k2 (.of fun a u h n => k1 a u (fun z => ?_) h), hw5, p⟩
      · have q1 := tr2.keep a u h n m
        have n2 : ¬ IsRow (ρ.set i (.dat r1.frz)) (σ.set i (some v1)) a := fun z => n (isRow_setD (by intro z; cases z) z)
        have q2 := tr3.keep a u q1 n2 m
        exact tr4.keep a u q2 (fun z => n2 (isRow_setD (by intro z; cases z) z)) m
      · obtain ⟨ys, q1, _⟩ := hls l hl
        exact hnew l ys q1
      · obtain ⟨ys, q1, _⟩ := hls l hl
        exact ⟨ys, x34 l _ (hx2 l _ q1)⟩
      · obtain ⟨ys, q1, _⟩ := hls a z
        have := xH a _ q1
        rw [h] at this
        exact n ys (Option.some.inj this)
theorem if_pass {K : PySem.W.Frag} {b : Bs} {wt : WT} {D : Ends} {σ : L2.St} {H : Hp} (h : ttOf K b wt σ H (fun q H1 => q = false ∧ D.nx σ H1)) {A : Hp → Prop} : ttOf K b wt σ H (fun q H1 => if q = true then A H1 else D.nx σ H1) := by
  obtain ⟨c, ρ, G, Φ, Ξ, S, hw, p, x⟩ := h
  refine ⟨c, ρ, G, Φ, Ξ, S, hw, fun k G' H' t h => ?_, x⟩
  obtain ⟨e, q⟩ := p k G' H' t h
  rw [e, if_neg (by decide)]
  exact q
end
end SF

/-! ## What is raised -/
namespace SF
open PySem PySem.Spec PyProof.Rows L2
/-- the names of the classes, by number; the field of those that have one -/
def exN : Nat → Str
  | 0 => Str.ofString "BadFile"
  | 1 => Str.ofString "BadRule"
  | 2 => Str.ofString "BadRoom"
  | 3 => Str.ofString "BadStep"
  | _ => Str.ofString "BadText"
def exF : Nat → Option Str
  | 0 => some (Str.ofString "place")
  | 3 => some (Str.ofString "number")
  | 4 => some (Str.ofString "at")
  | _ => none
/-- what the dict of an error holds -/
def ExAt (G : Hp) (ex : Exn) (d : Option Addr) : Prop := match exF ex.k with
  | some f => ∃ dd, d = some dd ∧ G dd = some (.xd [(f, .int ex.v)])
  | none => d = none
theorem ExAt.mono {G G' : Hp} {ex : Exn} {d : Option Addr} (e : Ex G G') (h : ExAt G ex d) : ExAt G' ex d := by
  unfold ExAt at h ⊢
  split at h
  · obtain ⟨dd, e1, e2⟩ := h
    exact ⟨dd, e1, e _ _ e2⟩
  · exact h
def XR1 (C : Nat → Addr) : Exn → Value → Option Addr → Hp → Prop := fun ex cls d G => ex.k < 5 ∧ cls = .ref (C ex.k) ∧ ExAt G ex d
section
variable {P : Program} {w : World} {K : PySem.W.Frag} {mg : Str → Option Value} {base : Heap} {CX : CXT} {k : Nat} {f : Addr} {fd : FuncData} {ps : List Str} {XR : Exn → Value → Option Addr → Hp → Prop} {T : Tf}
theorem _root_.L2.FnOk.xp (F : FnOk P w K mg base CX k f fd ps (spP K XR0 T)) : FnOk P w K mg base CX k f fd ps (spP K XR T) :=
  ⟨fun vs H Q E ⟨G, ds, Φ, Ξ, e, il, hT, q, _⟩ => F.len vs H Q E ⟨G, ds, Φ, Ξ, e, il, hT, q, fun _ _ _ _ _ _ z => z.elim⟩, fun A outer s H args us vs Q E a b c d ⟨G, ds, Φ, Ξ, e, il, hT, q, _⟩ => F.run A outer s H args us vs Q E a b c d ⟨G, ds, Φ, Ξ, e, il, hT, q, fun _ _ _ _ _ _ z => z.elim⟩⟩
/-- .. for a def that may raise -/
theorem okPX {x qual : Str} {st : Stmt} {N : List Str} {n : Nat} (F : Fun K x qual st f fd) (S : FnScope N ps (defScope st)) (hn : N.length = ps.length + n) (hT : ∀ ds Φ Ξ, T ds Φ Ξ → ds.length = ps.length)
    (hbody : ∀ (cdv : Value) (A : Around) (outer : List Env) (s : Shared) (H : Hp) (E : XK), Room k (A.deeper (envOfC qual (defScope st) s.heap.objs.size f cdv)) →
      ∃ wS, PSsI (cxOf (L2.CX P w) P w K mg base N qual (defScope st) f cdv A outer s H E) ⟨XR, E⟩ (defBody st) wS ∧ ∀ ds Φ Ξ, T ds Φ Ξ → wS (startE (ds.map .dat) n) (endP Φ Ξ)) : FnOk P w K mg base (L2.CX P w) (k + 1) f fd ps (spP K XR T) :=
  F.okX S (fun vs H Q E ⟨G, ds, Φ, Ξ, e, il, hT', _⟩ => by rw [← il.len]; exact hT ds Φ Ξ hT') fun cdv A outer s H vs Q E hr ⟨G, ds, Φ, Ξ, e, il, hT', q, ex⟩ => by
    obtain ⟨wS, h1, h2⟩ := hbody cdv A outer s H E hr
    refine ⟨_, h1, ⟨none, G, H⟩, _, G, _, ?_, h2 ds Φ Ξ hT', post_end q ex⟩
    rw [start_len (n := n) (by rw [hn, ← hT ds Φ Ξ hT', il.len])]
    exact sat_startP e il
end
/-! ### the classes' facts -/
structure ErrS (K : PySem.W.Frag) (mg : Str → Option Value) (x : Str) (C : Addr) : Prop where
  gC : mg x = some (.ref C)
  xP : PySem.W.excIn K C He.veBase "ValueError.__new__" = true
  kC : PySem.W.keepIn K (.ref C) = true
  bP : PySem.W.subIn K (.ref C) (.type "BaseException") = some true
  tP : PySem.W.typeIn K (.ref C) = some (.type "type")
/-- the base, whose __init__ is ValueError's -/
structure ErrB (K : PySem.W.Frag) (mg : Str → Option Value) (S : Addr) : Prop where
  gS : mg "SlotError" = some (.ref S)
  sg : PySem.W.specialIn K (.ref S) "__getattribute__" = some (some (.builtin "type.__getattribute__"))
  rd : PySem.W.readsIn K S (.type "type") = true
  fi : PySem.W.findCls K (.ref S) (.type "type") "__init__" = some (.val (.builtin "ValueError.__init__"))
/-- what __init__ leaves -/
def spInit (K : PySem.W.Frag) (C : Addr) (f : Str) : Sp := fun vs H Q _ => ∃ (a : Addr) (v : V), vs = [.ref a, v] ∧ H a = some (exo a C none) ∧ ∀ dx, H dx = none → dx ≠ a → Q .non (upd (upd H dx (exd dx [(f, v)])) a (exo a C (some dx)))
section
variable {X : Cx} {e : Expr} {es : List Expr} {ta : TA} {p p1 p2 pos : Pos}
theorem pe_seinit {S : Addr} {pl : Sem Bool} (B : ErrB X.K X.mg S) (hg : Gl X "SlotError") (ha : PA X (e :: es) ta)
    (hc : eval (.Call (.Attribute (.Name "SlotError" p1) "__init__" p2) (e :: es) [] pos) X.env = (do
      let ov ← eval (.Name "SlotError" p1) X.env
      standAt p2.atName
      let (f, first) ← holding [ov] (getMethod ov "__init__" pl)
      callWith pos f first (backTo pos (starEach (e :: es) X.env)) (backToKw pos (keywordEach [] X.env))) := by rfl)
    (he : starEach (e :: es) X.env = (false, eval e X.env) :: starEach es X.env := by rfl) (hpl : (backTo pos (starEach es X.env)).any (·.1) = false := by rfl) :
    PE X (.Call (.Attribute (.Name "SlotError" p1) "__init__" p2) (e :: es) [] pos) (tVeI X.K ta) := by
  refine ⟨fun pins s σ H Q I h => ?_⟩
  refine PySem.W.methodCall_KW (ld_glob I hg B.gS ?_ (by decide)) hc
  refine PySem.W.method_cls I.kIn B.sg (PySem.W.cls_value I.kIn B.rd B.fi (by decide +kernel) ?_)
  show wpAny _ _ (callWith pos (Value.builtin "ValueError.__init__") [] (backTo pos (starEach (e :: es) X.env)) []) _ _ _
  refine PyProof.Rows.callWith_method1 (thn (ha.run pos pins _ σ H _ (I.tok _) h) fun us s1 ⟨vs, H1, I1, r1, a, C, ws, ev, hl, T, ea, q⟩ => ?_) he hpl
  subst ev
  cases r1 with
  | @cons _ u0 _ ur ra rw' =>
    obtain rfl : u0 = Value.ref a := ra
    have hlen : ur.length ≤ sizeLine := by
      rw [← Paired.length rw', sizeLine_eq]
      omega
    exact oinit_ok T I1 ea hlen fun s' J => ⟨.non, H1, J, rfl, q⟩
end
/-- .. with its own __init__ -/
structure ErrI (P : Program) (w : World) (K : PySem.W.Frag) (mg : Str → Option Value) (base : Heap) (x f : Str) (C : Addr) : Prop where
  gC : mg x = some (.ref C)
  oe : OexC K C
  ini : ∃ (fI : Addr) (fd : FuncData) (ps : List Str), PySem.W.findIn K (.ref C) "__init__" = some (some (.ref fI)) ∧ PySem.W.typeIn K (.ref fI) = some (.type "function") ∧ Binds K fd ps [] ∧ FnOk P w K mg base CX0 1 fI fd ps (spInit K C f)
section
variable {X : Cx} {C : Nat → Addr} {E : XK} {x : Str} {p p2 pos pos2 : Pos} {e : Expr} {wa : WA}
def wRaise0 (k : Nat) : WS := fun _ Ψ => Ψ.xc ⟨k, 0⟩
def wRaiseI (k : Nat) (wa : WA) : WS := fun ρ Ψ => wa ρ (fun ds => ∃ v, ds = [.int v] ∧ Ψ.xc ⟨k, v⟩) Ψ.xc
theorem psi_raise0 (k : Nat) {m : Str} {j : Nat} (T : ErrS X.K X.mg x (C k)) (hc : X.calm = true) (tk : Takes X (fun cls d _ H => E cls d H)) (hg : Gl X x) (hk : k < 5) (hf : exF k = none) (hdb : (x == ("__debug__" : Str)) = false := by decide) :
    PSI X ⟨XR1 C, E⟩ (.Raise (some (.Call (.Name x p) [.Constant (.str m) j p2] [] pos)) none pos2) (wRaise0 k) :=
  psi_of (ps_raise hc tk (pmk_own PySem.F.excBase_ValueError T.xP T.gC T.kC (raises_own T.bP T.tP) hg hdb)) fun c ρ σ G H Ψ D S hw p => by
    refine p.xc ⟨k, 0⟩ _ none G H S.fin ⟨hk, rfl, ?_⟩ hw
    unfold ExAt
    show (match exF k with | some f => _ | none => (none : Option Addr) = none)
    rw [hf]
theorem del_upd {H1 : Hp} {a d C : Addr} {f : Str} {v : V} (ha : H1 a = none) (hd : d ≠ a) : upd (del (upd (upd (upd H1 a (exo a C none)) d (exd d [(f, v)])) a (exo a C (some d))) a) d (.xd [(f, v)]) = upd H1 d (.xd [(f, v)]) := by
  funext b
  by_cases h1 : b = d
  · rw [h1, upd_same, upd_same]
  · rw [upd_ne h1, upd_ne h1]
    by_cases h2 : b = a
    · rw [h2, del_same, ha]
    · rw [del_ne h2, upd_ne h2, upd_ne h1, upd_ne h2]
theorem psi_raiseI (k : Nat) {f : Str} {j : Nat} (T : ErrI X.prog X.w X.K X.mg X.base x f (C k)) (hr : Room j X.A) (hj : 2 ≤ j) (hc : X.calm = true) (tk : Takes X (fun cls d _ H => E cls d H)) (ha : PAI X ⟨XR1 C, E⟩ 1 [e] wa) (hg : Gl X x) (hk : k < 5) (hf : exF k = some f) (hdb : (x == ("__debug__" : Str)) = false := by decide)
    (he : starEach [e] X.env = (false, eval e X.env) :: starEach [] X.env := by rfl) (hpl : (backTo pos (starEach [] X.env)).any (·.1) = false := by rfl) :
    PSI X ⟨XR1 C, E⟩ (.Raise (some (.Call (.Name x p) [e] [] pos)) none pos2) (wRaiseI k wa) := by
  obtain ⟨fI, fd, ps, iC, tI, hb, F⟩ := T.ini
  refine psi_of (ps_raise hc tk (pmk_oex T.oe iC tI F (hr.mono hj) hb .nil passE hg T.gC ha hdb he hpl)) fun c ρ σ G H Ψ D S hw p => ?_
  refine ⟨c, ρ, G, _, Ψ.xc, S, hw, fun vs ds G1 H1 t1 il hl hn => ?_, p.exc S⟩
  obtain ⟨v, rfl, hn⟩ := hn
  obtain ⟨u, rfl, im⟩ := imL_1 il
  rw [im_int] at im
  subst im
  have S1 := S.tr t1
  refine ⟨by simp, fun a ha => ⟨a, .int v, rfl, upd_same, fun dx hdx hne => ⟨rfl, dx, _, upd_same, by rw [upd_ne hne, upd_same], ?_, ?_⟩⟩⟩
  · rw [upd_ne hne] at hdx
    exact hdx
  · rw [upd_ne hne] at hdx
    rw [del_upd ha hne]
    have t2 := Tr.newG (o := .xd [(f, .int v)]) S1 hdx
    refine p.xc ⟨k, v⟩ _ (some dx) (upd G1 dx (.xd [(f, .int v)])) _ (S1.tr t2).fin ⟨hk, rfl, ?_⟩ hn
    unfold ExAt
    show (match exF k with | some f => ∃ dd, some dx = some dd ∧ (upd G1 dx (.xd [(_, .int v)])) dd = some (.xd [(f, .int v)]) | none => some dx = none)
    rw [hf]
    exact ⟨dx, rfl, upd_same⟩
end
end SF

/-! ## What is caught: its class, its field -/
namespace PySem.W
open PySem PySem.Spec PySem.Calls PyProof.Rows
section
variable {prog : Program} {w : World} {Ar : Around} {Ee : Value → Shared → Prop} {st : Shared} {Kf : Frag} {xa Da : Addr} {xo : Obj} {xd : Option Obj}
/-- the class of an error, whether it has a dict or none -/
theorem sf_class {Qq : Option Value → Shared → Prop} (T : L2.ExcC Kf Da) (KI : Kf.In st.heap) (J : InstAt st.heap xa xo Da xd) (fin : Qq (some (.ref Da)) { st with toks := st.toks + 1 }) : wpAny (model prog w) Ar (getAttr? (.ref xa) "__class__") Qq Ee st := by
  have fnd : findObj Kf Da xd "__class__" = some (.bind (.builtin "getset_descriptor.__get__") (.builtin "object.__class__")) := by
    obtain ⟨cd, hcd, _⟩ := any_some T.hd
    unfold findObj
    rw [hcd, Option.bind_some, T.ha, Option.bind_some]
    simp [T.hn, T.ht]
  obtain ⟨hh, gg, dd, tt, oo⟩ := st
  have ty0 := J.type (M := model prog w)
  have fi1 := looks_findIn (M := model prog w) KI T.hg
  have fi2 := looks_findIn (M := model prog w) KI T.hk
  have fi3 := looks_find (M := model prog w) KI J fnd
  have isx : Looks (model prog w) hh (isInstance (.ref xa) (.type "BaseException")) true := ty0.andThen (looks_subIn KI T.hs)
  have b2 : (Value.builtin "BaseException.__getattribute__" == Value.builtin "object.__getattribute__") = false := by decide +kernel
  have b1 : (onTheHeap (Value.ref Da) && Value.builtin "BaseException.__getattribute__" == Value.builtin "object.__getattribute__") = false := by rw [b2]; rfl
  unfold getAttr? getAttrBy? getAttrBy
  refine wpAny_bind (wpAny_mkText (wpAny_bind (wpAny_attempt (wpAny_holding (wpAny_bind (ty0.at (wpAny_bind (fi1.at ?_))))))))
  show wpAny _ _ (if (onTheHeap (Value.ref Da) && Value.builtin "BaseException.__getattribute__" == Value.builtin "object.__getattribute__") = true then _ else _) _ _ _
  rw [b1, if_neg Bool.false_ne_true]
  unfold getAttrByItsOwn hookBefore
  refine wpAny_bind ?_
  rw [if_pos (show onTheHeap (Value.ref Da) = true from rfl)]
  refine fi2.at (wpAny_bind (wpAny_attempt (wpAny_holding ?_)))
  unfold callGetattribute
  rw [show (false && onTheHeap (Value.builtin "BaseException.__getattribute__")) = false from rfl, if_neg Bool.false_ne_true]
  unfold boundAndCalled
  rw [PySem.F.excAttr_ValueError.ga.bind (.ref xa)]
  refine wpAny_bind (wpAny_pure ?_)
  show wpAny _ _ (call (.builtin "BaseException.__getattribute__") [.ref xa, .str "__class__" tt]) _ _ _
  refine wpAny_call (codeAny_call_builtin PySem.F.excAttr_ValueError.ga.plain PySem.F.entry_bexc_ga (@check_slot (model prog w) _ _ ⟨hh, gg, dd, tt + 1, oo⟩ "BaseException.__getattribute__" "BaseException" "__getattribute__" (.ref xa) [.str "__class__" tt] [] _ (by decide +kernel) (by decide +kernel) isx (PySem.F.args_bexc_ga (.ref xa) (.str "__class__" tt)) ?_))
  unfold Builtin.«object.__getattribute__»
  refine wpAny_bind (wpAny_of_eq (a := ((Value.ref xa : Value), [Value.str "__class__" tt])) (by first | rfl | (simp only [slotArgs]; rfl)) (wpAny_bind (wpAny_pure (wpAny_bind (ty0.at (wpAny_bind (fi3.at ?_)))))))
  show wpAny _ _ (holding [Value.builtin "object.__class__"] (call (.builtin "getset_descriptor.__get__") [.builtin "object.__class__", .ref xa, .ref Da]) >>= ret) _ _ _
  refine wpAny_bind (wpAny_holding (wpAny_call (class_get (s := ⟨hh, gg, dd, tt + 1, oo⟩) (ox := xo) (od := xd) KI J T.hm (wpAny_pure ?_))))
  show wpAny _ _ (handedOut (.ref Da)) _ _ _
  rw [handedOut_of (v := .ref Da) rfl]
  first
    | exact wpAny_pure (wpAny_pure fin)
    | exact wpAny_pure fin
    | exact wpAny_pure (wpAny_bind (wpAny_pure (wpAny_pure fin)))
theorem sf_kitx (T : L2.ExcC Kf Da) : KitX Kf (.ref xa) (.ref Da) (fun h => InstAt h xa xo Da xd) where
  ty := fun _ _ _ J => J.type
  it := fun _ _ KI _ => by
    obtain ⟨c0, hc0, _⟩ := any_some T.hd
    unfold clsIn at hc0
    split at hc0
    · rename_i a1 a2 a3 a4 at0
      intro A1 Q1 E1 s1 kk qq
      unfold isType loadHead
      exact wpAny_bind (wpAny_loadPart (kk _ _ (KI _ _ at0)) (wpAny_pure qq))
    · cases hc0
  ne := fun h1 tp1 d1 its1 n1 sl1 KI at1 => Bool.eq_false_iff.mpr fun same => by
    obtain ⟨c0, hc0, _⟩ := any_some T.hd
    obtain rfl : Da = tp1 := Value.ref.inj (beq_iff_eq.mp same)
    unfold clsIn at hc0
    split at hc0
    · rename_i a1 a2 a3 a4 at0
      cases (KI _ _ at0).symm.trans at1
    · cases hc0
  ca := fun KI J fin => sf_class T KI J fin
end
end PySem.W
namespace SF
open PySem PySem.Spec PyProof.Rows L2
/-- isinstance(e, c), isinstance(e, (c1, ..)): e the error that the suite holds at a -/
def rIsEx (K : PySem.W.Frag) (cls : Value) (a : Addr) : List V → Hp → VK → Prop := fun xs H Q => ∃ (c : V) (u cv : Value) (k : Bool), xs = [.ref a, c] ∧ cls = u ∧ ClsV c cv ∧ PySem.W.kitOne K u cv = some k ∧ Q (.bl k) H
def rIsExT (K : PySem.W.Frag) (cls : Value) (a : Addr) : List V → Hp → VK → Prop := fun xs H Q => ∃ (tp : Addr) (cs : List V) (us : List Value) (k : Bool), xs = [.ref a, .ref tp] ∧ H tp = some (.tup cs) ∧ Paired ClsV cs us ∧ PySem.W.kitAny K cls us = some k ∧ Q (.bl k) H
section
variable {X : Cx} {a D : Addr} {oe : Obj} {pn : List (Addr × Obj)} {d : Option Addr}
theorem inst_err {pins : List (Addr × Obj)} {σ : L2.St} {H : Hp} {s : Shared} (I : Inv (X.suite a ((a, oe) :: pn)) pins σ H s) (hz : Zc (.ref D) d oe) (hf : ∃ vs, oe.data = .fields vs) {G : Hp} (hd : ∀ dd, d = some dd → ∃ fs, H dd = some (.xd fs)) : ∃ xd, PySem.W.InstAt s.heap a oe D xd := by
  obtain ⟨hget, _⟩ := I.pin (a, oe) (List.mem_append_left _ List.mem_cons_self)
  obtain ⟨vs, hv⟩ := hf
  cases d with
  | none =>
    refine ⟨none, hget, hz.1, by unfold PySem.W.notCls; rw [hv] <;> rfl, ?_⟩
    rw [hz.2]
    trivial
  | some dd =>
    obtain ⟨fs, hfs⟩ := hd dd rfl
    have hx : ObjOk X.prog X.w H s.heap dd (.xd fs) := I.hok dd _ hfs
    obtain ⟨mA, hns, _⟩ := hx
    obtain ⟨od, ho, _⟩ := lookIn_ns hns
    exact ⟨some od, hget, hz.1, by unfold PySem.W.notCls; rw [hv] <;> rfl, by rw [hz.2]; exact ho⟩
theorem call_isEx (T : ExcC X.K D) (hz : Zc (.ref D) d oe) (hf : ∃ vs, oe.data = .fields vs) : CallR (X.suite a ((a, oe) :: pn)) (.builtin "isinstance") (fun xs H Q => (∀ dd, d = some dd → ∃ fs, H dd = some (.xd fs)) ∧ rIsEx X.K (.ref D) a xs H Q) := fun pins s σ H xs us Q I r ⟨hd, h⟩ => by
  obtain ⟨c, u, cv, k, rfl, rfl, hc, e, q⟩ := h
  obtain ⟨u1, u2, rfl, r1, r2⟩ := vals2 r
  obtain rfl : u1 = Value.ref a := r1
  have e2 := hc.eq r2
  subst e2
  obtain ⟨xd, J⟩ := inst_err (G := H) I hz hf hd
  exact PySem.W.kia_one (PySem.W.sf_kitx T) I.kIn J e (fun z => nomatch z) fun tk => ⟨.bl k, H, I.kept (t' := tk) fun _ _ z => z, rfl, q⟩
theorem call_isExT (T : ExcC X.K D) (hz : Zc (.ref D) d oe) (hf : ∃ vs, oe.data = .fields vs) : CallR (X.suite a ((a, oe) :: pn)) (.builtin "isinstance") (fun xs H Q => (∀ dd, d = some dd → ∃ fs, H dd = some (.xd fs)) ∧ rIsExT X.K (.ref D) a xs H Q) := fun pins s σ H xs us Q I r ⟨hd, h⟩ => by
  obtain ⟨tp, cs, ws, k, rfl, hT, hc, e, q⟩ := h
  obtain ⟨u1, u2, rfl, r1, r2⟩ := vals2 r
  obtain rfl : u1 = Value.ref a := r1
  obtain rfl : u2 = Value.ref tp := r2
  obtain ⟨xd, J⟩ := inst_err (G := H) I hz hf hd
  obtain ⟨_, its, rv, o, h1, h2, n, h3⟩ := (show ObjOk X.prog X.w H s.heap tp (.tup cs) from I.hok tp _ hT)
  have e3 := ClsV.all hc rv
  subst e3
  obtain ⟨oc, od, dt, sl⟩ := o
  simp only at h2 h3
  subst h2 h3
  exact PySem.W.kia_tup (PySem.W.sf_kitx T) I.kIn J h1 e (fun z => nomatch z) fun tk => ⟨.bl k, H, I.kept (t' := tk) fun _ _ z => z, rfl, q⟩
end
end SF

/-! ## try, and what the suite asks of the error -/
namespace SF
open PySem PySem.Spec PyProof.Rows L2
/-- the error in its slot -/
def excV (C : Nat → Addr) (a : Addr) (cls : Value) (d : Option Addr) (ex : Exn) : VaK := ⟨.ref a, fun _ G _ => XR1 C ex cls d G, fun _ _ _ _ _ e _ _ h => ⟨h.1, h.2.1, h.2.2.mono e⟩⟩
/-- what the top says of all the errors -/
structure ErrAll (K : PySem.W.Frag) (C : Nat → Addr) (S : Addr) : Prop where
  exm : ∀ k, k < 5 → PySem.W.exmOne K (.ref (C k)) (.ref S) = some true
  kit : ∀ k j, k < 5 → j < 5 → PySem.W.kitOne K (.ref (C k)) (.ref (C j)) = some (decide (k = j))
  kitV : ∀ k, k < 5 → PySem.W.kitOne K (.ref (C k)) (.type "ValueError") = some true
  isx : ∀ k, k < 5 → ExcC K (C k)
  fld : ∀ k f, k < 5 → exF k = some f → XfC K (C k) ∧ PySem.W.findIn K (.ref (C k)) f = some none
section
variable {K : PySem.W.Frag} {c : Cn} {ρ : Rho} {σ : L2.St} {G G' H H' : Hp}
theorem Fin'.sat (S : Sat K c ρ σ G H) (f : Fin' K c G' H') {σ' : L2.St} (hl : σ'.length = ρ.length) : Sat K c (List.replicate ρ.length .no) σ' G' H' := by
  have no : ∀ {i : Nat} {e : Ent}, (List.replicate ρ.length Ent.no)[i]? = some e → e = .no := fun {i e} h => List.eq_of_mem_replicate (List.mem_of_getElem? h)
  refine ⟨f.ex1, f.ex2, f.keep, f.tbl, f.there, f.avoid, f.mrow, S.mhe, by rw [List.length_replicate, hl], fun i e o h _ => ?_, fun i e l h hm _ => ?_, fun i j e g l _ h _ hm _ _ => ?_⟩
  · rw [no h]
    trivial
  · rw [no h] at hm
    cases hm
  · rw [no h] at hm
    cases hm
theorem Sat.setVal (S : Sat K c ρ σ G H) {i : Nat} {k : VaK} {v : V} (e : k.v = v) (h : k.ok K G H) : Sat K c (ρ.set i (.val k)) (σ.set i (some v)) G H := by
  have S1 : Sat K c (ρ.set i .no) (σ.set i (some v)) G H := S.setNo
  have S2 := S1.reent (i := i) (e' := .val k) (fun o ho => by
    have hi : i < (σ.set i (some v)).length := (List.getElem?_eq_some_iff.mp ho).1
    rw [List.length_set] at hi
    rw [List.getElem?_set_self hi] at ho
    cases ho
    exact ⟨by rw [e], h⟩) rfl
  rwa [List.set_set] at S2
theorem Sat.valAt (S : Sat K c ρ σ G H) {i : Nat} {k : VaK} (h : ρ[i]? = some (.val k)) : σ[i]? = some (some k.v) ∧ k.ok K G H := by
  have hi : i < σ.length := by
    rw [← S.len]
    exact (List.getElem?_eq_some_iff.mp h).1
  obtain ⟨e, q⟩ := S.slot i _ _ h (List.getElem?_eq_getElem hi)
  exact ⟨by rw [List.getElem?_eq_getElem hi, e], q⟩
end
section
variable {X : Cx} {b : Bs} {body suite : List Stmt} {b₀ : Stmt} {wB : WS} {wSu : Addr → Value → Option Addr → WS} {C : Nat → Addr} {S : Addr}
def wTry (C : Nat → Addr) (i : Nat) (wB : WS) (wSu : Addr → Value → Option Addr → WS) : WS := fun ρ Ψ => wB ρ { Ψ with xc := fun ex => ∀ a cls d, wSu a cls d ((List.replicate ρ.length .no).set i (.val (excV C a cls d ex))) { nx := fun _ => False, rt := Ψ.rt, xc := fun _ => False } }
theorem psi_try (i : Nat) {n x : Str} {np pos pos' : Pos} (T : ErrAll X.K C S) (hs : X.stack = X.env :: X.outer) (hf : X.env.frame = some X.env.locals) (hN : X.N.Nodup) (hi : X.N[i]? = some n) (hln : X.env.kindOf n = some .local) (hc : Names X x (.ref S))
    (hb : ∀ (pn : List (Addr × Obj)) (xe : Value → Shared → Prop) (E' : XK), Takes (X.tr pn xe) (fun cls d _ H => E' cls d H) → PassesOwn (model X.prog X.w) X.A X.env xe → PSsI (X.tr pn xe) ⟨XR1 C, E'⟩ body wB)
    (hsu : ∀ (a : Addr) (oe : Obj) (cls : Value) (d : Option Addr) (pn : List (Addr × Obj)), Zc cls d oe → (∃ vs, oe.data = .fields vs) → PSsI (X.suite a ((a, oe) :: pn)) b (b₀ :: suite) (wSu a cls d)) :
    PSI X b (.Try body [.ExceptHandler (some (.Name x np)) (some n) (b₀ :: suite) pos'] [] [] pos) (wTry C i wB wSu) :=
  psi_of (ps_try_as (i := i) (tb := fun W D σ H => ∃ E' : XK, (∀ cls d (σ' : L2.St) H', σ'.length = σ.length → E' cls d H' → W cls d σ' H') ∧ tsOf X.K ⟨XR1 C, E'⟩ wB D σ H) (ts := fun a cls d => tsOf X.K b (wSu a cls d)) (Wout := fun _ _ _ _ => False)
    hs hf hN hi hln hc takes0 (fun W pn xe tk hp => ⟨fun pins s σ H D I ⟨E', hW, q⟩ => (hb pn xe E' (fun u s' ⟨a, B, sI, pins', σ', H', cls, d, e, I', nb, up, sky, na, os, ag, w⟩ =>
      tk u s' ⟨a, B, sI, pins', σ', H', cls, d, e, I', nb, up, sky, na, os, ag, hW cls d σ' H' (I'.len.trans I.len.symm) w⟩) hp).run pins s σ H D I q⟩) hsu) fun c ρ σ G H Ψ D Sa hw p => by
    refine ⟨fun cls d H' => ∀ σ' : L2.St, σ'.length = σ.length → wAs X.K (.ref S) i (fun a cls d => tsOf X.K b (wSu a cls d)) (fun _ _ _ _ => False) D cls d σ' H', fun cls d σ' H' hl h => h σ' hl, c, ρ, G, _, Sa, hw, ⟨p.nx, p.rt, p.bk, p.ct, fun ex cls d G' H' fi xr hx σ' hl => ?_⟩⟩
    refine ⟨true, by rw [xr.2.1]; exact T.exm _ xr.1, fun _ a ha => ⟨c, _, G', _, (Fin'.sat Sa fi (σ' := σ') (by rw [hl, Sa.len])).setVal (i := i) (k := excV C a cls d ex) rfl xr, hx a cls d, ⟨fun _ _ _ _ _ z => z.elim, p.rt, fun _ _ _ _ _ z => z.elim, fun _ _ _ _ _ z => z.elim, fun _ _ _ _ _ _ _ z => z.elim⟩⟩, fun z => by cases z⟩
/-! ### isinstance(e, C) -/
variable {a : Addr} {oe : Obj} {cls : Value} {d : Option Addr} {pn : List (Addr × Obj)}
theorem exAt_fs {G H : Hp} {ex : Exn} (h : ExAt G ex d) (e : Ex G H) : ∀ dd, d = some dd → ∃ fs, H dd = some (.xd fs) := fun dd hd => by
  unfold ExAt at h
  split at h
  · obtain ⟨d2, e1, e2⟩ := h
    rw [hd] at e1
    cases e1
    exact ⟨_, e _ _ e2⟩
  · rw [hd] at h
    cases h
def wIsE (C : Nat → Addr) (a : Addr) (cls : Value) (d : Option Addr) (i : Nat) (t : Nat → Bool) : WE := fun ρ Φ _ => ∃ ex, ρ[i]? = some (.val (excV C a cls d ex)) ∧ Φ (.dat (.bool (t ex.k)))
theorem call_isG (hz : Zc cls d oe) (hf : ∃ vs, oe.data = .fields vs) : CallR (X.suite a ((a, oe) :: pn)) (.builtin "isinstance") (fun xs H Q => ∃ D, cls = .ref D ∧ ExcC X.K D ∧ (∀ dd, d = some dd → ∃ fs, H dd = some (.xd fs)) ∧ rIsEx X.K (.ref D) a xs H Q) := fun pins s σ H xs us Q I r ⟨D, e, T, h⟩ => by
  subst e
  exact call_isEx T hz hf pins s σ H xs us Q I r h
theorem call_isGT (hz : Zc cls d oe) (hf : ∃ vs, oe.data = .fields vs) : CallR (X.suite a ((a, oe) :: pn)) (.builtin "isinstance") (fun xs H Q => ∃ D, cls = .ref D ∧ ExcC X.K D ∧ (∀ dd, d = some dd → ∃ fs, H dd = some (.xd fs)) ∧ rIsExT X.K (.ref D) a xs H Q) := fun pins s σ H xs us Q I r ⟨D, e, T, h⟩ => by
  subst e
  exact call_isExT T hz hf pins s σ H xs us Q I r h
/-- the class as a value -/
theorem pei_isE (i : Nat) (t : Nat → Bool) {cE : Expr} {c : V} {cv : Value} {en : Str} {p ep pos : Pos} (T : ErrAll X.K C S) (hz : Zc cls d oe) (hf : ∃ vs, oe.data = .fields vs) (hm : X.mg "isinstance" = none) (hg : Gl X "isinstance") (hcE : PE (X.suite a ((a, oe) :: pn)) cE (tC c)) (hcv : ClsV c cv)
    (hk : ∀ k, k < 5 → PySem.W.kitOne X.K (.ref (C k)) cv = some (t k)) (hN : X.N[i]? = some en := by rfl) (hv : Vis X.env.scope en := by first | exact Or.inl rfl | exact Or.inr (Or.inl rfl) | exact Or.inr (Or.inr rfl)) (hd1 : (en == ("__debug__" : Str)) = false := by decide) (hcd : (en == ("__classdict__" : Str)) = false := by decide)
    (he : starEach [.Name en ep, cE] X.env = (false, eval (.Name en ep) X.env) :: starEach [cE] X.env := by rfl) (he2 : starEach [cE] X.env = (false, eval cE X.env) :: starEach [] X.env := by rfl)
    (hpl : ((backTo pos (starEach [cE] X.env)).any fun z => z.1) = false := by rfl) : PEI (X.suite a ((a, oe) :: pn)) b (.Call (.Name "isinstance" p) [.Name en ep, cE] [] pos) (wIsE C a cls d i t) :=
  pei_of (pe_callB (call_isG hz hf) hg hm (by rfl) (pa_cons (pe_var hN hv hd1 hcd) (pa_cons hcE pa_nil he2) he) (by decide) (by decide) he hpl) fun c0 ρ σ G H Φ Ξ Q Sa hw p _ => by
    obtain ⟨ex, h1, h⟩ := hw
    obtain ⟨e1, xr⟩ := Sa.valAt h1
    obtain ⟨x1, x2, x3⟩ := xr
    exact ⟨.ref a, e1, C ex.k, x2, T.isx _ x1, exAt_fs x3 Sa.ex2, c, _, cv, t ex.k, rfl, rfl, hcv, hk _ x1, p _ (.dat (.bool _)) G H (.refl Sa) (by show Im _ _ _ _; rw [im_bool]) h⟩
/-- isinstance(e, (C1, C2, C3)) -/
theorem pei_isE3 (i : Nat) (t : Nat → Bool) {c1 c2 c3 : Expr} {v1 v2 v3 : V} {u1 u2 u3 : Value} {en : Str} {p ep tp pos : Pos} {tk : Nat} (T : ErrAll X.K C S) (hz : Zc cls d oe) (hf : ∃ vs, oe.data = .fields vs) (hm : X.mg "isinstance" = none) (hg : Gl X "isinstance")
    (h1 : PE (X.suite a ((a, oe) :: pn)) c1 (tC v1)) (h2 : PE (X.suite a ((a, oe) :: pn)) c2 (tC v2)) (h3 : PE (X.suite a ((a, oe) :: pn)) c3 (tC v3)) (k1 : ClsV v1 u1) (k2 : ClsV v2 u2) (k3 : ClsV v3 u3)
    (hk : ∀ k, k < 5 → PySem.W.kitAny X.K (.ref (C k)) [u1, u2, u3] = some (t k)) (hN : X.N[i]? = some en := by rfl) (hv : Vis X.env.scope en := by first | exact Or.inl rfl | exact Or.inr (Or.inl rfl) | exact Or.inr (Or.inr rfl)) (hd1 : (en == ("__debug__" : Str)) = false := by decide) (hcd : (en == ("__classdict__" : Str)) = false := by decide)
    (he : starEach [.Name en ep, .Tuple [c1, c2, c3] tk tp] X.env = (false, eval (.Name en ep) X.env) :: starEach [.Tuple [c1, c2, c3] tk tp] X.env := by rfl)
    (he2 : starEach [.Tuple [c1, c2, c3] tk tp] X.env = (false, eval (.Tuple [c1, c2, c3] tk tp) X.env) :: starEach [] X.env := by rfl)
    (he3 : starEach [c1, c2, c3] X.env = (false, eval c1 X.env) :: starEach [c2, c3] X.env := by rfl) (he4 : starEach [c2, c3] X.env = (false, eval c2 X.env) :: starEach [c3] X.env := by rfl) (he5 : starEach [c3] X.env = (false, eval c3 X.env) :: starEach [] X.env := by rfl)
    (hpl : ((backTo pos (starEach [.Tuple [c1, c2, c3] tk tp] X.env)).any fun z => z.1) = false := by rfl) : PEI (X.suite a ((a, oe) :: pn)) b (.Call (.Name "isinstance" p) [.Name en ep, .Tuple [c1, c2, c3] tk tp] [] pos) (wIsE C a cls d i t) :=
  pei_of (pe_callB (call_isGT hz hf) hg hm (by rfl) (pa_cons (pe_var hN hv hd1 hcd) (pa_cons (pe_tup (pa_cons h1 (pa_cons h2 (pa_cons h3 pa_nil he5) he4) he3)) pa_nil he2) he) (by decide) (by decide) he hpl) fun c0 ρ σ G H Φ Ξ Q Sa hw p _ => by
    obtain ⟨ex, hx, h⟩ := hw
    obtain ⟨e1, xr⟩ := Sa.valAt hx
    obtain ⟨x1, x2, x3⟩ := xr
    refine ⟨.ref a, e1, by show 3 ≤ sizeLine; decide, fun q hq => ?_⟩
    exact ⟨C ex.k, x2, T.isx _ x1, exAt_fs x3 (Sa.ex2.out (Sa.ex2.back hq)), q, _, _, t ex.k, rfl, upd_same, .cons k1 (.cons k2 (.cons k3 .nil)), hk _ x1, p _ (.dat (.bool _)) G _ (.newH Sa hq) (by show Im _ _ _ _; rw [im_bool]) h⟩
/-! ### e.f -/
def wFldE (C : Nat → Addr) (a : Addr) (cls : Value) (d : Option Addr) (i j : Nat) : WE := fun ρ Φ _ => ∃ ex, ρ[i]? = some (.val (excV C a cls d ex)) ∧ ex.k = j ∧ Φ (.dat (.int ex.v))
theorem pe_xfG {f : Str} {e : Expr} {te : TE} {pos : Pos} {D : Addr} (hz : Zc cls d oe) (hf : ∃ vs, oe.data = .fields vs) (he : PE (X.suite a ((a, oe) :: pn)) e te) (T : XfC X.K D) (hno : PySem.W.findIn X.K (.ref D) f = some none) (hb : attributeBase e f X.env (eval e X.env) = eval e X.env := by rfl) :
    PE (X.suite a ((a, oe) :: pn)) (.Attribute e f pos) (tXf a cls d D f te) := pe_xf T hno hz hf he hb
theorem pei_fldE (i j : Nat) {f en : Str} {ep pos : Pos} (T : ErrAll X.K C S) (hz : Zc cls d oe) (hf : ∃ vs, oe.data = .fields vs) (hj : j < 5) (hjf : exF j = some f) (hN : X.N[i]? = some en := by rfl) (hv : Vis X.env.scope en := by first | exact Or.inl rfl | exact Or.inr (Or.inl rfl) | exact Or.inr (Or.inr rfl)) (hd1 : (en == ("__debug__" : Str)) = false := by decide) (hcd : (en == ("__classdict__" : Str)) = false := by decide)
    (hb : attributeBase (.Name en ep) f X.env (eval (.Name en ep) X.env) = eval (.Name en ep) X.env := by rfl) : PEI (X.suite a ((a, oe) :: pn)) b (.Attribute (.Name en ep) f pos) (wFldE C a cls d i j) :=
  pei_of (pe_xfG (D := C j) hz hf (pe_var hN hv hd1 hcd) (T.fld j f hj hjf).1 (T.fld j f hj hjf).2 hb) fun c0 ρ σ G H Φ Ξ Q Sa hw p _ => by
    obtain ⟨ex, h1, ej, h⟩ := hw
    obtain ⟨e1, xr⟩ := Sa.valAt h1
    obtain ⟨x1, x2, x3⟩ := xr
    unfold ExAt at x3
    subst ej
    rw [hjf] at x3
    obtain ⟨dd, ed, hdd⟩ := x3
    refine ⟨.ref a, e1, rfl, x2, dd, _, .int ex.v, ed, Sa.ex2 _ _ hdd, by simp [List.lookup], p _ (.dat (.int _)) G H (.refl Sa) (by show Im _ _ _ _; rw [im_int]) h⟩
/-! ### xs.count(True) -/
def rCntB (K : PySem.W.Frag) : V → List V → Hp → VK → Prop := fun x xs H Q => ∃ (l : Addr) (ks : List Bool), x = .ref l ∧ xs = [.bl true] ∧ SqL K H l (ks.map V.bl) ∧ Q (.int (ks.count true : Nat)) H
theorem cnt_vals : ∀ {ks : List Bool} {us : List Value}, Vals (ks.map V.bl) us → us.countP (eqU (.bl true)) = ks.count true
  | [], us, r => by
    rw [List.map_nil] at r
    cases r
    rfl
  | k :: ks, us, r => by
    rw [List.map_cons] at r
    cases r with
    | cons r t =>
      cases r
      rw [List.countP_cons, List.count_cons, cnt_vals t]
      cases k <;> rfl
theorem all_bl : ∀ ks : List Bool, (ks.map V.bl).all flatV = true
  | [] => rfl
  | _ :: r => all_bl r
theorem mt_countB : MtR X "list.count" (rCntB X.K) := fun pins s σ H x xs v us Q I rx rxs h => by
  obtain ⟨l, ks, rfl, rfl, hs, q⟩ := h
  obtain rfl : v = Value.ref l := rx
  obtain ⟨u, rfl, ru⟩ := rxs.one
  have eu : u = Value.bool true := ru
  subst eu
  obtain ⟨its, rv, ⟨⟨oc, od, dt, sl⟩, n, ho, hc, hdn, hd⟩, hlen⟩ := I.list hs
  simp only at hc hd
  subst hc hd
  refine call_meets PySem.F.slot_list_count ⟨_, ho, rfl⟩ PySem.F.entry_list_count (PySem.F.args_list_count_2 _ _) (SeqAt.list_countAt l its.toArray n od sl (.bool true) (eqU (.bl true)))
    ⟨ho, fun y hy => mem_eqAt (x := .bl true) (v := .bool true) rfl rfl rv (all_bl ks) y (by simpa using hy), .int (ks.count true : Nat), H, I.tok _, ⟨s.toks, ?_⟩, q⟩
  rw [← cnt_vals rv]
def sCntB : Sem1 := fun dd Φ => ∃ ks : List Bool, dd = .list (ks.map .bool) ∧ Φ (.dat (.int (ks.count true : Nat)))
theorem imL_bl {K : PySem.W.Frag} {G : Hp} : ∀ {ks : List Bool} {xs : List V}, ImL K G (ks.map .bool) xs → xs = ks.map V.bl
  | [], xs, h => by
    rw [List.map_nil, imL_nil] at h
    exact h
  | k :: ks, xs, h => by
    rw [List.map_cons, imL_cons] at h
    obtain ⟨x, r, rfl, h1, h2⟩ := h
    rw [im_bool] at h1
    rw [h1, imL_bl h2]
    rfl
theorem pei_countB {e : Expr} {we : WE} {p1 apos cpos : Pos} {k1 : Nat} (he : PEI X b e we) (hbase : attributeBase e "count" X.env (eval e X.env) = eval e X.env := by rfl)
    (hfew : ((backTo cpos (starEach [.Constant (.bool true) k1 p1] X.env)).all (fun x => !x.1) && (backToKw cpos (keywordEach [] X.env)).all (fun x => x.1.isSome) && decide (([.Constant (.bool true) k1 p1] : List Expr).length + ([] : List Keyword).length + (if ([] : List Keyword).isEmpty then 0 else 1) < 30)) = true := by rfl)
    (hline : (apos.endLine == cpos.line) = true := by rfl) (hs : starEach [.Constant (.bool true) k1 p1] X.env = (false, eval (.Constant (.bool true) k1 p1) X.env) :: starEach [] X.env := by rfl) (hpl : (backTo cpos (starEach [] X.env)).any (·.1) = false := by rfl) :
    PEI X b (.Call (.Attribute e "count" apos) [.Constant (.bool true) k1 p1] [] cpos) (wUn sCntB we) :=
  pei_of (pe_bm PySem.F.plainAttrs_list PySem.F.slot_list_count PySem.F.type_list_count mt_countB he (pa_cons pe_bl pa_nil hs) hbase hfew hline hs hpl) fun c ρ σ G H Φ Ξ Q S hw p ex => by
    refine ⟨c, ρ, G, _, Ξ, S, hw, fun v r G1 H1 t1 o1 h1 => ?_, ex⟩
    obtain ⟨G2, t2, im⟩ := freeze S t1 o1
    obtain ⟨ks, e0, h⟩ := h1
    rw [e0, im_list] at im
    obtain ⟨l, xs, rfl, hl, il⟩ := im
    have e1 := imL_bl il
    subst e1
    have hh := (S.tr t2).ex2 _ _ hl
    exact ⟨.inl ⟨rfl, _, sq_of hh⟩, l, ks, rfl, rfl, sq_of hh, p _ (.dat (.int _)) G2 H1 t2 (by show Im _ _ _ _; rw [im_int]) h⟩
end
end SF

/-! ## What the head must tell of the errors' classes -/
namespace SF
open PySem PySem.Spec PyProof.Rows L2
theorem b2 {a b : Bool} (h : (a && b) = true) : a = true ∧ b = true := Bool.and_eq_true_iff.mp h
def oexB (K : PySem.W.Frag) (C : Addr) : Bool := (match K.lookup C with
  | some ⟨.type "type", _, .cls cd, sl⟩ => (match cd.mro, sl.toList with
    | .ref c1 :: bm, [_, _, _, _, some (.builtin n), _] => c1 == C && (n == "ValueError.__new__" && (!cd.hasDel && (cd.hasDict && PySem.HandSPX.refsVE bm)))
    | _, _ => false)
  | _ => false) && (decide (PySem.W.findIn K (.ref C) "__setattr__" = some (some (.builtin "object.__setattr__"))) && (decide (PySem.W.subIn K (.ref C) (.type "BaseException") = some true) && (decide (PySem.W.typeIn K (.ref C) = some (.type "type")) && PySem.W.keepIn K (.ref C))))
theorem oexB_ok {K : PySem.W.Frag} {C : Addr} (h : oexB K C = true) : OexC K C := by
  obtain ⟨h1, h⟩ := b2 h
  obtain ⟨h2, h⟩ := b2 h
  obtain ⟨h3, h⟩ := b2 h
  obtain ⟨h4, h5⟩ := b2 h
  refine ⟨?_, of_decide_eq_true h2, of_decide_eq_true h3, of_decide_eq_true h4, h5⟩
  split at h1
  · rename_i dd cd sl at0
    split at h1
    · rename_i c1 bm k0 k1 k2 k3 n k5 hm hs
      simp only [Bool.and_eq_true, beq_iff_eq, Bool.not_eq_true'] at h1
      obtain ⟨rfl, rfl, hdl, hdi, hv⟩ := h1
      obtain ⟨nm, bs, mro, ns, qn, hd, sn, sub, ab, col, dl⟩ := cd
      dsimp only at hm hdl hdi
      subst hm hdl hdi
      have es : sl = #[k0, k1, k2, k3, some (.builtin "ValueError.__new__"), k5] := by
        obtain ⟨l⟩ := sl
        simp only at hs
        rw [hs]
      subst es
      exact ⟨nm, qn, ns, bs, bm, sn, sub, ab, col, dd, k0, k1, k2, k3, k5, at0, hv⟩
    · cases h1
  · cases h1
def excCB (K : PySem.W.Frag) (D : Addr) : Bool := decide (PySem.W.findIn K (.ref D) "__getattribute__" = some (some (.builtin "BaseException.__getattribute__"))) && (decide (PySem.W.findIn K (.ref D) "__getattr__" = some none) && (decide (PySem.W.subIn K (.ref D) (.type "BaseException") = some true) && (PySem.W.hasDictIn K D &&
  (decide (PySem.W.findIn K (.ref D) "__class__" = some (some (.builtin "object.__class__"))) && (decide (PySem.W.specialIn K (.builtin "object.__class__") "__get__" = some (some (.builtin "getset_descriptor.__get__"))) && (decide (PySem.W.takesIn K (.builtin "object.__class__") = some true) && decide (PySem.W.mroIn K D (.type "object") = some true)))))))
theorem excCB_ok {K : PySem.W.Frag} {D : Addr} (h : excCB K D = true) : ExcC K D := by
  obtain ⟨h1, h⟩ := b2 h
  obtain ⟨h2, h⟩ := b2 h
  obtain ⟨h3, h⟩ := b2 h
  obtain ⟨h4, h⟩ := b2 h
  obtain ⟨h5, h⟩ := b2 h
  obtain ⟨h6, h⟩ := b2 h
  obtain ⟨h7, h8⟩ := b2 h
  exact ⟨of_decide_eq_true h1, of_decide_eq_true h2, of_decide_eq_true h3, h4, of_decide_eq_true h5, of_decide_eq_true h6, of_decide_eq_true h7, of_decide_eq_true h8⟩
abbrev exC (K : PySem.W.Frag) : Nat → Addr := fun k => He.ga K (exN k)
abbrev exS (K : PySem.W.Frag) : Addr := He.ga K "SlotError"
def baseB (K : PySem.W.Frag) : Bool := decide (PySem.W.specialIn K (.ref (exS K)) "__getattribute__" = some (some (.builtin "type.__getattribute__"))) && (PySem.W.readsIn K (exS K) (.type "type") && (match PySem.W.findCls K (.ref (exS K)) (.type "type") "__init__" with
  | some (.val (.builtin s)) => decide (s = "ValueError.__init__")
  | _ => false))
theorem baseB_ok {K : PySem.W.Frag} {mg : Str → Option Value} (h : baseB K = true) (g : mg "SlotError" = some (.ref (exS K))) : ErrB K mg (exS K) := by
  obtain ⟨h1, h⟩ := b2 h
  obtain ⟨h2, h3⟩ := b2 h
  refine ⟨g, of_decide_eq_true h1, h2, ?_⟩
  split at h3
  · rename_i s e
    rw [e, of_decide_eq_true h3]
  · cases h3
/-- of one class -/
def oneB (K : PySem.W.Frag) (k : Nat) : Bool := decide (PySem.W.exmOne K (.ref (exC K k)) (.ref (exS K)) = some true) && (((List.range 5).all fun j => decide (PySem.W.kitOne K (.ref (exC K k)) (.ref (exC K j)) = some (decide (k = j)))) && (decide (PySem.W.kitOne K (.ref (exC K k)) (.type "ValueError") = some true) && (excCB K (exC K k) && (match exF k with
  | some f => xfB K (exC K k) && decide (PySem.W.findIn K (.ref (exC K k)) f = some none)
  | none => true))))
def allB (K : PySem.W.Frag) : Bool := (List.range 5).all (oneB K)
theorem allB_ok {K : PySem.W.Frag} (h : allB K = true) : ErrAll K (exC K) (exS K) := by
  have one : ∀ k, k < 5 → oneB K k = true := fun k hk => List.all_eq_true.mp h k (List.mem_range.mpr hk)
  refine ⟨fun k hk => ?_, fun k j hk hj => ?_, fun k hk => ?_, fun k hk => ?_, fun k f hk hf => ?_⟩
  · exact of_decide_eq_true (b2 (one k hk)).1
  · exact of_decide_eq_true (List.all_eq_true.mp (b2 (b2 (one k hk)).2).1 j (List.mem_range.mpr hj))
  · exact of_decide_eq_true (b2 (b2 (b2 (one k hk)).2).2).1
  · exact excCB_ok (b2 (b2 (b2 (b2 (one k hk)).2).2).2).1
  · have h5 := (b2 (b2 (b2 (b2 (one k hk)).2).2).2).2
    rw [hf] at h5
    obtain ⟨h6, h7⟩ := b2 h5
    exact ⟨xfB_ok h6, of_decide_eq_true h7⟩
/-- .. with its own __init__ -/
def iniB (K : PySem.W.Frag) (x f : Str) : Bool := oexB K (He.ga K x) && (decide (PySem.W.findIn K (.ref (He.ga K x)) f = some none) && (decide (PySem.W.findIn K (.ref (He.ga K x)) "__init__" = some (some (.ref (He.ma K (He.ga K x) "__init__")))) && decide (PySem.W.typeIn K (.ref (He.ma K (He.ga K x) "__init__")) = some (.type "function"))))
theorem iniB_ok {K : PySem.W.Frag} {x f : Str} (h : iniB K x f = true) : OexC K (He.ga K x) ∧ PySem.W.findIn K (.ref (He.ga K x)) f = some none ∧ PySem.W.findIn K (.ref (He.ga K x)) "__init__" = some (some (.ref (He.ma K (He.ga K x) "__init__"))) ∧ PySem.W.typeIn K (.ref (He.ma K (He.ga K x) "__init__")) = some (.type "function") := by
  obtain ⟨h1, h⟩ := b2 h
  obtain ⟨h2, h⟩ := b2 h
  obtain ⟨h3, h4⟩ := b2 h
  exact ⟨oexB_ok h1, of_decide_eq_true h2, of_decide_eq_true h3, of_decide_eq_true h4⟩
def simB (K : PySem.W.Frag) (x : Str) : Bool := PySem.W.excIn K (He.ga K x) He.veBase "ValueError.__new__" && (PySem.W.keepIn K (.ref (He.ga K x)) && (decide (PySem.W.subIn K (.ref (He.ga K x)) (.type "BaseException") = some true) && decide (PySem.W.typeIn K (.ref (He.ga K x)) = some (.type "type"))))
theorem simB_ok {K : PySem.W.Frag} {mg : Str → Option Value} {x : Str} (h : simB K x = true) (g : mg x = some (.ref (He.ga K x))) : ErrS K mg x (He.ga K x) := by
  obtain ⟨h1, h⟩ := b2 h
  obtain ⟨h2, h⟩ := b2 h
  obtain ⟨h3, h4⟩ := b2 h
  exact ⟨g, h1, h2, of_decide_eq_true h3, of_decide_eq_true h4⟩
def errsB (K : PySem.W.Frag) : Bool := baseB K && (allB K && (iniB K "BadFile" "place" && (iniB K "BadStep" "number" && (iniB K "BadText" "at" && (simB K "BadRule" && simB K "BadRoom")))))
end SF

/-! ## list * int -/
namespace SF
open PySem PySem.Spec PyProof.Rows L2
def repD (k : Nat) (ds : List PyData) : List PyData := (List.replicate k ds).flatten
def sRepL : Sem2 := fun a c Φ => ∃ ds i, a = .list ds ∧ c = .int i ∧ -1000000 ≤ i ∧ i ≤ 1000000 ∧ ds.length * i.toNat ≤ 1000000 ∧ Φ (.lst (repD i.toNat ds))
theorem imL_rep {K : PySem.W.Frag} {G : Hp} {ds : List PyData} {xs : List V} (il : ImL K G ds xs) : ∀ k : Nat, ImL K G (repD k ds) (List.replicate k xs).flatten
  | 0 => by unfold repD; simp only [List.replicate_zero, List.flatten_nil]; rw [imL_nil]
  | k + 1 => by
    have ih := imL_rep il k
    unfold repD at ih ⊢
    rw [List.replicate_succ, List.replicate_succ, List.flatten_cons, List.flatten_cons]
    exact il.append ih
section
variable {X : Cx} {b : Bs} {x y : Expr} {wx wy : WE} {pos : Pos}
theorem pei_repL (hx : PEI X b x wx) (hy : PEI X b y wy) : PEI X b (.BinOp x .Mult y pos) (wOp sRepL wx wy) := pei_op (pe_op op_rep hx hy) fun c ρ σ G H d1 d2 x y Φ Q S i1 i2 hs p => by
  obtain ⟨ds, i, rfl, rfl, h1, h2, hz, h⟩ := hs
  rw [im_list] at i1
  rw [im_int] at i2
  obtain ⟨a, xs, rfl, ha, il⟩ := i1
  refine ⟨a, i, xs, rfl, i2, S.ex2 a _ ha, Int.le_trans (by decide) h1, Int.lt_of_le_of_lt h2 (by decide), ?_, fun q hq => p _ (.lst (repD i.toNat ds)) _ _ (.newH S hq) ⟨q, _, rfl, hq, S.ex2.back hq, upd_same, imL_rep il _⟩ h⟩
  rw [← il.len]
  exact Nat.le_trans hz (by decide)
end
theorem r_sRepL {ds : List PyData} {i : Int} {Φ : Res → Prop} : sRepL (.list ds) (.int i) Φ = (-1000000 ≤ i ∧ i ≤ 1000000 ∧ ds.length * i.toNat ≤ 1000000 ∧ Φ (.lst (repD i.toNat ds))) := by simp [sRepL]
end SF

/-! ## A head that holds the interpreter's own statics, too -/
namespace SF
open PySem PySem.Spec PyProof.Rows L2
abbrev GH : Type := Addr → Option Obj
def kE (g : GH) (n : Nat) : PySem.W.Frag := He.frT g (He.asD g n ++ [cStatics])
def obsE (n : Nat) (fa : List He.Fa) (fn : List He.DefD) (ts : List He.Tab) (tf : List He.Defn) (ex : PySem.W.Frag → Bool) (g : GH) : He.AlX := (He.obsT fa fn ts (kE g n), ex (kE g n) && He.tabsB g tf (kE g n))
theorem tabE {g : GH} {K : PySem.W.Frag} {tf : List He.Defn} (h : He.tabsB g tf K = true) {p : He.Defn} (hp : p ∈ tf) : PySem.W.codeHdIn K (He.cT K p).1 (He.cT K p).2 = true ∧ ∃ o, g (He.cT K p).2 = some o ∧ He.emptyTab o = true := by
  obtain ⟨a, b⟩ := b2 (List.all_eq_true.mp h p hp)
  refine ⟨a, ?_⟩
  split at b
  · rename_i o e
    exact ⟨o, e, b⟩
  · cases b
theorem saysE {n : Nat} {fa : List He.Fa} {fn : List He.DefD} {ts : List He.Tab} {tf : List He.Defn} {ex : PySem.W.Frag → Bool} {w : World} {h : Heap} (e : obsE n fa fn ts tf ex h.get? = He.valX fn ts w) : He.SaysX fa fn ts tf ex w h (kE h.get? n) := by
  have e1 := congrArg Prod.fst e
  have e2 : (ex (kE h.get? n) && He.tabsB h.get? tf (kE h.get? n)) = true := congrArg Prod.snd e
  obtain ⟨a, b⟩ := b2 e2
  refine ⟨e1, a, fun p hp => (tabE b hp).1, fun p hp => ?_, fun p hp => ?_⟩
  · obtain ⟨o, q, z⟩ := (tabE b hp).2
    exact He.frT_none q z
  · obtain ⟨o, q, z⟩ := (tabE b hp).2
    rw [q, He.emptyTab_eq z]
def hookE (n : Nat) (fa : List He.Fa) (fn : List He.DefD) (ts : List He.Tab) (tf : List He.Defn) (ex : PySem.W.Frag → Bool) : PySem.W.Hook :=
  ⟨He.AlX, fun s => obsE n fa fn ts tf ex s.heap.get?, fun w => He.valX fn ts w, fun w h => ∃ K : PySem.W.Frag, K.In h ∧ He.SaysX fa fn ts tf ex w h K, fun _ _ e => ⟨kE _ n, He.frT_in, saysE e⟩, fun _ _ _ ⟨K, hK, c⟩ k => ⟨K, PySem.W.Frag.In.keeps hK k, c.t, c.more, c.hd, c.out, fun p hp => k _ _ (c.empty p hp)⟩⟩
theorem obsE_eq {n : Nat} {fa : List He.Fa} {fn : List He.DefD} {ts : List He.Tab} {tf : List He.Defn} {ex : PySem.W.Frag → Bool} {g : GH} {s : Shared} (h : ∀ a, g a = s.heap.get? a) : obsE n fa fn ts tf ex g = (hookE n fa fn ts tf ex).obs s := by
  rw [show g = s.heap.get? from funext h] <;> rfl
end SF

namespace SF
open PySem PySem.Spec PyProof.Rows L2
/-! ### what a name of the top holds, told by a Bool -/
mutual
def imB (K : PySem.W.Frag) : PyData → Value → Bool
  | .none, .none => true
  | .int i, .int j _ => decide (i = j)
  | .str x, .str y _ => decide (x = y)
  | .tuple ds, .ref a => (match K.lookup a with
    | some ⟨.type c, _, .seq its _, _⟩ => decide (c = "tuple") && (decide (its.size ≤ sizeLine) && imBs K ds its.toList)
    | _ => false)
  | _, _ => false
def imBs (K : PySem.W.Frag) : List PyData → List Value → Bool
  | [], [] => true
  | d :: ds, u :: us => imB K d u && imBs K ds us
  | _, _ => false
end
theorem bb {a b : Bool} (h : (a && b) = true) : a = true ∧ b = true := Bool.and_eq_true_iff.mp h
mutual
theorem imB_ok {K : PySem.W.Frag} : ∀ (d : PyData) (u : Value), imB K d u = true → ∃ v, RelV v u ∧ ∀ G, Im K G d v
  | .none, u, h => by
    cases u <;> first | exact ⟨.non, rfl, fun G => by rw [im_none]⟩ | (unfold imB at h; cases h)
  | .int i, u, h => by
    cases u with
    | int j t =>
      unfold imB at h
      have e := of_decide_eq_true h
      subst e
      exact ⟨.int i, ⟨t, rfl⟩, fun G => by rw [im_int]⟩
    | _ => unfold imB at h; cases h
  | .str x, u, h => by
    cases u with
    | str y t =>
      unfold imB at h
      have e := of_decide_eq_true h
      subst e
      exact ⟨.str x, ⟨t, rfl⟩, fun G => by rw [im_str]⟩
    | _ => unfold imB at h; cases h
  | .bool b, u, h => by cases u <;> (unfold imB at h; cases h)
  | .list ds, u, h => by cases u <;> (unfold imB at h; cases h)
  | .dict ds, u, h => by cases u <;> (unfold imB at h; cases h)
  | .tuple ds, u, h => by
    cases u with
    | ref a =>
      unfold imB at h
      split at h
      · rename_i c od its n sl e
        obtain ⟨h1, h⟩ := bb h
        obtain ⟨h2, h3⟩ := bb h
        obtain ⟨vs, r, im⟩ := imBs_ok ds its.toList h3
        refine ⟨.ref a, rfl, fun G => ?_⟩
        rw [im_tuple]
        exact ⟨a, vs, rfl, .inr ⟨_, its, n, e, congrArg Value.type (of_decide_eq_true h1), rfl, of_decide_eq_true h2, r⟩, im G⟩
      · cases h
    | _ => unfold imB at h; cases h
theorem imBs_ok {K : PySem.W.Frag} : ∀ (ds : List PyData) (us : List Value), imBs K ds us = true → ∃ vs, Vals vs us ∧ ∀ G, ImL K G ds vs
  | [], us, h => by
    cases us with
    | nil => exact ⟨[], .nil, fun G => .nil⟩
    | cons u us => unfold imBs at h; cases h
  | d :: ds, us, h => by
    cases us with
    | nil => unfold imBs at h; cases h
    | cons u us =>
      unfold imBs at h
      obtain ⟨h1, h2⟩ := bb h
      obtain ⟨v, r, im⟩ := imB_ok d u h1
      obtain ⟨vs, rs, ims⟩ := imBs_ok ds us h2
      exact ⟨v :: vs, .cons r rs, fun G => .cons (im G) (ims G)⟩
end
theorem imB_ref {K : PySem.W.Frag} {d : PyData} {a : Addr} (h : imB K d (.ref a) = true) : ∀ G, Im K G d (.ref a) := fun G => by
  obtain ⟨v, r, im⟩ := imB_ok d _ h
  have e : v = .ref a := by
    cases v <;> first | (cases r; rfl) | (obtain ⟨_, z⟩ := r; cases z; done) | (cases r; done)
  rw [← e]
  exact im G
end SF

/-! ## What any text tells -/
namespace SF
open PySem PySem.Spec PyProof.Rows L2
def oI : Option Int → PyData
  | none => .none
  | some i => .int i
abbrev RC := Str × Option Int
structure RF where
  head : Option Int
  cells : List RC
def dRC (c : RC) : PyData := .tuple [.str c.1, oI c.2]
def dRF (f : RF) : PyData := .tuple [oI f.head, .tuple (f.cells.map dRC)]
def linkR (n : Nat) : Option Int → Bool
  | none => true
  | some i => decide (0 ≤ i) && decide (i < (n : Int))
def numR : Option Int → Bool
  | none => false
  | some i => decide (0 ≤ i) && decide (i ≤ 999)
def cellR (n : Nat) (c : RC) : Bool := if (c.1 == sRow) = true then numR c.2 else (c.1 == sFree) && linkR n c.2
structure RcOk (c : RC) : Prop where
  str : PyData.strOk c.1 = true
  num : (c.1 == sRow) = true → ∃ v, c.2 = some v
def badC (f : RF) (i : Nat) : Bool := decide (12 ≤ i) || !(match f.cells[i]? with
  | some c => cellR f.cells.length c
  | none => true)
def badAt (f : RF) : Option Nat := (List.range f.cells.length).find? (badC f)
def badR (f : RF) : Option Int := if linkR f.cells.length f.head = true then (badAt f).map fun i => (i : Int) else some (-1)
/-! first places -/
theorem find_first {p : Nat → Bool} : ∀ {n i : Nat}, i < n → p i = true → (∀ j, j < i → p j = false) → (List.range n).find? p = some i
  | 0, i, h, _, _ => absurd h (Nat.not_lt_zero _)
  | n + 1, i, h, hp, hj => by
    rw [List.range_succ, List.find?_append]
    by_cases q : i < n
    · rw [find_first q hp hj]
      rfl
    · have e : i = n := by omega
      subst e
      rw [List.find?_eq_none.mpr fun j hm => by rw [hj j (List.mem_range.mp hm)]; exact Bool.false_ne_true]
      show ([i].find? p) = some i
      rw [List.find?_cons_of_pos hp]
theorem find_none {p : Nat → Bool} {n : Nat} (h : ∀ j, j < n → p j = false) : (List.range n).find? p = none :=
  List.find?_eq_none.mpr fun j hm => by rw [h j (List.mem_range.mp hm)]; exact Bool.false_ne_true
/-! numbers -/
def figs : List Nat := (Str.ofString "0123456789").cps.toList
def figW (w : Str) : Bool := decide (1 ≤ w.length) && decide (w.length ≤ 3) && w.cps.toList.all fun k => decide (k ∈ figs)
def leadW (w : Str) : Bool := (match w.cps.toList with
  | k :: _ => ((⟨#[k]⟩ : Str) == Str.ofString "0")
  | [] => false) && !(w == Str.ofString "0")
def numW (w : Str) : Option (Option Int) := if (w == Str.ofString "-") = true then some none else if (figW w && !leadW w) = true then some (intText? w) else none
def strL (l : List Nat) : Str := ⟨l.toArray⟩
theorem num1 : figs.all (fun a => (intText? (strL [a])).isSome) = true := by decide +kernel
theorem num2 : figs.all (fun a => figs.all fun b => (intText? (strL [a, b])).isSome) = true := by decide +kernel
theorem num3 : figs.all (fun a => figs.all fun b => figs.all fun c => (intText? (strL [a, b, c])).isSome) = true := by decide +kernel
theorem backL (s : Str) : strL s.cps.toList = s := by cases s; rfl
theorem len_toList (s : Str) : s.cps.toList.length = s.length := by rw [Array.length_toList]; rfl
theorem fig_int {w : Str} (h : figW w = true) : ∃ n, intText? w = some n := by
  unfold figW at h
  simp only [Bool.and_eq_true, decide_eq_true_eq, List.all_eq_true] at h
  obtain ⟨⟨h1, h2⟩, h3⟩ := h
  rw [← len_toList] at h1 h2
  refine Option.isSome_iff_exists.mp ?_
  rw [← backL w]
  generalize w.cps.toList = l at h1 h2 h3
  match l, h1, h2, h3 with
  | [a], _, _, h3 => exact List.all_eq_true.mp num1 a (h3 a List.mem_cons_self)
  | [a, b], _, _, h3 => exact List.all_eq_true.mp (List.all_eq_true.mp num2 a (h3 a List.mem_cons_self)) b (h3 b (by simp))
  | [a, b, c], _, _, h3 => exact List.all_eq_true.mp (List.all_eq_true.mp (List.all_eq_true.mp num3 a (h3 a List.mem_cons_self)) b (h3 b (by simp))) c (h3 c (by simp))
  | _ :: _ :: _ :: _ :: _, _, h2, _ => simp at h2
def inK (s : Str) : Bool := match intText? s with
  | some v => decide (0 ≤ v) && decide (v ≤ 999)
  | none => false
theorem rng1 : figs.all (fun a => inK (strL [a])) = true := by decide +kernel
theorem rng2 : figs.all (fun a => figs.all fun b => inK (strL [a, b])) = true := by decide +kernel
theorem rng3 : figs.all (fun a => figs.all fun b => figs.all fun c => inK (strL [a, b, c])) = true := by decide +kernel
theorem fig_rng {w : Str} (h : figW w = true) : inK w = true := by
  unfold figW at h
  simp only [Bool.and_eq_true, decide_eq_true_eq, List.all_eq_true] at h
  obtain ⟨⟨h1, h2⟩, h3⟩ := h
  rw [← len_toList] at h1 h2
  rw [← backL w]
  generalize w.cps.toList = l at h1 h2 h3
  match l, h1, h2, h3 with
  | [a], _, _, h3 => exact List.all_eq_true.mp rng1 a (h3 a List.mem_cons_self)
  | [a, b], _, _, h3 => exact List.all_eq_true.mp (List.all_eq_true.mp rng2 a (h3 a List.mem_cons_self)) b (h3 b (by simp))
  | [a, b, c], _, _, h3 => exact List.all_eq_true.mp (List.all_eq_true.mp (List.all_eq_true.mp rng3 a (h3 a List.mem_cons_self)) b (h3 b (by simp))) c (h3 c (by simp))
  | _ :: _ :: _ :: _ :: _, _, h2, _ => simp at h2
theorem num_rng {w : Str} {v : Int} (h : numW w = some (some v)) : 0 ≤ v ∧ v ≤ 999 := by
  unfold numW at h
  split at h
  · cases h
  · split at h
    · rename_i q
      rw [Bool.and_eq_true] at q
      have r := fig_rng q.1
      have h := Option.some.inj h
      unfold inK at r
      rw [h] at r
      have r : (decide (0 ≤ v) && decide (v ≤ 999)) = true := r
      rw [Bool.and_eq_true, decide_eq_true_eq, decide_eq_true_eq] at r
      exact r
    · cases h
/-! cells -/
def cellW (w : Str) : Option RC := match signsG (cutS w none (some 1)) with
  | none => none
  | some kind => if (w == Str.ofString "r-") = true then none else match numW (cutS w (some 1) none) with
    | none => none
    | some v => some (kind, v)
def badW (ws : List Str) : Option Nat := (List.range ws.length).find? fun i => match ws[i]? with
  | some w => (cellW w).isNone
  | none => false
inductive PR where
  | text (at_ : Int) | file (p : Int) | good (f : RF)
def dPR : PR → PyData
  | .text a => .tuple [.str (Str.ofString "text"), .int a]
  | .file a => .tuple [.str (Str.ofString "file"), .int a]
  | .good f => .tuple [.str (Str.ofString "read"), dRF f]
def overR (f : RF) : PR := match badR f with
  | some p => .file p
  | none => .good f
def bodyR (h : Option Int) (r : List Str) : PR := match badW r with
  | some i => .text ((i : Int) + 1)
  | none => overR ⟨h, r.filterMap cellW⟩
def parse : List Str → PR
  | [] => .text 0
  | w :: r => match numW w with
    | none => .text 0
    | some h => bodyR h r
theorem parse_none {w : Str} {r : List Str} (h : numW w = none) : parse (w :: r) = .text 0 := by
  show (match numW w with | none => PR.text 0 | some h => bodyR h r) = _
  rw [h]
theorem parse_some {w : Str} {r : List Str} {v : Option Int} (h : numW w = some v) : parse (w :: r) = bodyR v r := by
  show (match numW w with | none => PR.text 0 | some h => bodyR h r) = _
  rw [h]
theorem badW_at {r : List Str} {i : Nat} {x : Str} (h : r[i]? = some x) (hx : cellW x = none) (hb : ∀ j y, j < i → r[j]? = some y → (cellW y).isSome = true) : badW r = some i := by
  refine find_first (List.getElem?_eq_some_iff.mp h).1 ?_ fun j hj => ?_
  · rw [h]
    show (cellW x).isNone = true
    rw [hx]
    rfl
  · have hj2 : j < r.length := Nat.lt_trans hj (List.getElem?_eq_some_iff.mp h).1
    rw [List.getElem?_eq_getElem hj2]
    show (cellW r[j]).isNone = false
    have := hb j _ hj (List.getElem?_eq_getElem hj2)
    cases q : cellW r[j] with
    | none => rw [q] at this; cases this
    | some c => rfl
theorem badW_no {r : List Str} (hb : ∀ j y, j < r.length → r[j]? = some y → (cellW y).isSome = true) : badW r = none := find_none fun j hj => by
  rw [List.getElem?_eq_getElem hj]
  show (cellW r[j]).isNone = false
  have := hb j _ hj (List.getElem?_eq_getElem hj)
  cases q : cellW r[j] with
  | none => rw [q] at this; cases this
  | some c => rfl
theorem cellW_no {w : Str} (h : signsG (cutS w none (some 1)) = none) : cellW w = none := by
  unfold cellW
  rw [h]
theorem cellW_eq {w kind : Str} (h : signsG (cutS w none (some 1)) = some kind) : cellW w = if (w == Str.ofString "r-") = true then none else match numW (cutS w (some 1) none) with
    | none => none
    | some v => some (kind, v) := by
  unfold cellW
  rw [h]
/-! good texts -/
theorem strOk_iff {x : Str} : PyData.strOk x = true ↔ ∀ k ∈ x.cps.toList, k < 0x110000 := by
  unfold PyData.strOk
  rw [← Array.all_toList, List.all_eq_true]
  simp
theorem cutS_sub {x : Str} {lo hi : Option Int} {k : Nat} (h : k ∈ (cutS x lo hi).cps.toList) : k ∈ x.cps.toList := by
  unfold cutS at h
  have h := List.mem_of_mem_take h
  exact List.mem_of_mem_drop h
theorem cutS_ok {x : Str} {lo hi : Option Int} (h : PyData.strOk x = true) : PyData.strOk (cutS x lo hi) = true := strOk_iff.mpr fun k hk => strOk_iff.mp h k (cutS_sub hk)
theorem cutS_len {x : Str} {lo hi : Option Int} : (cutS x lo hi).length ≤ x.length := by
  rw [← len_toList, ← len_toList]
  unfold cutS
  show (List.take _ _).length ≤ _
  rw [List.length_take, List.length_drop]
  omega
theorem tlApp (x y : Str) : (x ++ y).cps.toList = x.cps.toList ++ y.cps.toList := by
  show (x.cps ++ y.cps).toList = _
  rw [Array.toList_append]
theorem appOk {x y : Str} (hx : PyData.strOk x = true) (hy : PyData.strOk y = true) : PyData.strOk (x ++ y) = true := strOk_iff.mpr fun k hk => by
  rw [tlApp, List.mem_append] at hk
  rcases hk with z | z
  · exact strOk_iff.mp hx k z
  · exact strOk_iff.mp hy k z
theorem appLen (x y : Str) : (x ++ y).length = x.length + y.length := by rw [← len_toList, ← len_toList, ← len_toList, tlApp, List.length_append]
theorem joinOk {y : Str} (hy : PyData.strOk y = true) : ∀ {ps : List Str}, (∀ p ∈ ps, PyData.strOk p = true) → PyData.strOk (Str.join y ps) = true
  | [], _ => by show PyData.strOk Str.empty = true; decide +kernel
  | [p], h => h p List.mem_cons_self
  | p :: q :: r, h => by
    show PyData.strOk (p ++ y ++ Str.join y (q :: r)) = true
    exact appOk (appOk (h p List.mem_cons_self) hy) (joinOk hy fun z hz => h z (List.mem_cons_of_mem _ hz))
theorem mem_join {y : Str} : ∀ {ps : List Str} {p : Str}, p ∈ ps → ∀ k ∈ p.cps.toList, k ∈ (Str.join y ps).cps.toList
  | [q], p, h => by
    rw [List.mem_singleton.mp h]
    exact fun k hk => hk
  | q :: r :: s, p, h => fun k hk => by
    show k ∈ (q ++ y ++ Str.join y (r :: s)).cps.toList
    rw [tlApp, tlApp, List.mem_append, List.mem_append]
    rcases List.mem_cons.mp h with e | e
    · exact .inl (.inl (e ▸ hk))
    · exact .inr (mem_join e k hk)
theorem joinLen {y : Str} : ∀ {ps : List Str}, ps ≠ [] → (Str.join y ps).length + y.length = (ps.map (·.length)).sum + ps.length * y.length
  | [], h => absurd rfl h
  | [p], _ => by
    show p.length + y.length = p.length + 0 + 1 * y.length
    omega
  | p :: q :: r, _ => by
    have ih := joinLen (y := y) (ps := q :: r) (by simp)
    show (p ++ y ++ Str.join y (q :: r)).length + y.length = _
    rw [appLen, appLen, List.map_cons, List.sum_cons, List.length_cons, Nat.succ_mul]
    omega
/-- the words of a text -/
abbrev sp : Str := Str.ofString " "
def wordsS (s : Str) : List Str := Txt.split s sp
theorem words_join (s : Str) : Str.join sp (wordsS s) = s := PySem.StrLaws.join_split s sp
theorem words_ne (s : Str) : wordsS s ≠ [] := by
  unfold wordsS Txt.split
  split
  · simp
  · split
    · simp
    · rw [PySem.StrLaws.partsBetween_eq]
      obtain ⟨p, r, e⟩ := PySem.StrLaws.partsFrom_ne s sp.length 0 (Builtin.Str.occurrences s sp 0 s.length (s.length + 1))
      rw [e]
      simp
theorem words_ok {s : Str} (h : PyData.strOk s = true) : ∀ w ∈ wordsS s, PyData.strOk w = true := fun w hw => strOk_iff.mpr fun k hk => by
  have := mem_join (y := sp) hw k hk
  rw [words_join] at this
  exact strOk_iff.mp h k this
theorem sp_len : sp.length = 1 := by decide +kernel
theorem wordsS_sum (s : Str) : ((wordsS s).map (·.length)).sum + (wordsS s).length = s.length + 1 := by
  have h := joinLen (y := sp) (words_ne s)
  rw [words_join, sp_len, Nat.mul_one] at h
  omega
theorem mem_sum : ∀ {l : List Str} {w : Str}, w ∈ l → w.length ≤ (l.map (·.length)).sum
  | x :: l, w, h => by
    rw [List.map_cons, List.sum_cons]
    rcases List.mem_cons.mp h with e | e
    · rw [e]; omega
    · have := mem_sum e
      omega
theorem word_len {s w : Str} (h : w ∈ wordsS s) : w.length ≤ s.length := by
  have h1 := mem_sum h
  have h2 := wordsS_sum s
  have h3 : 1 ≤ (wordsS s).length := by
    cases e : wordsS s with
    | nil => exact absurd e (words_ne s)
    | cons a b => simp
  omega
theorem words_count (s : Str) : (wordsS s).length ≤ s.length + 1 := by
  have := wordsS_sum s
  omega
/-! the first sign, the rest -/
theorem cut_rm {w : Str} (h : (w == Str.ofString "r-") = true) : cutS w none (some 1) = Str.ofString "r" := by
  rw [eq_of_beq h]
  decide +kernel
theorem cut_cat (w : Str) : cutS w none (some 1) ++ cutS w (some 1) none = w := by
  rw [← backL (cutS w none (some 1) ++ cutS w (some 1) none), tlApp, ← backL w]
  congr 1
  unfold cutS
  rw [HT.sIx_none, HT.sIx_none, show HT.sIx (strL w.cps.toList).length (strL w.cps.toList).length (some 1) = min 1 (strL w.cps.toList).length from HT.sIx_nat _ _ 1, show HT.sIx (strL w.cps.toList).length 0 (some 1) = min 1 (strL w.cps.toList).length from HT.sIx_nat _ _ 1]
  rw [backL, ← len_toList]
  show (List.drop 0 w.cps.toList).take (min 1 w.cps.toList.length - 0) ++ (w.cps.toList.drop (min 1 w.cps.toList.length)).take (w.cps.toList.length - min 1 w.cps.toList.length) = w.cps.toList
  rw [List.drop_zero, Nat.sub_zero, List.take_of_length_le (l := w.cps.toList.drop _) (by rw [List.length_drop]; omega), List.take_append_drop]
theorem num_dash {w : Str} (h : numW w = some none) : w = Str.ofString "-" := by
  unfold numW at h
  split at h
  · rename_i q
    exact eq_of_beq q
  · split at h
    · rename_i q
      rw [Bool.and_eq_true] at q
      obtain ⟨n, e⟩ := fig_int q.1
      rw [e] at h
      cases h
    · cases h
theorem cell_ok {w : Str} {c : RC} (h : cellW w = some c) : RcOk c ∧ ((c.1 = sRow ∧ cutS w none (some 1) = Str.ofString "r") ∨ (c.1 = sFree ∧ cutS w none (some 1) = Str.ofString "f")) ∧ (w == Str.ofString "r-") = false ∧ numW (cutS w (some 1) none) = some c.2 := by
  unfold cellW at h
  cases hk : signsG (cutS w none (some 1)) with
  | none => rw [hk] at h; cases h
  | some kind =>
    rw [hk] at h
    cases hr : (w == Str.ofString "r-") with
    | true => rw [hr] at h; cases h
    | false =>
      rw [hr] at h
      have h : (match numW (cutS w (some 1) none) with | none => none | some v => some (kind, v)) = some c := h
      cases hn : numW (cutS w (some 1) none) with
      | none => rw [hn] at h; cases h
      | some v =>
        rw [hn] at h
        cases h
        have hk2 := hk
        unfold signsG at hk2
        split at hk2
        · rename_i q
          cases hk2
          have e := eq_of_beq q
          refine ⟨⟨(by show PyData.strOk (Str.ofString "row") = true; decide +kernel), fun _ => ?_⟩, .inl ⟨rfl, e.symm⟩, rfl, rfl⟩
          cases v with
          | some v => exact ⟨v, rfl⟩
          | none =>
            have e2 := cut_cat w
            rw [← e, num_dash hn] at e2
            rw [← e2] at hr
            exact absurd hr (by decide +kernel)
        · split at hk2
          · rename_i q
            cases hk2
            refine ⟨⟨(by show PyData.strOk (Str.ofString "free") = true; decide +kernel), fun z => absurd z (by show ¬ (Str.ofString "free" == sRow) = true; decide +kernel)⟩, .inr ⟨rfl, (eq_of_beq q).symm⟩, rfl, rfl⟩
          · cases hk2
end SF

/-! ## A lambda handed to a def that calls it; the law's start with tables -/
namespace SF
open PySem PySem.Spec PyProof.Rows L2
/-! ### the mark in the law's first slot: the tables -/
def tabK (a : Addr) : VaK := ⟨.ref a, fun K G H => LamX.Tabs (tabsOf K) H ∧ ∀ p ∈ tabsOf K, G p.1 = none, fun K G G' H H' e t av h => ⟨t.tab h.1, fun p hp => by
  obtain ⟨ps, z, _⟩ := h.1 p hp
  exact av _ ps z (h.2 p hp)⟩⟩
/-- the script alone, frozen -/
def gOf (H : Hp) (a : Addr) : Hp := fun b => if b = a then (match H a with
  | some (.frz o u) => some (.frz o u)
  | _ => none) else none
theorem gOf_ex {H : Hp} {a : Addr} : Ex (gOf H a) H := fun b o h => by
  unfold gOf at h
  split at h
  · rename_i e
    split at h
    · rename_i o' u q
      rw [e, q]
      exact h
    · cases h
  · cases h
theorem gOf_at {H : Hp} {a : Addr} {o : Obj} {u : HO} (h : H a = some (.frz o u)) : gOf H a a = some (.frz o u) := by
  unfold gOf
  rw [if_pos rfl, h]
theorem gOf_none {H : Hp} {a b : Addr} (h : ∀ o u, H b ≠ some (.frz o u)) : gOf H a b = none := by
  unfold gOf
  split
  · rename_i e
    split
    · rename_i o u q
      rw [e] at h
      exact absurd q (h o u)
    · rfl
  · rfl
def spLF (K : PySem.W.Frag) : Sp := fun vs H Q _ => ∃ (a : Addr) (ns : List Int), vs = [.ref a] ∧ (∀ p ∈ tabsOf K, H p.1 = some (.tbl #[])) ∧ ScrAt K (gOf H a) a ns ∧ ∀ H', Q (.bl true) H'
def spLT (K : PySem.W.Frag) : Sp := fun vs H Q _ => ∃ (a : Addr) (ns : List Int), vs = [.ref a] ∧ (∀ p ∈ tabsOf K, H p.1 = some (.tbl #[])) ∧ SqL K H a (ns.map V.int) ∧ ∀ H', Q (.bl true) H'
section
variable {P : Program} {w : World} {K : PySem.W.Frag} {mg : Str → Option Value} {base : Heap}
theorem lamlaw_slot {k : VaK} {n : Nat} {i : Nat} {u : Ent} (h : (Ent.val k :: .row :: List.replicate n .no)[i]? = some u) : (i = 0 ∧ u = .val k) ∨ u = .no ∨ (i = 1 ∧ u = .row) := by
  match i with
  | 0 => cases h; exact .inl ⟨rfl, rfl⟩
  | 1 => cases h; exact .inr (.inr ⟨rfl, rfl⟩)
  | i + 2 =>
    have h : (List.replicate n Ent.no)[i]? = some u := by simpa using h
    exact .inr (.inl (List.eq_of_mem_replicate (List.mem_of_getElem? h)))
theorem sat_lamlaw {n : Nat} {H : Hp} {a p : Addr} {ns : List Int} (hT : ∀ p ∈ tabsOf K, H p.1 = some (.tbl #[])) (hS : ScrAt K (gOf H a) a ns) (hp : H p = none) : Sat K ⟨none, gOf H a, H⟩ (.val (tabK a) :: .row :: List.replicate n .no) (some (.ref a) :: some (.ref p) :: List.replicate n none) (gOf H a) (upd H p (.lst [.ref a, .int 0, .int 0])) where
  ex1 := .refl _
  ex2 := gOf_ex.trans (.new hp)
  keep := fun b o h _ _ => Ex.new hp b o h
  tbl := .new hp
  there := fun b h => by
    rw [upd_ne (show b ≠ p from fun e => h (e ▸ hp))]
    exact h
  avoid := fun _ h _ => h
  mrow := fun _ h => by cases h
  mhe := fun _ h => by cases h
  len := by simp
  slot := fun i u o h1 h2 => by
    rcases lamlaw_slot h1 with ⟨rfl, rfl⟩ | rfl | ⟨rfl, rfl⟩
    · cases h2
      refine ⟨rfl, fun q hq => ?_, fun q hq => gOf_none fun o u z => ?_⟩
      · refine LamX.TabS.nil ?_
        rw [upd_ne (show q.1 ≠ p from fun e => by have := hT q hq; rw [e, hp] at this; cases this)]
        exact hT q hq
      · rw [hT q hq] at z
        cases z
    · trivial
    · cases h2
      exact ⟨p, rfl, gOf_none (fun o u z => by rw [hp] at z; cases z), a, ns, 0, 0, upd_same, hS, Int.le_refl _, Int.le_refl _, by decide⟩
  own := fun i u l h1 hm h2 => by
    rcases lamlaw_slot h1 with ⟨rfl, rfl⟩ | rfl | ⟨rfl, rfl⟩
    · cases hm
    · cases hm
    · cases h2
      exact .inl hp
  ne := fun i j u f l hne h1 h2 m1 m2 h3 => by
    rcases lamlaw_slot h1 with ⟨rfl, rfl⟩ | rfl | ⟨rfl, rfl⟩
    · cases m1
    · cases m1
    · rcases lamlaw_slot h2 with ⟨rfl, rfl⟩ | rfl | ⟨rfl, rfl⟩
      · cases m2
      · cases m2
      · exact absurd rfl hne
/-- the law's own code object, its table -/
abbrev lawP (K : PySem.W.Frag) : Addr × Addr := He.cT K (Str.ofString "law", none)
/-- THE RULE for a law with lambdas -/
theorem okLawF {x qual : Str} {st : Stmt} {f : Addr} {fd : FuncData} {N : List Str} {k n : Nat} (F : Fun K x qual st f fd) (ef : f = He.ga K (Str.ofString "law")) (S : FnScope N ["_law_script"] (defScope st)) (hn : N.length = n + 2)
    (hbody : ∀ (A : Around) (outer : List Env) (s : Shared) (H : Hp) (E : XK), Room k (A.deeper (envOfC qual (defScope st) s.heap.objs.size f (.ref (lawP K).1))) →
      ∃ (st1 : Stmt) (rest : List Stmt) (wS : WS), defBody st = st1 :: rest ∧ PS (cxOf CX0 P w K mg base N qual (defScope st) f (.ref (lawP K).1) A outer s H E).nox st1 (tAsg (tLst (tCons (tVar 0) (tCons (tC (.int 0)) (tCons (tC (.int 0)) tNil)))) (gName 1)) ∧
        PSsI (cxOf CX0 P w K mg base N qual (defScope st) f (.ref (lawP K).1) A outer s H E).nox ⟨XR0, E⟩ rest wS ∧ ∀ a, wS (.val (tabK a) :: .row :: List.replicate n .no) (endP (fun r => r = .dat (.bool true)) (fun _ => False))) : FnOk P w K mg base CX0 (k + 1) f fd ["_law_script"] (spLF K) := by
  obtain ⟨oc, od, kV, doc, pm, an, cdv, ct, osl, rfl, lk, hcd⟩ := F.ex
  obtain ⟨c, ec⟩ := He.codeIn_ref hcd
  have e2 : (lawP K).1 = c := He.codeOf_eq (K := K) (p := (Str.ofString "law", none)) (by show K.lookup (He.ga K _) = _; rw [← ef]; exact lk) ec
  have e3 : cdv = .ref (lawP K).1 := by rw [e2]; exact ec
  rw [e3] at lk hcd ⊢
  refine fn_of lk hcd S (fun vs H Q E ⟨a, ns, e, _⟩ => by rw [e]; rfl) fun A outer s H vs Q E hr ⟨a, ns, e, hT, hS, q⟩ => ?_
  obtain ⟨st1, rest, wS, e1, h1, h2, hw⟩ := hbody A outer s H E hr
  subst e
  rw [e1]
  refine ⟨_, (pss_cons h1 h2).nox, ?_⟩
  rw [start_len (n := n + 1) (by rw [hn]; show n + 2 = 1 + (n + 1); omega)]
  refine ⟨.ref a, rfl, (by show 3 ≤ sizeLine; decide), fun p hp => ?_⟩
  refine ⟨⟨none, gOf H a, H⟩, _, gOf H a, _, sat_lamlaw hT hS hp, hw a, post_end (fun v r G' H' _ o e => ?_) fun _ _ _ _ _ _ _ h => h.elim⟩
  subst e
  have o : Im K G' (.bool true) v := o
  rw [im_bool] at o
  subst o
  exact q H'
/-- a list that is followed is told as frozen -/
def frzAt (H : Hp) (a : Addr) (o : Obj) (xs : List V) : Hp := upd H a (.frz o (.lst xs))
theorem okLawT {f : Addr} {fd : FuncData} {k : Nat} (F : FnOk P w K mg base CX0 k f fd ["_law_script"] (spLF K)) : FnOk P w K mg base CX0 k f fd ["_law_script"] (spLT K) := by
  refine ⟨fun vs H Q E ⟨a, ns, e, _⟩ => by rw [e]; rfl, fun A outer s H args us vs Q E hr e0 hb r ⟨a, ns, e, hT, hS, q⟩ => ?_⟩
  rcases hS with (h | ⟨o, h⟩) | h
  · obtain ⟨hz, its, n, rv, ho⟩ := (show ObjOk P w H s.heap a (.lst (ns.map V.int)) from e0.hok a _ h)
    have no : ∀ {b : Addr}, H b = none → frzAt H a ⟨.type "list", none, .seq its.toArray n, #[]⟩ (ns.map V.int) b = none := fun {b} hb => by
      unfold frzAt
      rw [upd_ne (fun z => by rw [z, h] at hb; cases hb)]
      exact hb
    have st : ∀ {b : Addr} {u : HO}, H b = some u → (∀ ys, u ≠ .lst ys) → frzAt H a ⟨.type "list", none, .seq its.toArray n, #[]⟩ (ns.map V.int) b = some u := fun {b u} hb n => by
      unfold frzAt
      rw [upd_ne (fun z => by rw [z, h] at hb; exact n _ (Option.some.inj hb).symm)]
      exact hb
    have at_a : frzAt H a ⟨.type "list", none, .seq its.toArray n, #[]⟩ (ns.map V.int) a = some (.frz ⟨.type "list", none, .seq its.toArray n, #[]⟩ (.lst (ns.map V.int))) := upd_same
    have hok : HOk P w (frzAt H a ⟨.type "list", none, .seq its.toArray n, #[]⟩ (ns.map V.int)) s.heap := fun b u eb => by
      by_cases q : b = a
      · subst q
        rw [at_a] at eb
        cases eb
        exact ⟨ho, hz, its, n, rv, ho⟩
      · have eb2 : H b = some u := by
          unfold frzAt at eb
          rwa [upd_ne q] at eb
        exact (e0.hok b u eb2).stay (fun _ _ _ z => z) (fun _ z => st z (fun _ y => by cases y)) fun _ _ z => st z (fun _ y => by cases y)
    refine codeAny_mono (F.run A outer s _ args us vs Q E hr ⟨e0.frames, e0.mod, fun b o eb => ⟨(e0.bs b o eb).1, no (e0.bs b o eb).2⟩, e0.bsz, e0.funs, fun b hb => no (e0.frf b hb), hok, e0.bare⟩ hb r ⟨a, ns, e, fun p hp => st (hT p hp) (fun _ y => by cases y), .inl ⟨_, gOf_at at_a⟩, q⟩) fun r s' hr => ?_
    cases r with
    | error ex => exact hr
    | ok fl =>
      cases fl with
      | ret u =>
        obtain ⟨v, H2, c1, c2, un, c4, c5, c6⟩ := hr
        exact ⟨v, H2, c1, c2, ⟨fun b o g m => un.keep b o g (no m), fun b o g m => un.slot b o g (no m), fun b o g m => un.free b o g (no m), un.there, fun b xs g => un.tups b xs (st g (fun _ y => by cases y)), fun b o u g => un.frzs b o u (st g (fun _ y => by cases y)), fun b ps g => un.tbls b ps (st g (fun _ y => by cases y))⟩, c4, c5, c6⟩
      | next => exact hr
      | brk => exact hr
      | cont => exact hr
  · exact F.run A outer s H args us vs Q E hr e0 hb r ⟨a, ns, e, hT, .inl ⟨o, gOf_at h⟩, q⟩
  · exact F.run A outer s H args us vs Q E hr e0 hb r ⟨a, ns, e, hT, .inr (.inr h), q⟩
end
end SF
namespace SF
open PySem PySem.Spec PyProof.Rows L2
/-! ### a lambda is made -/
section
variable {X : Cx} {pins : List (Addr × Obj)} {σ : L2.St} {H : Hp} {s : Shared}
abbrev lamQ (X : Cx) : Str := X.env.qual ++ "<lambda>"
theorem lam_new {c P : Addr} {params : Arguments} {body : Expr} {scope : Scope} {pos : Pos} {E Q : Value → Shared → Prop} (I : Inv X pins σ H s) (TB : LamX.TabB X.base X.mg c P) (hcode : X.env.code = .ref c)
    (hm : (P, lamQ X) ∈ tabsOf X.K) (hu : ∀ p ∈ tabsOf X.K, p.1 = P → p.2 = lamQ X) (hT : LamX.Tabs (tabsOf X.K) H) (hdef : defaultsOf params X.env = ([], [])) (hfr : ∀ y ∈ scope.names, y.2 = .free → ∃ c, X.env.cells.lookup y.1 = some c)
    (h : ∀ (f c' : Addr) (pm ctv : Value) (H1 : Hp) (s' : Shared), Inv X pins σ H1 s' → (∀ b o, b ≠ P → H b = some o → H1 b = some o) → TblK X.K H H1 →
      s'.heap.get? f = some (PySem.W.kla_obj "<lambda>" (lamQ X) params body scope (cloFrom X.env.cells scope.names []) pm c' ctv) → H1 f = none → f ∉ frs X.stack → H1 c' = some (LamX.CodeO c' (lamQ X)) → Q (.ref f) s') :
    wpAny (model X.prog X.w) X.A (eval (.Lambda params body scope pos) X.env) Q E s := by
  obtain ⟨tb, htb, tok, tin⟩ := hT _ hm
  have obj : s.heap.get? P = some { cls := .none, data := .fields tb } := I.hok P _ htb
  have apart : ∀ f, s.heap.objs.size ≤ f → f ∉ frs X.stack := fun f hf z => by
    rcases List.mem_cons.mp (I.stkSub _ z) with e | e
    · have lt := I.lt
      exact absurd (Nat.lt_of_lt_of_le (e ▸ lt) hf) (Nat.lt_irrefl _)
    · exact I.nofs hf e
  refine PySem.W.kla_eval hdef ?_
  cases am : codeAmong pos tb.toList with
  | some cv =>
    obtain ⟨c', ec, co⟩ := tin pos cv am
    subst ec
    exact PySem.W.kla_makeFunctionHit (P := P) (c := c) (mg := X.mg) (ps := tb) (closure_ok hfr) I.ok.glob (I.mod.glob.keeps I.bk) hcode (TB.code.keeps I.bk) obj tok am (TB.bm.keeps I.bk) fun ctv h' tk hx hsz =>
      h h'.objs.size c' _ ctv H _ (I.kept (t' := tk) fun b o e => Heap.get?_push_of_some _ (hx b o e)) (fun _ _ _ e => e) (.refl _) (Heap.get?_push_size _ rfl) (I.hok.fresh hsz) (apart _ hsz) co
  | none =>
    refine PySem.W.kla_makeFunction (P := P) (c := c) (mg := X.mg) (ps := tb) (closure_ok hfr) I.ok.glob (I.mod.glob.keeps I.bk) hcode (TB.code.keeps I.bk) obj tok am TB.gP (TB.bm.keeps I.bk) fun c' ctv h' tk hx hge hlt hrec hnew => ?_
    obtain ⟨c2, oc, vs, t, e2, r1, r2, r3⟩ := hrec
    cases e2
    have big : s.heap.objs.size ≤ h'.objs.size := Nat.le_trans hge (Nat.le_of_lt hlt)
    have nC : H c' = none := I.hok.fresh hge
    have nPC : P ≠ c' := fun z => by rw [z, nC] at htb; cases htb
    have J := LamX.inv_table (t' := tk) (q := lamQ X) (more := #[rawInt pos.line, rawInt pos.col, .ref c']) (h' := h'.push (PySem.W.kla_obj "<lambda>" (lamQ X) params body scope (cloFrom X.env.cells scope.names []) ((X.mg "__name__").getD .none) c' ctv)) I htb
      (fun b o hb e => Heap.get?_push_of_some _ (hx b o hb e)) (Heap.get?_push_of_some _ hnew) hge ⟨oc, vs, t, Heap.get?_push_of_some _ r1, r2, r3⟩
    have same : ∀ b o, b ≠ P → H b = some o → upd (upd H P (.tbl (tb ++ #[rawInt pos.line, rawInt pos.col, .ref c']))) c' (LamX.CodeO c' (lamQ X)) b = some o := fun b o n e => by
      rw [upd_ne (fun z => by rw [z, nC] at e; cases e), upd_ne n]
      exact e
    have atP : upd (upd H P (.tbl (tb ++ #[rawInt pos.line, rawInt pos.col, .ref c']))) c' (LamX.CodeO c' (lamQ X)) P = some (.tbl (tb ++ #[rawInt pos.line, rawInt pos.col, .ref c'])) := by rw [upd_ne nPC, upd_same]
    refine h h'.objs.size c' _ ctv _ _ J same ⟨fun b qs e => ?_, fun hT2 p hp => ?_⟩ (Heap.get?_push_size _ rfl) ?_ (apart _ big) upd_same
    · by_cases z : b = P
      · rw [z]
        exact ⟨_, atP⟩
      · exact ⟨qs, same b _ z e⟩
    · obtain ⟨qs, a1, a2, a3⟩ := hT2 p hp
      have keepC : ∀ {c0 : Addr} {q : Str}, H c0 = some (LamX.CodeO c0 q) → upd (upd H P (.tbl (tb ++ #[rawInt pos.line, rawInt pos.col, .ref c']))) c' (LamX.CodeO c' (lamQ X)) c0 = some (LamX.CodeO c0 q) := fun {c0 q} e => same _ _ (fun z => by rw [z, htb] at e; exact LamX.codeO_ne _ (Option.some.inj e).symm) e
      by_cases z : p.1 = P
      · rw [z] at a1 ⊢
        rw [hu p hp z]
        have eL : (tb ++ #[rawInt pos.line, rawInt pos.col, .ref c']).toList = tb.toList ++ [rawInt pos.line, rawInt pos.col, .ref c'] := by simp
        refine ⟨_, atP, by rw [eL]; exact PySem.TriplesOk_snoc _ _ _ _ tok, fun p' cv hcv => ?_⟩
        rw [eL] at hcv
        rcases LamX.among_app _ tok hcv with y | y
        · obtain ⟨c0, e1, e2⟩ := tin p' cv y
          exact ⟨c0, e1, keepC e2⟩
        · exact ⟨c', y, upd_same⟩
      · refine ⟨qs, same _ _ z a1, a2, fun p' cv hcv => ?_⟩
        obtain ⟨c0, e1, e2⟩ := a3 p' cv hcv
        exact ⟨c0, e1, keepC e2⟩
    · have n1 : h'.objs.size ≠ c' := Nat.ne_of_gt hlt
      have n2 : h'.objs.size ≠ P := Nat.ne_of_gt (Nat.lt_of_lt_of_le (Heap.lt_size obj) big)
      rw [upd_ne n1, upd_ne n2]
      exact I.hok.fresh big
end
end SF
namespace SF
open PySem PySem.Spec PyProof.Rows L2
/-! ### what the def that calls it tells -/
def wordP : Option Exn → PyData
  | none => .tuple [.str (Str.ofString ""), .none]
  | some ex => match ex.k with
    | 0 => .tuple [.str (Str.ofString "file"), .int ex.v]
    | 1 => .tuple [.str (Str.ofString "rule"), .none]
    | 2 => .tuple [.str (Str.ofString "room"), .none]
    | 3 => .tuple [.str (Str.ofString "step"), .int ex.v]
    | _ => .tuple [.str (Str.ofString "text"), .int ex.v]
def endW (K : PySem.W.Frag) (o : Option Exn) (Q : VK) (G' H' : Hp) : Prop := ∀ v G2 H2, Fin' K ⟨none, G', H'⟩ G2 H2 → Im K G2 (wordP o) v → Q v H2
def TTw (K : PySem.W.Frag) (C : Nat → Addr) : (XK → Hp → VK → Prop) → Hp → VK → Prop := fun tl H Q => ∀ (E' : XK) (Q' : VK),
  (∀ cls d H' ex G', XR1 C ex cls d G' → Ex G' H' → endW K (some ex) Q G' H' → E' cls d H') → (∀ v H' G', Ex G' H' → endW K none Q G' H' → Q' v H') → tl E' H Q'
/-- nothing known of the slots -/
theorem sat_no {K : PySem.W.Frag} {G H : Hp} {σ : L2.St} {n : Nat} (e : Ex G H) (hl : σ.length = n) : Sat K ⟨none, G, H⟩ (List.replicate n .no) σ G H where
  ex1 := .refl _
  ex2 := e
  keep := fun _ _ h _ _ => h
  tbl := .refl _
  there := fun _ h => h
  avoid := fun _ h _ => h
  mrow := fun _ h => by cases h
  mhe := fun _ h => by cases h
  len := by rw [List.length_replicate, hl]
  slot := fun i u o h1 _ => by
    rw [List.eq_of_mem_replicate (List.mem_of_getElem? h1)]
    trivial
  own := fun i u l h1 hm _ => by
    rw [List.eq_of_mem_replicate (List.mem_of_getElem? h1)] at hm
    cases hm
  ne := fun i j u f l _ h1 _ m1 _ _ => by
    rw [List.eq_of_mem_replicate (List.mem_of_getElem? h1)] at m1
    cases m1
def wLam (w : WE) : WE := fun ρ Φ _ => (∃ a, ρ[0]? = some (.val (tabK a))) ∧ w ρ (fun _ => Φ (.dat (wordP none))) (fun ex => Φ (.dat (wordP (some ex))))
section
variable {X : Cx} {b : Bs} {C : Nat → Addr} {S : Addr}
/-- try: a() / except x as n: suite / return r -/
theorem word_gives {Ng : List Str} {x a n xs q : Str} {sg : Scope} {g : Addr} {cdg : Value} {b₀ : Stmt} {suite : List Stmt} {re : Stmt} {np p1 p2 p3 p4 p5 : Pos} {wSu : Addr → Value → Option Addr → WS} {wR : WS} (T : ErrAll X.K C S)
    (h0 : ∀ f : Addr, (L2.start Ng [V.ref f])[0]? = some (some (V.ref f))) (hlen : ∀ f : Addr, (L2.start Ng [V.ref f]).length = Ng.length) (hnd : Ng.Nodup) (hi : Ng[1]? = some n) (hk : sg.names.lookup n = some .local)
    (hc : ∀ (s : Shared) (H : Hp), Names (cxOf C8.CX0 X.prog X.w X.K X.mg X.base Ng x sg g cdg X.A X.stack s H C8.E0).nox xs (.ref S))
    (hsu : ∀ (s : Shared) (H : Hp) (a : Addr) (oe : Obj) (cls : Value) (d : Option Addr) (pn : List (Addr × Obj)), Zc cls d oe → (∃ vs, oe.data = .fields vs) → PSsI ((cxOf C8.CX0 X.prog X.w X.K X.mg X.base Ng x sg g cdg X.A X.stack s H C8.E0).nox.suite a ((a, oe) :: pn)) ⟨XR0, C8.E0⟩ (b₀ :: suite) (wSu a cls d))
    (hrd : ∀ (ex : Exn) (a : Addr) (cls : Value) (d : Option Addr), ex.k < 5 → wSu a cls d ((List.replicate Ng.length .no).set 1 (.val (excV C a cls d ex))) { nx := fun _ => False, rt := fun r => r = .dat (wordP (some ex)), xc := fun _ => False })
    (hre : ∀ (s : Shared) (H : Hp), PSI (cxOf C8.CX0 X.prog X.w X.K X.mg X.base Ng x sg g cdg X.A X.stack s H C8.E0).nox ⟨XR0, C8.E0⟩ re wR) (hrr : wR (List.replicate Ng.length .no) { nx := fun _ => False, rt := fun r => r = .dat (wordP none), xc := fun _ => False }) :
    LamX.GivesTo X Ng x sg g cdg [.Try [.Expr (.Call (.Name a p1) [] [] p2) p3] [.ExceptHandler (some (.Name xs np)) (some n) (b₀ :: suite) p4] [] [] p5, re] a q (TTw X.K C) := by
  intro f c' s H Q tl act hco h
  have hlf : ∀ {H' G' : Hp} {ex : Option Exn} {Q : VK} {σ : L2.St}, Ex G' H' → endW X.K ex Q G' H' → PostS X.K ⟨XR0, C8.E0⟩ ⟨none, G', H'⟩ { nx := fun _ => False, rt := fun r => r = .dat (wordP ex), xc := fun _ => False } { nx := fun _ _ => False, rt := Q } := fun e fin =>
    ⟨fun _ _ _ _ _ z => z.elim, fun v r G2 H2 fi o hr => by subst hr; exact fin v G2 H2 fi o, fun _ _ _ _ _ z => z.elim, fun _ _ _ _ _ z => z.elim, fun _ _ _ _ _ _ _ z => z.elim⟩
  refine ⟨_, pss_cons (ps_try_as (X := (cxOf C8.CX0 X.prog X.w X.K X.mg X.base Ng x sg g cdg X.A X.stack s H C8.E0).nox) (i := 1) (c := .ref S) (Wout := fun _ _ _ _ => False)
      (tb := fun W D σ H => ∃ Ech : XK, (∀ cls d (σ' : L2.St) H', σ'.length = Ng.length → Ech cls d H' → W cls d σ' H') ∧ σ[0]? = some (some (.ref f)) ∧ H c' = some (LamX.CodeO c' q) ∧ tl Ech H (fun _ H' => D.nx σ H'))
      (ts := fun a cls d => tsOf X.K ⟨XR0, C8.E0⟩ (wSu a cls d)) rfl rfl hnd hi hk (hc s H) LamX.takes0 (fun W pn xe tk _ => ?_) (fun a oe cls d pn hz hvf => hsu s H a oe cls d pn hz hvf)) (pss_one (hre s H)), ?_⟩
  · refine ⟨fun pins s' σ H' D I ⟨Ech, hW, h1, h2, h3⟩ => ?_⟩
    have hp := act (fun cls d _ H' => Ech cls d H') pn xe Ech p1 p2 (fun u s2 ⟨a, B, sI, pins2, σ2, H2, cls, d, e, I2, nb, up, sky, na, os, ag, w⟩ => tk u s2 ⟨a, B, sI, pins2, σ2, H2, cls, d, e, I2, nb, up, sky, na, os, ag, hW cls d σ2 H2 I2.len w⟩) (fun _ _ _ _ z => z)
    exact (pss_one (ps_expr (pos := p3) hp)).run pins s' σ H' D I ⟨h1, h2, h3⟩
  · refine ⟨fun cls d H' => ∀ σ' : L2.St, σ'.length = Ng.length → wAs X.K (.ref S) 1 (fun a cls d => tsOf X.K ⟨XR0, C8.E0⟩ (wSu a cls d)) (fun _ _ _ _ => False) _ cls d σ' H', fun cls d σ' H' hl z => z σ' hl, h0 f, hco, ?_⟩
    refine h _ _ (fun cls d H' ex G' xr e fin σ' hl => ?_) (fun v H' G' e fin => ?_)
    · refine ⟨true, by rw [xr.2.1]; exact T.exm _ xr.1, fun _ a ha => ?_, fun z => by cases z⟩
      exact ⟨⟨none, G', H'⟩, _, G', _, (sat_no e hl).setVal (i := 1) (k := excV C a cls d ex) rfl xr, hrd ex a cls d xr.1, ⟨fun _ _ _ _ _ z => z.elim, fun v r G2 H2 fi o hr => by subst hr; exact fin v G2 H2 fi o, fun _ _ _ _ _ z => z.elim, fun _ _ _ _ _ z => z.elim, fun _ _ _ _ _ _ _ z => z.elim⟩⟩
    · exact ⟨⟨none, G', H'⟩, _, G', _, sat_no e (hlen f), hrr, ⟨fun _ _ _ _ _ z => z.elim, fun v r G2 H2 fi o hr => by subst hr; exact fin v G2 H2 fi o, fun _ _ _ _ _ z => z.elim, fun _ _ _ _ _ z => z.elim, fun _ _ _ _ _ _ _ z => z.elim⟩⟩
/-- x(lambda: body) -/
theorem pei_word {x a : Str} {g c P : Addr} {k : Nat} {pg : Arguments} {bg : List Stmt} {sg : Scope} {dV kV doc pm cdv ct oc : Value} {an od : Option Addr} {osl : Array (Option Value)} {Ng : List Str}
    {params : Arguments} {body : Expr} {scope : Scope} {w : WE} {p lpos pos : Pos} (hg : Gl X x) (hm : X.mg x = some (.ref g)) (hk : PySem.W.keepIn X.K (.ref g) = true)
    (lk : X.K.lookup g = some ⟨oc, od, .func (PySem.W.fnOf x x pg bg sg dV kV doc pm an cdv ct), osl⟩) (hcg : PySem.W.codeIn X.K cdv x = true) (hb : L2.Binds X.K (PySem.W.fnOf x x pg bg sg dV kV doc pm an cdv ct) [a] []) (Sg : FnScope Ng [a] sg) (hNg : Ng[0]? = some a) (hva : Vis sg a)
    (hG : LamX.GivesTo X Ng x sg g cdv bg a (lamQ X) (TTw X.K C))
    (TB : LamX.TabB X.base X.mg c P) (hcode : X.env.code = .ref c) (hmT : (P, lamQ X) ∈ tabsOf X.K) (hu : ∀ p ∈ tabsOf X.K, p.1 = P → p.2 = lamQ X) (hr : Room (k + 2) X.A) (L : LamX.LamS X.env.scope scope) (hdef : defaultsOf params X.env = ([], []))
    (hbind : ∀ (q : Str) (cl : List (Str × Addr)) (pm cv ctv : Value), bindArgs (PySem.W.kla_fn "<lambda>" q params body scope cl pm cv ctv) ⟨[], []⟩ = pure [])
    (hbody : ∀ (A : Around) (outer : List Env) (s : Shared) (H : Hp) (E : XK) (f c' : Addr), Room k (A.deeper (LamX.lamEnv X scope s.heap.objs.size f c')) → PEI (LamX.lamCx X A outer s H E scope f c') ⟨XR1 C, E⟩ body w)
    (hdb : (x == ("__debug__" : Str)) = false := by decide) (hd : (a == ("__debug__" : Str)) = false := by decide) (hcd : (a == ("__classdict__" : Str)) = false := by decide) :
    PEI X b (.Call (.Name x p) [.Lambda params body scope lpos] [] pos) (wLam w) := by
  refine ⟨fun pins s σ H Q I ⟨c0, ρ, G, Φ, Ξ, Sa, ⟨⟨a0, hρ⟩, hw⟩, post, _⟩ => ?_⟩
  obtain ⟨_, hTabs, hGP⟩ := Sa.valAt hρ
  obtain ⟨tb, htb, _⟩ := hTabs _ hmT
  refine wpAny_Call_Name_kw (ld_glob I hg hm ?_ hdb)
  refine PySem.W.callWith_K (h₀ := X.base) I.ok.mod.kin hk ?_ (by rfl) (by rfl)
  show wpAny _ _ (spliced ((false, eval (.Lambda params body scope lpos) X.env) :: backTo pos (starEach [] X.env))) _ _ s
  refine Calls.spliced_cons (lam_new I TB hcode hmT hu hTabs hdef (L.has I.ok) fun f c' pm' ctv H1 s' I1 k1 tk hf hfn hfr hco => ?_)
  refine Calls.spliced_nil ⟨I1.kIn, ?_⟩
  have t0 : Tr X.K ρ σ G H G H1 := ⟨.refl _, fun b o z => k1 b o (fun y => by rw [y] at z; have := hGP _ hmT; rw [z] at this; cases this) (Sa.ex2 b o z), fun b o z _ n => k1 b o (fun y => by rw [y] at z; rw [htb] at z; exact n _ (Option.some.inj z).symm) z, tk, fun _ z _ => z, fun r hr => by
    have z := Sa.rowAt hr
    exact z.go (.refl _) z.1 fun ys e => k1 _ _ (fun y => by rw [y, htb] at e; cases e) e⟩
  have S1 := Sa.tr t0
  have rc : codeAny (model X.prog X.w) X.A (.call (.ref g) ⟨[.ref f], []⟩) (CR C8.CX0 X.stack X.prog X.w H1 s' Q C8.E0) s' := by
    refine LamX.run_ofS (N := Ng) (ps := [a]) (us := [.ref f]) (vs := [.ref f]) lk hcg Sg hr I1.env0 (hb s' [.ref f] I1.kIn rfl) (.cons rfl .nil) rfl fun hr' => ?_
    obtain ⟨t', ht', hq'⟩ := hG f c' s' H1 Q (fun E H' Q' => teOf X.K ⟨XR1 C, E⟩ w σ H' Q') (fun W pn xe E p1 p2 tk hW => LamX.pe_act (i := 0) I1 L hf hfn hfr (hbind _ _ _ _ _) tk hW hr' (fun A outer s H hr2 => hbody A outer s H E f c' hr2) hNg hva hd hcd) hco
      (fun E' Q' hE hQ => ⟨c0, ρ, G, _, _, S1, hw, fun v r G' H' t1 o1 hΦ => hQ v H' G' t1.eh fun v2 G2 H2 fi im => post v2 (.dat (wordP none)) G2 H2 (t0.trans (t1.trans (Fin'.tr (S1.tr t1) fi))) im hΦ,
        fun exn cls d G' H' t1 xr hΞ => hE cls d H' exn G' xr t1.eh fun v2 G2 H2 fi im => post v2 (.dat (wordP (some exn))) G2 H2 (t0.trans (t1.trans (Fin'.tr (S1.tr t1) fi))) im hΞ⟩)
    exact ⟨t', ht'.nox, hq'⟩
  refine wpAny_call (codeAny_mono rc fun r s2 hq => ?_)
  cases r with
  | error e => exact (show False from hq).elim
  | ok fl =>
    cases fl with
    | ret u => exact I1.after hq
    | next => exact False.elim hq
    | brk => exact False.elim hq
    | cont => exact False.elim hq
end
end SF

/-! ## Lambdas as values: kept in lists, called later, with defaults -/
namespace SF
open PySem PySem.Spec PyProof.Rows L2
/-- an object that is known as it is -/
abbrev ObjO (o : Obj) : HO := .frz o (.ext fun _ => True)
theorem objO_ok {P : Program} {w : World} {H : Hp} {h : Heap} {f : Addr} {o : Obj} (e : h.get? f = some o) : ObjOk P w H h f (ObjO o) := ⟨e, trivial, ⟨o, e⟩, fun _ _ _ _ => trivial⟩
theorem objO_get {P : Program} {w : World} {H : Hp} {h : Heap} {f : Addr} {o : Obj} (ok : HOk P w H h) (e : H f = some (ObjO o)) : h.get? f = some o := (show ObjOk P w H h f (ObjO o) from ok f _ e).1
/-- a lambda's function object -/
abbrev lamOb (q : Str) (params : Arguments) (body : Expr) (scope : Scope) (clo : List (Str × Addr)) (dV doc pm : Value) (c' : Addr) (ctv : Value) : Obj := PySem.W.kdv_obj "<lambda>" q params (.expr body) scope clo dV doc pm c' ctv
section
variable {X : Cx} {pins : List (Addr × Obj)} {σ : L2.St} {H : Hp} {s : Shared}
/-- a lambda is made; its object is known from then on -/
theorem lam_newG {c P : Addr} {params : Arguments} {body : Expr} {scope : Scope} {pos : Pos} {dV : Value} {E Q : Value → Shared → Prop} (I : Inv X pins σ H s) (TB : LamX.TabB X.base X.mg c P) (hcode : X.env.code = .ref c)
    (hm : (P, lamQ X) ∈ tabsOf X.K) (hu : ∀ p ∈ tabsOf X.K, p.1 = P → p.2 = lamQ X) (hT : LamX.Tabs (tabsOf X.K) H) (hfr : ∀ y ∈ scope.names, y.2 = .free → ∃ c, X.env.cells.lookup y.1 = some c)
    (h : ∀ (f c' : Addr) (pm ctv doc : Value) (H1 : Hp) (s' : Shared), Inv X pins σ H1 s' → (∀ b o, b ≠ P → H b = some o → H1 b = some o) → TblK X.K H H1 → H f = none →
      H1 f = some (ObjO (lamOb (lamQ X) params body scope (cloFrom X.env.cells scope.names []) dV doc pm c' ctv)) → H1 c' = some (LamX.CodeO c' (lamQ X)) → Q (.ref f) s') :
    wpAny (model X.prog X.w) X.A (makeTail "<lambda>" (lamQ X) params (.expr body) scope X.env dV .none none pos pos.line) Q E s := by
  obtain ⟨tb, htb, tok, tin⟩ := hT _ hm
  have obj : s.heap.get? P = some { cls := .none, data := .fields tb } := I.hok P _ htb
  cases am : codeAmong pos tb.toList with
  | some cv =>
    obtain ⟨c', ec, co⟩ := tin pos cv am
    subst ec
    refine PySem.W.kdv_makeTailHit (P := P) (c := c) (mg := X.mg) (ps := tb) (closure_ok hfr) I.ok.glob (I.mod.glob.keeps I.bk) hcode (TB.code.keeps I.bk) obj tok am (TB.bm.keeps I.bk) fun ctv doc h' tk hx hsz => ?_
    have nf := I.hok.fresh hsz
    refine h h'.objs.size c' _ ctv doc (upd H h'.objs.size (ObjO (lamOb (lamQ X) params body scope (cloFrom X.env.cells scope.names []) dV doc ((X.mg "__name__").getD .none) c' ctv))) _ (I.laid (t' := tk) (fun b o e => Heap.get?_push_of_some _ (hx b o e)) hsz (objO_ok (Heap.get?_push_size _ rfl))) (fun b o _ e => ?_) (.new nf) nf upd_same ?_
    · rw [upd_ne (ne_of_none e nf)]
      exact e
    · rw [upd_ne (ne_of_none co nf)]
      exact co
  | none =>
    refine PySem.W.kdv_makeTail (P := P) (c := c) (mg := X.mg) (ps := tb) (closure_ok hfr) I.ok.glob (I.mod.glob.keeps I.bk) hcode (TB.code.keeps I.bk) obj tok am TB.gP (TB.bm.keeps I.bk) fun c' ctv doc h' tk hx hge hlt hrec hnew => ?_
    obtain ⟨c2, oc, vs, t, e2, r1, r2, r3⟩ := hrec
    cases e2
    have big : s.heap.objs.size ≤ h'.objs.size := Nat.le_trans hge (Nat.le_of_lt hlt)
    have nC : H c' = none := I.hok.fresh hge
    have nPC : P ≠ c' := fun z => by rw [z, nC] at htb; cases htb
    have J0 := LamX.inv_table (t' := tk) (q := lamQ X) (more := #[rawInt pos.line, rawInt pos.col, .ref c']) (h' := h') I htb (fun b o hb e => hx b o hb e) hnew hge ⟨oc, vs, t, r1, r2, r3⟩
    have same : ∀ b o, b ≠ P → H b = some o → upd (upd H P (.tbl (tb ++ #[rawInt pos.line, rawInt pos.col, .ref c']))) c' (LamX.CodeO c' (lamQ X)) b = some o := fun b o n e => by
      rw [upd_ne (fun z => by rw [z, nC] at e; cases e), upd_ne n]
      exact e
    have atP : upd (upd H P (.tbl (tb ++ #[rawInt pos.line, rawInt pos.col, .ref c']))) c' (LamX.CodeO c' (lamQ X)) P = some (.tbl (tb ++ #[rawInt pos.line, rawInt pos.col, .ref c'])) := by rw [upd_ne nPC, upd_same]
    have nf0 : H h'.objs.size = none := I.hok.fresh big
    have nf : upd (upd H P (.tbl (tb ++ #[rawInt pos.line, rawInt pos.col, .ref c']))) c' (LamX.CodeO c' (lamQ X)) h'.objs.size = none := J0.hok.fresh (Nat.le_refl _)
    have t1 : TblK X.K H (upd (upd H P (.tbl (tb ++ #[rawInt pos.line, rawInt pos.col, .ref c']))) c' (LamX.CodeO c' (lamQ X))) := by
      refine ⟨fun b qs e => ?_, fun hT2 p hp => ?_⟩
      · by_cases z : b = P
        · rw [z]
          exact ⟨_, atP⟩
        · exact ⟨qs, same b _ z e⟩
      · obtain ⟨qs, a1, a2, a3⟩ := hT2 p hp
        have keepC : ∀ {c0 : Addr} {q : Str}, H c0 = some (LamX.CodeO c0 q) → upd (upd H P (.tbl (tb ++ #[rawInt pos.line, rawInt pos.col, .ref c']))) c' (LamX.CodeO c' (lamQ X)) c0 = some (LamX.CodeO c0 q) := fun {c0 q} e => same _ _ (fun z => by rw [z, htb] at e; exact LamX.codeO_ne _ (Option.some.inj e).symm) e
        by_cases z : p.1 = P
        · rw [z] at a1 ⊢
          rw [hu p hp z]
          have eL : (tb ++ #[rawInt pos.line, rawInt pos.col, .ref c']).toList = tb.toList ++ [rawInt pos.line, rawInt pos.col, .ref c'] := by simp
          refine ⟨_, atP, by rw [eL]; exact PySem.TriplesOk_snoc _ _ _ _ tok, fun p' cv hcv => ?_⟩
          rw [eL] at hcv
          rcases LamX.among_app _ tok hcv with y | y
          · obtain ⟨c0, e1, e2⟩ := tin p' cv y
            exact ⟨c0, e1, keepC e2⟩
          · exact ⟨c', y, upd_same⟩
        · refine ⟨qs, same _ _ z a1, a2, fun p' cv hcv => ?_⟩
          obtain ⟨c0, e1, e2⟩ := a3 p' cv hcv
          exact ⟨c0, e1, keepC e2⟩
    refine h h'.objs.size c' _ ctv doc (upd (upd (upd H P (.tbl (tb ++ #[rawInt pos.line, rawInt pos.col, .ref c']))) c' (LamX.CodeO c' (lamQ X))) h'.objs.size (ObjO (lamOb (lamQ X) params body scope (cloFrom X.env.cells scope.names []) dV doc ((X.mg "__name__").getD .none) c' ctv))) _
      (J0.laid (t' := tk) (fun b o e => Heap.get?_push_of_some _ e) (Nat.le_refl _) (objO_ok (Heap.get?_push_size _ rfl))) (fun b o n e => ?_) (t1.trans (.new nf)) nf0 upd_same ?_
    · rw [upd_ne (fun z => by rw [z, nf0] at e; cases e)]
      exact same b o n e
    · rw [upd_ne (Nat.ne_of_lt hlt), upd_same]
end
/-! ### the expressions -/
/-- what the making of a lambda gives -/
def tMk (X : Cx) (P : Addr) (params : Arguments) (body : Expr) (scope : Scope) (dflt : Bool) : TE := fun σ H Q => LamX.Tabs (tabsOf X.K) H ∧ ∀ (f c' : Addr) (dV pm ctv doc : Value) (H1 : Hp), (∀ b o, b ≠ P → H b = some o → H1 b = some o) → TblK X.K H H1 → H f = none →
  H1 f = some (ObjO (lamOb (lamQ X) params body scope (cloFrom X.env.cells scope.names []) dV doc pm c' ctv)) → H1 c' = some (LamX.CodeO c' (lamQ X)) → (if dflt = true then ∃ T, dV = .ref T ∧ H T = none ∧ H1 T = some (.tup [.int 0]) else dV = .none) → Q (.ref f) H1
section
variable {X : Cx} {c P : Addr} {params : Arguments} {body : Expr} {scope : Scope} {pos : Pos}
theorem pe_mk (TB : LamX.TabB X.base X.mg c P) (hcode : X.env.code = .ref c) (hm : (P, lamQ X) ∈ tabsOf X.K) (hu : ∀ p ∈ tabsOf X.K, p.1 = P → p.2 = lamQ X) (hfr : X.Ok → ∀ y ∈ scope.names, y.2 = .free → ∃ c, X.env.cells.lookup y.1 = some c)
    (hdef : defaultsOf params X.env = ([], [])) : PE X (.Lambda params body scope pos) (tMk X P params body scope false) := by
  refine ⟨fun pins s σ H Q I ⟨hT, h⟩ => ?_⟩
  refine PySem.W.kla_eval hdef ?_
  rw [makeFunction_eq]
  simp only [List.zip_nil_right, List.filterMap_nil, List.isEmpty_nil, if_true, pure_bind]
  exact lam_newG I TB hcode hm hu hT (hfr I.ok) fun f c' pm ctv doc H1 s' I1 k1 tk nf hf hc => ⟨.ref f, H1, I1, rfl, h f c' .none pm ctv doc H1 k1 tk nf hf hc rfl⟩
theorem pe_mkD {j : Nat} {p0 : Pos} (TB : LamX.TabB X.base X.mg c P) (hcode : X.env.code = .ref c) (hm : (P, lamQ X) ∈ tabsOf X.K) (hu : ∀ p ∈ tabsOf X.K, p.1 = P → p.2 = lamQ X) (hfr : X.Ok → ∀ y ∈ scope.names, y.2 = .free → ∃ c, X.env.cells.lookup y.1 = some c)
    (hd : params.defaults = [.Constant (.int 0) j p0]) (hk0 : params.kw_defaults = []) : PE X (.Lambda params body scope pos) (tMk X P params body scope true) := by
  refine ⟨fun pins s σ H Q I ⟨hT, h⟩ => ?_⟩
  refine PySem.W.kdv_lam (by rw [hd]; rfl) hk0 ?_
  rw [hd]
  refine PySem.W.kdv_all1 (thn ((pe_int (X := X) (i := 0) (j := j) (pos := p0)).run pins s σ H (fun x H1 => x = .int 0 ∧ H1 = H) I ⟨rfl, rfl⟩) fun u s1 ⟨x, H1, I1, r1, ex, eH⟩ => PySem.W.kdv_all0 ?_)
  subst ex
  rw [eH] at I1
  rw [makeFunction_eq]
  simp only [List.zip_nil_right, List.filterMap_nil, List.isEmpty_nil, List.isEmpty_cons, if_true, pure_bind, Bool.false_eq_true, if_false]
  refine wpAny_bind (wpAny_newTextTuple ?_)
  have nT : H s1.heap.objs.size = none := I1.hok.fresh (Nat.le_refl _)
  have I2 := I1.laid (a := s1.heap.objs.size) (o := .tup [.int 0]) (h' := s1.heap.push { cls := .type "tuple", data := .seq [u].toArray }) (t' := s1.toks) (fun b u e => Heap.get?_push_of_some _ e) (Nat.le_refl _) ⟨by decide, [u], .cons r1 .nil, ⟨_, Heap.get?_push_size _ rfl, rfl, _, rfl⟩⟩
  have tb0 : TblK X.K H (upd H s1.heap.objs.size (.tup [.int 0])) := .new nT
  refine lam_newG (s := { s1 with heap := s1.heap.push { cls := .type "tuple", data := .seq [u].toArray } }) (dV := .ref s1.heap.objs.size) I2 TB hcode hm hu (tb0.tab hT) (hfr I.ok) fun f c' pm ctv doc H1 s' I1 k1 tk nf hf hc => ?_
  obtain ⟨tb, htb, _⟩ := hT _ hm
  have nTP : s1.heap.objs.size ≠ P := fun z => by rw [← z, nT] at htb; cases htb
  have nf0 : H f = none := by
    cases q : H f with
    | none => rfl
    | some o => rw [upd_ne (ne_of_none q nT), q] at nf; cases nf
  refine ⟨.ref f, H1, I1, rfl, h f c' _ pm ctv doc H1 (fun b o n e => k1 b o n (by rw [upd_ne (ne_of_none e nT)]; exact e)) (tb0.trans tk) nf0 hf hc ?_⟩
  rw [if_pos rfl]
  exact ⟨_, rfl, nT, k1 _ _ nTP upd_same⟩
end
end SF

/-! ## A lambda's body is entered -/
namespace SF
open PySem PySem.Spec PyProof.Rows L2
abbrev lamE (q : Str) (clo : List (Str × Addr)) (scope : Scope) (L f c' : Addr) : Env := PySem.W.envX q scope L f (.ref c') clo
/-- the context of the lambda's body, entered at s from the frames outer -/
def lamC (P : Program) (w : World) (K : PySem.W.Frag) (mg : Str → Option Value) (base : Heap) (N : List Str) (q : Str) (clo : List (Str × Addr)) (A : Around) (outer : List Env) (s : Shared) (H : Hp) (E : XK) (scope : Scope) (f c' : Addr) : Cx where
  prog := P
  w := w
  K := K
  mg := mg
  base := base
  A := A.deeper (lamE q clo scope s.heap.objs.size f c')
  N := N
  s_0 := s
  H_0 := H
  env := lamE q clo scope s.heap.objs.size f c'
  outer := outer
  stack := lamE q clo scope s.heap.objs.size f c' :: outer
  ex := []
  fn := fun _ => false
  calm := true
  pn := []
  xe := fun e s' => wpAny (model P w) (A.deeper (lamE q clo scope s.heap.objs.size f c')) (leaving (lamE q clo scope s.heap.objs.size f c') e) (fun _ s'' => L2.CX P w outer H s E e s'') (fun e' s'' => L2.CX P w outer H s E e' s'') s'
/-- the names of a lambda: captured ones, globals, parameters with defaults that no one looks at -/
structure LamN (N : List Str) (scope : Scope) : Prop where
  kind : scope.kind = .function
  co : scope.isCoroutine = false
  gen : scope.isGenerator = false
  own : ∀ y ∈ scope.names, y.2 ≠ .cell ∧ (y.2 = .local → y.1 ∉ N)
def lamNB (N : List Str) (scope : Scope) : Bool :=
  decide (scope.kind = .function) && (!scope.isCoroutine && (!scope.isGenerator && scope.names.all fun y => !decide (y.2 = .cell) && (!decide (y.2 = .local) || !decide (y.1 ∈ N))))
theorem lamN_by {N : List Str} {scope : Scope} (h : lamNB N scope = true) : LamN N scope := by
  unfold lamNB at h
  simp only [Bool.and_eq_true, Bool.or_eq_true, Bool.not_eq_true', decide_eq_true_eq, decide_eq_false_iff_not, List.all_eq_true] at h
  obtain ⟨h1, h2, h3, h4⟩ := h
  refine ⟨h1, h2, h3, fun y hy => ⟨(h4 y hy).1, fun e => ?_⟩⟩
  rcases (h4 y hy).2 with z | z
  · exact absurd e z
  · exact z
/-- what the closure's cells hold, in the heap at s: untracked in H -/
structure CloOk (N : List Str) (scope : Scope) (clo : List (Str × Addr)) (σ : L2.St) (H : Hp) (h : Heap) : Prop where
  has : ∀ y, scope.names.lookup y = some .free → ∃ c, clo.lookup y = some c
  inj : ∀ y z c, clo.lookup y = some c → clo.lookup z = some c → y = z
  cell : ∀ y c, clo.lookup y = some c → H c = none ∧ ∃ v, h.IsCell c v
  val : ∀ (i : Nat) y v, N[i]? = some y → σ[i]? = some (some v) → scope.names.lookup y = some .free → ∃ u c, RelV v u ∧ clo.lookup y = some c ∧ h.IsCell c (some u)
/-- .. known in H -/
structure CloT (N : List Str) (scope : Scope) (clo : List (Str × Addr)) (σ : L2.St) (H : Hp) : Prop where
  has : ∀ y, scope.names.lookup y = some .free → ∃ c, clo.lookup y = some c
  inj : ∀ y z c, clo.lookup y = some c → clo.lookup z = some c → y = z
  cell : ∀ y c, clo.lookup y = some c → ∃ o v, H c = some (ObjO o) ∧ o.data = .cell v
  val : ∀ (i : Nat) y v, N[i]? = some y → σ[i]? = some (some v) → scope.names.lookup y = some .free → ∃ u c o, RelV v u ∧ clo.lookup y = some c ∧ H c = some (ObjO o) ∧ o.data = .cell (some u)
/-- the cells of a closure -/
def csOf (clo : List (Str × Addr)) : List Addr := clo.filterMap fun p => clo.lookup p.1
theorem mem_csOf {clo : List (Str × Addr)} {c : Addr} : c ∈ csOf clo ↔ ∃ y, clo.lookup y = some c := by
  unfold csOf
  rw [List.mem_filterMap]
  constructor
  · rintro ⟨p, _, e⟩
    exact ⟨p.1, e⟩
  · rintro ⟨y, e⟩
    exact ⟨(y, c), PySem.mem_of_lookup e, e⟩
section
variable {P : Program} {w : World} {K : PySem.W.Frag} {mg : Str → Option Value} {base : Heap} {N : List Str} {q : Str} {clo : List (Str × Addr)} {σ : L2.St} {HZ : Hp} {s1 : Shared}
theorem lamC_start {A : Around} {outer : List Env} {E : XK} {scope : Scope} {f c' : Addr} {h₁ : Heap} {tk : Nat} {bs : List (Str × Value)} (L : LamN N scope) (C : CloOk N scope clo σ HZ s1.heap) (hl : σ.length = N.length) (e0 : Env0 P w K mg base A outer s1 HZ) (hd : A.handled = none)
    (hns : h₁.Ns s1.heap.objs.size fun y => bs.reverse.lookup y) (kp : ∀ b o, s1.heap.get? b = some o → h₁.get? b = some o) :
    Inv (lamC P w K mg base N q clo A outer s1 HZ E scope f c') [] σ HZ { s1 with heap := h₁, toks := tk } := by
  have noA : ∀ b : Addr, b ∉ (lamC P w K mg base N q clo A outer s1 HZ E scope f c').ex := fun b z => absurd (show b ∈ ([] : List Addr) from z) (by simp)
  have up : ∀ {c : Addr} {v : Option Value}, s1.heap.IsCell c v → h₁.IsCell c v := fun {c v} ⟨o, ho, hd⟩ => ⟨o, kp _ _ ho, hd⟩
  refine ⟨⟨e0.mod, L.kind, rfl, rfl, Nat.le_refl _, fun y z c e1 e2 => C.inj y z c e1 e2, fun y hy => ?_, fun y c z _ => ?_, fun _ => hd, Around.frames_deeper e0.frames, .inr ⟨rfl, rfl⟩, fun b z => absurd z (noA b), e0.bs, e0.bsz, fun b _ _ => noA b,
      fun b z => absurd z (noA b), e0.funs, e0.frf⟩,
    rfl, e0.bare, Un.kept kp, ⟨_, hns, fun i y v e1 e2 e3 => ?_⟩, fun y c e => ?_, e0.hok.fresh (Nat.le_refl _), fun y c e => (C.cell y c e).1, fun q hq => absurd (show q ∈ ([] : List (Addr × Obj)) ++ [] from hq) (by simp), e0.hok.kept kp, hl⟩
  · have hy : scope.names.lookup y = some .cell ∨ scope.names.lookup y = some .free := hy
    rcases hy with hy | hy
    · exact absurd rfl (L.own _ (PySem.mem_of_lookup hy)).1
    · exact C.has y hy
  · have z : false = true := z
    cases z
  · have e3 : Vis scope y := e3
    rcases e3 with k | k | k
    · exact absurd (List.mem_of_getElem? e1) ((L.own _ (PySem.mem_of_lookup k)).2 rfl)
    · exact absurd rfl (L.own _ (PySem.mem_of_lookup k)).1
    · obtain ⟨u, c, r, e4, e5⟩ := C.val i y v e1 e2 k
      exact ⟨u, r, .inr ⟨.inr k, c, e4, up e5⟩⟩
  · obtain ⟨_, v, z⟩ := C.cell y c e
    exact ⟨v, up z⟩
/-- f() -/
theorem lam_run {A : Around} {outer : List Env} {E : XK} {Q : VK} {params : Arguments} {body : Expr} {scope : Scope} {f c' : Addr} {dV doc pm ctv : Value} {bs : List (Str × Value)} {k : Nat} {tb : TE} (L : LamN N scope) (C : CloOk N scope clo σ HZ s1.heap) (hl : σ.length = N.length)
    (e0 : Env0 P w K mg base A outer s1 HZ) (hr : Room (k + 1) A) (lim : s1.heap.NoLimit) (of1 : s1.heap.get? f = some (lamOb q params body scope clo dV doc pm c' ctv)) (hcd : s1.heap.CodeRec (.ref c') q)
    (hbind : BindsTo s1 (PySem.W.kdv_fn "<lambda>" q params (.expr body) scope clo dV doc pm (.ref c') ctv) ⟨[], []⟩ bs) (hloc : ∀ y ∈ bs, scope.names.lookup y.1 = some .local)
    (hbody : Room k (A.deeper (lamE q clo scope s1.heap.objs.size f c')) → PE (lamC P w K mg base N q clo A outer s1 HZ E scope f c') body tb) (ht : tb σ HZ Q) :
    codeAny (model P w) A (.call (.ref f) ⟨[], []⟩) (CR (L2.CX P w) outer P w HZ s1 Q E) s1 := by
  refine PySem.W.kla_callFunE hr.depth of1 rfl L.co L.gen rfl hcd ?_
  refine hbind _ _ _ _ ?_
  refine wpAny_newFunctionEnv (fun y hy => (L.own y hy).1) hloc (fun h₁ hns hsb => ⟨lim.fresh _ hsb, ?_⟩) L.kind
  show codeAny _ _ (.expr body (lamE q clo scope s1.heap.objs.size f c')) _ _
  have kp : ∀ b o, s1.heap.get? b = some o → h₁.get? b = some o := fun b o e => hsb.extBut b o (Nat.ne_of_lt (Heap.lt_size e)) (Heap.get?_push_of_some _ e)
  have J : Inv (lamC P w K mg base N q clo A outer s1 HZ E scope f c') [] σ HZ { s1 with heap := h₁, toks := s1.toks + bs.length } := lamC_start L C hl e0 hr.hd hns kp
  refine PySem.W.kla_codeExpr (wpAny_mono ((hbody (hr.deeper _)).run [] _ _ HZ Q J ht) (fun v s' hq => ?_) fun e s' hq => hq)
  obtain ⟨w', H', J', rv, q⟩ := hq
  exact ⟨w', H', J'.os, J'.bare, J'.base, J'.hok, rv, q⟩
end
/-! ### objects that are known are hidden -/
def hideL (H : Hp) (cs : List Addr) : Hp := fun a => if a ∈ cs then none else H a
/-- .. and known again -/
def unhide (H0 H : Hp) (cs : List Addr) : Hp := fun a => if a ∈ cs then H0 a else H a
theorem hide_in {H : Hp} {cs : List Addr} {a : Addr} (h : a ∈ cs) : hideL H cs a = none := if_pos h
theorem hide_out {H : Hp} {cs : List Addr} {a : Addr} (h : a ∉ cs) : hideL H cs a = H a := if_neg h
theorem unh_in {H0 H : Hp} {cs : List Addr} {a : Addr} (h : a ∈ cs) : unhide H0 H cs a = H0 a := if_pos h
theorem unh_out {H0 H : Hp} {cs : List Addr} {a : Addr} (h : a ∉ cs) : unhide H0 H cs a = H a := if_neg h
/-- these are known as they are -/
def AreO (H : Hp) (cs : List Addr) : Prop := ∀ c ∈ cs, ∃ o, H c = some (ObjO o)
theorem AreO.out {H : Hp} {cs : List Addr} (hc : AreO H cs) {b : Addr} (h : ∀ o, H b ≠ some (ObjO o)) : b ∉ cs := fun z => by
  obtain ⟨o, ho⟩ := hc b z
  exact h o ho
theorem hide_none {H : Hp} {cs : List Addr} {b : Addr} (h : H b = none) : hideL H cs b = none := by
  by_cases q : b ∈ cs
  · exact hide_in q
  · rw [hide_out q]; exact h
theorem hide_some {H : Hp} {cs : List Addr} {a : Addr} {o : HO} (h : hideL H cs a = some o) : a ∉ cs ∧ H a = some o := by
  have na : a ∉ cs := fun z => by rw [hide_in z] at h; cases h
  exact ⟨na, by rw [hide_out na] at h; exact h⟩
section
variable {P : Program} {w : World} {K : PySem.W.Frag} {mg : Str → Option Value} {base : Heap} {HZ H' : Hp} {cs : List Addr}
theorem hok_hide {h : Heap} (hc : AreO HZ cs) (ok : HOk P w HZ h) : HOk P w (hideL HZ cs) h := fun a o e => by
  obtain ⟨_, e⟩ := hide_some e
  refine (ok a o e).stay (fun _ _ _ z => z) (fun b z => ?_) fun b xs z => ?_
  · rw [hide_out (hc.out fun o q => by rw [z] at q; cases q)]
    exact z
  · rw [hide_out (hc.out fun o q => by rw [z] at q; cases q)]
    exact z
theorem env0_hide {A : Around} {outer : List Env} {s : Shared} (hc : AreO HZ cs) (e0 : Env0 P w K mg base A outer s HZ) : Env0 P w K mg base A outer s (hideL HZ cs) :=
  ⟨e0.frames, e0.mod, fun b o eb => ⟨(e0.bs b o eb).1, hide_none (e0.bs b o eb).2⟩, e0.bsz, e0.funs, fun b hb => hide_none (e0.frf b hb), hok_hide hc e0.hok, e0.bare⟩
/-- what came back holds, with the objects known again -/
theorem hok_unhide {h' : Heap} (hc : AreO HZ cs) (k : ∀ c ∈ cs, ∀ o, HZ c = some (ObjO o) → h'.get? c = some o) (hn : ∀ c ∈ cs, H' c = none) (ok : HOk P w H' h') : HOk P w (unhide HZ H' cs) h' := fun a o e => by
  by_cases q : a ∈ cs
  · rw [unh_in q] at e
    obtain ⟨x, hx⟩ := hc a q
    rw [hx] at e
    cases e
    exact objO_ok (k a q x hx)
  · rw [unh_out q] at e
    refine (ok a o e).stay (fun _ _ _ z => z) (fun b z => ?_) fun b xs z => ?_
    · rw [unh_out (fun y => by rw [hn b y] at z; cases z)]
      exact z
    · rw [unh_out (fun y => by rw [hn b y] at z; cases z)]
      exact z
theorem ce_unhide {outer : List Env} {s s' : Shared} {Q : VK} {u : Value} (hc : AreO HZ cs) (hok0 : HOk P w HZ s.heap) (hnf : ∀ c ∈ cs, c ∉ frs outer) (h : CE outer P w (hideL HZ cs) s (fun v H' => (∀ c ∈ cs, H' c = none) → Q v (unhide HZ H' cs)) u s') : CE outer P w HZ s Q u s' := by
  obtain ⟨v, H2, c1, c2, un, c4, c5, c6⟩ := h
  have gone : ∀ c ∈ cs, H2 c = none := fun c z => by
    obtain ⟨x, hx⟩ := hc c z
    exact un.free c x (objO_get hok0 hx) (hide_in z) (by simp)
  have kept : ∀ c ∈ cs, ∀ o, HZ c = some (ObjO o) → s'.heap.get? c = some o := fun c z o hx => un.keep c o (objO_get hok0 hx) (hide_in z) (hnf c z) (by simp)
  refine ⟨v, unhide HZ H2 cs, c1, c2, ⟨fun b o g m n x => un.keep b o g (hide_none m) n x, fun b o g m n x => un.slot b o g (hide_none m) n x, fun b o g m x => ?_, fun b o m => un.there b o m, fun b xs g => ?_, fun b o u g => ?_, fun b ps g => ?_⟩, hok_unhide hc kept gone c4, c5, c6 gone⟩
  · rw [unh_out (hc.out fun o q => by rw [m] at q; cases q)]
    exact un.free b o g (hide_none m) x
  · have nb := hc.out (b := b) fun o q => by rw [g] at q; cases q
    rw [unh_out nb]
    exact un.tups b xs (by rw [hide_out nb]; exact g)
  · by_cases nb : b ∈ cs
    · rw [unh_in nb]
      exact g
    · rw [unh_out nb]
      exact un.frzs b o u (by rw [hide_out nb]; exact g)
  · have nb := hc.out (b := b) fun o q => by rw [g] at q; cases q
    rw [unh_out nb]
    exact un.tbls b ps (by rw [hide_out nb]; exact g)
theorem cx_unhide {outer : List Env} {s s' : Shared} {E : XK} {u : Value} (hc : AreO HZ cs) (hok0 : HOk P w HZ s.heap) (hnf : ∀ c ∈ cs, c ∉ frs outer) (h : L2.CX P w outer (hideL HZ cs) s (fun cls d H' => (∀ c ∈ cs, H' c = none) → E cls d (unhide HZ H' cs)) u s') : L2.CX P w outer HZ s E u s' := by
  obtain ⟨a, B, H2, cls, d, rfl, fl, hok, ub, na, os, ag, hE⟩ := h
  have gone : ∀ c ∈ cs, H2 c = none := fun c z => by
    obtain ⟨x, hx⟩ := hc c z
    exact ub.free c x (objO_get hok0 hx) (hide_in z)
  have kept : ∀ c ∈ cs, ∀ o, HZ c = some (ObjO o) → B.get? c = some o := fun c z o hx => ub.keep c o (objO_get hok0 hx) (hide_in z) (hnf c z)
  refine ⟨a, B, unhide HZ H2 cs, cls, d, rfl, fl, hok_unhide hc kept gone hok, ⟨fun b o g m n => ub.keep b o g (hide_none m) n, fun b o g n => ub.slot b o g n, fun b o g m => ?_, fun b o m => ub.there b o m, fun b xs g => ?_, fun b o u g => ?_, fun b ps g => ?_⟩, ?_, os, ag, hE gone⟩
  · rw [unh_out (hc.out fun o q => by rw [m] at q; cases q)]
    exact ub.free b o g (hide_none m)
  · have nb := hc.out (b := b) fun o q => by rw [g] at q; cases q
    rw [unh_out nb]
    exact ub.tups b xs (by rw [hide_out nb]; exact g)
  · by_cases nb : b ∈ cs
    · rw [unh_in nb]
      exact g
    · rw [unh_out nb]
      exact ub.frzs b o u (by rw [hide_out nb]; exact g)
  · have nb := hc.out (b := b) fun o q => by rw [g] at q; cases q
    rw [unh_out nb]
    exact ub.tbls b ps (by rw [hide_out nb]; exact g)
  · rw [unh_out (fun z => by
      obtain ⟨x, hx⟩ := hc a z
      have e := kept a z x hx
      rw [fl.2.1] at e
      cases e)]
    exact na
/-! ### what a call of f() gives, told of the heap alone -/
def CallsF (P : Program) (w : World) (K : PySem.W.Frag) (mg : Str → Option Value) (base : Heap) (k : Nat) (f : Addr) (H : Hp) (Q : VK) (E : XK) : Prop :=
  (∃ oc od fd sl, H f = some (ObjO ⟨oc, od, .func fd, sl⟩)) ∧ ∀ (A : Around) (outer : List Env) (s : Shared), Room k A → Env0 P w K mg base A outer s H → codeAny (model P w) A (.call (.ref f) ⟨[], []⟩) (CR (L2.CX P w) outer P w H s Q E) s
theorem callsF_of {N : List Str} {q : Str} {clo : List (Str × Addr)} {σ : L2.St} {H : Hp} {Q : VK} {E : XK} {params : Arguments} {body : Expr} {scope : Scope} {f c' : Addr} {dV doc pm ctv : Value} {k : Nat} {tb : XK → TE} (L : LamN N scope) (C : CloT N scope clo σ H) (hl : σ.length = N.length)
    (ho : H f = some (ObjO (lamOb q params body scope clo dV doc pm c' ctv))) (hc : H c' = some (LamX.CodeO c' q))
    (hb : ∀ s : Shared, HOk P w H s.heap → ∃ bs, BindsTo s (PySem.W.kdv_fn "<lambda>" q params (.expr body) scope clo dV doc pm (.ref c') ctv) ⟨[], []⟩ bs ∧ ∀ y ∈ bs, scope.names.lookup y.1 = some .local)
    (hbody : ∀ (A : Around) (outer : List Env) (s : Shared) (E : XK), Room k (A.deeper (lamE q clo scope s.heap.objs.size f c')) → PE (lamC P w K mg base N q clo A outer s (hideL H (csOf clo)) E scope f c') body (tb E))
    (ht : tb (fun cls d H1 => (∀ c ∈ csOf clo, H1 c = none) → E cls d (unhide H H1 (csOf clo))) σ (hideL H (csOf clo)) (fun v H1 => (∀ c ∈ csOf clo, H1 c = none) → Q v (unhide H H1 (csOf clo)))) : CallsF P w K mg base (k + 1) f H Q E := by
  refine ⟨⟨_, _, _, _, ho⟩, fun A outer s hr e0 => ?_⟩
  have areO : AreO H (csOf clo) := fun c z => by
    obtain ⟨y, e⟩ := mem_csOf.mp z
    obtain ⟨o, v, h1, _⟩ := C.cell y c e
    exact ⟨o, h1⟩
  have hnf : ∀ c ∈ csOf clo, c ∉ frs outer := fun c z y => by
    obtain ⟨o, h1⟩ := areO c z
    rw [e0.frf c y] at h1
    cases h1
  have lim : s.heap.NoLimit := e0.mod.nolimit.keeps fun b o e => (e0.bs b o e).1
  obtain ⟨bs, hbs, hloc⟩ := hb s e0.hok
  obtain ⟨⟨oc, vs, t, hoc, hdc, hvc⟩, _, _⟩ := (show ObjOk P w H s.heap c' (LamX.CodeO c' q) from e0.hok c' _ hc)
  have C2 : CloOk N scope clo σ (hideL H (csOf clo)) s.heap := by
    refine ⟨C.has, C.inj, fun y c e => ?_, fun i y v e1 e2 e3 => ?_⟩
    · obtain ⟨o, v, h1, h2⟩ := C.cell y c e
      exact ⟨hide_in (mem_csOf.mpr ⟨y, e⟩), v, o, objO_get e0.hok h1, h2⟩
    · obtain ⟨u, c, o, r, h1, h2, h3⟩ := C.val i y v e1 e2 e3
      exact ⟨u, c, r, h1, o, objO_get e0.hok h2, h3⟩
  refine codeAny_mono (lam_run L C2 hl (env0_hide areO e0) hr lim (objO_get e0.hok ho) ⟨c', oc, vs, t, rfl, hoc, hdc, hvc⟩ hbs hloc (fun hr2 => hbody A outer s _ hr2) ht) fun r s' hq => ?_
  cases r with
  | error e => exact cx_unhide areO e0.hok hnf hq
  | ok fl =>
    cases fl with
    | ret u => exact ce_unhide areO e0.hok hnf hq
    | next => exact False.elim hq
    | brk => exact False.elim hq
    | cont => exact False.elim hq
end
end SF

/-! ## The def that calls what it got -/
namespace SF
open PySem PySem.Spec PyProof.Rows L2
/-- a(), of a slot -/
theorem pe_actF {Z : Cx} {k i : Nat} {a : Str} {p1 p2 : Pos} {E : XK} (hx : Passes (L2.CX Z.prog Z.w) Z E) (hr : Room k Z.A) (hN : Z.N[i]? = some a) (hv : Vis Z.env.scope a) (hd : (a == ("__debug__" : Str)) = false := by decide) (hcd : (a == ("__classdict__" : Str)) = false := by decide) :
    PE Z (.Call (.Name a p1) [] [] p2) (fun σ H Q => ∃ f, σ[i]? = some (some (.ref f)) ∧ CallsF Z.prog Z.w Z.K Z.mg Z.base k f H Q E) := by
  refine ⟨fun pins s σ H Q I ⟨f, hs, h⟩ => ?_⟩
  refine wpAny_Call_Name_kw (thn ((pe_var (pos := p1) (i := i) hN hv hd hcd).run pins s σ H (fun v H1 => v = .ref f ∧ H1 = H) I ⟨.ref f, hs, rfl, rfl⟩) fun u s1 ⟨v, H1, I1, r1, q1⟩ => ?_)
  obtain ⟨ev, eH⟩ := q1
  subst ev
  rw [eH] at I1
  obtain rfl : u = Value.ref f := r1
  obtain ⟨⟨oc, od, fd, sl, ho⟩, run⟩ := h
  refine PySem.W.callWith_F0 ⟨_, _, _, _, objO_get I1.hok ho⟩ ?_
  refine wpAny_call (codeAny_mono (run Z.A Z.stack s1 hr I1.env0) fun r s' hq => ?_)
  cases r with
  | error e => exact hx pins σ H s1 e s' I1 hq
  | ok fl =>
    cases fl with
    | ret u => exact I1.after hq
    | next => exact False.elim hq
    | brk => exact False.elim hq
    | cont => exact False.elim hq
/-- what the def that calls it wants of f: told as a word -/
def spW (P : Program) (w : World) (K : PySem.W.Frag) (mg : Str → Option Value) (base : Heap) (k : Nat) (C : Nat → Addr) : Sp := fun vs H Q _ => ∃ f, vs = [.ref f] ∧
  CallsF P w K mg base k f H (fun _ H' => ∃ G', Ex G' H' ∧ endW K none Q G' H') (fun cls d H' => ∃ ex G', XR1 C ex cls d G' ∧ Ex G' H' ∧ endW K (some ex) Q G' H')
section
variable {P : Program} {w : World} {K : PySem.W.Frag} {mg : Str → Option Value} {base : Heap} {C : Nat → Addr} {S : Addr}
/-- try: a() / except x as n: suite / return r -/
theorem okWord {x a n xs : Str} {st : Stmt} {g : Addr} {fd : FuncData} {Ng : List Str} {k : Nat} {b₀ : Stmt} {suite : List Stmt} {re : Stmt} {np p1 p2 p3 p4 p5 : Pos} {wSu : Addr → Value → Option Addr → WS} {wR : WS} (F : Fun K x x st g fd) (Sg : FnScope Ng [a] (defScope st)) (T : ErrAll K C S)
    (hbd : defBody st = [.Try [.Expr (.Call (.Name a p1) [] [] p2) p3] [.ExceptHandler (some (.Name xs np)) (some n) (b₀ :: suite) p4] [] [] p5, re])
    (h0 : ∀ f : Addr, (L2.start Ng [V.ref f])[0]? = some (some (V.ref f))) (hlen : ∀ f : Addr, (L2.start Ng [V.ref f]).length = Ng.length) (hi : Ng[1]? = some n) (hk : (defScope st).names.lookup n = some .local) (hNg : Ng[0]? = some a) (hva : Vis (defScope st) a)
    (hc : ∀ (cdg : Value) (A : Around) (outer : List Env) (s : Shared) (H : Hp) (E : XK), Names (cxOf CX0 P w K mg base Ng x (defScope st) g cdg A outer s H E).nox xs (.ref S))
    (hsu : ∀ (cdg : Value) (A : Around) (outer : List Env) (s : Shared) (H : Hp) (E : XK) (a : Addr) (oe : Obj) (cls : Value) (d : Option Addr) (pn : List (Addr × Obj)), Room k (A.deeper (envOfC x (defScope st) s.heap.objs.size g cdg)) → Zc cls d oe → (∃ vs, oe.data = .fields vs) → PSsI ((cxOf CX0 P w K mg base Ng x (defScope st) g cdg A outer s H E).nox.suite a ((a, oe) :: pn)) ⟨XR0, E⟩ (b₀ :: suite) (wSu a cls d))
    (hrd : ∀ (ex : Exn) (a : Addr) (cls : Value) (d : Option Addr), ex.k < 5 → wSu a cls d ((List.replicate Ng.length .no).set 1 (.val (excV C a cls d ex))) { nx := fun _ => False, rt := fun r => r = .dat (wordP (some ex)), xc := fun _ => False })
    (hre : ∀ (cdg : Value) (A : Around) (outer : List Env) (s : Shared) (H : Hp) (E : XK), PSI (cxOf CX0 P w K mg base Ng x (defScope st) g cdg A outer s H E).nox ⟨XR0, E⟩ re wR) (hrr : wR (List.replicate Ng.length .no) { nx := fun _ => False, rt := fun r => r = .dat (wordP none), xc := fun _ => False })
    (hd : (a == ("__debug__" : Str)) = false := by decide) (hcd : (a == ("__classdict__" : Str)) = false := by decide) : FnOk P w K mg base CX0 (k + 1) g fd [a] (spW P w K mg base k C) := by
  refine F.ok Sg (fun vs H Q E ⟨f, e, _⟩ => by rw [e]; rfl) fun cdg A outer s H vs Q E hr ⟨f, e, hf⟩ => ?_
  subst e
  rw [hbd]
  refine ⟨_, pss_cons (ps_try_as (X := (cxOf CX0 P w K mg base Ng x (defScope st) g cdg A outer s H E).nox) (i := 1) (c := .ref S) (Wout := fun _ _ _ _ => False)
      (tb := fun W D σ H => ∃ Ech : XK, (∀ cls d (σ' : L2.St) H', σ'.length = Ng.length → Ech cls d H' → W cls d σ' H') ∧ ∃ f, σ[0]? = some (some (.ref f)) ∧ CallsF P w K mg base k f H (fun _ H' => D.nx σ H') Ech)
      (ts := fun a cls d => tsOf K ⟨XR0, E⟩ (wSu a cls d)) rfl rfl Sg.nd hi hk (hc cdg A outer s H E) LamX.takes0 (fun W pn xe tk _ => ?_) (fun a oe cls d pn hz hvf => hsu cdg A outer s H E a oe cls d pn hr hz hvf)) (pss_one (hre cdg A outer s H E)), ?_⟩
  · refine ⟨fun pins s' σ H' D I ⟨Ech, hW, f, h1, h3⟩ => ?_⟩
    have hx : Passes (L2.CX P w) ((cxOf CX0 P w K mg base Ng x (defScope st) g cdg A outer s H E).nox.tr pn xe) Ech := passes_call (E := Ech) (W := fun cls d σ H' => Ech cls d H')
      (fun u s2 ⟨a, B, sI, pins2, σ2, H2, cls, d, e, I2, nb, up, sky, na, os, ag, w⟩ => tk u s2 ⟨a, B, sI, pins2, σ2, H2, cls, d, e, I2, nb, up, sky, na, os, ag, hW cls d σ2 H2 I2.len w⟩) (fun _ _ _ _ z => z)
    have hp := pe_actF (Z := (cxOf CX0 P w K mg base Ng x (defScope st) g cdg A outer s H E).nox.tr pn xe) (k := k) (i := 0) (p1 := p1) (p2 := p2) hx hr hNg hva hd hcd
    exact (pss_one (ps_expr (pos := p3) hp)).run pins s' σ H' D I ⟨f, h1, h3⟩
  · refine ⟨fun cls d H' => ∀ σ' : L2.St, σ'.length = Ng.length → wAs K (.ref S) 1 (fun a cls d => tsOf K ⟨XR0, E⟩ (wSu a cls d)) (fun _ _ _ _ => False) _ cls d σ' H', fun cls d σ' H' hl z => z σ' hl, f, h0 f, ?_⟩
    obtain ⟨ho, run⟩ := hf
    refine ⟨ho, fun A outer s hr e0 => codeAny_mono (run A outer s hr e0) fun r s' hq => ?_⟩
    have hgood : ∀ H', (∃ G', Ex G' H' ∧ endW K none Q G' H') → tsOf K ⟨XR0, E⟩ wR { nx := fun _ H' => Q .non H', rt := Q } (L2.start Ng [V.ref f]) H' := fun H' ⟨G', e, fin⟩ =>
      ⟨⟨none, G', H'⟩, _, G', _, sat_no e (hlen f), hrr, ⟨fun _ _ _ _ _ z => z.elim, fun v r G2 H2 fi o hr => by subst hr; exact fin v G2 H2 fi o, fun _ _ _ _ _ z => z.elim, fun _ _ _ _ _ z => z.elim, fun _ _ _ _ _ _ _ z => z.elim⟩⟩
    have hbad : ∀ cls d H', (∃ ex G', XR1 C ex cls d G' ∧ Ex G' H' ∧ endW K (some ex) Q G' H') → ∀ σ' : L2.St, σ'.length = Ng.length → wAs K (.ref S) 1 (fun a cls d => tsOf K ⟨XR0, E⟩ (wSu a cls d)) (fun _ _ _ _ => False)
        { nx := fun σ' H' => tsOf K ⟨XR0, E⟩ wR { nx := fun _ H' => Q .non H', rt := Q } σ' H', rt := Q } cls d σ' H' := fun cls d H' ⟨ex, G', xr, e, fin⟩ σ' hl => by
      refine ⟨true, by rw [xr.2.1]; exact T.exm _ xr.1, fun _ a ha => ?_, fun z => by cases z⟩
      exact ⟨⟨none, G', H'⟩, _, G', _, (sat_no e hl).setVal (i := 1) (k := excV C a cls d ex) rfl xr, hrd ex a cls d xr.1, ⟨fun _ _ _ _ _ z => z.elim, fun v r G2 H2 fi o hr => by subst hr; exact fin v G2 H2 fi o, fun _ _ _ _ _ z => z.elim, fun _ _ _ _ _ z => z.elim, fun _ _ _ _ _ _ _ z => z.elim⟩⟩
    cases r with
    | error e =>
      obtain ⟨a, B, H', cls, d, e1, fl, hok, ub, na, os, ag, hE⟩ := (show L2.CX P w outer _ s _ e s' from hq)
      exact (show L2.CX P w outer _ s _ e s' from ⟨a, B, H', cls, d, e1, fl, hok, ub, na, os, ag, hbad cls d H' hE⟩)
    | ok fl =>
      cases fl with
      | ret u =>
        obtain ⟨v, H', c1, c2, un, c4, c5, c6⟩ := hq
        exact ⟨v, H', c1, c2, un, c4, c5, hgood H' c6⟩
      | next => exact False.elim hq
      | brk => exact False.elim hq
      | cont => exact False.elim hq
end
end SF

/-! ## The call of a def that calls a lambda -/
namespace SF
open PySem PySem.Spec PyProof.Rows L2
section
variable {K : PySem.W.Frag} {G H G' H' G2 H2 HP : Hp} {cs : List Addr}
theorem tabs_hide {T : List (Addr × Str)} (hc : AreO H cs) (t : LamX.Tabs T H) : LamX.Tabs T (hideL H cs) := fun p hp => by
  obtain ⟨ps, h1, h2, h3⟩ := t p hp
  have out : ∀ b u, H b = some u → (∀ o, u ≠ ObjO o) → hideL H cs b = some u := fun b u e n => by
    rw [hide_out (hc.out fun o q => n o (Option.some.inj (e.symm.trans q)))]
    exact e
  refine ⟨ps, out _ _ h1 (fun o z => by cases z), h2, fun pos cv hcv => ?_⟩
  obtain ⟨c0, e1, e2⟩ := h3 pos cv hcv
  exact ⟨c0, e1, out _ _ e2 (fun o z => by unfold LamX.CodeO at z; cases z)⟩
theorem unh_ex (gone : ∀ c ∈ cs, H' c = none) : ∀ b u, H' b = some u → unhide HP H' cs b = some u := fun b u e => by
  rw [unh_out (fun z => by rw [gone b z] at e; cases e)]
  exact e
theorem objO_nt {o : Obj} : NTbl (ObjO o) := fun _ z => by cases z
/-- behind it: the objects known for the call's time are hidden again -/
theorem fin_hide (hc : AreO HP cs) (gone : ∀ c ∈ cs, H' c = none) (ex : Ex G' H') (f : Fin' K ⟨none, G', unhide HP H' cs⟩ G2 H2) : Fin' K ⟨none, G', H'⟩ G2 (hideL H2 cs) := by
  have at2 : ∀ c ∈ cs, ∃ o, H2 c = some (ObjO o) := fun c z => by
    obtain ⟨o, ho⟩ := hc c z
    exact ⟨o, f.keep c _ (by show unhide HP H' cs c = _; rw [unh_in z]; exact ho) (fun q => by cases q) objO_nt⟩
  have notG : ∀ c ∈ cs, G2 c = none := fun c z => by
    obtain ⟨o, ho⟩ := hc c z
    refine f.avoid c ?_ (by show unhide HP H' cs c ≠ none; rw [unh_in z, ho]; exact fun q => by cases q)
    show G' c = none
    cases q : G' c with
    | none => rfl
    | some u =>
      have := ex c u q
      rw [gone c z] at this
      cases this
  refine ⟨f.ex1, fun a o h => ?_, fun a o h n m => ?_, ⟨fun a ps h => ?_, fun hT => ?_⟩, fun a h => ?_, fun a h h' => ?_, fun r q => by cases q⟩
  · rw [hide_out (fun z => by rw [notG a z] at h; cases h)]
    exact f.ex2 a o h
  · have h : H' a = some o := h
    rw [hide_out (fun z => by rw [gone a z] at h; cases h)]
    exact f.keep a o (unh_ex gone a o h) (fun q => by cases q) m
  · have h : H' a = some (.tbl ps) := h
    obtain ⟨qs, e⟩ := f.tbl.up a ps (unh_ex gone a _ h)
    exact ⟨qs, by rw [hide_out (fun z => by rw [gone a z] at h; cases h)]; exact e⟩
  · exact tabs_hide at2 (f.tbl.tab (LamX.Tabs.ext (H := H') hT fun b u e => unh_ex gone b u e))
  · have h : H' a ≠ none := h
    have z : a ∉ cs := fun z => h (gone a z)
    rw [hide_out z]
    exact f.there a (by show unhide HP H' cs a ≠ none; rw [unh_out z]; exact h)
  · have h' : H' a ≠ none := h'
    have z : a ∉ cs := fun z => h' (gone a z)
    exact f.avoid a h (by show unhide HP H' cs a ≠ none; rw [unh_out z]; exact h')
/-- what was done while they were hidden -/
theorem fin_unhide (hc : AreO H cs) (gone : ∀ c ∈ cs, H' c = none) (gn : ∀ c ∈ cs, G c = none) (f : Fin' K ⟨none, G, hideL H cs⟩ G' H') : Fin' K ⟨none, G, H⟩ G' (unhide H H' cs) := by
  have notG : ∀ c ∈ cs, G' c = none := fun c z => by
    cases q : G' c with
    | none => rfl
    | some u =>
      have := f.ex2 c u q
      rw [gone c z] at this
      cases this
  refine ⟨f.ex1, fun a o h => unh_ex gone a o (f.ex2 a o h), fun a o h n m => ?_, ⟨fun a ps h => ?_, fun hT => ?_⟩, fun a h => ?_, fun a h h' => ?_, fun r q => by cases q⟩
  · have h : H a = some o := h
    by_cases z : a ∈ cs
    · rw [unh_in z]
      exact h
    · exact unh_ex gone a o (f.keep a o (by show hideL H cs a = _; rw [hide_out z]; exact h) (fun q => by cases q) m)
  · have h : H a = some (.tbl ps) := h
    have z : a ∉ cs := hc.out fun o q => by rw [h] at q; cases q
    obtain ⟨qs, e⟩ := f.tbl.up a ps (by show hideL H cs a = _; rw [hide_out z]; exact h)
    exact ⟨qs, unh_ex gone a _ e⟩
  · exact LamX.Tabs.ext (f.tbl.tab (tabs_hide hc hT)) fun b u e => unh_ex gone b u e
  · have h : H a ≠ none := h
    by_cases z : a ∈ cs
    · rw [unh_in z]
      exact h
    · rw [unh_out z]
      exact f.there a (by show hideL H cs a ≠ none; rw [hide_out z]; exact h)
  · have h' : H a ≠ none := h'
    by_cases z : a ∈ cs
    · exact notG a z
    · exact f.avoid a h (by show hideL H cs a ≠ none; rw [hide_out z]; exact h')
end
/-! ### cells of the frame that runs, known for a call's time -/
def plusH (h : Heap) (H : Hp) (cs : List Addr) : Hp := fun a => if a ∈ cs then (h.get? a).map (fun o => ObjO o) else H a
section
variable {h : Heap} {H : Hp} {cs : List Addr}
theorem plus_in {a : Addr} {o : Obj} (z : a ∈ cs) (e : h.get? a = some o) : plusH h H cs a = some (ObjO o) := by
  unfold plusH
  rw [if_pos z, e]
  rfl
theorem plus_out {a : Addr} (z : a ∉ cs) : plusH h H cs a = H a := if_neg z
theorem hide_plus (hn : ∀ c ∈ cs, H c = none) : hideL (plusH h H cs) cs = H := by
  funext a
  by_cases z : a ∈ cs
  · rw [hide_in z, hn a z]
  · rw [hide_out z, plus_out z]
theorem areO_plus (hg : ∀ c ∈ cs, ∃ o, h.get? c = some o) : AreO (plusH h H cs) cs := fun c z => by
  obtain ⟨o, e⟩ := hg c z
  exact ⟨o, plus_in z e⟩
theorem plus_some {b : Addr} {u : HO} (hn : ∀ c ∈ cs, H c = none) (e : H b = some u) : plusH h H cs b = some u := by
  rw [plus_out (fun z => by rw [hn b z] at e; cases e)]
  exact e
theorem ce_hide {P : Program} {w : World} {outer : List Env} {s s' : Shared} {Q : VK} {u : Value} (hn : ∀ c ∈ cs, H c = none) (hg : ∀ c ∈ cs, ∃ o, s.heap.get? c = some o) (x : CE outer P w (plusH s.heap H cs) s (fun v H' => Q v (hideL H' cs)) u s') : CE outer P w H s Q u s' := by
  obtain ⟨v, H2, c1, c2, un, c4, c5, c6⟩ := x
  have a2 : ∀ c ∈ cs, ∀ o, s.heap.get? c = some o → H2 c = some (ObjO o) := fun c z o e => un.frzs c _ _ (plus_in z e)
  have are2 : AreO H2 cs := fun c z => by
    obtain ⟨o, e⟩ := hg c z
    exact ⟨o, a2 c z o e⟩
  have none2 : ∀ b, b ∉ cs → H b = none → plusH s.heap H cs b = none := fun b z e => by rw [plus_out z]; exact e
  refine ⟨v, hideL H2 cs, c1, c2, ⟨fun b o g m n x => ?_, fun b o g m n x => ?_, fun b o g m x => ?_, fun b o m => un.there b o m, fun b xs g => ?_, fun b o u g => ?_, fun b ps g => ?_⟩, hok_hide are2 c4, c5, c6⟩
  · by_cases z : b ∈ cs
    · exact objO_get c4 (a2 b z o g)
    · exact un.keep b o g (none2 b z m) n x
  · by_cases z : b ∈ cs
    · exact ⟨o.slots, objO_get c4 (a2 b z o g)⟩
    · exact un.slot b o g (none2 b z m) n x
  · by_cases z : b ∈ cs
    · exact hide_in z
    · exact hide_none (un.free b o g (none2 b z m) x)
  · have z : b ∉ cs := fun z => by rw [hn b z] at g; cases g
    rw [hide_out z]
    exact un.tups b xs (plus_some hn g)
  · have z : b ∉ cs := fun z => by rw [hn b z] at g; cases g
    rw [hide_out z]
    exact un.frzs b o u (plus_some hn g)
  · have z : b ∉ cs := fun z => by rw [hn b z] at g; cases g
    rw [hide_out z]
    exact un.tbls b ps (plus_some hn g)
end
section
variable {X : Cx} {pins : List (Addr × Obj)} {σ : L2.St} {H : Hp} {s : Shared} {scope : Scope}
theorem clo_in (hfr : ∀ y ∈ scope.names, y.2 = .free → ∃ c, X.env.cells.lookup y.1 = some c) {y : Str} {c : Addr} (e : (cloFrom X.env.cells scope.names []).lookup y = some c) : X.env.cells.lookup y = some c := by
  rcases cloFrom_mem (PySem.mem_of_lookup e) with hm | ⟨h1, h2⟩
  · cases hm
  · obtain ⟨c1, hc⟩ := hfr _ h1 rfl
    have hc : X.env.cells.lookup y = some c1 := hc
    have e2 : c = c1 := by
      rw [h2, hc] <;> rfl
    rw [e2]
    exact hc
theorem clo_has {y : Str} (hl : scope.names.lookup y = some .free) : ∃ c, (cloFrom X.env.cells scope.names []).lookup y = some c :=
  mem_lookup (cloFrom_has (cells := X.env.cells) (acc := []) (PySem.mem_of_lookup hl))
/-- the cells of a closure of ours -/
theorem clo_cells (I : Inv X pins σ H s) (hfn : ∀ y, X.fn y = true) (hfr : ∀ y ∈ scope.names, y.2 = .free → ∃ c, X.env.cells.lookup y.1 = some c) {c : Addr} (hc : c ∈ csOf (cloFrom X.env.cells scope.names [])) :
    H c = none ∧ (∃ o v, s.heap.get? c = some o ∧ o.data = .cell v) ∧ X.s_0.heap.objs.size ≤ c ∧ c ∉ frs X.stack := by
  obtain ⟨y, e⟩ := mem_csOf.mp hc
  have e := clo_in hfr e
  obtain ⟨v, o, ho, hd⟩ := I.cell y c e
  have ge := I.ok.cab y c (hfn y) e
  refine ⟨I.freeC y c e, ⟨o, v, ho, hd⟩, ge, fun z => ?_⟩
  rcases List.mem_cons.mp (I.stkSub _ z) with q | q
  · exact I.cne y c e q
  · obtain ⟨_, o', ho', _⟩ := I.ok.funs.mem q
    exact absurd (Nat.lt_of_lt_of_le (Heap.lt_size ho') ge) (Nat.lt_irrefl _)
theorem env0_plus (I : Inv X pins σ H s) (hfn : ∀ y, X.fn y = true) (hfr : ∀ y ∈ scope.names, y.2 = .free → ∃ c, X.env.cells.lookup y.1 = some c) :
    Env0 X.prog X.w X.K X.mg X.base X.A X.stack s (plusH s.heap H (csOf (cloFrom X.env.cells scope.names []))) := by
  have e0 := I.env0
  have cc := fun c hc => clo_cells (scope := scope) I hfn hfr (c := c) hc
  refine ⟨e0.frames, e0.mod, fun b o eb => ⟨(e0.bs b o eb).1, ?_⟩, e0.bsz, e0.funs, fun b hb => ?_, fun b o e => ?_, e0.bare⟩
  · rw [plus_out (fun z => absurd (Nat.lt_of_lt_of_le (Heap.lt_size eb) (Nat.le_trans I.ok.bsz (cc b z).2.2.1)) (Nat.lt_irrefl _))]
    exact (e0.bs b o eb).2
  · rw [plus_out (fun z => (cc b z).2.2.2 hb)]
    exact e0.frf b hb
  · by_cases z : b ∈ csOf (cloFrom X.env.cells scope.names [])
    · obtain ⟨_, ⟨o', v, ho, _⟩, _⟩ := cc b z
      rw [plus_in z ho] at e
      cases e
      exact objO_ok ho
    · rw [plus_out z] at e
      exact (e0.hok b o e).stay (fun _ _ _ q => q) (fun c q => plus_some (fun c hc => (cc c hc).1) q) fun c xs q => plus_some (fun c hc => (cc c hc).1) q
theorem cloT_plusG {cs : List Addr} (I : Inv X pins σ H s) (hfr : ∀ y ∈ scope.names, y.2 = .free → ∃ c, X.env.cells.lookup y.1 = some c) (hfree : ∀ y, scope.names.lookup y = some .free → X.env.scope.names.lookup y = some .cell ∨ X.env.scope.names.lookup y = some .free)
    (sub : ∀ c ∈ csOf (cloFrom X.env.cells scope.names []), c ∈ cs) : CloT X.N scope (cloFrom X.env.cells scope.names []) σ (plusH s.heap H cs) := by
  refine ⟨fun y hl => clo_has hl, fun y z c e1 e2 => I.ok.inj y z c (clo_in hfr e1) (clo_in hfr e2), fun y c e => ?_, fun i y v e1 e2 k => ?_⟩
  · obtain ⟨v, o, ho, hd⟩ := I.cell y c (clo_in hfr e)
    exact ⟨o, v, plus_in (sub c (mem_csOf.mpr ⟨y, e⟩)) ho, hd⟩
  · obtain ⟨m, hn, hl⟩ := I.loc
    have hvis : Vis X.env.scope y := (hfree y k).elim (fun k => .inr (.inl k)) (fun k => .inr (.inr k))
    obtain ⟨u, r, q⟩ := hl i y v e1 e2 hvis
    obtain ⟨c2, h2⟩ := clo_has (X := X) k
    have c1 := clo_in hfr h2
    rcases q with ⟨k', _⟩ | ⟨_, c3, e', o, ho, hd⟩
    · have k' : X.env.scope.names.lookup y = some .local := k'
      rcases hfree y k with k2 | k2 <;> rw [show X.env.scope.names.lookup y = _ from k2] at k' <;> cases k'
    · rw [c1] at e'
      cases e'
      exact ⟨u, c2, o, r, h2, plus_in (sub c2 (mem_csOf.mpr ⟨y, h2⟩)) ho, hd⟩
theorem cloT_plus (I : Inv X pins σ H s) (hfn : ∀ y, X.fn y = true) (hfr : ∀ y ∈ scope.names, y.2 = .free → ∃ c, X.env.cells.lookup y.1 = some c) (hfree : ∀ y, scope.names.lookup y = some .free → X.env.scope.names.lookup y = some .cell ∨ X.env.scope.names.lookup y = some .free) :
    CloT X.N scope (cloFrom X.env.cells scope.names []) σ (plusH s.heap H (csOf (cloFrom X.env.cells scope.names []))) := cloT_plusG I hfr hfree fun _ h => h
theorem hok_plus {P : Program} {w : World} {h : Heap} {cs : List Addr} (hn : ∀ c ∈ cs, H c = none) (hg : ∀ c ∈ cs, ∃ o, h.get? c = some o) (ok : HOk P w H h) : HOk P w (plusH h H cs) h := fun b o e => by
  by_cases z : b ∈ cs
  · obtain ⟨o', ho⟩ := hg b z
    rw [plus_in z ho] at e
    cases e
    exact objO_ok ho
  · rw [plus_out z] at e
    exact (ok b o e).stay (fun _ _ _ q => q) (fun c q => plus_some hn q) fun c xs q => plus_some hn q
end
/-! ### the word of a lambda -/
/-- a lambda's binding at a call without arguments -/
def BindOk (P : Program) (w : World) (q : Str) (params : Arguments) (body : Expr) (scope : Scope) (dV : Value) (H : Hp) : Prop := ∀ (clo : List (Str × Addr)) (doc pm : Value) (c' : Addr) (ctv : Value) (s : Shared), HOk P w H s.heap →
  ∃ bs, BindsTo s (PySem.W.kdv_fn "<lambda>" q params (.expr body) scope clo dV doc pm (.ref c') ctv) ⟨[], []⟩ bs ∧ ∀ y ∈ bs, scope.names.lookup y.1 = some .local
/-- a lambda of the text, known as it is -/
structure LamAt (q : Str) (params : Arguments) (body : Expr) (scope : Scope) (clo : List (Str × Addr)) (H : Hp) (f : Addr) (dflt : Bool) : Prop where
  ex : ∃ (dV doc pm : Value) (c' : Addr) (ctv : Value), H f = some (ObjO (lamOb q params body scope clo dV doc pm c' ctv)) ∧ H c' = some (LamX.CodeO c' q) ∧ (if dflt = true then ∃ T, dV = .ref T ∧ H T = some (.tup [.int 0]) else dV = .none)
theorem LamAt.go {q : Str} {params : Arguments} {body : Expr} {scope : Scope} {clo : List (Str × Addr)} {H H' : Hp} {f : Addr} {dflt : Bool} (l : LamAt q params body scope clo H f dflt) (k : ∀ b o, H b = some o → NTbl o → (∀ xs, o ≠ .lst xs) → H' b = some o) : LamAt q params body scope clo H' f dflt := by
  obtain ⟨dV, doc, pm, c', ctv, h1, h2, h3⟩ := l.ex
  refine ⟨dV, doc, pm, c', ctv, k _ _ h1 objO_nt (fun _ z => by cases z), k _ _ h2 (fun ps => LamX.codeO_ne ps) (fun _ z => by unfold LamX.CodeO at z; cases z), ?_⟩
  cases dflt with
  | false => exact h3
  | true =>
    rw [if_pos rfl] at h3 ⊢
    obtain ⟨T, e, hT⟩ := h3
    exact ⟨T, e, k _ _ hT (fun _ z => by cases z) fun _ z => by cases z⟩
/-- how its parameters are bound -/
structure LamB (params : Arguments) (body : Expr) (scope : Scope) (dflt : Bool) : Prop where
  run : ∀ (P : Program) (w : World) (q : Str) (H : Hp) (dV : Value), (if dflt = true then ∃ T, dV = .ref T ∧ H T = some (.tup [.int 0]) else dV = .none) → BindOk P w q params body scope dV H
section
variable {X : Cx} {pins : List (Addr × Obj)} {σ : L2.St} {H G : Hp} {s : Shared} {scope : Scope} {C : Nat → Addr} {c0 : Cn} {ρ : Rho} {Q : VK}
/-- .. of a lambda of the frame that runs -/
theorem word1 {g f : Addr} {fd : FuncData} {a : Str} {k : Nat} {params : Arguments} {body : Expr} {dflt : Bool} {w : WE} {Φ : Option Exn → Prop} (I : Inv X pins σ H s) (F : FnOk X.prog X.w X.K X.mg X.base CX0 (k + 2) g fd [a] (spW X.prog X.w X.K X.mg X.base (k + 1) C)) (hb : L2.Binds X.K fd [a] []) (hr : Room (k + 2) X.A)
    (hfn : ∀ y, X.fn y = true) (L : LamN X.N scope) (hfr : ∀ y ∈ scope.names, y.2 = .free → ∃ c, X.env.cells.lookup y.1 = some c) (hfree : ∀ y, scope.names.lookup y = some .free → X.env.scope.names.lookup y = some .cell ∨ X.env.scope.names.lookup y = some .free) (B : LamB params body scope dflt)
    (hl : LamAt (lamQ X) params body scope (cloFrom X.env.cells scope.names []) H f dflt)
    (hbody : ∀ (A : Around) (outer : List Env) (s : Shared) (H : Hp) (E : XK) (clo : List (Str × Addr)) (f c' : Addr), Room k (A.deeper (lamE (lamQ X) clo scope s.heap.objs.size f c')) → PEI (lamC X.prog X.w X.K X.mg X.base X.N (lamQ X) clo A outer s H E scope f c') ⟨XR1 C, E⟩ body w)
    (S : Sat X.K c0 ρ σ G H) (hw : w ρ (fun _ => Φ none) (fun ex => Φ (some ex))) (post : ∀ o v G2 H2, Φ o → Tr X.K ρ σ G H G2 H2 → Im X.K G2 (wordP o) v → Q v H2) :
    codeAny (model X.prog X.w) X.A (.call (.ref g) ⟨[.ref f], []⟩) (CR CX0 X.stack X.prog X.w H s Q C8.E0) s := by
  have cc := fun c hc => clo_cells (scope := scope) I hfn hfr (c := c) hc
  have hn : ∀ c ∈ csOf (cloFrom X.env.cells scope.names []), H c = none := fun c hc => (cc c hc).1
  have hg : ∀ c ∈ csOf (cloFrom X.env.cells scope.names []), ∃ o, s.heap.get? c = some o := fun c hc => by
    obtain ⟨_, ⟨o, v, ho, _⟩, _⟩ := cc c hc
    exact ⟨o, ho⟩
  have are : AreO (plusH s.heap H (csOf (cloFrom X.env.cells scope.names []))) (csOf (cloFrom X.env.cells scope.names [])) := areO_plus hg
  have hp := hide_plus (h := s.heap) hn
  have hl2 := hl.go (H' := plusH s.heap H (csOf (cloFrom X.env.cells scope.names []))) fun b o e _ _ => plus_some hn e
  obtain ⟨dV, doc, pm, c', ctv, h1, h2, h3⟩ := hl2.ex
  have tail : ∀ {o : Option Exn} {G' H' : Hp}, Tr X.K ρ σ G H G' H' → Φ o → (∀ c ∈ csOf (cloFrom X.env.cells scope.names []), H' c = none) → Ex G' (unhide (plusH s.heap H (csOf (cloFrom X.env.cells scope.names []))) H' (csOf (cloFrom X.env.cells scope.names []))) ∧
      endW X.K o (fun v H2 => Q v (hideL H2 (csOf (cloFrom X.env.cells scope.names [])))) G' (unhide (plusH s.heap H (csOf (cloFrom X.env.cells scope.names []))) H' (csOf (cloFrom X.env.cells scope.names []))) := fun {o G' H'} t1 hΦ gone =>
    ⟨fun a u e => unh_ex gone a u (t1.eh a u e), fun v G2 H2 fi im => post o v G2 _ hΦ (t1.trans (Fin'.tr (S.tr t1) (fin_hide are gone t1.eh fi))) im⟩
  refine codeAny_mono (F.run X.A X.stack s (plusH s.heap H (csOf (cloFrom X.env.cells scope.names []))) ⟨[.ref f], []⟩ [.ref f] [.ref f] (fun v H2 => Q v (hideL H2 (csOf (cloFrom X.env.cells scope.names [])))) C8.E0 hr (env0_plus I hfn hfr) (hb s [.ref f] I.kIn rfl) (.cons rfl .nil)
    ⟨f, rfl, callsF_of (tb := fun E => teOf X.K ⟨XR1 C, E⟩ w) L (cloT_plus I hfn hfr hfree) I.len h1 h2 (fun s' ok => B.run X.prog X.w _ _ dV h3 _ doc pm c' ctv s' ok) (fun A outer s' E hr2 => hbody A outer s' _ E _ f c' hr2) ?_⟩) fun r s2 hq => ?_
  · rw [hp]
    exact ⟨c0, ρ, G, fun _ => Φ none, fun ex => Φ (some ex), S, hw, fun v r G' H' t1 o1 hΦ gone => ⟨G', tail t1 hΦ gone⟩, fun ex cls d G' H' t1 xr hΞ gone => ⟨ex, G', xr, tail t1 hΞ gone⟩⟩
  · cases r with
    | error e => exact (show False from hq).elim
    | ok fl =>
      cases fl with
      | ret u => exact ce_hide hn hg hq
      | next => exact False.elim hq
      | brk => exact False.elim hq
      | cont => exact False.elim hq
/-- .. of one whose cells are known -/
theorem word2 {N : List Str} {q : Str} {clo : List (Str × Addr)} {ds : List PyData} {vs : List V} {n : Nat} {f : Addr} {k : Nat} {params : Arguments} {body : Expr} {w : WE} {Φ : Option Exn → Prop} (L : LamN N scope) (B : LamB params body scope false) (hl : LamAt q params body scope clo H f false)
    (CT : CloT N scope clo (vs.map some ++ List.replicate n none) H) (hN : N.length = vs.length + n) (il : ImL X.K G ds vs) (gn : ∀ c ∈ csOf clo, G c = none)
    (hbody : ∀ (A : Around) (outer : List Env) (s : Shared) (H : Hp) (E : XK) (clo : List (Str × Addr)) (f c' : Addr), Room k (A.deeper (lamE q clo scope s.heap.objs.size f c')) → PEI (lamC X.prog X.w X.K X.mg X.base N q clo A outer s H E scope f c') ⟨XR1 C, E⟩ body w)
    (S : Sat X.K c0 ρ σ G H) (hw : w (startE (ds.map .dat) n) (fun _ => Φ none) (fun ex => Φ (some ex))) (post : ∀ o v G2 H2, Φ o → Tr X.K ρ σ G H G2 H2 → Im X.K G2 (wordP o) v → Q v H2) :
    spW X.prog X.w X.K X.mg X.base (k + 1) C [.ref f] H Q C8.E0 := by
  obtain ⟨dV, doc, pm, c', ctv, h1, h2, h3⟩ := hl.ex
  have are : AreO H (csOf clo) := fun c z => by
    obtain ⟨y, e⟩ := mem_csOf.mp z
    obtain ⟨o, v, h1, _⟩ := CT.cell y c e
    exact ⟨o, h1⟩
  have ex0 : Ex G (hideL H (csOf clo)) := fun a u e => by
    rw [hide_out (fun z => by rw [gn a z] at e; cases e)]
    exact S.ex2 a u e
  have S0 := sat_startP (K := X.K) (n := n) ex0 il
  have tail : ∀ {o : Option Exn} {G' H' : Hp}, Tr X.K (startE (ds.map .dat) n) (vs.map some ++ List.replicate n none) G (hideL H (csOf clo)) G' H' → Φ o → (∀ c ∈ csOf clo, H' c = none) → Ex G' (unhide H H' (csOf clo)) ∧ endW X.K o Q G' (unhide H H' (csOf clo)) := fun {o G' H'} t1 hΦ gone => by
    have f1 : Fin' X.K ⟨none, G, hideL H (csOf clo)⟩ G' H' := (S0.tr t1).fin
    have t2 := Fin'.tr S (fin_unhide are gone gn f1)
    exact ⟨t2.eh, fun v G2 H2 fi im => post o v G2 H2 hΦ (t2.trans (Fin'.tr (S.tr t2) fi)) im⟩
  exact ⟨f, rfl, callsF_of (tb := fun E => teOf X.K ⟨XR1 C, E⟩ w) L CT (by rw [List.length_append, List.length_map, List.length_replicate, hN]) h1 h2 (fun s' ok => B.run X.prog X.w _ _ dV h3 _ doc pm c' ctv s' ok) (fun A outer s' E hr2 => hbody A outer s' _ E _ f c' hr2)
    ⟨⟨none, G, hideL H (csOf clo)⟩, _, G, fun _ => Φ none, fun ex => Φ (some ex), S0, hw, fun v r G' H' t1 o1 hΦ gone => ⟨G', tail t1 hΦ gone⟩, fun ex cls d G' H' t1 xr hΞ gone => ⟨ex, G', xr, tail t1 hΞ gone⟩⟩⟩
end
end SF

/-! ## A def that gives two lambdas in a list -/
namespace SF
open PySem PySem.Spec PyProof.Rows L2
theorem CloT.sub {N : List Str} {scope : Scope} {clo : List (Str × Addr)} {σ σ2 : L2.St} {H : Hp} (C : CloT N scope clo σ H) (h : ∀ (i : Nat) v, σ2[i]? = some (some v) → σ[i]? = some (some v)) : CloT N scope clo σ2 H :=
  ⟨C.has, C.inj, C.cell, fun i y v e1 e2 k => C.val i y v e1 (h i v e2) k⟩
theorem CloT.go {N : List Str} {scope : Scope} {clo : List (Str × Addr)} {σ : L2.St} {H H' : Hp} (C : CloT N scope clo σ H) (k : ∀ b o, H b = some o → NTbl o → (∀ xs, o ≠ .lst xs) → H' b = some o) : CloT N scope clo σ H' :=
  ⟨C.has, C.inj, fun y c e => by
    obtain ⟨o, v, h1, h2⟩ := C.cell y c e
    exact ⟨o, v, k _ _ h1 objO_nt (fun _ z => by cases z), h2⟩, fun i y v e1 e2 q => by
    obtain ⟨u, c, o, r, h1, h2, h3⟩ := C.val i y v e1 e2 q
    exact ⟨u, c, o, r, h1, k _ _ h2 objO_nt (fun _ z => by cases z), h3⟩⟩
/-- free names of a block: they are cells around, or free there too -/
structure FreeIn (sc scope : Scope) : Prop where
  mem : ∀ y ∈ scope.names, y.2 = .free → sc.names.lookup y.1 = some .cell ∨ sc.names.lookup y.1 = some .free
def freeInB (sc scope : Scope) : Bool := scope.names.all fun y => !decide (y.2 = .free) || (decide (sc.names.lookup y.1 = some .cell) || decide (sc.names.lookup y.1 = some .free))
theorem freeIn_by {sc scope : Scope} (h : freeInB sc scope = true) : FreeIn sc scope := by
  unfold freeInB at h
  simp only [Bool.or_eq_true, Bool.not_eq_true', decide_eq_true_eq, decide_eq_false_iff_not, List.all_eq_true] at h
  refine ⟨fun y hy e => ?_⟩
  rcases h y hy with z | z
  · exact absurd e z
  · exact z
theorem FreeIn.at {sc scope : Scope} (F : FreeIn sc scope) {y : Str} (h : scope.names.lookup y = some .free) : sc.names.lookup y = some .cell ∨ sc.names.lookup y = some .free := F.mem _ (PySem.mem_of_lookup h) rfl
theorem FreeIn.has {X : Cx} {scope : Scope} (F : FreeIn X.env.scope scope) (ok : X.Ok) : ∀ y ∈ scope.names, y.2 = .free → ∃ c, X.env.cells.lookup y.1 = some c := fun y hy e => by
  rcases F.mem y hy e with k | k
  · exact ok.has _ (.inl k)
  · exact ok.has _ (.inr k)
/-- what the list's lambdas are -/
structure LamTx where
  params : Arguments
  body : Expr
  scope : Scope
/-- a lambda of it, its cells known; they were not there ahead -/
structure WkAt (N : List Str) (q : Str) (L : LamTx) (vs : List V) (n : Nat) (H0 H : Hp) (f : Addr) (clo : List (Str × Addr)) : Prop where
  lam : LamAt q L.params L.body L.scope clo H f false
  cel : CloT N L.scope clo (vs.map some ++ List.replicate n none) H
  new : ∀ c ∈ csOf clo, H0 c = none
def spWk (K : PySem.W.Frag) (P : Addr) (N : List Str) (q : Str) (L0 L1 : LamTx) : Sp := fun vs H Q _ => vs.length = 3 ∧ LamX.Tabs (tabsOf K) H ∧ ∀ (l f0 f1 : Addr) (clo0 clo1 : List (Str × Addr)) (H' : Hp), (∀ b o, b ≠ P → H b = some o → H' b = some o) → TblK K H H' → H l = none → H' l = some (.lst [.ref f0, .ref f1]) →
  WkAt N q L0 vs 1 H H' f0 clo0 → WkAt N q L1 vs 1 H H' f1 clo1 → Q (.ref l) H'
section
variable {X : Cx} {pins : List (Addr × Obj)} {σ : L2.St} {H : Hp} {s : Shared}
theorem works_run {P : Addr} {L0 L1 : LamTx} {st1 st2 : Stmt} {e3 : Expr} {rp : Pos} {i : Nat} (I : Inv X pins σ H s) (h1 : PS X st1 (tAsg (tLst (tCons (tMk X P L0.params L0.body L0.scope false) tNil)) (gName i)))
    (h2 : PS X st2 (tDrop (tBM X.K "list" rAppend (tVar i) (tCons (tMk X P L1.params L1.body L1.scope false) tNil)))) (h3 : PE X e3 (tVar i)) (hT : LamX.Tabs (tabsOf X.K) H) (hm : (P, lamQ X) ∈ tabsOf X.K) (hi : i < σ.length) :
    wpAny (model X.prog X.w) X.A (execs [st1, st2, .Return (some e3) rp] X.env) (fun fl s' => ∃ p f0 f1 H4, fl = .ret (.ref p) ∧ Inv X pins (σ.set i (some (.ref p))) H4 s' ∧ (∀ b o, b ≠ P → H b = some o → H4 b = some o) ∧ TblK X.K H H4 ∧ H p = none ∧ H4 p = some (.lst [.ref f0, .ref f1]) ∧
      LamAt (lamQ X) L0.params L0.body L0.scope (cloFrom X.env.cells L0.scope.names []) H4 f0 false ∧ LamAt (lamQ X) L1.params L1.body L1.scope (cloFrom X.env.cells L1.scope.names []) H4 f1 false) X.xe s := by
  obtain ⟨ps0, hP0, _⟩ := hT _ hm
  have hP0 : H P = some (.tbl ps0) := hP0
  refine wpAny_execs_cons (thn (h1.run pins s σ H { nx := fun σ1 H2 => ∃ p f0 H1, σ1 = σ.set i (some (.ref p)) ∧ H2 = upd H1 p (.lst [.ref f0]) ∧ H1 p = none ∧ (∀ b o, b ≠ P → H b = some o → H1 b = some o) ∧ TblK X.K H H1 ∧ LamAt (lamQ X) L0.params L0.body L0.scope (cloFrom X.env.cells L0.scope.names []) H1 f0 false, rt := fun _ _ => False } I ?_) fun fl s1 q => ?_)
  · refine ⟨hT, fun f c' dV pm ctv doc H1 k1 t1 nf hf hc hd => ⟨by show 1 ≤ sizeLine; decide, fun p hp => ⟨p, f, H1, rfl, rfl, hp, k1, t1, ⟨dV, doc, pm, c', ctv, hf, hc, ?_⟩⟩⟩⟩
    rw [if_neg (by decide)] at hd ⊢
    exact hd
  cases fl with
  | brk => obtain ⟨_, _, _, z⟩ := q; exact z.elim
  | cont => obtain ⟨_, _, _, z⟩ := q; exact z.elim
  | ret v => obtain ⟨_, _, _, _, _, z⟩ := q; exact z.elim
  | next =>
    obtain ⟨σ1, H2, I1, p, f0, H1, e1, e2, hp, k1, t1, la0⟩ := q
    subst e1 e2
    have hp0 : H p = none := by
      cases z : H p with
      | none => rfl
      | some o =>
        by_cases y : p = P
        · obtain ⟨qs, hq⟩ := t1.up P ps0 hP0
          rw [y, hq] at hp
          cases hp
        · rw [k1 p o y z] at hp
          cases hp
    have t12 : TblK X.K H (upd H1 p (.lst [.ref f0])) := t1.trans (.new hp)
    refine wpAny_execs_cons (thn (h2.run pins s1 _ _ { nx := fun σ2 H4 => ∃ f1, σ2 = σ.set i (some (.ref p)) ∧ (∀ b o, b ≠ P → H b = some o → H4 b = some o) ∧ TblK X.K H H4 ∧ H4 p = some (.lst [.ref f0, .ref f1]) ∧ LamAt (lamQ X) L0.params L0.body L0.scope (cloFrom X.env.cells L0.scope.names []) H4 f0 false ∧ LamAt (lamQ X) L1.params L1.body L1.scope (cloFrom X.env.cells L1.scope.names []) H4 f1 false, rt := fun _ _ => False } I1 ?_) fun fl s2 q => ?_)
    · refine ⟨.ref p, by rw [List.getElem?_set_self hi], .inl ⟨rfl, _, .inl (.inl upd_same)⟩, t12.tab hT, fun f c' dV pm ctv doc H3 k3 t3 nf hf hc hd => ?_⟩
      obtain ⟨qs, hPq⟩ := t12.up P ps0 hP0
      have npP : p ≠ P := fun z => by rw [z, hP0] at hp0; cases hp0
      have hp3 : H3 p = some (.lst [.ref f0]) := k3 _ _ npP upd_same
      have kp : ∀ b o, H1 b = some o → b ≠ p → upd H1 p (.lst [.ref f0]) b = some o := fun b o e n => by rw [upd_ne n]; exact e
      have k13 : ∀ b o, H1 b = some o → NTbl o → upd H3 p (.lst [.ref f0, .ref f]) b = some o := fun b o e n => by
        have nb : b ≠ p := fun z => by rw [z, hp] at e; cases e
        have nP : b ≠ P := fun z => by
          rw [upd_ne npP.symm] at hPq
          rw [z, hPq] at e
          exact n _ (Option.some.inj e).symm
        rw [upd_ne nb]
        exact k3 b o nP (kp b o e nb)
      have nfp : f ≠ p := fun z => by rw [z, hp3] at hf; cases hf
      refine ⟨p, [.ref f0], .ref f, rfl, rfl, hp3, by show 1 < sizeLine; decide, f, rfl, fun b o nP e => ?_, t12.trans (t3.trans (.lst hp3)), upd_same, la0.go fun b o e n _ => k13 b o e n, ⟨dV, doc, pm, c', ctv, ?_, ?_, hd⟩⟩
      · have nb : b ≠ p := fun z => by rw [z, hp0] at e; cases e
        rw [upd_ne nb]
        exact k3 b o nP (kp b o (k1 b o nP e) nb)
      · rw [upd_ne nfp]
        exact hf
      · rw [upd_ne (fun z => by rw [z, hp3] at hc; unfold LamX.CodeO at hc; cases hc)]
        exact hc
    cases fl with
    | brk => obtain ⟨_, _, _, z⟩ := q; exact z.elim
    | cont => obtain ⟨_, _, _, z⟩ := q; exact z.elim
    | ret v => obtain ⟨_, _, _, _, _, z⟩ := q; exact z.elim
    | next =>
      obtain ⟨σ2, H4, I2, f1, e1, k4, t4, hp4, la0, la1⟩ := q
      subst e1
      refine wpAny_execs_cons (wpAny_Return_some (thn (h3.run pins s2 _ _ (fun v H5 => v = .ref p ∧ H5 = H4) I2 ⟨.ref p, by rw [List.getElem?_set_self hi], rfl, rfl⟩) fun u s3 ⟨v, H5, I3, r3, e3, e4⟩ => ?_))
      subst e3
      rw [e4] at I3
      obtain rfl : u = Value.ref p := r3
      exact ⟨p, f0, f1, H4, rfl, I3, k4, t4, hp0, hp4, la0, la1⟩
end
section
variable {P : Program} {w : World} {K : PySem.W.Frag} {mg : Str → Option Value} {base : Heap}
abbrev wkP (K : PySem.W.Frag) (x : Str) : Addr × Addr := He.cT K (x, none)
theorem okWorks {x : Str} {st : Stmt} {g : Addr} {fd : FuncData} {pa pb pc nw : Str} {k : Nat} {L0 L1 : LamTx} {np1 lp ap np2 atp cp ep np3 rp l0 l1 : Pos} (F : Fun K x x st g fd) (ef : g = He.ga K x) (Sg : FnScope [pa, pb, pc, nw] [pa, pb, pc] (defScope st))
    (hbd : defBody st = [.Assign [.Name nw np1] (.List [.Lambda L0.params L0.body L0.scope l0] lp) ap, .Expr (.Call (.Attribute (.Name nw np2) "append" atp) [.Lambda L1.params L1.body L1.scope l1] [] cp) ep, .Return (some (.Name nw np3)) rp])
    (q : Str) (hq : ∀ (A : Around) (outer : List Env) (s : Shared) (H : Hp) (E : XK), lamQ (cxOf CX0 P w K mg base [pa, pb, pc, nw] x (defScope st) g (.ref (wkP K x).1) A outer s H E) = q)
    (hm : ((wkP K x).2, q) ∈ tabsOf K) (F0 : FreeIn (defScope st) L0.scope) (F1 : FreeIn (defScope st) L1.scope)
    (hpe : ∀ (A : Around) (outer : List Env) (s : Shared) (H : Hp) (E : XK), PS (cxOf CX0 P w K mg base [pa, pb, pc, nw] x (defScope st) g (.ref (wkP K x).1) A outer s H E).nox (.Assign [.Name nw np1] (.List [.Lambda L0.params L0.body L0.scope l0] lp) ap)
        (tAsg (tLst (tCons (tMk (cxOf CX0 P w K mg base [pa, pb, pc, nw] x (defScope st) g (.ref (wkP K x).1) A outer s H E).nox (wkP K x).2 L0.params L0.body L0.scope false) tNil)) (gName 3)) ∧
      PS (cxOf CX0 P w K mg base [pa, pb, pc, nw] x (defScope st) g (.ref (wkP K x).1) A outer s H E).nox (.Expr (.Call (.Attribute (.Name nw np2) "append" atp) [.Lambda L1.params L1.body L1.scope l1] [] cp) ep)
        (tDrop (tBM K "list" rAppend (tVar 3) (tCons (tMk (cxOf CX0 P w K mg base [pa, pb, pc, nw] x (defScope st) g (.ref (wkP K x).1) A outer s H E).nox (wkP K x).2 L1.params L1.body L1.scope false) tNil))) ∧
      PE (cxOf CX0 P w K mg base [pa, pb, pc, nw] x (defScope st) g (.ref (wkP K x).1) A outer s H E).nox (.Name nw np3) (tVar 3)) :
    FnOk P w K mg base CX0 (k + 1) g fd [pa, pb, pc] (spWk K (wkP K x).2 [pa, pb, pc, nw] q L0 L1) := by
  obtain ⟨oc, od, kV, doc, pm, an, cdv, ct, osl, rfl, lk, hcd⟩ := F.ex
  obtain ⟨c, ec⟩ := He.codeIn_ref hcd
  have e2 : (wkP K x).1 = c := He.codeOf_eq (K := K) (p := (x, none)) (by show K.lookup (He.ga K _) = _; rw [← ef]; exact lk) ec
  have e3 : cdv = .ref (wkP K x).1 := by rw [e2]; exact ec
  rw [e3] at lk hcd ⊢
  refine ⟨fun vs H Q E h => h.1, fun A outer s H args us vs Q E hr e0 hb r ⟨hl, hT, q1⟩ => ?_⟩
  have KX : K.In s.heap := e0.mod.kin.keeps fun b o e => (e0.bs b o e).1
  have lim : s.heap.NoLimit := e0.mod.nolimit.keeps fun b o e => (e0.bs b o e).1
  have hkind : ∀ y ∈ [pa, pb, pc].zip us, (defScope st).names.lookup y.1 = some .local ∨ ((defScope st).names.lookup y.1 = some .cell ∧ ((cellsFrom (s.heap.objs.size + 1) (defScope st).names []).lookup y.1).isSome = true) := fun ⟨n, v⟩ hy => by
    rcases Sg.par n (List.of_mem_zip hy).1 with q | q
    · exact .inl q
    · exact .inr ⟨q, PySem.W.cellsFrom_some _ _ _ (.inl q)⟩
  refine codeAny_call_function hr.depth (KX _ _ lk) rfl Sg.co Sg.gen rfl (PySem.W.codeRec_of KX hcd) (hb _ _ _ _ ?_)
  refine wpAny_newFunctionEnv_cells Sg.kind hkind fun env he s1 x1 => ?_
  subst he
  refine ⟨lim.keeps x1.toInCall.keep, codeAny_func ?_⟩
  have I : Inv (cxOf CX0 P w K mg base [pa, pb, pc, nw] x (defScope st) g (.ref (wkP K x).1) A outer s H E).nox [] (start [pa, pb, pc, nw] vs) H s1 := (inv_start (E := E) (CX := CX0) Sg hr.hd e0 hl r x1).wish _
  obtain ⟨h1, h2, h3⟩ := hpe A outer s H E
  have hqX := hq A outer s H E
  have est : start [pa, pb, pc, nw] vs = vs.map some ++ List.replicate 1 none := start_len (by rw [hl]; rfl)
  have run := works_run (rp := rp) I h1 h2 h3 hT (by show (_, lamQ (cxOf CX0 P w K mg base [pa, pb, pc, nw] x (defScope st) g (.ref (wkP K x).1) A outer s H E)) ∈ tabsOf K; rw [hqX]; exact hm) (by rw [est, List.length_append, List.length_map, hl]; decide)
  rw [← hbd] at run
  refine wpAny_mono run (fun fl s' ⟨p, f0, f1, H4, efl, J, k4, t4, hp0, hp4, la0, la1⟩ => ?_) fun e s' z => z.elim
  subst efl
  obtain ⟨cl0, hcl0⟩ : ∃ cl, cl = cloFrom (cxOf CX0 P w K mg base [pa, pb, pc, nw] x (defScope st) g (.ref (wkP K x).1) A outer s H E).nox.env.cells L0.scope.names [] := ⟨_, rfl⟩
  obtain ⟨cl1, hcl1⟩ : ∃ cl, cl = cloFrom (cxOf CX0 P w K mg base [pa, pb, pc, nw] x (defScope st) g (.ref (wkP K x).1) A outer s H E).nox.env.cells L1.scope.names [] := ⟨_, rfl⟩
  have cc : ∀ c ∈ csOf cl0 ++ csOf cl1, H4 c = none ∧ (∃ o v, s'.heap.get? c = some o ∧ o.data = .cell v) ∧ s.heap.objs.size ≤ c := fun c hc => by
    rcases List.mem_append.mp hc with hc | hc
    · rw [hcl0] at hc
      obtain ⟨a1, a2, a3, _⟩ := clo_cells (scope := L0.scope) J (fun _ => rfl) (F0.has J.ok) hc
      exact ⟨a1, a2, a3⟩
    · rw [hcl1] at hc
      obtain ⟨a1, a2, a3, _⟩ := clo_cells (scope := L1.scope) J (fun _ => rfl) (F1.has J.ok) hc
      exact ⟨a1, a2, a3⟩
  have hn : ∀ c ∈ csOf cl0 ++ csOf cl1, H4 c = none := fun c hc => (cc c hc).1
  have hg : ∀ c ∈ csOf cl0 ++ csOf cl1, ∃ o, s'.heap.get? c = some o := fun c hc => by
    obtain ⟨_, ⟨o, v, ho, _⟩, _⟩ := cc c hc
    exact ⟨o, ho⟩
  have kp : ∀ b o, H4 b = some o → plusH s'.heap H4 (csOf cl0 ++ csOf cl1) b = some o := fun b o e => plus_some hn e
  have un : Un (frs outer) [] H H4 s.heap s'.heap := J.base
  have new : ∀ c ∈ csOf cl0 ++ csOf cl1, H c = none := fun c hc => e0.hok.fresh (cc c hc).2.2
  have hsub : ∀ (i : Nat) v, (vs.map some ++ List.replicate 1 none)[i]? = some (some v) → ((start [pa, pb, pc, nw] vs).set 3 (some (.ref p)))[i]? = some (some v) := fun i v e => by
    rw [est]
    by_cases z : 3 = i
    · subst z
      rw [List.getElem?_append_right (by simp [hl]), List.length_map, hl] at e
      cases e
    · rw [List.getElem?_set_ne z]
      exact e
  have T0 := (cloT_plusG (cs := csOf cl0 ++ csOf cl1) J (F0.has J.ok) (fun y h => F0.at h) (fun c hc => by rw [← hcl0] at hc; exact List.mem_append_left _ hc)).sub hsub
  have T1 := (cloT_plusG (cs := csOf cl0 ++ csOf cl1) J (F1.has J.ok) (fun y h => F1.at h) (fun c hc => by rw [← hcl1] at hc; exact List.mem_append_right _ hc)).sub hsub
  rw [← hcl0] at la0 T0
  rw [← hcl1] at la1 T1
  have la0 : LamAt q L0.params L0.body L0.scope cl0 H4 f0 false := hqX ▸ la0
  have la1 : LamAt q L1.params L1.body L1.scope cl1 H4 f1 false := hqX ▸ la1
  exact ⟨.ref p, plusH s'.heap H4 (csOf cl0 ++ csOf cl1), J.os, J.bare, ⟨fun b o g m n x => un.keep b o g m n x, fun b o g m n x => un.slot b o g m n x, fun b o g m x => by
      rw [plus_out (fun z => absurd (Nat.lt_of_lt_of_le (Heap.lt_size g) (cc b z).2.2) (Nat.lt_irrefl _))]
      exact un.free b o g m x, fun b o m => un.there b o m, fun b xs g => kp _ _ (un.tups b xs g), fun b o u g => kp _ _ (un.frzs b o u g), fun b ps g => by
      obtain ⟨more, e⟩ := un.tbls b ps g
      exact ⟨more, kp _ _ e⟩⟩, hok_plus hn hg J.hok, rfl,
    q1 p f0 f1 cl0 cl1 _ (fun b o nP e => kp b o (k4 b o nP e)) (t4.trans (.ex kp)) hp0 (kp _ _ hp4) ⟨la0.go fun b o e _ _ => kp b o e, T0, fun c hc => new c (List.mem_append_left _ hc)⟩ ⟨la1.go fun b o e _ _ => kp b o e, T1, fun c hc => new c (List.mem_append_right _ hc)⟩⟩
end
end SF

/-! ## Words of lambdas that lie in lists -/
namespace SF
open PySem PySem.Spec PyProof.Rows L2
/-- a lambda of the text and the reading of its body -/
structure KL (P : Program) (w : World) (K : PySem.W.Frag) (mg : Str → Option Value) (base : Heap) (C : Nat → Addr) (k : Nat) (N : List Str) (q : Str) (L : LamTx) (dflt : Bool) (wl : WE) : Prop where
  names : LamN N L.scope
  bind : LamB L.params L.body L.scope dflt
  body : ∀ (A : Around) (outer : List Env) (s : Shared) (H : Hp) (E : XK) (clo : List (Str × Addr)) (f c' : Addr), Room k (A.deeper (lamE q clo L.scope s.heap.objs.size f c')) → PEI (lamC P w K mg base N q clo A outer s H E L.scope f c') ⟨XR1 C, E⟩ L.body wl
/-- f() told as a word, f's cells known -/
def R2 (X : Cx) (C : Nat → Addr) (k : Nat) (f : Addr) (_ : L2.St) (H : Hp) (Q : VK) : Prop := spW X.prog X.w X.K X.mg X.base (k + 1) C [.ref f] H Q C8.E0
/-- .. f a lambda of the frame that runs -/
def R1 (X : Cx) (C : Nat → Addr) (k : Nat) (f : Addr) (σ : L2.St) (H : Hp) (Q : VK) : Prop := ∃ (L : LamTx) (dflt : Bool) (wl : WE) (Φ : Option Exn → Prop) (c : Cn) (ρ : Rho) (G : Hp), KL X.prog X.w X.K X.mg X.base C k X.N (lamQ X) L dflt wl ∧ FreeIn X.env.scope L.scope ∧
  LamAt (lamQ X) L.params L.body L.scope (cloFrom X.env.cells L.scope.names []) H f dflt ∧ Sat X.K c ρ σ G H ∧ wl ρ (fun _ => Φ none) (fun ex => Φ (some ex)) ∧ ∀ o v G2 H2, Φ o → Tr X.K ρ σ G H G2 H2 → Im X.K G2 (wordP o) v → Q v H2
section
variable {X : Cx} {C : Nat → Addr} {k : Nat} {g : Addr} {fd : FuncData} {a x : Str} {p pos : Pos}
abbrev Runs (X : Cx) (g : Addr) (R : Addr → L2.St → Hp → VK → Prop) : Prop := ∀ (pins : List (Addr × Obj)) (s : Shared) (σ : L2.St) (H : Hp) (Q : VK) (f : Addr), Inv X pins σ H s → R f σ H Q → codeAny (model X.prog X.w) X.A (.call (.ref g) ⟨[.ref f], []⟩) (CR CX0 X.stack X.prog X.w H s Q C8.E0) s
theorem runs2 (F : FnOk X.prog X.w X.K X.mg X.base CX0 (k + 2) g fd [a] (spW X.prog X.w X.K X.mg X.base (k + 1) C)) (hb : L2.Binds X.K fd [a] []) (hr : Room (k + 2) X.A) : Runs X g (R2 X C k) := fun pins s σ H Q f I h =>
  F.run X.A X.stack s H ⟨[.ref f], []⟩ [.ref f] [.ref f] Q C8.E0 hr I.env0 (hb s [.ref f] I.kIn rfl) (.cons rfl .nil) h
theorem runs1 (F : FnOk X.prog X.w X.K X.mg X.base CX0 (k + 2) g fd [a] (spW X.prog X.w X.K X.mg X.base (k + 1) C)) (hb : L2.Binds X.K fd [a] []) (hr : Room (k + 2) X.A) (hfn : ∀ y, X.fn y = true) : Runs X g (R1 X C k) := fun pins s σ H Q f I ⟨L, dflt, wl, Φ, c, ρ, G, kl, fr, la, S, hw, post⟩ =>
  word1 I F hb hr hfn kl.names (fr.has I.ok) (fun y h => fr.at h) kl.bind la (fun A outer s H E clo f c' hr2 => kl.body A outer s H E clo f c' hr2) S hw post
theorem Runs.or {R R' : Addr → L2.St → Hp → VK → Prop} (h : Runs X g R) (h' : Runs X g R') : Runs X g (fun f σ H Q => R f σ H Q ∨ R' f σ H Q) := fun pins s σ H Q f I q => q.elim (h pins s σ H Q f I) (h' pins s σ H Q f I)
def tWrd (R : Addr → L2.St → Hp → VK → Prop) (te : TE) : TE := fun σ H Q => te σ H fun v H1 => ∃ f, [v] = [V.ref f] ∧ R f σ H1 Q
/-- x(e) -/
theorem pe_wrd {R : Addr → L2.St → Hp → VK → Prop} {e : Expr} {te : TE} (hrun : Runs X g R) (hg : Gl X x) (hm : X.mg x = some (.ref g)) (hk : PySem.W.keepIn X.K (.ref g) = true) (he : PE X e te) (hdb : (x == ("__debug__" : Str)) = false := by decide)
    (hs : starEach [e] X.env = (false, eval e X.env) :: starEach [] X.env := by rfl) (hpl : (backTo pos (starEach [] X.env)).any (·.1) = false := by rfl) : PE X (.Call (.Name x p) [e] [] pos) (tWrd R te) := by
  refine ⟨fun pins s σ H Q I h => ?_⟩
  refine wpAny_Call_Name_kw (ld_glob I hg hm ?_ hdb)
  have ha : PA X [e] (tCons te tNil) := pa_cons he pa_nil hs
  refine PySem.W.callWith_K (h₀ := X.base) I.ok.mod.kin hk (thn (ha.run pos pins s σ H (fun vs H1 => ∃ f, vs = [.ref f] ∧ R f σ H1 Q) I ?_) fun us s1 ⟨vs, H1, I1, r, f, ev, q⟩ => ⟨I1.kIn, ?_⟩) hs hpl
  · exact h
  · subst ev
    obtain ⟨u, e1, ru⟩ := Vals.one r
    subst e1
    obtain rfl : u = Value.ref f := ru
    refine wpAny_call (codeAny_mono (hrun pins s1 σ H1 Q f I1 q) fun r s2 hq => ?_)
    cases r with
    | error e => exact (show False from hq).elim
    | ok fl =>
      cases fl with
      | ret u => exact I1.after hq
      | next => exact False.elim hq
      | brk => exact False.elim hq
      | cont => exact False.elim hq
end
section
variable {K : PySem.W.Frag} {c : Cn} {ρ : Rho} {σ : L2.St} {G H G' H' G1 H1 : Hp}
theorem rows_set {j : Nat} {o : Option V} (h : ρ[j]? ≠ some .row) (r : Addr) : IsRow (ρ.set j .no) (σ.set j o) r ↔ IsRow ρ σ r := by
  constructor
  · rintro ⟨i, e1, e2⟩
    have n : j ≠ i := fun z => by
      subst z
      have hj : j < ρ.length := by
        have := (List.getElem?_eq_some_iff.mp e1).1
        rwa [List.length_set] at this
      rw [List.getElem?_set_self hj] at e1
      cases e1
    rw [List.getElem?_set_ne n] at e1 e2
    exact ⟨i, e1, e2⟩
  · rintro ⟨i, e1, e2⟩
    have n : j ≠ i := fun z => h (by rw [z]; exact e1)
    exact ⟨i, by rw [List.getElem?_set_ne n]; exact e1, by rw [List.getElem?_set_ne n]; exact e2⟩
/-- what is no list is kept -/
theorem Tr.keepN (S : Sat K c ρ σ G H) (t : Tr K ρ σ G H G' H') {b : Addr} {o : HO} (e : H b = some o) (n : NTbl o) (nl : ∀ xs, o ≠ .lst xs) : H' b = some o :=
  t.keep b o e (fun z => by
    obtain ⟨_, s, ns, i, x, q, _⟩ := S.rowAt z
    rw [e] at q
    exact nl _ (Option.some.inj q)) n
/-- a list that is no row -/
theorem Tr.keepL (t : Tr K ρ σ G H G' H') {b : Addr} {xs : List V} (e : H b = some (.lst xs)) (n : ¬ IsRow ρ σ b) : H' b = some (.lst xs) := t.keep b _ e n ntL
theorem Sat.notRow (S : Sat K c ρ σ G H) {b : Addr} (e : H b = none) : ¬ IsRow ρ σ b := fun z => (S.rowAt z).there e
/-- a step that touches a table alone and makes new objects -/
theorem tr_tab (S : Sat K c ρ σ G H) {P : Addr} {tb : Array Value} (hP : H P = some (.tbl tb)) (hG : G P = none) (k1 : ∀ b o, b ≠ P → H b = some o → H' b = some o) (tk : TblK K H H') : Tr K ρ σ G H G H' :=
  ⟨.refl _, fun b o z => k1 b o (fun y => by rw [y] at z; rw [hG] at z; cases z) (S.ex2 b o z), fun b o z _ n => k1 b o (fun y => by rw [y, hP] at z; exact n _ (Option.some.inj z).symm) z, tk, fun _ z _ => z, fun r hr => by
    have z := S.rowAt hr
    exact z.go (.refl _) z.1 fun ys e => k1 _ _ (fun y => by rw [y, hP] at e; cases e) e⟩
end
/-- whatever comes: f() told as a word is e -/
def Item (K : PySem.W.Frag) (R : Addr → L2.St → Hp → VK → Prop) (ρ : Rho) (e : PyData) (G H : Hp) (f : Addr) : Prop := ∀ (c : Cn) (σ : L2.St) (G' H' : Hp) (Q : VK), Ex G G' → (∀ b o, H b = some o → NTbl o → (∀ xs, o ≠ .lst xs) → H' b = some o) → (∀ b, G b = none → H b ≠ none → G' b = none) → Sat K c ρ σ G' H' →
  (∀ o v G2 H2, e = wordP o → Tr K ρ σ G' H' G2 H2 → Im K G2 e v → Q v H2) → R f σ H' Q
section
variable {X : Cx} {C : Nat → Addr} {k : Nat} {ρ : Rho} {e : PyData} {G H : Hp} {f : Addr}
theorem Item.or1 {R R' : Addr → L2.St → Hp → VK → Prop} (h : Item X.K R ρ e G H f) : Item X.K (fun f σ H Q => R f σ H Q ∨ R' f σ H Q) ρ e G H f := fun c σ G' H' Q x a b S p => .inl (h c σ G' H' Q x a b S p)
theorem Item.or2 {R R' : Addr → L2.St → Hp → VK → Prop} (h : Item X.K R' ρ e G H f) : Item X.K (fun f σ H Q => R f σ H Q ∨ R' f σ H Q) ρ e G H f := fun c σ G' H' Q x a b S p => .inr (h c σ G' H' Q x a b S p)
theorem item1 {L : LamTx} {dflt : Bool} {wl : WE} (kl : KL X.prog X.w X.K X.mg X.base C k X.N (lamQ X) L dflt wl) (fr : FreeIn X.env.scope L.scope) (la : LamAt (lamQ X) L.params L.body L.scope (cloFrom X.env.cells L.scope.names []) H f dflt)
    (hw : wl ρ (fun _ => e = wordP none) (fun ex => e = wordP (some ex))) : Item X.K (R1 X C k) ρ e G H f := fun c σ G' H' Q x a b S p =>
  ⟨L, dflt, wl, fun o => e = wordP o, c, ρ, G', kl, fr, la.go a, S, hw, fun o v G2 H2 ho t im => p o v G2 H2 ho t (by rw [ho]; exact im)⟩
theorem item2 {N : List Str} {q : Str} {L : LamTx} {wl : WE} {vs : List V} {ds : List PyData} {n : Nat} {H0 : Hp} {clo : List (Str × Addr)} (kl : KL X.prog X.w X.K X.mg X.base C k N q L false wl) (wk : WkAt N q L vs n H0 H f clo) (hN : N.length = vs.length + n) (gn : ∀ c ∈ csOf clo, G c = none) (il : ImL X.K G ds vs)
    (hw : wl (startE (ds.map .dat) n) (fun _ => e = wordP none) (fun ex => e = wordP (some ex))) : Item X.K (R2 X C k) ρ e G H f := fun c σ G' H' Q x a b S p => by
  refine word2 (Φ := fun o => e = wordP o) kl.names kl.bind (wk.lam.go a) (wk.cel.go a) hN (il.mono x) (fun c hc => b c (gn c hc) ?_) (fun A outer s H E clo f c' hr2 => kl.body A outer s H E clo f c' hr2) S hw (fun o v G2 H2 ho t im => p o v G2 H2 ho t (by rw [ho]; exact im))
  obtain ⟨y, hy⟩ := mem_csOf.mp hc
  obtain ⟨o, v, ho, _⟩ := wk.cel.cell y c hy
  rw [ho]
  exact fun z => by cases z
/-- word(w) != e is false -/
theorem shp_wd : ∀ o : Option Exn, Shp 1 (wordP o)
  | none => .tup2 (.str (by decide +kernel)) .none
  | some ⟨0, v⟩ => .tup2 (.str (by decide +kernel)) .int
  | some ⟨1, v⟩ => .tup2 (.str (by decide +kernel)) .none
  | some ⟨2, v⟩ => .tup2 (.str (by decide +kernel)) .none
  | some ⟨3, v⟩ => .tup2 (.str (by decide +kernel)) .int
  | some ⟨k + 4, v⟩ => .tup2 (.str (by decide +kernel)) .int
theorem test_ok {b : Bs} {c : Cn} {σ : L2.St} {te : TE} {wE : WE} {Q : Bool → Hp → Prop} (S : Sat X.K c ρ σ G H) (hw : ∀ Q : VK, (∀ o v G2 H2, e = wordP o → Tr X.K ρ σ G H G2 H2 → Im X.K G2 e v → Q v H2) → te σ H Q) (hE : wE ρ (fun r => r.frz = e) (fun _ => False)) (post : ∀ G3 H3, Tr X.K ρ σ G H G3 H3 → Q false H3) :
    tTest (tOp (rNeD X.K) te (teOf X.K b wE)) σ H Q := by
  refine hw _ fun o v2 G2 H2 ho t2 i2 => ⟨c, ρ, G2, _, _, S.tr t2, hE, fun v3 r3 G3 H3 t3 o3 h3 => ?_, fun _ _ _ _ _ _ _ z => z.elim⟩
  obtain ⟨G4, t4, i4⟩ := freeze (S.tr t2) t3 o3
  rw [h3] at i4
  have S4 := (S.tr t2).tr t4
  have hs : SeqAt.shaped e = true := by rw [ho]; exact (shp_wd o).shaped (by decide)
  refine ⟨e, e, (i2.mono t4.eg).dp S4.ex2, i4.dp S4.ex2, hs, hs, false, ?_, post G4 H3 (t2.trans t4)⟩
  rw [show PyData.eqv e e = true by rw [ho]; exact SeqAt.eqv_refl _ (shp_wd o).1]
  rfl
end
end SF

/-! ## [w for w in works(..) if word(w) != k] -/
namespace SF
open PySem PySem.Spec PyProof.Rows L2
/-- a lambda of a list that was given, ready to be called -/
structure WkIn (K : PySem.W.Frag) (N : List Str) (q : Str) (L : LamTx) (ds : List PyData) (vs : List V) (G H : Hp) (f : Addr) : Prop where
  ex : ∃ H0 clo, WkAt N q L vs 1 H0 H f clo ∧ ∀ c ∈ csOf clo, G c = none
theorem call_works {K : PySem.W.Frag} {b : Bs} {c : Cn} {ρ : Rho} {σ : L2.St} {G H : Hp} {P a : Addr} {q0 q : Str} {N : List Str} {L0 L1 : LamTx} {wa : WA} {Ψ : List PyData → Prop} {Ξ : Exn → Prop} {E : XK} {Q : VK} (S : Sat K c ρ σ G H) (hρ : ρ[0]? = some (.val (tabK a))) (hPm : (P, q0) ∈ tabsOf K)
    (hw : wa ρ Ψ Ξ) (ex : ExcE K b ρ σ G H Ξ)
    (post : ∀ (vs : List V) (ds : List PyData) (l f0 f1 : Addr) (G1 H2 : Hp), Ψ ds → ds.length = 3 → Tr K ρ σ G H G1 H2 → ImL K G1 ds vs → H l = none → H2 l = some (.lst [.ref f0, .ref f1]) → WkIn K N q L0 ds vs G1 H2 f0 → WkIn K N q L1 ds vs G1 H2 f1 → Q (.ref l) H2) :
    tCall (spWk K P N q L0 L1) [] E (taOf K b 3 wa) σ H Q := by
  refine ⟨c, ρ, G, Ψ, Ξ, S, hw, fun vs ds G1 H1 t1 il hl hΨ => ?_, ex⟩
  have S1 := S.tr t1
  obtain ⟨_, hTabs, hGP⟩ := S1.valAt hρ
  obtain ⟨tb, htb, _⟩ := hTabs _ hPm
  show spWk K P N q L0 L1 (vs ++ []) H1 Q E
  rw [List.append_nil]
  refine ⟨by rw [← il.len]; exact hl, hTabs, fun l f0 f1 clo0 clo1 H2 k2 tk hl0 hl2 w0 w1 => ?_⟩
  have t2 : Tr K ρ σ G1 H1 G1 H2 := tr_tab S1 htb (hGP _ hPm) k2 tk
  have gn : ∀ b, H1 b = none → G1 b = none := fun b h => S1.ex2.back h
  exact post vs ds l f0 f1 G1 H2 hΨ hl (t1.trans t2) il (t1.back hl0) hl2 ⟨H1, clo0, w0, fun c hc => gn c (w0.new c hc)⟩ ⟨H1, clo1, w1, fun c hc => gn c (w1.new c hc)⟩
section
variable {X : Cx} {b : Bs} {C : Nat → Addr} {k : Nat}
theorem WkIn.item {N : List Str} {q : Str} {L : LamTx} {wl : WE} {vs : List V} {ds : List PyData} {ρ : Rho} {e : PyData} {G H : Hp} {f : Addr} (i : WkIn X.K N q L ds vs G H f) (kl : KL X.prog X.w X.K X.mg X.base C k N q L false wl) (hN : N.length = 4) (hl : ds.length = 3) (il : ImL X.K G ds vs)
    (hw : wl (startE (ds.map .dat) 1) (fun _ => e = wordP none) (fun ex => e = wordP (some ex))) : Item X.K (R2 X C k) ρ e G H f := by
  obtain ⟨H0, clo, wk, gn⟩ := i.ex
  exact item2 kl wk (by rw [hN, ← il.len, hl]) gn il hw
def wWorksC (j : Nat) (wa : WA) (wk : WE) (w0 w1 : WE) : WE := fun ρ Φ Ξ => (∃ a, ρ[0]? = some (.val (tabK a))) ∧ (noRow ρ [j] = true ∧ j < ρ.length) ∧ wa ρ (fun ds => ∃ e, wk (ρ.set j .no) (fun r => r.frz = e) (fun _ => False) ∧ w0 (startE (ds.map .dat) 1) (fun _ => e = wordP none) (fun ex => e = wordP (some ex)) ∧
  w1 (startE (ds.map .dat) 1) (fun _ => e = wordP none) (fun ex => e = wordP (some ex)) ∧ Φ (.lst [])) Ξ
theorem pei_worksC {P : Addr} {q0 q : Str} {N : List Str} {L0 L1 : LamTx} {w0 w1 : WE} {wa : WA} {wk : WE} {j : Nat} {nw : Str} {np np3 pos2 pos : Pos} {ecall t1 t2 : Expr} {scope : Scope} (hc : X.calm = true) (hN : X.N.Nodup) (hPm : (P, q0) ∈ tabsOf X.K) (hNl : N.length = 4)
    (kl0 : KL X.prog X.w X.K X.mg X.base C k N q L0 false w0) (kl1 : KL X.prog X.w X.K X.mg X.base C k N q L1 false w1) (ok : BlkOk X.N X.env.scope scope [(nw, j)])
    (hcall : PE X ecall (tCall (spWk X.K P N q L0 L1) [] b.E (taOf X.K b 3 wa)))
    (hg : ∀ (s : Shared) (H : Hp) (C : Addr) (cl : List (Str × Addr)) (fp : List Addr), PG (X.blk s H scope (compEnvC scope cl C X.env) fp) (.Name nw np) (gName j))
    (ht : ∀ (s : Shared) (H : Hp) (C1 : Addr) (cl : List (Str × Addr)) (fp : List Addr), PT (X.blk s H scope (compEnvC scope cl C1 X.env) fp) (.Compare t1 [.NotEq] [t2] pos2) (tTest (tOp (rNeD X.K) (tWrd (R2 X C k) (tVar j)) (teOf X.K b wk))))
    (he : ∀ (s : Shared) (H : Hp) (C : Addr) (cl : List (Str × Addr)) (fp : List Addr), PE (X.blk s H scope (compEnvC scope cl C X.env) fp) (.Name nw np3) (tVar j))
    (hs : ∀ x, foldedSetIterable ecall X.env x = pure x := by intro _; rfl) : PEI X b (.ListComp (.Name nw np3) [⟨.Name nw np, ecall, [.Compare t1 [.NotEq] [t2] pos2], 0⟩] scope pos) (wWorksC j wa wk w0 w1) :=
  pei_of (pe_lc hc hN (pi_list hcall) ok hg (fun s H C cl fp => pts_one (ht s H C cl fp)) he hs) fun c ρ σ G H Φ Ξ Q S hw p ex => by
    obtain ⟨⟨a, hρ⟩, ⟨hnr, hj⟩, hw⟩ := hw
    refine call_works S hρ hPm hw ex fun vs ds l f0 f1 G1 H2 hΨ hl tr il hl0 hl2 i0 i1 => ?_
    obtain ⟨e, he, h0, h1, hΦ⟩ := hΨ
    have S1 := S.tr tr
    refine ⟨l, rfl, ⟨_, sq_of hl2⟩, fun D hD => ?_⟩
    have hjr : ρ[j]? ≠ some .row := fun z => by
      have := List.all_eq_true.mp hnr j (List.mem_singleton.mpr rfl)
      rw [z] at this
      cases this
    have it : ∀ f, f = f0 ∨ f = f1 → Item X.K (R2 X C k) (ρ.set j .no) e G1 H2 f := fun f h => by
      rcases h with h | h
      · subst h
        exact i0.item kl0 hNl hl il h0
      · subst h
        exact i1.item kl1 hNl hl il h1
    have nl : ¬ IsRow ρ σ l := S.notRow hl0
    refine lc_list (xs := [.ref f0, .ref f1]) (fun i H' => ∃ G', Tr X.K ρ σ G1 H2 G' H' ∧ H' D = some (.lst []) ∧ G' D = none) ⟨G1, Tr.newH S1 hD, upd_same, S1.ex2.back hD⟩ (fun i H' _ ⟨G', t, _⟩ => sq_of (t.keepL hl2 nl)) (fun i x H' hx ⟨G', t, k1, k2⟩ => ?_) (fun H' ⟨G', t, k1, k2⟩ => ?_)
    · have hf : ∃ f, x = .ref f ∧ (f = f0 ∨ f = f1) := by
        match i, hx with
        | 0, hx => cases hx; exact ⟨f0, rfl, .inl rfl⟩
        | 1, hx => cases hx; exact ⟨f1, rfl, .inr rfl⟩
      obtain ⟨f, rfl, hf⟩ := hf
      have ew : (wipe σ [j]).set j (some (V.ref f)) = σ.set j (some (V.ref f)) := List.set_set ..
      have S2 : Sat X.K c (ρ.set j .no) ((wipe σ [j]).set j (some (V.ref f))) G' H' := by rw [ew]; exact (S1.tr t).setNo
      refine ⟨?_, ?_⟩
      · show ((wipe σ [j]).set j (some (V.ref f))).set j none = σ.set j none
        rw [ew]
        exact List.set_set ..
      · have hjσ : j < (wipe σ [j]).length := by rw [wipe_length, ← S.len]; exact hj
        refine test_ok (e := e) S2 (fun Q' hq => ⟨.ref f, List.getElem?_set_self hjσ, f, rfl, it f hf c _ G' H' Q' t.eg (fun b o z n m => t.keepN S1 z n m) (fun b z z' => t.avoid b z z') S2 hq⟩) he fun G3 H3 t3 => ?_
        rw [if_neg (by decide)]
        have t3' : Tr X.K ρ σ G' H' G3 H3 := (show Tr X.K (ρ.set j .no) ((wipe σ [j]).set j (some (V.ref f))) G' H' G3 H3 from t3).lift fun r => by rw [ew]; exact rows_set hjr r
        have nD : ¬ IsRow ρ σ D := S1.notRow hD
        exact ⟨G3, t.trans t3', t3'.keepL k1 nD, t3'.avoid D k2 (by rw [k1]; exact fun z => by cases z)⟩
    · exact p (.ref D) (.lst []) G' H' (tr.trans t) ⟨D, [], rfl, tr.back hD, k2, k1, .nil⟩ hΦ
end
end SF

/-! ## x = [l0, l1, l2]; x.append(l3); for w in x + works(..) * int(t): if word(w) != e: return False -/
namespace SF
open PySem PySem.Spec PyProof.Rows L2
theorem WkIn.go {K : PySem.W.Frag} {c : Cn} {ρ : Rho} {σ : L2.St} {N : List Str} {q : Str} {L : LamTx} {vs : List V} {ds : List PyData} {G H G' H' : Hp} {f : Addr} (i : WkIn K N q L ds vs G H f) (S : Sat K c ρ σ G H) (t : Tr K ρ σ G H G' H') : WkIn K N q L ds vs G' H' f := by
  obtain ⟨H0, clo, wk, gn⟩ := i.ex
  refine ⟨H0, clo, ⟨wk.lam.go fun b o e n nl => t.keepN S e n nl, wk.cel.go fun b o e n nl => t.keepN S e n nl, wk.new⟩, fun c hc => t.avoid c (gn c hc) ?_⟩
  obtain ⟨y, hy⟩ := mem_csOf.mp hc
  obtain ⟨o, v, ho, _⟩ := wk.cel.cell y c hy
  rw [ho]
  exact fun z => by cases z
theorem LamAt.tr {K : PySem.W.Frag} {c : Cn} {ρ : Rho} {σ : L2.St} {G H G' H' : Hp} {q : Str} {params : Arguments} {body : Expr} {scope : Scope} {clo : List (Str × Addr)} {f : Addr} {dflt : Bool} (l : LamAt q params body scope clo H f dflt) (S : Sat K c ρ σ G H) (t : Tr K ρ σ G H G' H') : LamAt q params body scope clo H' f dflt :=
  l.go fun b o e n nl => t.keepN S e n nl
abbrev LawLam (X : Cx) (L : LamTx) (dflt : Bool) (H : Hp) (f : Addr) : Prop := LamAt (lamQ X) L.params L.body L.scope (cloFrom X.env.cells L.scope.names []) H f dflt
section
variable {X : Cx} {b : Bs} {C : Nat → Addr} {k : Nat}
theorem mk_lam {c : Cn} {ρ : Rho} {σ : L2.St} {G H : Hp} {P a : Addr} {L : LamTx} {dflt : Bool} {Q : VK} (S : Sat X.K c ρ σ G H) (hρ : ρ[0]? = some (.val (tabK a))) (hPm : (P, lamQ X) ∈ tabsOf X.K)
    (post : ∀ f H1, Tr X.K ρ σ G H G H1 → LawLam X L dflt H1 f → Q (.ref f) H1) : tMk X P L.params L.body L.scope dflt σ H Q := by
  obtain ⟨_, hTabs, hGP⟩ := S.valAt hρ
  obtain ⟨tb, htb, _⟩ := hTabs _ hPm
  refine ⟨hTabs, fun f c' dV pm ctv doc H1 k1 tk nf hf hc hd => post f H1 (tr_tab S htb (hGP _ hPm) k1 tk) ⟨dV, doc, pm, c', ctv, hf, hc, ?_⟩⟩
  cases dflt with
  | false => exact hd
  | true =>
    rw [if_pos rfl] at hd ⊢
    obtain ⟨T, e, _, hT⟩ := hd
    exact ⟨T, e, hT⟩
abbrev wordIs (wl : WE) (ρ : Rho) (e : PyData) : Prop := wl ρ (fun _ => e = wordP none) (fun ex => e = wordP (some ex))
def wWorksF (i j : Nat) (wa : WA) (wt wE w0 w1 v0 v1 v2 v3 : WE) (u : WS) : WS := fun ρ Ψ => (∃ a, ρ[0]? = some (.val (tabK a))) ∧ (noRow ρ [i, j] = true ∧ i < ρ.length ∧ j < ρ.length ∧ 0 < i ∧ i ≠ j) ∧
  wa (ρ.set i .no) (fun ds => wt (ρ.set i .no) (fun r => ∃ t : Bool, r.frz = .int (if t = true then 1 else 0) ∧ ∃ e, wE ((ρ.set i .no).set j .no) (fun r => r.frz = e) (fun _ => False) ∧
    (wordIs v0 ((ρ.set i .no).set j .no) e ∧ wordIs v1 ((ρ.set i .no).set j .no) e ∧ wordIs v2 ((ρ.set i .no).set j .no) e ∧ wordIs v3 ((ρ.set i .no).set j .no) e) ∧ (t = true → wordIs w0 (startE (ds.map .dat) 1) e ∧ wordIs w1 (startE (ds.map .dat) 1) e) ∧ u ((ρ.set i .no).set j .no) Ψ) (fun _ => False)) (fun _ => False)
theorem psis_worksF {P Pw : Addr} {q0 q : Str} {N : List Str} {L0 L1 A0 A1 A2 A3 : LamTx} {w0 w1 v0 v1 v2 v3 : WE} {wa : WA} {wt wE : WE} {i j : Nat} {st1 st2 st3 : Stmt} {rest : List Stmt} {u : WS} {tr : TS} (hPm : (P, lamQ X) ∈ tabsOf X.K) (hPw : (Pw, q0) ∈ tabsOf X.K) (hNl : N.length = 4)
    (kl0 : KL X.prog X.w X.K X.mg X.base C k N q L0 false w0) (kl1 : KL X.prog X.w X.K X.mg X.base C k N q L1 false w1)
    (ka0 : KL X.prog X.w X.K X.mg X.base C k X.N (lamQ X) A0 false v0) (ka1 : KL X.prog X.w X.K X.mg X.base C k X.N (lamQ X) A1 true v1) (ka2 : KL X.prog X.w X.K X.mg X.base C k X.N (lamQ X) A2 true v2) (ka3 : KL X.prog X.w X.K X.mg X.base C k X.N (lamQ X) A3 false v3)
    (fa0 : FreeIn X.env.scope A0.scope) (fa1 : FreeIn X.env.scope A1.scope) (fa2 : FreeIn X.env.scope A2.scope) (fa3 : FreeIn X.env.scope A3.scope)
    (h1 : PS X st1 (tAsg (tLst (tCons (tMk X P A0.params A0.body A0.scope false) (tCons (tMk X P A1.params A1.body A1.scope true) (tCons (tMk X P A2.params A2.body A2.scope true) tNil)))) (gName i)))
    (h2 : PS X st2 (tDrop (tBM X.K "list" rAppend (tVar i) (tCons (tMk X P A3.params A3.body A3.scope false) tNil))))
    (h3 : PS X st3 (tFor (iList X.K (tOp rCat (tVar i) (tOp rRep (tCall (spWk X.K Pw N q L0 L1) [] b.E (taOf X.K b 3 wa)) (teOf X.K b wt)))) (gName j) (tIfS (tTest (tOp (rNeD X.K) (tWrd (fun f σ H Q => R1 X C k f σ H Q ∨ R2 X C k f σ H Q) (tVar j)) (teOf X.K b wE))) tr tNext)))
    (hr : PSsI X b rest u) : PSsI X b (st1 :: st2 :: st3 :: rest) (wWorksF i j wa wt wE w0 w1 v0 v1 v2 v3 u) :=
  pss_imp (pss_cons h1 (pss_cons h2 (pss_cons h3 hr))) fun D σ H ⟨c, ρ, G, Ψ, S, ⟨⟨a, hρ⟩, ⟨hnr, hi, hj, hi0, hij⟩, hw⟩, p⟩ => by
    have nr : ∀ m, m = i ∨ m = j → ρ[m]? ≠ some .row := fun m hm z => by
      have := List.all_eq_true.mp hnr m (by rcases hm with h | h <;> simp [h])
      rw [z] at this
      cases this
    have hir := nr i (.inl rfl)
    have hjr : (ρ.set i .no)[j]? ≠ some .row := by
      rw [List.getElem?_set_ne hij]
      exact nr j (.inr rfl)
    have hρi : (ρ.set i .no)[0]? = some (.val (tabK a)) := by
      rw [List.getElem?_set_ne (Nat.ne_of_gt hi0)]
      exact hρ
    have hiσ : i < σ.length := by rw [← S.len]; exact hi
    unfold tSeq tAsg tLst tCons
    refine mk_lam S hρ hPm fun f0 H1 t1 la0 => ?_
    have S1 := S.tr t1
    refine mk_lam S1 hρ hPm fun f1 H2 t2 la1 => ?_
    have S2 := S1.tr t2
    refine mk_lam S2 hρ hPm fun f2 H3 t3 la2 => ?_
    have S3 := S2.tr t3
    refine ⟨by show 3 ≤ sizeLine; decide, fun l hl => ?_⟩
    have hGl : G l = none := S3.ex2.back hl
    have tN : Tr X.K ρ σ G H3 G (upd H3 l (.lst [.ref f0, .ref f1, .ref f2])) := Tr.newH S3 hl
    have S4 : Sat X.K c (ρ.set i .no) (σ.set i (some (.ref l))) G (upd H3 l (.lst [.ref f0, .ref f1, .ref f2])) := (S3.tr tN).setNo
    have gi : (σ.set i (some (.ref l)))[i]? = some (some (.ref l)) := List.getElem?_set_self hiσ
    have nl : ¬ IsRow ρ σ l := S3.notRow hl
    have lft : ∀ r, IsRow (ρ.set i .no) (σ.set i (some (.ref l))) r ↔ IsRow ρ σ r := fun r => rows_set hir r
    have nl' : ¬ IsRow (ρ.set i .no) (σ.set i (some (.ref l))) l := fun z => nl ((lft l).mp z)
    refine ⟨.ref l, gi, .inl ⟨rfl, _, .inl (.inl upd_same)⟩, ?_⟩
    refine mk_lam S4 hρi hPm fun f3 H5 t5 la3 => ?_
    have hl5 : H5 l = some (.lst [.ref f0, .ref f1, .ref f2]) := t5.keepL upd_same nl'
    refine ⟨l, _, .ref f3, rfl, rfl, hl5, by show 3 < sizeLine; decide, ?_⟩
    have t36 : Tr X.K ρ σ G H3 G (upd H5 l (.lst [.ref f0, .ref f1, .ref f2, .ref f3])) := Tr.side S3 (tN.trans (t5.lift lft)) hl hGl hl5
    have S6 : Sat X.K c (ρ.set i .no) (σ.set i (some (.ref l))) G (upd H5 l (.lst [.ref f0, .ref f1, .ref f2, .ref f3])) := (S3.tr t36).setNo
    have lb0 : LawLam X A0 false (upd H5 l (.lst [.ref f0, .ref f1, .ref f2, .ref f3])) f0 := ((la0.tr S1 t2).tr S2 t3).tr S3 t36
    have lb1 : LawLam X A1 true (upd H5 l (.lst [.ref f0, .ref f1, .ref f2, .ref f3])) f1 := (la1.tr S2 t3).tr S3 t36
    have lb2 : LawLam X A2 true (upd H5 l (.lst [.ref f0, .ref f1, .ref f2, .ref f3])) f2 := la2.tr S3 t36
    have lb3 : LawLam X A3 false (upd H5 l (.lst [.ref f0, .ref f1, .ref f2, .ref f3])) f3 := la3.go fun b o e n nl => by
      rw [upd_ne (fun z => by rw [z, hl5] at e; exact nl _ (Option.some.inj e).symm)]
      exact e
    refine ⟨.ref l, gi, ?_⟩
    refine call_works S6 hρi hPw hw (fun _ _ _ _ _ _ _ z => z.elim) fun vs ds lw g0 g1 G7 H7 hΨ hds t7 il hlw0 hlw iw0 iw1 => ?_
    have S7 := S6.tr t7
    refine ⟨c, _, G7, _, _, S7, hΨ, fun v r G8 H8 t8 o8 h8 => ?_, fun _ _ _ _ _ _ _ z => z.elim⟩
    obtain ⟨t, er, e, hE, ⟨hv0, hv1, hv2, hv3⟩, hws, hu⟩ := h8
    obtain ⟨G9, t9, im9⟩ := freeze S7 t8 o8
    rw [er, im_int] at im9
    have hlw8 : H8 lw = some (.lst [.ref g0, .ref g1]) := t9.keepL hlw (S6.notRow hlw0)
    have hl6 : (upd H5 l (.lst [.ref f0, .ref f1, .ref f2, .ref f3])) l = some (.lst [.ref f0, .ref f1, .ref f2, .ref f3]) := upd_same
    have hl8 : H8 l = some (.lst [.ref f0, .ref f1, .ref f2, .ref f3]) := t9.keepL (t7.keepL hl6 nl') nl'
    have S9 := S7.tr t9
    refine ⟨lw, (if t = true then 1 else 0), [.ref g0, .ref g1], rfl, im9, hlw8, by cases t <;> decide, by cases t <;> decide, by cases t <;> first | (show (0 : Nat) ≤ sizeLine; decide) | (show (2 : Nat) ≤ sizeLine; decide), fun m hm => ?_⟩
    have tm := Tr.newH (o := .lst (List.replicate (if t = true then (1 : Int) else 0).toNat [V.ref g0, V.ref g1]).flatten) S9 hm
    have S10 := S9.tr tm
    have nlm : l ≠ m := fun z => by rw [z, hm] at hl8; cases hl8
    refine ⟨l, m, _, _, rfl, rfl, by rw [upd_ne nlm]; exact hl8, upd_same, by cases t <;> first | (show (4 : Nat) ≤ sizeLine; decide) | (show (6 : Nat) ≤ sizeLine; decide), fun z hz => ?_⟩
    have tz := Tr.newH (o := .lst ([V.ref f0, .ref f1, .ref f2, .ref f3] ++ (List.replicate (if t = true then (1 : Int) else 0).toNat [V.ref g0, V.ref g1]).flatten)) S10 hz
    have S11 := S10.tr tz
    have tt := t9.trans (tm.trans tz)
    have nz : ¬ IsRow (ρ.set i .no) (σ.set i (some (.ref l))) z := S10.notRow hz
    have items : ∀ x, x ∈ [V.ref f0, .ref f1, .ref f2, .ref f3] ++ (List.replicate (if t = true then (1 : Int) else 0).toNat [V.ref g0, V.ref g1]).flatten → ∃ f, x = .ref f ∧ Item X.K (fun f σ H Q => R1 X C k f σ H Q ∨ R2 X C k f σ H Q) ((ρ.set i .no).set j .no) e G9 _ f := fun x hx => by
      have t711 := t7.trans tt
      rcases List.mem_append.mp hx with hx | hx
      · have c1 : x = .ref f0 ∨ x = .ref f1 ∨ x = .ref f2 ∨ x = .ref f3 := by simpa using hx
        rcases c1 with h | h | h | h
        · exact ⟨f0, h, (item1 ka0 fa0 (lb0.tr S6 t711) hv0).or1⟩
        · exact ⟨f1, h, (item1 ka1 fa1 (lb1.tr S6 t711) hv1).or1⟩
        · exact ⟨f2, h, (item1 ka2 fa2 (lb2.tr S6 t711) hv2).or1⟩
        · exact ⟨f3, h, (item1 ka3 fa3 (lb3.tr S6 t711) hv3).or1⟩
      · cases t with
        | false => exact absurd hx (by simp)
        | true =>
          obtain ⟨hw0, hw1⟩ := hws rfl
          have c1 : x = .ref g0 ∨ x = .ref g1 := by simpa using hx
          have il2 := il.mono tt.eg
          rcases c1 with h | h
          · exact ⟨g0, h, ((iw0.go S7 tt).item kl0 hNl hds il2 hw0).or2⟩
          · exact ⟨g1, h, ((iw1.go S7 tt).item kl1 hNl hds il2 hw1).or2⟩
    have hjσ : j < (σ.set i (some (V.ref l))).length := by rw [List.length_set, ← S.len]; exact hj
    refine ⟨z, rfl, ⟨_, sq_of upd_same⟩, for_list (xs := [V.ref f0, .ref f1, .ref f2, .ref f3] ++ (List.replicate (if t = true then (1 : Int) else 0).toNat [V.ref g0, V.ref g1]).flatten) (fun n σ' H' => ∃ o G', σ' = (σ.set i (some (.ref l))).set j o ∧ Tr X.K (ρ.set i .no) (σ.set i (some (.ref l))) G9 (upd (upd H8 m (.lst (List.replicate (if t = true then (1 : Int) else 0).toNat [V.ref g0, V.ref g1]).flatten)) z (.lst ([V.ref f0, .ref f1, .ref f2, .ref f3] ++ (List.replicate (if t = true then (1 : Int) else 0).toNat [V.ref g0, V.ref g1]).flatten))) G' H')
      ⟨_, G9, (List.set_getElem_self hjσ).symm, .refl S11⟩ (fun n σ' H' _ ⟨o, G', _, t⟩ => sq_of (t.keepL upd_same nz)) (fun n x σ' H' hx ⟨o, G', eσ, t⟩ => ?_) (fun σ' H' ⟨o, G', eσ, t⟩ => ?_)⟩
    · obtain ⟨f, rfl, it⟩ := items x (List.mem_of_getElem? hx)
      subst eσ
      show tIfS _ tr tNext _ (((σ.set i (some (V.ref l))).set j o).set j (some (V.ref f))) H'
      rw [List.set_set]
      have S12 : Sat X.K c ((ρ.set i .no).set j .no) ((σ.set i (some (V.ref l))).set j (some (V.ref f))) G' H' := (S11.tr t).setNo
      refine test_ok (e := e) S12 (fun Q' hq => ⟨.ref f, List.getElem?_set_self hjσ, f, rfl, it c _ G' H' Q' t.eg (fun b o z n m => t.keepN S11 z n m) (fun b z z' => t.avoid b z z') S12 hq⟩) hE fun G3 H3 t3 => ?_
      rw [if_neg (by decide)]
      exact ⟨some (.ref f), G3, rfl, t.trans (t3.lift fun r => rows_set hjr r)⟩
    · subst eσ
      exact ⟨c, (ρ.set i .no).set j .no, G', Ψ, (S11.tr t).setNo, hu, p⟩
end
end SF

namespace SF
open PySem PySem.Spec PyProof.Rows L2
/-! ### parameters -/
theorem lamB_no {params : Arguments} {body : Expr} {scope : Scope} (h : ∀ (q : Str) (clo : List (Str × Addr)) (doc pm : Value) (c' : Addr) (ctv : Value), bindArgs (PySem.W.kdv_fn "<lambda>" q params (.expr body) scope clo .none doc pm (.ref c') ctv) ⟨[], []⟩ = pure []) : LamB params body scope false :=
  ⟨fun P w q H dV hd clo doc pm c' ctv s _ => by
    rw [if_neg (by decide)] at hd
    subst hd
    exact ⟨[], .of_eq (h q clo doc pm c' ctv), fun y hy => by cases hy⟩⟩
theorem lamB_d {params : Arguments} {body : Expr} {scope : Scope} {y : Str} (hl : scope.names.lookup y = some .local) (h : ∀ (q : Str) (clo : List (Str × Addr)) (T : Addr) (doc pm : Value) (c' : Addr) (ctv : Value), ∃ k : Option (Array Value) → Sem (List (Str × Value)),
    bindArgs (PySem.W.kdv_fn "<lambda>" q params (.expr body) scope clo (.ref T) doc pm (.ref c') ctv) ⟨[], []⟩ = (seqItems? (.ref T) >>= k) ∧ ∀ u : Value, k (some #[u]) = pure [(y, u)]) : LamB params body scope true :=
  ⟨fun P w q H dV hd clo doc pm c' ctv s ok => by
    rw [if_pos rfl] at hd
    obtain ⟨T, e, hT⟩ := hd
    subst e
    obtain ⟨k, h1, h2⟩ := h q clo T doc pm c' ctv
    obtain ⟨_, its, rv, o, ho, hcls, n, hdat⟩ := (show ObjOk P w H s.heap T (.tup [.int 0]) from ok T _ hT)
    obtain ⟨u, e2, _⟩ := Vals.one rv
    subst e2
    exact ⟨[(y, u)], BindsTo.of_defaults rfl ho hdat h1 (h2 u), fun z hz => by rw [List.mem_singleton.mp hz]; exact hl⟩⟩
section
variable {X : Cx} {b : Bs} {C : Nat → Addr} {k : Nat}
/-- x(lambda: body), x(lambda y=0: body), in the law's own frame -/
theorem pei_word3 {x : Str} {g P : Addr} {params : Arguments} {body : Expr} {scope : Scope} {dflt : Bool} {wl : WE} {p lpos pos : Pos} (hPm : (P, lamQ X) ∈ tabsOf X.K) (hrun : Runs X g (R1 X C k)) (hm : X.mg x = some (.ref g)) (hk : PySem.W.keepIn X.K (.ref g) = true)
    (he : PE X (.Lambda params body scope lpos) (tMk X P params body scope dflt)) (fr : FreeIn X.env.scope scope) (kl : KL X.prog X.w X.K X.mg X.base C k X.N (lamQ X) ⟨params, body, scope⟩ dflt wl) (hg : Gl X x := by rfl) (hdb : (x == ("__debug__" : Str)) = false := by decide) :
    PEI X b (.Call (.Name x p) [.Lambda params body scope lpos] [] pos) (wLam wl) := pei_of (pe_wrd hrun hg hm hk he hdb) fun c ρ σ G H Φ Ξ Q S hw post ex => by
  obtain ⟨⟨a, hρ⟩, hw⟩ := hw
  show tMk X P params body scope dflt σ H _
  refine mk_lam (L := ⟨params, body, scope⟩) S hρ hPm fun f H1 t1 la => ⟨f, rfl, ⟨params, body, scope⟩, dflt, wl, fun o => Φ (.dat (wordP o)), c, ρ, G, kl, fr, la, S.tr t1, hw, fun o v G2 H2 hΦ t2 im => post v (.dat (wordP o)) G2 H2 (t1.trans t2) im hΦ⟩
theorem psis_worksG {P Pw : Addr} {q0 q : Str} {N : List Str} {L0 L1 : LamTx} {pA0 : Arguments} {bA0 : Expr} {sA0 : Scope} {pA1 : Arguments} {bA1 : Expr} {sA1 : Scope} {pA2 : Arguments} {bA2 : Expr} {sA2 : Scope} {pA3 : Arguments} {bA3 : Expr} {sA3 : Scope} {w0 w1 v0 v1 v2 v3 : WE} {wa : WA} {wt wE : WE} {i j : Nat} {st1 st2 st3 : Stmt} {rest : List Stmt} {u : WS} {tr : TS} (hPm : (P, lamQ X) ∈ tabsOf X.K) (hPw : (Pw, q0) ∈ tabsOf X.K) (hNl : N.length = 4)
    (h1 : PS X st1 (tAsg (tLst (tCons (tMk X P pA0 bA0 sA0 false) (tCons (tMk X P pA1 bA1 sA1 true) (tCons (tMk X P pA2 bA2 sA2 true) tNil)))) (gName i)))
    (h2 : PS X st2 (tDrop (tBM X.K "list" rAppend (tVar i) (tCons (tMk X P pA3 bA3 sA3 false) tNil))))
    (h3 : PS X st3 (tFor (iList X.K (tOp rCat (tVar i) (tOp rRep (tCall (spWk X.K Pw N q L0 L1) [] b.E (taOf X.K b 3 wa)) (teOf X.K b wt)))) (gName j) (tIfS (tTest (tOp (rNeD X.K) (tWrd (fun f σ H Q => R1 X C k f σ H Q ∨ R2 X C k f σ H Q) (tVar j)) (teOf X.K b wE))) tr tNext)))
    (kl0 : KL X.prog X.w X.K X.mg X.base C k N q L0 false w0) (kl1 : KL X.prog X.w X.K X.mg X.base C k N q L1 false w1)
    (ka0 : KL X.prog X.w X.K X.mg X.base C k X.N (lamQ X) ⟨pA0, bA0, sA0⟩ false v0) (ka1 : KL X.prog X.w X.K X.mg X.base C k X.N (lamQ X) ⟨pA1, bA1, sA1⟩ true v1) (ka2 : KL X.prog X.w X.K X.mg X.base C k X.N (lamQ X) ⟨pA2, bA2, sA2⟩ true v2) (ka3 : KL X.prog X.w X.K X.mg X.base C k X.N (lamQ X) ⟨pA3, bA3, sA3⟩ false v3)
    (fa0 : FreeIn X.env.scope sA0) (fa1 : FreeIn X.env.scope sA1) (fa2 : FreeIn X.env.scope sA2) (fa3 : FreeIn X.env.scope sA3)
    (hr : PSsI X b rest u) : PSsI X b (st1 :: st2 :: st3 :: rest) (wWorksF i j wa wt wE w0 w1 v0 v1 v2 v3 u) :=
  psis_worksF hPm hPw hNl kl0 kl1 ka0 ka1 ka2 ka3 fa0 fa1 fa2 fa3 h1 h2 h3 hr
end
/-! ### tuple * int -/
def sRepT : Sem2 := fun a c Φ => ∃ ds i, a = .tuple ds ∧ c = .int i ∧ 2 ≤ i ∧ i ≤ 1000 ∧ ds ≠ [] ∧ ds.length ≤ 1000 ∧ Φ (.dat (.tuple (repD i.toNat ds)))
section
variable {X : Cx} {b : Bs} {x y : Expr} {wx wy : WE} {pos : Pos}
theorem pei_repT (hx : PEI X b x wx) (hy : PEI X b y wy) : PEI X b (.BinOp x .Mult y pos) (wOp sRepT wx wy) := pei_op (pe_op op_repT hx hy) fun c ρ σ G H d1 d2 x y Φ Q S i1 i2 hs p => by
  obtain ⟨ds, i, rfl, rfl, h1, h2, hne, hz, h⟩ := hs
  rw [im_tuple] at i1
  rw [im_int] at i2
  obtain ⟨a, xs, rfl, ha, il⟩ := i1
  refine ⟨a, i, xs, rfl, i2, ex_t S.ex2 ha, fun z => hne (by have e := il.len; rw [z] at e; exact List.eq_nil_of_length_eq_zero e), h1, h2, by rw [← il.len]; exact hz, fun q hq => p _ (.dat (.tuple (repD i.toNat ds))) _ _ (.newG S hq) ?_ h⟩
  show Im _ _ (.tuple (repD i.toNat ds)) _
  rw [im_tuple]
  have hx : Ex G (upd G q (.tup (List.replicate i.toNat xs).flatten)) := .new (S.ex2.back hq)
  exact ⟨q, _, rfl, st_of upd_same, (imL_rep il _).mono hx⟩
end
theorem r_sRepT {ds : List PyData} {i : Int} {Φ : Res → Prop} : sRepT (.tuple ds) (.int i) Φ = (2 ≤ i ∧ i ≤ 1000 ∧ ds ≠ [] ∧ ds.length ≤ 1000 ∧ Φ (.dat (.tuple (repD i.toNat ds)))) := by simp [sRepT]
end SF

/-! ## Two defs that make lambdas: law, _law_works (lamDefs) -/
namespace SF
open PySem PySem.Spec PyProof.Rows L2
abbrev qLaw : Str := Str.ofString "law" ++ Str.ofString ".<locals>." ++ Str.ofString "<lambda>"
abbrev qWk : Str := Str.ofString "_law_works" ++ Str.ofString ".<locals>." ++ Str.ofString "<lambda>"
theorem tab_law {K : PySem.W.Frag} : ((lawP K).2, qLaw) ∈ tabsOf K := List.mem_cons_self
theorem tab_wk {K : PySem.W.Frag} : ((wkP K (Str.ofString "_law_works")).2, qWk) ∈ tabsOf K := List.mem_cons_of_mem _ List.mem_cons_self
theorem one_law {K : PySem.W.Frag} (h : (lawP K).2 ≠ (wkP K (Str.ofString "_law_works")).2) : ∀ p ∈ tabsOf K, p.1 = (lawP K).2 → p.2 = qLaw := fun p hp e => by
  have hp : p ∈ [((lawP K).2, qLaw), ((wkP K (Str.ofString "_law_works")).2, qWk)] := hp
  rcases List.mem_cons.mp hp with z | z
  · rw [z]
  · rw [List.mem_singleton.mp z] at e
    exact absurd e.symm h
theorem one_wk {K : PySem.W.Frag} (h : (lawP K).2 ≠ (wkP K (Str.ofString "_law_works")).2) : ∀ p ∈ tabsOf K, p.1 = (wkP K (Str.ofString "_law_works")).2 → p.2 = qWk := fun p hp e => by
  have hp : p ∈ [((lawP K).2, qLaw), ((wkP K (Str.ofString "_law_works")).2, qWk)] := hp
  rcases List.mem_cons.mp hp with z | z
  · rw [z] at e
    exact absurd e h
  · rw [List.mem_singleton.mp z]
/-- the lambda that is written -/
def lamTx (d : Stmt) : Expr → LamTx
  | .Lambda p b s _ => ⟨p, b, s⟩
  | e => ⟨defArgs d, e, defScope d⟩
def wkE0 (st : Stmt) : Expr := match defBody st with
  | .Assign _ (.List (e :: _) _) _ :: _ => e
  | _ => .Constant .none 0 ⟨0, 0, 0, 0⟩
def wkE1 (st : Stmt) : Expr := match defBody st with
  | _ :: .Expr (.Call _ (e :: _) _ _) _ :: _ => e
  | _ => .Constant .none 0 ⟨0, 0, 0, 0⟩
abbrev wkL0 (st : Stmt) : LamTx := lamTx st (wkE0 st)
abbrev wkL1 (st : Stmt) : LamTx := lamTx st (wkE1 st)
end SF

namespace SF
open PySem PySem.Spec PyProof.Rows L2
local macro_rules | `(tactic| walk_at "sf") => `(tactic| simp only [wRaise0, wRaiseI, wLam, r_sRepL, r_sRepT, wRet, wOr, wAnd, wNot, wOp, wUn, wVar, wC, wChain, wCall, wCons, wNil, wTup, wLst, wIf, wTest, wNotT, wAndT, wOrT, wDef, wDefR, wSl, wNoP, wPart, wPeek, wPeekT, wLstRg, wSeq, wSkip, wSet, wSetF, wUnpack, wRetM, wDrop, wIfS, wFrz, wApp, wStore, wPopAt, wForL, wForT, wForR1, wForR2, wLcL, wLcT, wLcR1, wYes, endP, startE, bindT, setsE, wipeE, nolR, nol, nolL,
  r_sII, r_sIIc, r_sIsN, r_sNotN, r_sInL, r_sInT, r_sIxT, r_sIxL, r_sSlT, r_sSlL, r_sCatL, r_sCatT, r_sLenT, r_sLenL, r_sMax2, r_sMin2, r_sListT, r_sListL, r_sTupL, r_sIntB, r_sIxS, r_sStrI, r_sIntS, r_sLenS, r_sInS, r_sCatS, r_sSlS, r_exs, r_sSplit, r_sKdIn, r_sKdAt, wOpS, wLcS, wExt, is_none_tuple, is_none_list, is_none_bool, is_none_str, is_none_int, isTL_none, is_bool_tuple, is_bool_list, is_bool_bool, is_bool_str, is_bool_int, isTL_bool, is_int_tuple, is_int_list, is_int_bool, is_int_str, is_int_int, isTL_int, is_str_tuple, is_str_list, is_str_bool, is_str_str, is_str_int, isTL_str, is_list_tuple, is_list_list, is_list_bool, is_list_str, is_list_int, isTL_list, is_tuple_tuple, is_tuple_list, is_tuple_bool, is_tuple_str, is_tuple_int, isTL_tuple, v_bool, r_sIxAT, r_sIxAL, r_isB, r_rev, r_neg, r_at0, r_at1, r_at2, r_at3, r_ex, r_exr, r_exl, r_ext, r_exL, r_exi, r_exI, r_exII,
  nn, lt_cast, le_cast, h_row, h_free, h_dL, wNever, h_dWd, v_dWdH, hs_row, ws_row, hs_free, ws_free, hs_head, ws_head, hs_slot, ws_slot, hs_take, ws_take, hs_give, ws_give, hs_mend, ws_mend, hs_whole, ws_whole, hs_broken, ws_broken, hs_loose, ws_loose, hs_end, ws_end, hs_ring, ws_ring, we_take_give, we_give_take, we_take_mend, we_mend_take, we_give_mend, we_mend_give, we_head_slot, we_slot_head, we_whole_broken, we_broken_whole, we_whole_loose, we_loose_whole, Nat.reduceAdd, Int.cast_ofNat_Int, beq_self_eq_true, v_dC, v_dL, h_dC, h_nil, v_nil, Int.zero_add, Int.toNat_natCast, n_none, n_int, n_tuple, n_list, n_str, v_str, v_int, v_noneint, v_intnone, v_none, h_int, h_none, h_bool, r_fd, r_fl, r_ed, r_el, r_sEq, r_sNe, dL_none, dL_some, dC_row, dC_free, w_rr, w_rf, w_fr, w_ff, List.map_cons, List.map_nil, List.cons_append, List.nil_append, List.append_nil, List.replicate_zero, List.replicate_succ, List.getElem?_cons_zero, List.getElem?_cons_succ, List.set_cons_zero, List.set_cons_succ, List.length_cons, List.length_nil, List.length_map,
  Bool.not_true, Bool.not_false, if_true, if_false, ite_true, ite_false, true_and, and_true, Bool.false_eq_true, Nat.zero_add, reduceCtorEq])
def topS (i : Nat) : Stmt := PySem.Challenge.pw_slotfile_k01_files_rules_rooms_refused.main.body.getD i (.Pass ⟨0, 0, 0, 0⟩)
abbrev s_is_link : Stmt := topS 12
abbrev n_is_link : List Str := ["cells", "place"]
theorem sc_is_link : FnScope n_is_link ["cells", "place"] (defScope s_is_link) := ⟨rfl, rfl, rfl, by decide +kernel, rfl, by decide +kernel, by decide +kernel⟩
abbrev s_is_cell : Stmt := topS 13
abbrev n_is_cell : List Str := ["cells", "cell"]
theorem sc_is_cell : FnScope n_is_cell ["cells", "cell"] (defScope s_is_cell) := ⟨rfl, rfl, rfl, by decide +kernel, rfl, by decide +kernel, by decide +kernel⟩
abbrev s_need_file : Stmt := topS 14
abbrev n_need_file : List Str := ["file", "head", "cells", "place"]
theorem sc_need_file : FnScope n_need_file ["file"] (defScope s_need_file) := ⟨rfl, rfl, rfl, by decide +kernel, rfl, by decide +kernel, by decide +kernel⟩
abbrev s_chain_of : Stmt := topS 15
abbrev n_chain_of : List Str := ["file", "place", "cells", "found"]
theorem sc_chain_of : FnScope n_chain_of ["file"] (defScope s_chain_of) := ⟨rfl, rfl, rfl, by decide +kernel, rfl, by decide +kernel, by decide +kernel⟩
abbrev s_rows_of : Stmt := topS 16
abbrev n_rows_of : List Str := ["file", "place"]
theorem sc_rows_of : FnScope n_rows_of ["file"] (defScope s_rows_of) := ⟨rfl, rfl, rfl, by decide +kernel, rfl, by decide +kernel, by decide +kernel⟩
abbrev s_looked_over : Stmt := topS 17
abbrev n_looked_over : List Str := ["file", "chain", "end", "free", "loose", "word", "place"]
theorem sc_looked_over : FnScope n_looked_over ["file"] (defScope s_looked_over) := ⟨rfl, rfl, rfl, by decide +kernel, rfl, by decide +kernel, by decide +kernel⟩
abbrev s_checked : Stmt := topS 18
abbrev n_checked : List Str := ["file"]
theorem sc_checked : FnScope n_checked ["file"] (defScope s_checked) := ⟨rfl, rfl, rfl, by decide +kernel, rfl, by decide +kernel, by decide +kernel⟩
abbrev s_chained : Stmt := topS 19
abbrev n_chained : List Str := ["cells", "places", "found", "k"]
theorem sc_chained : FnScope n_chained ["cells", "places"] (defScope s_chained) := ⟨rfl, rfl, rfl, by decide +kernel, rfl, by decide +kernel, by decide +kernel⟩
abbrev s_mended_of : Stmt := topS 20
abbrev n_mended_of : List Str := ["file", "place"]
theorem sc_mended_of : FnScope n_mended_of ["file"] (defScope s_mended_of) := ⟨rfl, rfl, rfl, by decide +kernel, rfl, by decide +kernel, by decide +kernel⟩
abbrev s_mended : Stmt := topS 21
abbrev n_mended : List Str := ["file"]
theorem sc_mended : FnScope n_mended ["file"] (defScope s_mended) := ⟨rfl, rfl, rfl, by decide +kernel, rfl, by decide +kernel, by decide +kernel⟩
abbrev s_mends_of : Stmt := topS 22
abbrev n_mends_of : List Str := ["file", "head", "cells", "found", "place"]
theorem sc_mends_of : FnScope n_mends_of ["file"] (defScope s_mends_of) := ⟨rfl, rfl, rfl, by decide +kernel, rfl, by decide +kernel, by decide +kernel⟩
abbrev s_mends : Stmt := topS 23
abbrev n_mends : List Str := ["file"]
theorem sc_mends : FnScope n_mends ["file"] (defScope s_mends) := ⟨rfl, rfl, rfl, by decide +kernel, rfl, by decide +kernel, by decide +kernel⟩
abbrev s_need_rule : Stmt := topS 26
abbrev n_need_rule : List Str := ["rule", "one"]
theorem sc_need_rule : FnScope n_need_rule ["rule"] (defScope s_need_rule) := ⟨rfl, rfl, rfl, by decide +kernel, rfl, by decide +kernel, by decide +kernel⟩
abbrev s_need_room : Stmt := topS 27
abbrev n_need_room : List Str := ["file", "room"]
theorem sc_need_room : FnScope n_need_room ["file", "room"] (defScope s_need_room) := ⟨rfl, rfl, rfl, by decide +kernel, rfl, by decide +kernel, by decide +kernel⟩
abbrev s_in_order : Stmt := topS 28
abbrev n_in_order : List Str := ["first", "head", "slot"]
theorem sc_in_order : FnScope n_in_order ["first", "head", "slot"] (defScope s_in_order) := ⟨rfl, rfl, rfl, by decide +kernel, rfl, by decide +kernel, by decide +kernel⟩
abbrev s_take_writes : Stmt := topS 29
abbrev n_take_writes : List Str := ["file", "rule", "room", "number", "head", "cells", "word", "follows"]
theorem sc_take_writes : FnScope n_take_writes ["file", "rule", "room", "number"] (defScope s_take_writes) := ⟨rfl, rfl, rfl, by decide +kernel, rfl, by decide +kernel, by decide +kernel⟩
abbrev s_writes_of : Stmt := topS 30
abbrev n_writes_of : List Str := ["file", "rule", "room", "deed", "place"]
theorem sc_writes_of : FnScope n_writes_of ["file", "rule", "room", "deed"] (defScope s_writes_of) := ⟨rfl, rfl, rfl, by decide +kernel, rfl, by decide +kernel, by decide +kernel⟩
abbrev s_written_in : Stmt := topS 31
abbrev n_written_in : List Str := ["file", "write", "place", "what"]
theorem sc_written_in : FnScope n_written_in ["file", "write"] (defScope s_written_in) := ⟨rfl, rfl, rfl, by decide +kernel, rfl, by decide +kernel, by decide +kernel⟩
abbrev s_stepped : Stmt := topS 32
abbrev n_stepped : List Str := ["file", "rule", "room", "step", "deed", "many", "writes", "write"]
theorem sc_stepped : FnScope n_stepped ["file", "rule", "room", "step"] (defScope s_stepped) := ⟨rfl, rfl, rfl, by decide +kernel, rfl, by decide +kernel, by decide +kernel⟩
abbrev s_played : Stmt := topS 33
abbrev n_played : List Str := ["file", "rule", "room", "steps", "found", "number"]
theorem sc_played : FnScope n_played ["file", "rule", "room", "steps"] (defScope s_played) := ⟨rfl, rfl, rfl, by decide +kernel, rfl, by decide +kernel, by decide +kernel⟩
abbrev s_writes : Stmt := topS 34
abbrev n_writes : List Str := ["file", "rule", "room", "deed", "found"]
theorem sc_writes : FnScope n_writes ["file", "rule", "room", "deed"] (defScope s_writes) := ⟨rfl, rfl, rfl, by decide +kernel, rfl, by decide +kernel, by decide +kernel⟩
abbrev s_need_small : Stmt := topS 39
abbrev n_need_small : List Str := ["room"]
theorem sc_need_small : FnScope n_need_small ["room"] (defScope s_need_small) := ⟨rfl, rfl, rfl, by decide +kernel, rfl, by decide +kernel, by decide +kernel⟩
abbrev s_lost_by : Stmt := topS 42
abbrev n_lost_by : List Str := ["rule", "room", "level", "met", "longer", "file", "steps", "step", "there"]
theorem sc_lost_by : FnScope n_lost_by ["rule", "room"] (defScope s_lost_by) := ⟨rfl, rfl, rfl, by decide +kernel, rfl, by decide +kernel, by decide +kernel⟩
abbrev s_judged : Stmt := topS 43
abbrev n_judged : List Str := ["rule", "room", "found"]
theorem sc_judged : FnScope n_judged ["rule", "room"] (defScope s_judged) := ⟨rfl, rfl, rfl, by decide +kernel, rfl, by decide +kernel, by decide +kernel⟩
abbrev s_written : Stmt := topS 45
abbrev n_written : List Str := ["file", "words", "word", "number"]
theorem sc_written : FnScope n_written ["file"] (defScope s_written) := ⟨rfl, rfl, rfl, by decide +kernel, rfl, by decide +kernel, by decide +kernel⟩
abbrev s__law_taken : Stmt := topS 47
abbrev n__law_taken : List Str := ["_law_row", "_law_many", "_law_cell"]
theorem sc__law_taken : FnScope n__law_taken ["_law_row", "_law_many"] (defScope s__law_taken) := ⟨rfl, rfl, rfl, by decide +kernel, rfl, by decide +kernel, by decide +kernel⟩
abbrev s__law_rule : Stmt := topS 48
abbrev n__law_rule : List Str := ["_law_row"]
theorem sc__law_rule : FnScope n__law_rule ["_law_row"] (defScope s__law_rule) := ⟨rfl, rfl, rfl, by decide +kernel, rfl, by decide +kernel, by decide +kernel⟩
abbrev s__law_file : Stmt := topS 49
abbrev n__law_file : List Str := ["_law_row", "_law_most", "_law_many", "_law_often", "_law_links", "_law_cells", "_law_place"]
theorem sc__law_file : FnScope n__law_file ["_law_row", "_law_most"] (defScope s__law_file) := ⟨rfl, rfl, rfl, by decide +kernel, rfl, by decide +kernel, by decide +kernel⟩
abbrev s__law_word : Stmt := topS 50
abbrev n__law_word : List Str := ["_law_work", "e", "_law_kinds"]
theorem sc__law_word : FnScope n__law_word ["_law_work"] (defScope s__law_word) := ⟨rfl, rfl, rfl, by decide +kernel, rfl, by decide +kernel, by decide +kernel⟩
abbrev s__law_odd : Stmt := topS 51
abbrev n__law_odd : List Str := ["_law_row", "_law_file_here", "_law_head", "_law_cells", "_law_far", "_law_many", "_law_out", "_law_at", "_law_some"]
theorem sc__law_odd : FnScope n__law_odd ["_law_row", "_law_file_here"] (defScope s__law_odd) := ⟨rfl, rfl, rfl, by decide +kernel, rfl, by decide +kernel, by decide +kernel⟩
abbrev s__law_bad : Stmt := topS 52
abbrev n__law_bad : List Str := ["_law_file_here", "_law_head", "_law_cells", "_law_links", "_law_place", "_law_word_here", "_law_what", "_law_good"]
theorem sc__law_bad : FnScope n__law_bad ["_law_file_here"] (defScope s__law_bad) := ⟨rfl, rfl, rfl, by decide +kernel, rfl, by decide +kernel, by decide +kernel⟩
abbrev s__law_works : Stmt := topS 53
abbrev n__law_works : List Str := ["_law_file_here", "_law_rule_here", "_law_room", "_law_works_here"]
theorem sc__law_works : FnScope n__law_works ["_law_file_here", "_law_rule_here", "_law_room"] (defScope s__law_works) := ⟨rfl, rfl, rfl, by decide +kernel, rfl, by decide +kernel, by decide +kernel⟩
abbrev s_law : Stmt := topS 54
abbrev n_law : List Str := ["_law_script", "_law_row", "_law_turn", "_law_good", "_law_file_here", "_law_some", "_law_rule_here", "_law_room", "_law_place", "_law_works_here", "_law_work", "_law_fine", "_law_words"]
theorem sc_law : FnScope n_law ["_law_script"] (defScope s_law) := ⟨rfl, rfl, rfl, by decide +kernel, rfl, by decide +kernel, by decide +kernel⟩
abbrev sI_0 : Stmt := inClass (topS 2) 0
theorem scI_0 : FnScope ["self", "place"] ["self", "place"] (defScope sI_0) := ⟨rfl, rfl, rfl, by decide +kernel, rfl, by decide +kernel, by decide +kernel⟩
abbrev sI_3 : Stmt := inClass (topS 5) 0
theorem scI_3 : FnScope ["self", "number"] ["self", "number"] (defScope sI_3) := ⟨rfl, rfl, rfl, by decide +kernel, rfl, by decide +kernel, by decide +kernel⟩
abbrev sI_4 : Stmt := inClass (topS 6) 0
theorem scI_4 : FnScope ["self", "at"] ["self", "at"] (defScope sI_4) := ⟨rfl, rfl, rfl, by decide +kernel, rfl, by decide +kernel, by decide +kernel⟩
structure Txt (K : PySem.W.Frag) (mg : Str → Option Value) where
  f_is_link : Addr
  fd_is_link : FuncData
  F_is_link : Fun K "is_link" "is_link" s_is_link f_is_link fd_is_link
  b_is_link : Binds K fd_is_link ["cells", "place"] []
  g_is_link : mg "is_link" = some (.ref f_is_link)
  f_is_cell : Addr
  fd_is_cell : FuncData
  F_is_cell : Fun K "is_cell" "is_cell" s_is_cell f_is_cell fd_is_cell
  b_is_cell : Binds K fd_is_cell ["cells", "cell"] []
  g_is_cell : mg "is_cell" = some (.ref f_is_cell)
  f_need_file : Addr
  fd_need_file : FuncData
  F_need_file : Fun K "need_file" "need_file" s_need_file f_need_file fd_need_file
  b_need_file : Binds K fd_need_file ["file"] []
  g_need_file : mg "need_file" = some (.ref f_need_file)
  f_chain_of : Addr
  fd_chain_of : FuncData
  F_chain_of : Fun K "chain_of" "chain_of" s_chain_of f_chain_of fd_chain_of
  b_chain_of : Binds K fd_chain_of ["file"] []
  g_chain_of : mg "chain_of" = some (.ref f_chain_of)
  f_rows_of : Addr
  fd_rows_of : FuncData
  F_rows_of : Fun K "rows_of" "rows_of" s_rows_of f_rows_of fd_rows_of
  b_rows_of : Binds K fd_rows_of ["file"] []
  g_rows_of : mg "rows_of" = some (.ref f_rows_of)
  f_looked_over : Addr
  fd_looked_over : FuncData
  F_looked_over : Fun K "looked_over" "looked_over" s_looked_over f_looked_over fd_looked_over
  b_looked_over : Binds K fd_looked_over ["file"] []
  g_looked_over : mg "looked_over" = some (.ref f_looked_over)
  f_checked : Addr
  fd_checked : FuncData
  F_checked : Fun K "checked" "checked" s_checked f_checked fd_checked
  b_checked : Binds K fd_checked ["file"] []
  g_checked : mg "checked" = some (.ref f_checked)
  f_chained : Addr
  fd_chained : FuncData
  F_chained : Fun K "chained" "chained" s_chained f_chained fd_chained
  b_chained : Binds K fd_chained ["cells", "places"] []
  g_chained : mg "chained" = some (.ref f_chained)
  f_mended_of : Addr
  fd_mended_of : FuncData
  F_mended_of : Fun K "mended_of" "mended_of" s_mended_of f_mended_of fd_mended_of
  b_mended_of : Binds K fd_mended_of ["file"] []
  g_mended_of : mg "mended_of" = some (.ref f_mended_of)
  f_mended : Addr
  fd_mended : FuncData
  F_mended : Fun K "mended" "mended" s_mended f_mended fd_mended
  b_mended : Binds K fd_mended ["file"] []
  g_mended : mg "mended" = some (.ref f_mended)
  f_mends_of : Addr
  fd_mends_of : FuncData
  F_mends_of : Fun K "mends_of" "mends_of" s_mends_of f_mends_of fd_mends_of
  b_mends_of : Binds K fd_mends_of ["file"] []
  g_mends_of : mg "mends_of" = some (.ref f_mends_of)
  f_mends : Addr
  fd_mends : FuncData
  F_mends : Fun K "mends" "mends" s_mends f_mends fd_mends
  b_mends : Binds K fd_mends ["file"] []
  g_mends : mg "mends" = some (.ref f_mends)
  f_need_rule : Addr
  fd_need_rule : FuncData
  F_need_rule : Fun K "need_rule" "need_rule" s_need_rule f_need_rule fd_need_rule
  b_need_rule : Binds K fd_need_rule ["rule"] []
  g_need_rule : mg "need_rule" = some (.ref f_need_rule)
  f_need_room : Addr
  fd_need_room : FuncData
  F_need_room : Fun K "need_room" "need_room" s_need_room f_need_room fd_need_room
  b_need_room : Binds K fd_need_room ["file", "room"] []
  g_need_room : mg "need_room" = some (.ref f_need_room)
  f_in_order : Addr
  fd_in_order : FuncData
  F_in_order : Fun K "in_order" "in_order" s_in_order f_in_order fd_in_order
  b_in_order : Binds K fd_in_order ["first", "head", "slot"] []
  g_in_order : mg "in_order" = some (.ref f_in_order)
  f_take_writes : Addr
  fd_take_writes : FuncData
  F_take_writes : Fun K "take_writes" "take_writes" s_take_writes f_take_writes fd_take_writes
  b_take_writes : Binds K fd_take_writes ["file", "rule", "room", "number"] []
  g_take_writes : mg "take_writes" = some (.ref f_take_writes)
  f_writes_of : Addr
  fd_writes_of : FuncData
  F_writes_of : Fun K "writes_of" "writes_of" s_writes_of f_writes_of fd_writes_of
  b_writes_of : Binds K fd_writes_of ["file", "rule", "room", "deed"] []
  g_writes_of : mg "writes_of" = some (.ref f_writes_of)
  f_written_in : Addr
  fd_written_in : FuncData
  F_written_in : Fun K "written_in" "written_in" s_written_in f_written_in fd_written_in
  b_written_in : Binds K fd_written_in ["file", "write"] []
  g_written_in : mg "written_in" = some (.ref f_written_in)
  f_stepped : Addr
  fd_stepped : FuncData
  F_stepped : Fun K "stepped" "stepped" s_stepped f_stepped fd_stepped
  b_stepped : Binds K fd_stepped ["file", "rule", "room", "step"] []
  g_stepped : mg "stepped" = some (.ref f_stepped)
  f_played : Addr
  fd_played : FuncData
  F_played : Fun K "played" "played" s_played f_played fd_played
  b_played : Binds K fd_played ["file", "rule", "room", "steps"] []
  g_played : mg "played" = some (.ref f_played)
  f_writes : Addr
  fd_writes : FuncData
  F_writes : Fun K "writes" "writes" s_writes f_writes fd_writes
  b_writes : Binds K fd_writes ["file", "rule", "room", "deed"] []
  g_writes : mg "writes" = some (.ref f_writes)
  f_need_small : Addr
  fd_need_small : FuncData
  F_need_small : Fun K "need_small" "need_small" s_need_small f_need_small fd_need_small
  b_need_small : Binds K fd_need_small ["room"] []
  g_need_small : mg "need_small" = some (.ref f_need_small)
  f_lost_by : Addr
  fd_lost_by : FuncData
  F_lost_by : Fun K "lost_by" "lost_by" s_lost_by f_lost_by fd_lost_by
  b_lost_by : Binds K fd_lost_by ["rule", "room"] []
  g_lost_by : mg "lost_by" = some (.ref f_lost_by)
  f_judged : Addr
  fd_judged : FuncData
  F_judged : Fun K "judged" "judged" s_judged f_judged fd_judged
  b_judged : Binds K fd_judged ["rule", "room"] []
  g_judged : mg "judged" = some (.ref f_judged)
  f_written : Addr
  fd_written : FuncData
  F_written : Fun K "written" "written" s_written f_written fd_written
  b_written : Binds K fd_written ["file"] []
  g_written : mg "written" = some (.ref f_written)
  f__law_taken : Addr
  fd__law_taken : FuncData
  F__law_taken : Fun K "_law_taken" "_law_taken" s__law_taken f__law_taken fd__law_taken
  b__law_taken : Binds K fd__law_taken ["_law_row", "_law_many"] []
  g__law_taken : mg "_law_taken" = some (.ref f__law_taken)
  f__law_rule : Addr
  fd__law_rule : FuncData
  F__law_rule : Fun K "_law_rule" "_law_rule" s__law_rule f__law_rule fd__law_rule
  b__law_rule : Binds K fd__law_rule ["_law_row"] []
  g__law_rule : mg "_law_rule" = some (.ref f__law_rule)
  f__law_file : Addr
  fd__law_file : FuncData
  F__law_file : Fun K "_law_file" "_law_file" s__law_file f__law_file fd__law_file
  b__law_file : Binds K fd__law_file ["_law_row", "_law_most"] []
  g__law_file : mg "_law_file" = some (.ref f__law_file)
  f__law_word : Addr
  fd__law_word : FuncData
  F__law_word : Fun K "_law_word" "_law_word" s__law_word f__law_word fd__law_word
  b__law_word : Binds K fd__law_word ["_law_work"] []
  g__law_word : mg "_law_word" = some (.ref f__law_word)
  f__law_odd : Addr
  fd__law_odd : FuncData
  F__law_odd : Fun K "_law_odd" "_law_odd" s__law_odd f__law_odd fd__law_odd
  b__law_odd : Binds K fd__law_odd ["_law_row", "_law_file_here"] []
  g__law_odd : mg "_law_odd" = some (.ref f__law_odd)
  f__law_bad : Addr
  fd__law_bad : FuncData
  F__law_bad : Fun K "_law_bad" "_law_bad" s__law_bad f__law_bad fd__law_bad
  b__law_bad : Binds K fd__law_bad ["_law_file_here"] []
  g__law_bad : mg "_law_bad" = some (.ref f__law_bad)
  f__law_works : Addr
  fd__law_works : FuncData
  F__law_works : Fun K "_law_works" "_law_works" s__law_works f__law_works fd__law_works
  b__law_works : Binds K fd__law_works ["_law_file_here", "_law_rule_here", "_law_room"] []
  g__law_works : mg "_law_works" = some (.ref f__law_works)
  f_law : Addr
  fd_law : FuncData
  F_law : Fun K "law" "law" s_law f_law fd_law
  b_law : Binds K fd_law ["_law_script"] []
  g_law : mg "law" = some (.ref f_law)
  C : Nat → Addr
  S : Addr
  eB : ErrB K mg S
  eA : ErrAll K C S
  e_BadRule : ErrS K mg "BadRule" (C 1)
  e_BadRoom : ErrS K mg "BadRoom" (C 2)
  gI_0 : mg "BadFile" = some (.ref (C 0))
  oI_0 : OexC K (C 0)
  nI_0 : PySem.W.findIn K (.ref (C 0)) "place" = some none
  fI_0 : Addr
  fdI_0 : FuncData
  FI_0 : Fun K "__init__" "BadFile.__init__" sI_0 fI_0 fdI_0
  bI_0 : Binds K fdI_0 ["self", "place"] []
  cI_0 : PySem.W.findIn K (.ref (C 0)) "__init__" = some (some (.ref fI_0))
  tI_0 : PySem.W.typeIn K (.ref fI_0) = some (.type "function")
  gI_3 : mg "BadStep" = some (.ref (C 3))
  oI_3 : OexC K (C 3)
  nI_3 : PySem.W.findIn K (.ref (C 3)) "number" = some none
  fI_3 : Addr
  fdI_3 : FuncData
  FI_3 : Fun K "__init__" "BadStep.__init__" sI_3 fI_3 fdI_3
  bI_3 : Binds K fdI_3 ["self", "number"] []
  cI_3 : PySem.W.findIn K (.ref (C 3)) "__init__" = some (some (.ref fI_3))
  tI_3 : PySem.W.typeIn K (.ref fI_3) = some (.type "function")
  gI_4 : mg "BadText" = some (.ref (C 4))
  oI_4 : OexC K (C 4)
  nI_4 : PySem.W.findIn K (.ref (C 4)) "at" = some none
  fI_4 : Addr
  fdI_4 : FuncData
  FI_4 : Fun K "__init__" "BadText.__init__" sI_4 fI_4 fdI_4
  bI_4 : Binds K fdI_4 ["self", "at"] []
  cI_4 : PySem.W.findIn K (.ref (C 4)) "__init__" = some (some (.ref fI_4))
  tI_4 : PySem.W.typeIn K (.ref fI_4) = some (.type "function")
  ef_works : f__law_works = He.ga K (Str.ofString "_law_works")
  pn : (lawP K).2 ≠ (wkP K (Str.ofString "_law_works")).2
  m_len : mg "len" = none
  m_range : mg "range" = none
  m_list : mg "list" = none
  m_tuple : mg "tuple" = none
  m_max : mg "max" = none
  m_int : mg "int" = none
  m_isinstance : mg "isinstance" = none
  m_ValueError : mg "ValueError" = none
  m_min : mg "min" = none
  m_str : mg "str" = none
  c_MOST_SLOTS : ∃ t, mg "MOST_SLOTS" = some (.int 12 t)
  c_MOST_NUMBER : ∃ t, mg "MOST_NUMBER" = some (.int 999 t)
  c_ROW : ∃ t, mg "ROW" = some (.str (Str.ofString "row") t)
  c_FREE : ∃ t, mg "FREE" = some (.str (Str.ofString "free") t)
  a_FIRSTS : Addr
  c_FIRSTS : mg "FIRSTS" = some (.ref a_FIRSTS)
  i_FIRSTS : ∀ G, Im K G (.tuple [.str (Str.ofString "head"), .str (Str.ofString "slot")]) (.ref a_FIRSTS)
  c_MOST_ROOM : ∃ t, mg "MOST_ROOM" = some (.int 4 t)
  a_EMPTY : Addr
  c_EMPTY : mg "EMPTY" = some (.ref a_EMPTY)
  i_EMPTY : ∀ G, Im K G (.tuple [.none, .tuple []]) (.ref a_EMPTY)
section
variable {P : Program} {w : World} {K : PySem.W.Frag} {mg : Str → Option Value} {base : Heap}
theorem errI_0 (T : Txt K mg) : ErrI P w K mg base "BadFile" "place" (T.C 0) := ⟨T.gI_0, T.oI_0, T.fI_0, T.fdI_0, _, T.cI_0, T.tI_0, T.bI_0,
  T.FI_0.ok scI_0 (fun vs H Q E ⟨a, v, e, _⟩ => by rw [e]; rfl) fun cdv A outer s H vs Q E hr ⟨a, v, e, ha, q⟩ => ⟨_, pss_cons (ps_expr (pe_seinit T.eB (by rfl) (pa_cons (pv 0) (pa_cons (pv 1) pa_nil)))) (pss_one (ps_ost (pv 0) (pv 1))), by
    subst e
    exact ⟨.ref a, rfl, v, rfl, a, _, [v], rfl, by simp, T.oI_0, ha, v, rfl, .ref a, rfl, a, _, rfl, T.oI_0, T.nI_0, .inl ⟨ha, fun dx n ne => q dx n ne⟩⟩⟩⟩
theorem errI_3 (T : Txt K mg) : ErrI P w K mg base "BadStep" "number" (T.C 3) := ⟨T.gI_3, T.oI_3, T.fI_3, T.fdI_3, _, T.cI_3, T.tI_3, T.bI_3,
  T.FI_3.ok scI_3 (fun vs H Q E ⟨a, v, e, _⟩ => by rw [e]; rfl) fun cdv A outer s H vs Q E hr ⟨a, v, e, ha, q⟩ => ⟨_, pss_cons (ps_expr (pe_seinit T.eB (by rfl) (pa_cons (pv 0) (pa_cons (pv 1) pa_nil)))) (pss_one (ps_ost (pv 0) (pv 1))), by
    subst e
    exact ⟨.ref a, rfl, v, rfl, a, _, [v], rfl, by simp, T.oI_3, ha, v, rfl, .ref a, rfl, a, _, rfl, T.oI_3, T.nI_3, .inl ⟨ha, fun dx n ne => q dx n ne⟩⟩⟩⟩
theorem errI_4 (T : Txt K mg) : ErrI P w K mg base "BadText" "at" (T.C 4) := ⟨T.gI_4, T.oI_4, T.fI_4, T.fdI_4, _, T.cI_4, T.tI_4, T.bI_4,
  T.FI_4.ok scI_4 (fun vs H Q E ⟨a, v, e, _⟩ => by rw [e]; rfl) fun cdv A outer s H vs Q E hr ⟨a, v, e, ha, q⟩ => ⟨_, pss_cons (ps_expr (pe_seinit T.eB (by rfl) (pa_cons (pv 0) (pa_cons (pv 1) pa_nil)))) (pss_one (ps_ost (pv 0) (pv 1))), by
    subst e
    exact ⟨.ref a, rfl, v, rfl, a, _, [v], rfl, by simp, T.oI_4, ha, v, rfl, .ref a, rfl, a, _, rfl, T.oI_4, T.nI_4, .inl ⟨ha, fun dx n ne => q dx n ne⟩⟩⟩⟩
end
def tf_is_link : Tf := mkT (α := List PyData × Option Int) (fun a => [.tuple a.1, oI a.2]) (fun _ => True) (fun a => .dat (.bool (linkR a.1.length a.2)))
section
variable {P : Program} {w : World} {K : PySem.W.Frag} {mg : Str → Option Value} {base : Heap}
theorem ok_is_link (T : Txt K mg) : FnOk P w K mg base CX0 1 T.f_is_link T.fd_is_link ["cells", "place"] (spP K XR0 tf_is_link) := by
  refine okP (n := 0) T.F_is_link sc_is_link rfl (fun ds Φ Ξ ⟨_, e, _⟩ => by rw [e]; rfl) fun cdv A outer s H E hr => ⟨_, psis_one (psi_ret (pei_or (pei_cmp op_isN op2_isN (nomark _) (pei_var 1) pei_non) (pei_one _ (pei_chain op_le op_lt op2_le op2_lt pei_int (pei_var 1) (pei_len T.m_len rfl (pai_cons (pei_var 0) pai_nil)))))), fun ds Φ Ξ hT => ?_⟩
  obtain ⟨⟨cs, l⟩, rfl, _, h⟩ := hT
  have h : Φ (.dat (.bool (linkR cs.length l))) := h
  cases l with
  | none =>
    unfold oI
    walk_at "sf"
    exact h
  | some i =>
    unfold oI
    have h : Φ (.dat (.bool (decide ((0 : Int) ≤ i) && decide (i < (cs.length : Int))))) := h
    walk_at "sf"
    cases h0 : decide ((0 : Int) ≤ i) with
    | false =>
      rw [h0] at h
      exact h
    | true =>
      rw [h0, Bool.true_and] at h
      exact h
end
def tf_is_cell : Tf := mkT (α := List PyData × RC) (fun a => [.tuple a.1, dRC a.2]) (fun a => RcOk a.2) (fun a => .dat (.bool (cellR a.1.length a.2)))
theorem hs_sRow : SeqAt.shaped (.str sRow) = true := h_str (by decide +kernel)
theorem hs_sFree : SeqAt.shaped (.str sFree) = true := h_str (by decide +kernel)
section
variable {P : Program} {w : World} {K : PySem.W.Frag} {mg : Str → Option Value} {base : Heap}
theorem ok_is_cell (T : Txt K mg) : FnOk P w K mg base CX0 2 T.f_is_cell T.fd_is_cell ["cells", "cell"] (spP K XR0 tf_is_cell) := by
  refine okP (n := 0) T.F_is_cell sc_is_cell rfl (fun ds Φ Ξ ⟨_, e, _⟩ => by rw [e]; rfl) fun cdv A outer s H E hr => ⟨_, psis_cons (psi_if (pti_cmp (op_eqD (hu64 hr)) op2_eq (nomark _) (pei_ixT (pei_var 1) pei_int) (pei_gstr rfl T.c_ROW))
      (psis_one (psi_ret (pei_chain op_le op_le op2_le op2_le pei_int (pei_ixT (pei_var 1) pei_int) (pei_gint rfl T.c_MOST_NUMBER))))
      (psis_nil))
    (psis_one (psi_ret (pei_and (pei_cmp (op_eqD (hu64 hr)) op2_eq (nomark _) (pei_ixT (pei_var 1) pei_int) (pei_gstr rfl T.c_FREE)) (pei_one _ (pei_def (ok_is_link T) (hr.mono (by decide)) T.g_is_link T.F_is_link.kp T.b_is_link passE (pai_cons (pei_var 0) (pai_cons (pei_ixT (pei_var 1) pei_int) pai_nil)) rfl))))), fun ds Φ Ξ hT => ?_⟩
  obtain ⟨⟨cs, c⟩, rfl, hc, h⟩ := hT
  have hc : RcOk c := hc
  have h : Φ (.dat (.bool (cellR cs.length c))) := h
  have hs := h_str hc.str
  obtain ⟨s, l⟩ := c
  unfold cellR at h
  unfold dRC
  walk_at "sf"
  refine ⟨hs, ?_⟩
  cases hr : (s == sRow) with
  | true =>
    obtain ⟨v, rfl⟩ := hc.num hr
    have hr2 : (s == Str.ofString "row") = true := hr
    rw [hr] at h
    unfold oI
    have h : Φ (.dat (.bool (decide ((0 : Int) ≤ v) && decide (v ≤ 999)))) := h
    walk_at "sf"
    cases h0 : decide ((0 : Int) ≤ v) with
    | false =>
      rw [h0] at h
      exact h
    | true =>
      rw [h0, Bool.true_and] at h
      exact h
  | false =>
    have hr2 : (s == Str.ofString "row") = false := hr
    rw [hr] at h
    walk_at "sf"
    refine ⟨hs, ?_⟩
    cases hf : (s == sFree) with
    | false =>
      have hf2 : (s == Str.ofString "free") = false := hf
      rw [hf] at h
      exact h
    | true =>
      have hf2 : (s == Str.ofString "free") = true := hf
      rw [hf, Bool.true_and] at h
      exact ⟨(cs, l), rfl, trivial, h⟩
end
def tf_need_file : Tf := fun ds Φ Ξ => ∃ f : RF, ds = [dRF f] ∧ (∀ c ∈ f.cells, RcOk c) ∧ f.cells.length ≤ 1000000 ∧ (match badR f with
  | none => Φ (.dat .none)
  | some p => Ξ ⟨0, p⟩)
theorem badC_lt {f : RF} {i : Nat} {c : RC} (h : f.cells[i]? = some c) : badC f i = (decide (12 ≤ i) || !(cellR f.cells.length c)) := by
  unfold badC
  rw [h]
section
variable {P : Program} {w : World} {K : PySem.W.Frag} {mg : Str → Option Value} {base : Heap}
theorem ok_need_file (T : Txt K mg) : FnOk P w K mg base (L2.CX P w) 4 T.f_need_file T.fd_need_file ["file"] (spP K (XR1 T.C) tf_need_file) := by
  refine okPX (n := 3) T.F_need_file sc_need_file rfl (fun ds Φ Ξ ⟨_, e, _⟩ => by rw [e]; rfl) fun cdv A outer s H E hr => ⟨_, psis_cons (psi_unpack [1, 2] (pei_var 0) (by exact (pg_tup rfl (pgs_cons (pg_name (i := 1) sc_need_file.nd rfl (by first | exact Or.inl rfl | exact Or.inr rfl)) (pgs_cons (pg_name (i := 2) sc_need_file.nd rfl (by first | exact Or.inl rfl | exact Or.inr rfl)) pgs_nil)))))
    (psis_cons (psi_if (pti_not (pti_val (pei_def ((ok_is_link T).xp) (hr.mono (by decide)) T.g_is_link T.F_is_link.kp T.b_is_link passE (pai_cons (pei_var 2) (pai_cons (pei_var 1) pai_nil)) rfl)))
      (psis_one (psi_raiseI 0 (errI_0 T) hr (by decide) rfl (takes_of rfl rfl rfl rfl) (pai_cons (pei_neg pei_int) pai_nil) rfl (by decide) rfl))
      (psis_nil))
    (psis_one (psi_forR1 (.nm 3) (passes_of rfl) rfl T.m_range rfl (pai_cons (pei_len T.m_len rfl (pai_cons (pei_var 2) pai_nil)) pai_nil) (by exact (pg_name (i := 3) sc_need_file.nd rfl (by first | exact Or.inl rfl | exact Or.inr rfl)))
      (psis_one (psi_if (pti_bool (pwi_or (pti_cmp op_ge op2_ge (nomark _) (pei_var 3) (pei_gint rfl T.c_MOST_SLOTS)) (pwi_one (pti_not (pti_val (pei_def ((ok_is_cell T).xp) (hr.mono (by decide)) T.g_is_cell T.F_is_cell.kp T.b_is_cell passE (pai_cons (pei_var 2) (pai_cons (pei_ixT (pei_var 2) (pei_var 3)) pai_nil)) rfl))))))
        (psis_one (psi_raiseI 0 (errI_0 T) hr (by decide) rfl (takes_of rfl rfl rfl rfl) (pai_cons (pei_var 3) pai_nil) rfl (by decide) rfl))
        (psis_nil)))))), fun ds Φ Ξ hT => ?_⟩
  obtain ⟨f, rfl, hok, hl, h⟩ := hT
  unfold dRF
  unfold badR at h
  walk_at "sf"
  refine ⟨(f.cells.map dRC, f.head), rfl, trivial, ?_⟩
  have el : (f.cells.map dRC).length = f.cells.length := List.length_map ..
  dsimp only
  rw [el]
  cases hh : linkR f.cells.length f.head with
  | false =>
    rw [hh] at h
    walk_at "sf"
    exact h
  | true =>
    rw [hh, if_pos rfl] at h
    walk_at "sf"
    refine ⟨by omega, by omega, fun i ρ => (∀ j, j < i → badC f j = false) ∧ ∃ e, ρ = [.dat (.tuple [oI f.head, .tuple (f.cells.map dRC)]), .dat (oI f.head), .dat (.tuple (f.cells.map dRC)), e], ⟨fun j hj => absurd hj (Nat.not_lt_zero _), _, rfl⟩, fun i ρ' hi hρ => ?_, fun ρ' hρ => ?_⟩
    · obtain ⟨hb, e, rfl⟩ := hρ
      have hc : f.cells[i]? = some f.cells[i] := List.getElem?_eq_getElem hi
      have hm : f.cells[i] ∈ f.cells := List.getElem_mem hi
      generalize f.cells[i] = c at hc hm
      have bc := badC_lt hc
      have ha : atI (f.cells.map dRC) ((i : Nat) : Int) = some (dRC c) := atI_nat (by rw [List.getElem?_map, hc]; rfl)
      have bad : badC f i = true → Ξ ⟨0, (i : Int)⟩ := fun q => by
        have e : badAt f = some i := find_first hi q hb
        rw [e] at h
        exact h
      have good : badC f i = false → ∀ j, j < i + 1 → badC f j = false := fun q j hj => by
        by_cases z : j < i
        · exact hb j z
        · rw [show j = i by omega]
          exact q
      walk_at "sf"
      cases h12 : decide ((12 : Int) ≤ (i : Int)) with
      | true =>
        have : decide (12 ≤ i) = true := decide_eq_true (by have := of_decide_eq_true h12; omega)
        walk_at "sf"
        exact bad (by rw [bc, this]; rfl)
      | false =>
        have n12 : decide (12 ≤ i) = false := decide_eq_false (by have := of_decide_eq_false h12; omega)
        walk_at "sf"
        rw [ha]
        walk_at "sf"
        refine ⟨(f.cells.map dRC, c), rfl, hok c hm, ?_⟩
        dsimp only
        rw [el]
        cases hq : cellR f.cells.length c with
        | true =>
          walk_at "sf"
          exact ⟨good (by rw [bc, n12, hq]; rfl), _, rfl⟩
        | false =>
          walk_at "sf"
          exact bad (by rw [bc, n12, hq]; rfl)
    · obtain ⟨hb, e, rfl⟩ := hρ
      have e : badAt f = none := find_none hb
      rw [e] at h
      exact h
end
def tf_chain_of : Tf := mkT (α := File) (fun f => [dF f]) Fine (fun f => .dat (.tuple [dNats (chain f), .str (endWord f)]))
/-- the loop: what is left of the walk tells the whole walk's end -/
def ChInv (f : File) (m : Nat) (ρ : Rho) : Prop := ∃ (found : List Nat) (l : Lk), ρ = [.dat (dF f), .dat (dL l), .dat (.tuple (f.cells.map dC)), .ls (found.map dNat)] ∧ Told f.cells found ∧ linkOk f.cells.length l = true ∧ m + found.length = f.cells.length + 1 ∧ gone f = walk f.cells m found l
theorem told_snoc {cs : List Cell} {found : List Nat} {p : Nat} (h : Told cs found) (hp : p < cs.length) (hn : found.contains p = false) : Told cs (found ++ [p]) := by
  refine ⟨?_, fun q hq => ?_⟩
  · rw [List.nodup_append]
    refine ⟨h.1, by simp, fun a ha b hb e => ?_⟩
    rw [List.mem_singleton] at hb
    subst hb
    subst e
    have z : found.contains a = true := List.contains_iff_mem.mpr ha
    rw [hn] at z
    cases z
  · rcases List.mem_append.mp hq with z | z
    · exact h.2 q z
    · rw [List.mem_singleton.mp z]; exact hp
section
variable {P : Program} {w : World} {K : PySem.W.Frag} {mg : Str → Option Value} {base : Heap}
theorem ok_chain_of (T : Txt K mg) : FnOk P w K mg base CX0 1 T.f_chain_of T.fd_chain_of ["file"] (spP K XR0 tf_chain_of) := by
  refine okP (n := 3) T.F_chain_of sc_chain_of rfl (fun ds Φ Ξ ⟨_, e, _⟩ => by rw [e]; rfl) fun cdv A outer s H E hr => ⟨_, psis_cons (psi_unpack [1, 2] (pei_var 0) (by exact (pg_tup rfl (pgs_cons (pg_name (i := 1) sc_chain_of.nd rfl (by first | exact Or.inl rfl | exact Or.inr rfl)) (pgs_cons (pg_name (i := 2) sc_chain_of.nd rfl (by first | exact Or.inl rfl | exact Or.inr rfl)) pgs_nil)))))
    (psis_cons (psi_set 3 (pei_lst pai_nil) sc_chain_of.nd)
    (psis_cons (psi_while PassesOwn.never (pti_cmp op_notN op2_notN (nomark _) (pei_var 1) pei_non)
      (psis_cons (psi_if (pti_cmp (op_eqD (hu64 hr)) op2_eq (nomark _) (pei_ixT (pei_ixT (pei_var 2) (pei_var 1)) pei_int) (pei_gstr rfl T.c_ROW))
        (psis_one (psi_frz 3 (psi_ret (pei_tup (pai_cons (pei_var 3) (pai_cons pei_str pai_nil))))))
        (psis_nil))
      (psis_cons (psi_if (pti_peek 3 (pti_cmp (op_inD (hu65 hr)) op2_inL (by rfl) (pei_var 1) (pei_var 3)))
        (psis_one (psi_frz 3 (psi_ret (pei_tup (pai_cons (pei_var 3) (pai_cons pei_str pai_nil))))))
        (psis_nil))
      (psis_cons (psi_app 3 (pei_var 1))
      (psis_one (psi_setF 1 (pei_ixT (pei_ixT (pei_var 2) (pei_var 1)) pei_int) sc_chain_of.nd))))))
    (psis_one (psi_frz 3 (psi_ret (pei_tup (pai_cons (pei_var 3) (pai_cons pei_str pai_nil)))))))), fun ds Φ Ξ hT => ?_⟩
  obtain ⟨f, rfl, hf, h⟩ := hT
  have hl := hf.few
  unfold dF
  walk_at "sf"
  refine ⟨ChInv f, ⟨f.cells.length + 1, [], f.head, rfl, ⟨List.nodup_nil, fun _ z => by simp at z⟩, hf.head, rfl, rfl⟩, fun m ρ' hρ => ?_⟩
  obtain ⟨found, l, rfl, ht, hlk, hm, hg⟩ := hρ
  have htl := ht.len
  obtain ⟨m, rfl⟩ : ∃ k, m = k + 1 := ⟨m - 1, by omega⟩
  cases l with
  | none =>
    walk_at "sf"
    have e1 : chain f = found := by unfold chain; rw [hg]; rfl
    have e2 : endWord f = Str.ofString "end" := by unfold endWord stop; rw [hg]; rfl
    have h : Φ (.dat (.tuple [dNats (chain f), .str (endWord f)])) := h
    rw [e1, e2] at h
    exact h
  | some p =>
    have hp : p < f.cells.length := of_decide_eq_true hlk
    obtain ⟨c, hc, hok⟩ := hf.at hp
    walk_at "sf"
    rw [atC hc]
    cases c with
    | row n =>
      walk_at "sf"
      have hg2 : gone f = (found, some p) := by
        rw [hg, walk, hc]
      have e1 : chain f = found := by unfold chain; rw [hg2]
      have e2 : endWord f = Str.ofString "row" := by unfold endWord stop; rw [hg2]; show (match f.cells[p]? with | some (.free _) => _ | _ => _) = _; rw [hc]
      have h : Φ (.dat (.tuple [dNats (chain f), .str (endWord f)])) := h
      rw [e1, e2] at h
      exact h
    | free l2 =>
      walk_at "sf"
      refine ⟨(shp_ints found).shaped (by decide), ?_⟩
      rw [contains_dNat]
      cases hcn : found.contains p with
      | true =>
        walk_at "sf"
        have hg2 : gone f = (found, some p) := by
          rw [hg, walk, hc]
          show (if found.contains p = true then _ else _) = _
          rw [if_pos hcn]
        have e1 : chain f = found := by unfold chain; rw [hg2]
        have e2 : endWord f = Str.ofString "ring" := by unfold endWord stop; rw [hg2]; show (match f.cells[p]? with | some (.free _) => _ | _ => _) = _; rw [hc]
        have h : Φ (.dat (.tuple [dNats (chain f), .str (endWord f)])) := h
        rw [e1, e2] at h
        exact h
      | false =>
        walk_at "sf"
        refine ⟨by omega, m, Nat.lt_succ_self _, found ++ [p], l2, ?_, told_snoc ht hp hcn, hok, by rw [List.length_append]; simp only [List.length_cons, List.length_nil]; omega, ?_⟩
        · rw [List.map_append]
          rfl
        · rw [hg, walk, hc]
          show (if found.contains p = true then _ else _) = _
          rw [if_neg (by rw [hcn]; decide)]
end
def tf_rows_of : Tf := mkT (α := File) (fun f => [dF f]) Fine (fun f => .lst ((rowsL f.cells).map (dRow f.cells)))
section
variable {P : Program} {w : World} {K : PySem.W.Frag} {mg : Str → Option Value} {base : Heap}
theorem ok_rows_of (T : Txt K mg) : FnOk P w K mg base CX0 1 T.f_rows_of T.fd_rows_of ["file"] (spP K XR0 tf_rows_of) := by
  refine okP (n := 1) T.F_rows_of sc_rows_of rfl (fun ds Φ Ξ ⟨_, e, _⟩ => by rw [e]; rfl) fun cdv A outer s H E hr => ⟨_, psis_one (psi_ret (pei_lcR rfl sc_rows_of.nd T.m_range rfl (pai_cons (pei_len T.m_len rfl (pai_cons (pei_ixT (pei_var 0) pei_int) pai_nil)) pai_nil) (Blk.mk (own := [("place", 1)]) (tgt := (.nm 1)) (blkOk_by (N := n_rows_of) (sc := defScope s_rows_of) (by decide +kernel)) (by decide) (fun _ _ _ _ _ => by exact (pg_name (i := 1) sc_rows_of.nd rfl (by first | exact Or.inl rfl | exact Or.inr rfl))) (fun _ _ _ _ _ => (ptsi_one (pti_cmp (op_eqD (hu64 hr)) op2_eq (nomark _) (pei_ixT (pei_ixT (pei_ixT (pei_var 0) pei_int) (pei_var 1)) pei_int) (pei_gstr rfl T.c_ROW)))) (fun _ _ _ _ _ => (pei_tup (pai_cons (pei_var 1) (pai_cons (pei_ixT (pei_ixT (pei_ixT (pei_var 0) pei_int) (pei_var 1)) pei_int) pai_nil))))))), fun ds Φ Ξ hT => ?_⟩
  obtain ⟨f, rfl, hf, h⟩ := hT
  have hl := hf.few
  unfold dF
  walk_at "sf"
  refine ⟨by omega, by omega, ?_⟩
  refine lcR_fm (rowAt f.cells) (dRow f.cells) rfl (by omega) (fun i hi A B hA hB => ?_) h
  obtain ⟨c, hc, hok⟩ := hf.at hi
  walk_at "sf"
  rw [atC hc]
  cases c with
  | row n =>
    have e1 : rowAt f.cells i = true := by unfold rowAt; rw [hc]
    have e2 : numAt f.cells i = n := by unfold numAt; rw [hc]
    walk_at "sf"
    have z := hA e1
    unfold dRow at z
    rw [e2] at z
    exact z
  | free l =>
    have e1 : rowAt f.cells i = false := by unfold rowAt; rw [hc]
    walk_at "sf"
    exact hB e1
end
def tf_looked_over : Tf := mkT (α := File) (fun f => [dF f]) Fine (fun f => .dat (dChecked f))
theorem w_ee : (Str.ofString "end" == Str.ofString "end") = true := by decide +kernel
theorem w_re : (Str.ofString "ring" == Str.ofString "end") = false := by decide +kernel
theorem w_oe : (Str.ofString "row" == Str.ofString "end") = false := by decide +kernel
theorem endWord_end (f : File) : (endWord f == Str.ofString "end") = decide (stop f = none) := by
  unfold endWord
  cases stop f with
  | none => exact w_ee
  | some p =>
    show ((match f.cells[p]? with | some (.free _) => Str.ofString "ring" | _ => Str.ofString "row") == Str.ofString "end") = _
    rw [decide_eq_false (show ¬ some p = none from fun z => by cases z)]
    split
    · exact w_re
    · exact w_oe
theorem endWord_ok (f : File) : PyData.strOk (endWord f) = true := by
  unfold endWord
  split
  · decide +kernel
  · split
    · decide +kernel
    · decide +kernel
theorem wordOf_eq (f : File) : word f = (if (!decide (stop f = none)) = true then Str.ofString "broken" else if (!(looseL f).isEmpty) = true then Str.ofString "loose" else sWhole) := by
  unfold word
  by_cases h : stop f = none
  · rw [decide_eq_true h, if_neg (fun q => q h)]
    cases looseL f with
    | nil => rfl
    | cons a r => rfl
  · rw [decide_eq_false h, if_pos h]
    rfl
theorem filter_dNat {l : List Nat} {q : List Nat} : ((l.map dNat).filter (fun z => !((q.map dNat).any fun y => PyData.eqv y z))) = (l.filter fun p => !q.contains p).map dNat := by
  rw [List.filter_map]
  congr 1
  refine List.filter_congr fun p _ => ?_
  show (!((q.map dNat).any fun y => PyData.eqv y (dNat p))) = _
  rw [show ((q.map dNat).any fun y => PyData.eqv y (dNat p)) = q.contains p from contains_dNat]
section
variable {P : Program} {w : World} {K : PySem.W.Frag} {mg : Str → Option Value} {base : Heap}
theorem ok_looked_over (T : Txt K mg) : FnOk P w K mg base CX0 2 T.f_looked_over T.fd_looked_over ["file"] (spP K XR0 tf_looked_over) := by
  refine okP (n := 6) T.F_looked_over sc_looked_over rfl (fun ds Φ Ξ ⟨_, e, _⟩ => by rw [e]; rfl) fun cdv A outer s H E hr => ⟨_, psis_cons (psi_unpack [1, 2] (pei_def (ok_chain_of T) (hr.mono (by decide)) T.g_chain_of T.F_chain_of.kp T.b_chain_of passE (pai_cons (pei_var 0) pai_nil) rfl) (by exact (pg_tup rfl (pgs_cons (pg_name (i := 1) sc_looked_over.nd rfl (by first | exact Or.inl rfl | exact Or.inr rfl)) (pgs_cons (pg_name (i := 2) sc_looked_over.nd rfl (by first | exact Or.inl rfl | exact Or.inr rfl)) pgs_nil)))))
    (psis_cons (psi_setFLcR 3 rfl sc_looked_over.nd T.m_range rfl (pai_cons (pei_len T.m_len rfl (pai_cons (pei_ixT (pei_var 0) pei_int) pai_nil)) pai_nil) (Blk.mk (own := [("place", 6)]) (tgt := (.nm 6)) (blkOk_by (N := n_looked_over) (sc := defScope s_looked_over) (by decide +kernel)) (by decide) (fun _ _ _ _ _ => by exact (pg_name (i := 6) sc_looked_over.nd rfl (by first | exact Or.inl rfl | exact Or.inr rfl))) (fun _ _ _ _ _ => (ptsi_one (pti_cmp (op_eqD (hu64 hr)) op2_eq (nomark _) (pei_ixT (pei_ixT (pei_ixT (pei_var 0) pei_int) (pei_var 6)) pei_int) (pei_gstr rfl T.c_FREE)))) (fun _ _ _ _ _ => (pei_var 6))) (sw_true rfl rfl rfl (by decide +kernel)))
    (psis_cons (psi_setFLcL 4 rfl sc_looked_over.nd (pei_var 3) (Blk.mk (own := [("place", 6)]) (tgt := (.nm 6)) (blkOk_by (N := n_looked_over) (sc := defScope s_looked_over) (by decide +kernel)) (by decide) (fun _ _ _ _ _ => by exact (pg_name (i := 6) sc_looked_over.nd rfl (by first | exact Or.inl rfl | exact Or.inr rfl))) (fun _ _ _ _ _ => (ptsi_one (pti_cmp (op_notInD (hu65 hr)) op2_notInL (by rfl) (pei_var 6) (pei_var 1)))) (fun _ _ _ _ _ => (pei_var 6))) (sw_true rfl rfl rfl (by decide +kernel)))
    (psis_cons (psi_setF 5 (pei_if (pti_cmp (op_neD (hu64 hr)) op2_ne (nomark _) (pei_var 2) pei_str) pei_str (pei_if (pti_cmp (op_neD (hu64 hr)) op2_ne (nomark _) (pei_var 4) (pei_lst pai_nil)) pei_str pei_str)) sc_looked_over.nd)
    (psis_one (psi_ret (pei_tup (pai_cons (pei_var 5) (pai_cons (pei_def (ok_rows_of T) (hr.mono (by decide)) T.g_rows_of T.F_rows_of.kp T.b_rows_of passE (pai_cons (pei_var 0) pai_nil) rfl) (pai_cons (pei_var 1) (pai_cons (pei_var 4) pai_nil)))))))))), fun ds Φ Ξ hT => ?_⟩
  obtain ⟨f, rfl, hf, h⟩ := hT
  have hl := hf.few
  have hew : SeqAt.shaped (.str (endWord f)) = true := h_str (endWord_ok f)
  have hee : SeqAt.shaped (.str (Str.ofString "end")) = true := h_str (by decide +kernel)
  have hlo : SeqAt.shaped (.list ((looseL f).map dNat)) = true := (shp_ints (looseL f)).shaped (by decide)
  walk_at "sf"
  refine ⟨f, rfl, hf, ?_⟩
  unfold dF
  walk_at "sf"
  refine ⟨by omega, by omega, lcR_fm (freeAt f.cells) dNat rfl (by omega) (fun i hi A B hA hB => ?_) ?_⟩
  · obtain ⟨c, hc, hok⟩ := hf.at hi
    walk_at "sf"
    rw [atC hc]
    cases c with
    | row n =>
      have e1 : freeAt f.cells i = false := by unfold freeAt; rw [hc]
      walk_at "sf"
      exact hB e1
    | free l =>
      have e1 : freeAt f.cells i = true := by unfold freeAt; rw [hc]
      walk_at "sf"
      exact hA e1
  · walk_at "sf"
    refine lcI_fm (fun z => !(((chain f).map dNat).any fun y => PyData.eqv y z)) (fun z => z) rfl ?_ (fun d hd A B hA hB => ?_) ?_
    · have := List.length_filter_le (freeAt f.cells) (List.range f.cells.length)
      rw [List.length_range] at this
      rw [List.length_map]
      omega
    · obtain ⟨p, _, rfl⟩ := List.mem_map.mp hd
      unfold dNats
      walk_at "sf"
      refine ⟨rfl, (shp_ints (chain f)).shaped (by decide), ?_⟩
      cases hk : (!(((chain f).map dNat).any fun y => PyData.eqv y (dNat p))) with
      | true => exact hA hk
      | false => exact hB hk
    · rw [List.map_id', filter_dNat]
      have hr : ∀ Φ : Res → Prop, Φ (.lst ((rowsL f.cells).map (dRow f.cells))) → tf_rows_of [.tuple [dL f.head, .tuple (f.cells.map dC)]] Φ Ξ := fun Φ q => ⟨f, rfl, hf, q⟩
      have h : Φ (.dat (dChecked f)) := h
      unfold dChecked at h
      rw [wordOf_eq] at h
      walk_at "sf"
      refine ⟨hew, ?_⟩
      rw [endWord_end]
      cases hs : decide (stop f = none) with
      | false =>
        rw [hs] at h
        refine hr _ ?_
        exact h
      | true =>
        rw [hs] at h
        refine ⟨hlo, ?_⟩
        show if (!(looseL f).isEmpty) = true then _ else _
        cases hs2 : (looseL f).isEmpty with
        | false =>
          rw [hs2] at h
          refine hr _ ?_
          exact h
        | true =>
          rw [hs2] at h
          refine hr _ ?_
          exact h
end
structure RfOk (f : RF) : Prop where
  cells : ∀ c ∈ f.cells, RcOk c
  few : f.cells.length ≤ 100
def cellOf (c : RC) : Cell := if (c.1 == sRow) = true then .row (c.2.getD 0).toNat else .free (c.2.map Int.toNat)
def fileOf (f : RF) : File := ⟨f.head.map Int.toNat, f.cells.map cellOf⟩
theorem link_of {n : Nat} {l : Option Int} (h : linkR n l = true) : linkOk n (l.map Int.toNat) = true ∧ dL (l.map Int.toNat) = oI l := by
  cases l with
  | none => exact ⟨rfl, rfl⟩
  | some i =>
    have h : (decide (0 ≤ i) && decide (i < (n : Int))) = true := h
    rw [Bool.and_eq_true, decide_eq_true_eq, decide_eq_true_eq] at h
    refine ⟨decide_eq_true (by omega), ?_⟩
    show PyData.int ((i.toNat : Nat) : Int) = .int i
    rw [Int.toNat_of_nonneg h.1]
theorem cell_of {n : Nat} {c : RC} (hc : RcOk c) (h : cellR n c = true) : cellOk n (cellOf c) = true ∧ dC (cellOf c) = dRC c := by
  obtain ⟨s, l⟩ := c
  unfold cellR at h
  unfold cellOf
  cases hr : (s == sRow) with
  | true =>
    obtain ⟨v, rfl⟩ := hc.num hr
    have es : s = sRow := eq_of_beq hr
    subst es
    rw [hr, if_pos rfl] at h
    have h : (decide (0 ≤ v) && decide (v ≤ 999)) = true := h
    rw [Bool.and_eq_true, decide_eq_true_eq, decide_eq_true_eq] at h
    rw [if_pos rfl]
    refine ⟨decide_eq_true (by show v.toNat ≤ 999; omega), ?_⟩
    show PyData.tuple [.str sRow, .int ((v.toNat : Nat) : Int)] = .tuple [.str sRow, .int v]
    rw [Int.toNat_of_nonneg h.1]
  | false =>
    rw [hr, if_neg (by decide), Bool.and_eq_true] at h
    have es : s = sFree := eq_of_beq h.1
    subst es
    obtain ⟨h1, h2⟩ := link_of h.2
    rw [if_neg (by decide)]
    refine ⟨h1, ?_⟩
    show PyData.tuple [.str sFree, dL (l.map Int.toNat)] = .tuple [.str sFree, oI l]
    rw [h2]
theorem bad_good {f : RF} (hb : badR f = none) : linkR f.cells.length f.head = true ∧ f.cells.length ≤ 12 ∧ ∀ c ∈ f.cells, cellR f.cells.length c = true := by
  unfold badR at hb
  split at hb
  · rename_i hl
    have hb : badAt f = none := by
      cases q : badAt f with
      | none => rfl
      | some i => rw [q] at hb; cases hb
    have all : ∀ i, i < f.cells.length → badC f i = false := fun i hi => by
      have := List.find?_eq_none.mp hb i (List.mem_range.mpr hi)
      cases q : badC f i with
      | false => rfl
      | true => exact absurd q this
    refine ⟨hl, ?_, fun c hc => ?_⟩
    · by_cases z : f.cells.length ≤ 12
      · exact z
      · have := all 12 (by omega)
        unfold badC at this
        rw [decide_eq_true (show 12 ≤ 12 by omega)] at this
        cases this
    · obtain ⟨i, hi, rfl⟩ := List.mem_iff_getElem.mp hc
      have := all i hi
      unfold badC at this
      rw [List.getElem?_eq_getElem hi] at this
      rw [Bool.or_eq_false_iff] at this
      have := this.2
      cases q : cellR f.cells.length f.cells[i] with
      | true => rfl
      | false =>
        have this : (!(cellR f.cells.length f.cells[i])) = false := this
        rw [q] at this
        cases this
  · cases hb
theorem fine_of {f : RF} (h : RfOk f) (hb : badR f = none) : Fine (fileOf f) ∧ dRF f = dF (fileOf f) := by
  obtain ⟨h1, h2, h3⟩ := bad_good hb
  have el : (f.cells.map cellOf).length = f.cells.length := List.length_map ..
  refine ⟨⟨?_, ?_, ?_⟩, ?_⟩
  · show linkOk (f.cells.map cellOf).length (f.head.map Int.toNat) = true
    rw [el]
    exact (link_of h1).1
  · show (f.cells.map cellOf).length ≤ 12
    rw [el]
    exact h2
  · show ∀ c ∈ f.cells.map cellOf, cellOk (f.cells.map cellOf).length c = true
    rw [el]
    intro c hc
    obtain ⟨d, hd, rfl⟩ := List.mem_map.mp hc
    exact (cell_of (h.cells d hd) (h3 d hd)).1
  · show PyData.tuple [oI f.head, .tuple (f.cells.map dRC)] = .tuple [dL (f.head.map Int.toNat), .tuple ((f.cells.map cellOf).map dC)]
    rw [(link_of h1).2, List.map_map]
    rw [List.map_congr_left fun c hc => ((cell_of (h.cells c hc) (h3 c hc)).2.symm : dRC c = (dC ∘ cellOf) c)]
    rfl
/-- told, or refused with the first place -/
def tfCheck : Tf := fun ds Φ Ξ => ∃ f : RF, ds = [dRF f] ∧ RfOk f ∧ (match badR f with
  | some p => Ξ ⟨0, p⟩
  | none => ∀ r, Φ r)
def tf_checked : Tf := tfCheck
section
variable {P : Program} {w : World} {K : PySem.W.Frag} {mg : Str → Option Value} {base : Heap}
theorem ok_checked (T : Txt K mg) : FnOk P w K mg base (L2.CX P w) 5 T.f_checked T.fd_checked ["file"] (spP K (XR1 T.C) tf_checked) := by
  refine okPX (n := 0) T.F_checked sc_checked rfl (fun ds Φ Ξ ⟨_, e, _⟩ => by rw [e]; rfl) fun cdv A outer s H E hr => ⟨_, psis_cons (psi_expr (pei_def (ok_need_file T) (hr.mono (by decide)) T.g_need_file T.F_need_file.kp T.b_need_file (passes_call (takes_of rfl rfl rfl rfl) (fun _ _ _ _ h => h)) (pai_cons (pei_var 0) pai_nil) rfl))
    (psis_one (psi_ret (pei_def ((ok_looked_over T).xp) (hr.mono (by decide)) T.g_looked_over T.F_looked_over.kp T.b_looked_over passE (pai_cons (pei_var 0) pai_nil) rfl))), fun ds Φ Ξ hT => ?_⟩
  obtain ⟨f, rfl, hf, h⟩ := hT
  have hl := hf.few
  walk_at "sf"
  refine ⟨f, rfl, hf.cells, by omega, ?_⟩
  cases hb : badR f with
  | some p =>
    rw [hb] at h
    exact h
  | none =>
    rw [hb] at h
    obtain ⟨hF, e⟩ := fine_of hf hb
    rw [e]
    walk_at "sf"
    exact ⟨fileOf f, rfl, hF, h _⟩
end
def tf_chained : Tf := mkT (α := List Cell × List Nat) (fun a => [.tuple (a.1.map dC), dNats a.2]) (fun a => a.1.length ≤ 12 ∧ a.2.length ≤ 12 ∧ ∀ p ∈ a.2, p < a.1.length) (fun a => .dat (dF ⟨a.2.head?, relink a.1 a.2⟩))
section
variable {P : Program} {w : World} {K : PySem.W.Frag} {mg : Str → Option Value} {base : Heap}
theorem ok_chained (T : Txt K mg) : FnOk P w K mg base CX0 1 T.f_chained T.fd_chained ["cells", "places"] (spP K XR0 tf_chained) := by
  refine okP (n := 2) T.F_chained sc_chained rfl (fun ds Φ Ξ ⟨_, e, _⟩ => by rw [e]; rfl) fun cdv A outer s H E hr => ⟨_, psis_cons (psi_set 2 (pei_list T.m_list rfl (pai_cons (pei_var 0) pai_nil)) sc_chained.nd)
    (psis_cons (psi_forR1 (.nm 3) PassesOwn.never rfl T.m_range rfl (pai_cons (pei_len T.m_len rfl (pai_cons (pei_var 1) pai_nil)) pai_nil) (by exact (pg_name (i := 3) sc_chained.nd rfl (by first | exact Or.inl rfl | exact Or.inr rfl)))
      (psis_one (psi_store 2 (pei_tup (pai_cons (pei_gstr rfl T.c_FREE) (pai_cons (pei_if (pti_cmp op_lt op2_lt (nomark _) (pei_add (pei_var 3) pei_int) (pei_len T.m_len rfl (pai_cons (pei_var 1) pai_nil))) (pei_ixL (pei_var 1) (pei_add (pei_var 3) pei_int)) pei_non) pai_nil))) (by exact (pg_sub (pv 2) (pei_ixL (pei_var 1) (pei_var 3)) set_list)))))
    (psis_one (psi_frz 2 (psi_ret (pei_tup (pai_cons (pei_if (pti_cmp (op_neD (hu64 hr)) op2_ne (nomark _) (pei_var 1) (pei_lst pai_nil)) (pei_ixL (pei_var 1) pei_int) pei_non) (pai_cons (pei_tuple T.m_tuple rfl (pai_cons (pei_var 2) pai_nil)) pai_nil))))))), fun ds Φ Ξ hT => ?_⟩
  obtain ⟨⟨cs, ps⟩, rfl, ⟨hl, hl2, hp⟩, h⟩ := hT
  have hl : cs.length ≤ 12 := hl
  have hl2 : ps.length ≤ 12 := hl2
  have hp : ∀ p ∈ ps, p < cs.length := hp
  have hsh : SeqAt.shaped (.list (ps.map dNat)) = true := (shp_ints ps).shaped (by decide)
  unfold dNats
  walk_at "sf"
  refine ⟨by omega, by omega, fun i ρ => ∃ cur e, ρ = [.dat (.tuple (cs.map dC)), .dat (.list (ps.map dNat)), .ls (cur.map dC), e] ∧ cur.length = cs.length ∧ relink cur (ps.drop i) = relink cs ps, ⟨cs, _, rfl, rfl, rfl⟩, fun i ρ' hi hρ => ?_, fun ρ' hρ => ?_⟩
  · obtain ⟨cur, e, rfl, hcl, hr⟩ := hρ
    have hpi : ps[i]? = some ps[i] := List.getElem?_eq_getElem hi
    have hlt : ps[i] < cur.length := by rw [hcl]; exact hp _ (List.getElem_mem hi)
    walk_at "sf"
    rw [cast1, lt_cast, atN hpi]
    by_cases h1 : i + 1 < ps.length
    · have hp1 : ps[i + 1]? = some ps[i + 1] := List.getElem?_eq_getElem h1
      rw [decide_eq_true h1, atN hp1]
      walk_at "sf"
      refine ⟨_, _, rfl, ixN_of hlt, cur.set ps[i] (.free (some ps[i + 1])), _, by rw [List.map_set]; rfl, by rw [List.length_set, hcl], ?_⟩
      rw [← hr, List.drop_eq_getElem_cons hi, relink, List.head?_drop, hp1]
    · have hp1 : ps[i + 1]? = none := List.getElem?_eq_none (by omega)
      rw [decide_eq_false h1]
      walk_at "sf"
      refine ⟨_, _, rfl, ixN_of hlt, cur.set ps[i] (.free none), _, by rw [List.map_set]; rfl, by rw [List.length_set, hcl], ?_⟩
      rw [← hr, List.drop_eq_getElem_cons hi, relink, List.head?_drop, hp1]
  · obtain ⟨cur, e, rfl, hcl, hr⟩ := hρ
    rw [List.drop_length, relink] at hr
    walk_at "sf"
    refine ⟨hsh, ?_⟩
    subst hr
    cases ps with
    | nil => exact h
    | cons p r =>
      walk_at "sf"
      exact h
end
def tf_mended_of : Tf := mkT (α := File) (fun f => [dF f]) Fine (fun f => .dat (dF (mendF f)))
theorem word_ok (f : File) : PyData.strOk (word f) = true := by
  unfold word
  split
  · decide +kernel
  · split
    · decide +kernel
    · decide +kernel
theorem h_wd (f : File) : SeqAt.shaped (.str (word f)) = true := h_str (word_ok f)
theorem h_whole : SeqAt.shaped (.str sWhole) = true := h_str (by decide +kernel)
theorem freeL_len {cs : List Cell} : (freeL cs).length ≤ cs.length := by
  have := List.length_filter_le (freeAt cs) (List.range cs.length)
  rw [List.length_range] at this
  exact this
section
variable {P : Program} {w : World} {K : PySem.W.Frag} {mg : Str → Option Value} {base : Heap}
theorem ok_mended_of (T : Txt K mg) : FnOk P w K mg base CX0 3 T.f_mended_of T.fd_mended_of ["file"] (spP K XR0 tf_mended_of) := by
  refine okP (n := 1) T.F_mended_of sc_mended_of rfl (fun ds Φ Ξ ⟨_, e, _⟩ => by rw [e]; rfl) fun cdv A outer s H E hr => ⟨_, psis_cons (psi_if (pti_cmp (op_eqD (hu64 hr)) op2_eq (nomark _) (pei_ixT (pei_def (ok_looked_over T) (hr.mono (by decide)) T.g_looked_over T.F_looked_over.kp T.b_looked_over passE (pai_cons (pei_var 0) pai_nil) rfl) pei_int) pei_str)
      (psis_one (psi_ret (pei_var 0)))
      (psis_nil))
    (psis_one (psi_ret (pei_def (ok_chained T) (hr.mono (by decide)) T.g_chained T.F_chained.kp T.b_chained passE (pai_cons (pei_ixT (pei_var 0) pei_int) (pai_cons (pei_lcR rfl sc_mended_of.nd T.m_range rfl (pai_cons (pei_len T.m_len rfl (pai_cons (pei_ixT (pei_var 0) pei_int) pai_nil)) pai_nil) (Blk.mk (own := [("place", 1)]) (tgt := (.nm 1)) (blkOk_by (N := n_mended_of) (sc := defScope s_mended_of) (by decide +kernel)) (by decide) (fun _ _ _ _ _ => by exact (pg_name (i := 1) sc_mended_of.nd rfl (by first | exact Or.inl rfl | exact Or.inr rfl))) (fun _ _ _ _ _ => (ptsi_one (pti_cmp (op_eqD (hu64 hr)) op2_eq (nomark _) (pei_ixT (pei_ixT (pei_ixT (pei_var 0) pei_int) (pei_var 1)) pei_int) (pei_gstr rfl T.c_FREE)))) (fun _ _ _ _ _ => (pei_var 1)))) pai_nil)) rfl))), fun ds Φ Ξ hT => ?_⟩
  obtain ⟨f, rfl, hf, h⟩ := hT
  have hl := hf.few
  have hw := h_wd f
  walk_at "sf"
  refine ⟨f, rfl, hf, ?_⟩
  unfold dChecked
  walk_at "sf"
  refine ⟨hw, ?_⟩
  rw [word_whole]
  have h : Φ (.dat (dF (mendF f))) := h
  unfold mendF at h
  cases hk : whole f with
  | true =>
    rw [hk] at h
    exact h
  | false =>
    rw [hk] at h
    unfold dF
    walk_at "sf"
    refine ⟨by omega, by omega, lcR_fm (freeAt f.cells) dNat rfl (by omega) (fun i hi A B hA hB => ?_) ?_⟩
    · obtain ⟨c, hc, hok⟩ := hf.at hi
      walk_at "sf"
      rw [atC hc]
      cases c with
      | row n =>
        have e1 : freeAt f.cells i = false := by unfold freeAt; rw [hc]
        walk_at "sf"
        exact hB e1
      | free l =>
        have e1 : freeAt f.cells i = true := by unfold freeAt; rw [hc]
        walk_at "sf"
        exact hA e1
    · refine ⟨(f.cells, freeL f.cells), rfl, ⟨hl, Nat.le_trans freeL_len hl, fun p hp => freeL_lt hp⟩, h⟩
end
def tf_mended : Tf := tfCheck
section
variable {P : Program} {w : World} {K : PySem.W.Frag} {mg : Str → Option Value} {base : Heap}
theorem ok_mended (T : Txt K mg) : FnOk P w K mg base (L2.CX P w) 5 T.f_mended T.fd_mended ["file"] (spP K (XR1 T.C) tf_mended) := by
  refine okPX (n := 0) T.F_mended sc_mended rfl (fun ds Φ Ξ ⟨_, e, _⟩ => by rw [e]; rfl) fun cdv A outer s H E hr => ⟨_, psis_cons (psi_expr (pei_def (ok_need_file T) (hr.mono (by decide)) T.g_need_file T.F_need_file.kp T.b_need_file (passes_call (takes_of rfl rfl rfl rfl) (fun _ _ _ _ h => h)) (pai_cons (pei_var 0) pai_nil) rfl))
    (psis_one (psi_ret (pei_def ((ok_mended_of T).xp) (hr.mono (by decide)) T.g_mended_of T.F_mended_of.kp T.b_mended_of passE (pai_cons (pei_var 0) pai_nil) rfl))), fun ds Φ Ξ hT => ?_⟩
  obtain ⟨f, rfl, hf, h⟩ := hT
  have hl := hf.few
  walk_at "sf"
  refine ⟨f, rfl, hf.cells, by omega, ?_⟩
  cases hb : badR f with
  | some p =>
    rw [hb] at h
    exact h
  | none =>
    rw [hb] at h
    obtain ⟨hF, e⟩ := fine_of hf hb
    rw [e]
    walk_at "sf"
    exact ⟨fileOf f, rfl, hF, h _⟩
end
def tf_mends_of : Tf := mkT (α := File) (fun f => [dF f]) Fine (fun f => .lst ((mendsF f).map dW))
section
variable {P : Program} {w : World} {K : PySem.W.Frag} {mg : Str → Option Value} {base : Heap}
theorem ok_mends_of (T : Txt K mg) : FnOk P w K mg base CX0 4 T.f_mends_of T.fd_mends_of ["file"] (spP K XR0 tf_mends_of) := by
  refine okP (n := 4) T.F_mends_of sc_mends_of rfl (fun ds Φ Ξ ⟨_, e, _⟩ => by rw [e]; rfl) fun cdv A outer s H E hr => ⟨_, psis_cons (psi_if (pti_cmp (op_eqD (hu64 hr)) op2_eq (nomark _) (pei_ixT (pei_def (ok_looked_over T) (hr.mono (by decide)) T.g_looked_over T.F_looked_over.kp T.b_looked_over passE (pai_cons (pei_var 0) pai_nil) rfl) pei_int) pei_str)
      (psis_one (psi_ret (pei_lst pai_nil)))
      (psis_nil))
    (psis_cons (psi_unpack [1, 2] (pei_def (ok_mended_of T) (hr.mono (by decide)) T.g_mended_of T.F_mended_of.kp T.b_mended_of passE (pai_cons (pei_var 0) pai_nil) rfl) (by exact (pg_tup rfl (pgs_cons (pg_name (i := 1) sc_mends_of.nd rfl (by first | exact Or.inl rfl | exact Or.inr rfl)) (pgs_cons (pg_name (i := 2) sc_mends_of.nd rfl (by first | exact Or.inl rfl | exact Or.inr rfl)) pgs_nil)))))
    (psis_cons (psi_set 3 (pei_lst (pai_cons (pei_tup (pai_cons pei_non (pai_cons pei_non pai_nil))) pai_nil)) sc_mends_of.nd)
    (psis_cons (psi_forR1 (.nm 4) PassesOwn.never rfl T.m_range rfl (pai_cons (pei_len T.m_len rfl (pai_cons (pei_var 2) pai_nil)) pai_nil) (by exact (pg_name (i := 4) sc_mends_of.nd rfl (by first | exact Or.inl rfl | exact Or.inr rfl)))
      (psis_one (psi_if (pti_cmp (op_neD (hu64 hr)) op2_ne (nomark _) (pei_ixT (pei_var 2) (pei_var 4)) (pei_ixT (pei_ixT (pei_var 0) pei_int) (pei_var 4)))
        (psis_one (psi_app 3 (pei_tup (pai_cons (pei_var 4) (pai_cons (pei_ixT (pei_var 2) (pei_var 4)) pai_nil)))))
        (psis_nil))))
    (psis_one (psi_frz 3 (psi_ret (pei_catL (pei_var 3) (pei_lst (pai_cons (pei_tup (pai_cons pei_non (pai_cons (pei_var 1) pai_nil))) pai_nil))))))))), fun ds Φ Ξ hT => ?_⟩
  obtain ⟨f, rfl, hf, h⟩ := hT
  have hl := hf.few
  have hw := h_wd f
  have hml := mendF_len f
  walk_at "sf"
  refine ⟨f, rfl, hf, ?_⟩
  unfold dChecked
  walk_at "sf"
  refine ⟨hw, ?_⟩
  rw [word_whole]
  have h : Φ (.lst ((mendsF f).map dW)) := h
  unfold mendsF at h
  cases hk : whole f with
  | true =>
    rw [hk] at h
    exact h
  | false =>
    rw [hk] at h
    walk_at "sf"
    refine ⟨f, rfl, hf, ?_⟩
    unfold dF
    walk_at "sf"
    have hf2 := mendF_fine hf
    refine ⟨by omega, by omega, fun i ρ => ∃ e, ρ = [.dat (dF f), .dat (dL (mendF f).head), .dat (.tuple ((mendF f).cells.map dC)), .ls ((((none, .link none) : Write) :: diffs (mendF f).cells f.cells i).map dW), e], ⟨_, rfl⟩, fun i ρ' hi hρ => ?_, fun ρ' hρ => ?_⟩
    · obtain ⟨e, rfl⟩ := hρ
      obtain ⟨c, hc, _⟩ := hf2.at hi
      obtain ⟨d, hd, _⟩ := hf.at (show i < f.cells.length by omega)
      have hdl := diffs_len (a := (mendF f).cells) (b := f.cells) (n := i)
      have hds := diffs_succ hc hd
      unfold dF
      walk_at "sf"
      rw [atC hc, atC hd]
      walk_at "sf"
      by_cases he : c = d
      · rw [decide_eq_true he]
        rw [if_pos he, List.append_nil] at hds
        walk_at "sf"
        exact ⟨_, by rw [hds]⟩
      · rw [decide_eq_false he]
        rw [if_neg he] at hds
        walk_at "sf"
        refine ⟨by omega, .dat (.int (i : Int)), ?_⟩
        rw [hds, List.map_append]
        rfl
    · obtain ⟨e, rfl⟩ := hρ
      have hdl := diffs_len (a := (mendF f).cells) (b := f.cells) (n := (mendF f).cells.length)
      walk_at "sf"
      refine ⟨by omega, ?_⟩
      rw [if_neg (by decide), List.map_append, List.map_append] at h
      exact h
end
def tf_mends : Tf := tfCheck
section
variable {P : Program} {w : World} {K : PySem.W.Frag} {mg : Str → Option Value} {base : Heap}
theorem ok_mends (T : Txt K mg) : FnOk P w K mg base (L2.CX P w) 6 T.f_mends T.fd_mends ["file"] (spP K (XR1 T.C) tf_mends) := by
  refine okPX (n := 0) T.F_mends sc_mends rfl (fun ds Φ Ξ ⟨_, e, _⟩ => by rw [e]; rfl) fun cdv A outer s H E hr => ⟨_, psis_cons (psi_expr (pei_def (ok_need_file T) (hr.mono (by decide)) T.g_need_file T.F_need_file.kp T.b_need_file (passes_call (takes_of rfl rfl rfl rfl) (fun _ _ _ _ h => h)) (pai_cons (pei_var 0) pai_nil) rfl))
    (psis_one (psi_ret (pei_def ((ok_mends_of T).xp) (hr.mono (by decide)) T.g_mends_of T.F_mends_of.kp T.b_mends_of passE (pai_cons (pei_var 0) pai_nil) rfl))), fun ds Φ Ξ hT => ?_⟩
  obtain ⟨f, rfl, hf, h⟩ := hT
  have hl := hf.few
  walk_at "sf"
  refine ⟨f, rfl, hf.cells, by omega, ?_⟩
  cases hb : badR f with
  | some p =>
    rw [hb] at h
    exact h
  | none =>
    rw [hb] at h
    obtain ⟨hF, e⟩ := fine_of hf hb
    rw [e]
    walk_at "sf"
    exact ⟨fileOf f, rfl, hF, h _⟩
end
def wHd (w : Str) : Bool := (Str.ofString "head" == w) || ((Str.ofString "slot" == w) || false)
def goodRule (ws : List Str) : Bool := decide (ws.length = 2) && ws.all wHd
def tf_need_rule : Tf := fun ds Φ Ξ => ∃ ws : List Str, ds = [.tuple (ws.map .str)] ∧ (∀ w ∈ ws, PyData.strOk w = true) ∧ ws.length ≤ 10 ∧ (if goodRule ws = true then Φ (.dat .none) else Ξ ⟨1, 0⟩)
theorem hd_any (w : Str) : ([PyData.str (Str.ofString "head"), .str (Str.ofString "slot")].any fun z => PyData.eqv z (.str w)) = wHd w := by
  show (PyData.eqv (.str (Str.ofString "head")) (.str w) || (PyData.eqv (.str (Str.ofString "slot")) (.str w) || false)) = _
  rw [v_str, v_str]
  rfl
theorem all_hd {ws : List Str} : (ws.filter fun w => !wHd w).isEmpty = ws.all wHd := by
  induction ws with
  | nil => rfl
  | cons w ws ih =>
    rw [List.filter_cons, List.all_cons, ← ih]
    cases wHd w <;> rfl
section
variable {P : Program} {w : World} {K : PySem.W.Frag} {mg : Str → Option Value} {base : Heap}
theorem ok_need_rule (T : Txt K mg) : FnOk P w K mg base (L2.CX P w) 2 T.f_need_rule T.fd_need_rule ["rule"] (spP K (XR1 T.C) tf_need_rule) := by
  refine okPX (n := 1) T.F_need_rule sc_need_rule rfl (fun ds Φ Ξ ⟨_, e, _⟩ => by rw [e]; rfl) fun cdv A outer s H E hr => ⟨_, psis_one (psi_if (pti_bool (pwi_or (pti_cmp (op_neD (hu64 hr)) op2_ne (nomark _) (pei_len T.m_len rfl (pai_cons (pei_var 0) pai_nil)) pei_int) (pwi_one (pti_cmp (op_neD (hu64 hr)) op2_ne (nomark _) (pei_lcT rfl sc_need_rule.nd (pei_var 0) (Blk.mk (own := [("one", 1)]) (tgt := (.nm 1)) (blkOk_by (N := n_need_rule) (sc := defScope s_need_rule) (by decide +kernel)) (by decide) (fun _ _ _ _ _ => by exact (pg_name (i := 1) sc_need_rule.nd rfl (by first | exact Or.inl rfl | exact Or.inr rfl))) (fun _ _ _ _ _ => (ptsi_one (pti_cmp op_notIn_seq op2_notInT (by rfl) (pei_var 1) (pei_gref rfl T.c_FIRSTS T.i_FIRSTS)))) (fun _ _ _ _ _ => (pei_var 1)))) (pei_lst pai_nil)))))
      (psis_one (psi_raise0 1 T.e_BadRule rfl (takes_of rfl rfl rfl rfl) rfl (by decide) rfl))
      (psis_nil)), fun ds Φ Ξ hT => ?_⟩
  obtain ⟨ws, rfl, hs, hl, h⟩ := hT
  walk_at "sf"
  cases hl2 : ((ws.length : Int) == 2) with
  | false =>
    have e : goodRule ws = false := by
      unfold goodRule
      rw [decide_eq_false (fun z => by rw [z] at hl2; exact absurd hl2 (by decide)), Bool.false_and]
    rw [e, if_neg (by decide)] at h
    exact h
  | true =>
    have h2 : ws.length = 2 := by have := eq_of_beq hl2; omega
    walk_at "sf"
    refine lcI_fm (fun d => !([PyData.str (Str.ofString "head"), .str (Str.ofString "slot")].any fun z => PyData.eqv z d)) (fun z => z) rfl (by rw [List.length_map]; omega) (fun d hd A B hA hB => ?_) ?_
    · obtain ⟨w, hw, rfl⟩ := List.mem_map.mp hd
      walk_at "sf"
      refine ⟨rfl, rfl, ?_⟩
      cases hk : (!([PyData.str (Str.ofString "head"), .str (Str.ofString "slot")].any fun z => PyData.eqv z (.str w))) with
      | true => exact hA hk
      | false => exact hB hk
    · rw [List.map_id']
      have ef : (ws.map PyData.str).filter (fun d => !([PyData.str (Str.ofString "head"), .str (Str.ofString "slot")].any fun z => PyData.eqv z d)) = (ws.filter fun w => !wHd w).map PyData.str := by
        rw [List.filter_map]
        refine congrArg (List.map PyData.str) (List.filter_congr fun w _ => ?_)
        show (!([PyData.str (Str.ofString "head"), .str (Str.ofString "slot")].any fun z => PyData.eqv z (.str w))) = _
        rw [hd_any]
      rw [ef]
      refine ⟨?_, ?_⟩
      · show SeqAt.shaped (.list ((ws.filter fun w => !wHd w).map PyData.str)) = true
        exact (Shp.list (n := 0) fun d hd => by
          obtain ⟨w, hw, rfl⟩ := List.mem_map.mp hd
          exact .str (hs w ((List.mem_filter.mp hw).1))).shaped (by decide)
      · show if (!(PyData.eqv (.list ((ws.filter fun w => !wHd w).map PyData.str)) (.list []))) = true then _ else _
        rw [v_nil, all_hd]
        have e : goodRule ws = ws.all wHd := by
          unfold goodRule
          rw [decide_eq_true h2, Bool.true_and]
        rw [e] at h
        cases q : ws.all wHd with
        | true =>
          rw [q, if_pos rfl] at h
          exact h
        | false =>
          rw [q, if_neg (by decide)] at h
          exact h
end
def tf_need_room : Tf := fun ds Φ Ξ => ∃ a : PyData × List PyData × Int, ds = [.tuple [a.1, .tuple a.2.1], .int a.2.2] ∧ a.2.1.length ≤ 100 ∧ (if 1 ≤ a.2.2 ∧ (a.2.1.length : Int) ≤ a.2.2 ∧ a.2.2 ≤ 12 then Φ (.dat .none) else Ξ ⟨2, 0⟩)
section
variable {P : Program} {w : World} {K : PySem.W.Frag} {mg : Str → Option Value} {base : Heap}
theorem ok_need_room (T : Txt K mg) : FnOk P w K mg base (L2.CX P w) 2 T.f_need_room T.fd_need_room ["file", "room"] (spP K (XR1 T.C) tf_need_room) := by
  refine okPX (n := 0) T.F_need_room sc_need_room rfl (fun ds Φ Ξ ⟨_, e, _⟩ => by rw [e]; rfl) fun cdv A outer s H E hr => ⟨_, psis_one (psi_if (pti_not (pti_chain op_le op_le op2_le op2_le (pei_max2 T.m_max rfl rfl (pai_cons pei_int (pai_cons (pei_len T.m_len rfl (pai_cons (pei_ixT (pei_var 0) pei_int) pai_nil)) pai_nil))) (pei_var 1) (pei_gint rfl T.c_MOST_SLOTS)))
      (psis_one (psi_raise0 2 T.e_BadRoom rfl (takes_of rfl rfl rfl rfl) rfl (by decide) rfl))
      (psis_nil)), fun ds Φ Ξ hT => ?_⟩
  obtain ⟨⟨hd, cs, room⟩, rfl, hl, h⟩ := hT
  have hl : cs.length ≤ 100 := hl
  have h : (if 1 ≤ room ∧ (cs.length : Int) ≤ room ∧ room ≤ 12 then Φ (.dat .none) else Ξ ⟨2, 0⟩) := h
  walk_at "sf"
  by_cases h1 : max 1 (cs.length : Int) ≤ room
  · rw [decide_eq_true h1, if_pos rfl]
    by_cases h2 : room ≤ 12
    · rw [decide_eq_true h2]
      rw [if_pos (by omega)] at h
      exact h
    · rw [decide_eq_false h2]
      rw [if_neg (by omega)] at h
      exact h
  · rw [decide_eq_false h1, if_neg (by decide)]
    rw [if_neg (by omega)] at h
    exact h
end
def tf_in_order : Tf := mkT (α := Bool × Write × Write) (fun a => [dWd a.1, dW a.2.1, dW a.2.2]) (fun _ => True) (fun a => .lst ((inOrder a.1 a.2.1 a.2.2).map dW))
section
variable {P : Program} {w : World} {K : PySem.W.Frag} {mg : Str → Option Value} {base : Heap}
theorem ok_in_order (T : Txt K mg) : FnOk P w K mg base CX0 1 T.f_in_order T.fd_in_order ["first", "head", "slot"] (spP K XR0 tf_in_order) := by
  refine okP (n := 0) T.F_in_order sc_in_order rfl (fun ds Φ Ξ ⟨_, e, _⟩ => by rw [e]; rfl) fun cdv A outer s H E hr => ⟨_, psis_one (psi_ret (pei_if (pti_cmp (op_eqD (hu64 hr)) op2_eq (nomark _) (pei_var 0) pei_str) (pei_lst (pai_cons (pei_var 1) (pai_cons (pei_var 2) pai_nil))) (pei_lst (pai_cons (pei_var 2) (pai_cons (pei_var 1) pai_nil))))), fun ds Φ Ξ hT => ?_⟩
  obtain ⟨⟨b, x, y⟩, rfl, _, h⟩ := hT
  walk_at "sf"
  cases b with
  | true => exact h
  | false => exact h
end
def tf_take_writes : Tf := mkT (α := File × Rule × Nat × Nat) (fun a => [dF a.1, dRule a.2.1, .int (a.2.2.1 : Int), .int (a.2.2.2 : Int)]) (fun a => Fine a.1) (fun a => optW (takeW a.1 a.2.1 a.2.2.1 a.2.2.2))
section
variable {P : Program} {w : World} {K : PySem.W.Frag} {mg : Str → Option Value} {base : Heap}
theorem ok_take_writes (T : Txt K mg) : FnOk P w K mg base CX0 2 T.f_take_writes T.fd_take_writes ["file", "rule", "room", "number"] (spP K XR0 tf_take_writes) := by
  refine okP (n := 4) T.F_take_writes sc_take_writes rfl (fun ds Φ Ξ ⟨_, e, _⟩ => by rw [e]; rfl) fun cdv A outer s H E hr => ⟨_, psis_cons (psi_unpack [4, 5] (pei_var 0) (by exact (pg_tup rfl (pgs_cons (pg_name (i := 4) sc_take_writes.nd rfl (by first | exact Or.inl rfl | exact Or.inr rfl)) (pgs_cons (pg_name (i := 5) sc_take_writes.nd rfl (by first | exact Or.inl rfl | exact Or.inr rfl)) pgs_nil)))))
    (psis_cons (psi_if (pti_cmp op_isN op2_isN (nomark _) (pei_var 4) pei_non)
      (psis_one (psi_ret (pei_if (pti_cmp op_lt op2_lt (nomark _) (pei_len T.m_len rfl (pai_cons (pei_var 5) pai_nil)) (pei_var 2)) (pei_lst (pai_cons (pei_tup (pai_cons (pei_len T.m_len rfl (pai_cons (pei_var 5) pai_nil)) (pai_cons (pei_tup (pai_cons (pei_gstr rfl T.c_ROW) (pai_cons (pei_var 3) pai_nil))) pai_nil))) pai_nil)) pei_non)))
      (psis_nil))
    (psis_cons (psi_unpack [6, 7] (pei_ixT (pei_var 5) (pei_var 4)) (by exact (pg_tup rfl (pgs_cons (pg_name (i := 6) sc_take_writes.nd rfl (by first | exact Or.inl rfl | exact Or.inr rfl)) (pgs_cons (pg_name (i := 7) sc_take_writes.nd rfl (by first | exact Or.inl rfl | exact Or.inr rfl)) pgs_nil)))))
    (psis_one (psi_ret (pei_def (ok_in_order T) (hr.mono (by decide)) T.g_in_order T.F_in_order.kp T.b_in_order passE (pai_cons (pei_ixT (pei_var 1) pei_int) (pai_cons (pei_tup (pai_cons pei_non (pai_cons (pei_if (pti_cmp (op_eqD (hu64 hr)) op2_eq (nomark _) (pei_var 6) (pei_gstr rfl T.c_FREE)) (pei_var 7) pei_non) pai_nil))) (pai_cons (pei_tup (pai_cons (pei_var 4) (pai_cons (pei_tup (pai_cons (pei_gstr rfl T.c_ROW) (pai_cons (pei_var 3) pai_nil))) pai_nil))) pai_nil))) rfl))))), fun ds Φ Ξ hT => ?_⟩
  obtain ⟨⟨f, r, room, n⟩, rfl, hf, h⟩ := hT
  have hf : Fine f := hf
  have h : Φ (optW (takeW f r room n)) := h
  unfold takeW at h
  unfold dF dRule
  cases hh : f.head with
  | none =>
    rw [hh] at h
    have h : Φ (optW (if f.cells.length < room then some [((some f.cells.length, .cell (.row n)) : Write)] else none)) := h
    walk_at "sf"
    rw [hh]
    walk_at "sf"
    by_cases hr : f.cells.length < room
    · rw [if_pos hr] at h
      rw [decide_eq_true hr]
      exact h
    · rw [if_neg hr] at h
      rw [decide_eq_false hr]
      exact h
  | some p =>
    rw [hh] at h
    have h : Φ (.lst ((inOrder r.1 (none, .link (freeLk f.cells p)) (some p, .cell (.row n))).map dW)) := h
    have hp : p < f.cells.length := by
      have := hf.head
      rw [hh] at this
      exact of_decide_eq_true this
    obtain ⟨c, hc, _⟩ := hf.at hp
    walk_at "sf"
    rw [hh]
    walk_at "sf"
    rw [atC hc]
    unfold freeLk at h
    rw [hc] at h
    cases c with
    | row k =>
      walk_at "sf"
      exact ⟨(r.1, (none, .link none), (some p, .cell (.row n))), rfl, trivial, h⟩
    | free l =>
      walk_at "sf"
      exact ⟨(r.1, (none, .link l), (some p, .cell (.row n))), rfl, trivial, h⟩
end
def tf_writes_of : Tf := mkT (α := File × Rule × Nat × Deed) (fun a => [dF a.1, dRule a.2.1, .int (a.2.2.1 : Int), dDeed a.2.2.2]) (fun a => Fine a.1 ∧ isOther a.2.2.2 = false) (fun a => optW (writesF a.1 a.2.1 a.2.2.1 a.2.2.2))
section
variable {P : Program} {w : World} {K : PySem.W.Frag} {mg : Str → Option Value} {base : Heap}
theorem ok_writes_of (T : Txt K mg) : FnOk P w K mg base CX0 5 T.f_writes_of T.fd_writes_of ["file", "rule", "room", "deed"] (spP K XR0 tf_writes_of) := by
  refine okP (n := 1) T.F_writes_of sc_writes_of rfl (fun ds Φ Ξ ⟨_, e, _⟩ => by rw [e]; rfl) fun cdv A outer s H E hr => ⟨_, psis_cons (psi_if (pti_cmp (op_eqD (hu64 hr)) op2_eq (nomark _) (pei_ixT (pei_var 3) pei_int) pei_str)
      (psis_one (psi_ret (pei_def (ok_mends_of T) (hr.mono (by decide)) T.g_mends_of T.F_mends_of.kp T.b_mends_of passE (pai_cons (pei_var 0) pai_nil) rfl)))
      (psis_nil))
    (psis_cons (psi_if (pti_cmp (op_eqD (hu64 hr)) op2_eq (nomark _) (pei_ixT (pei_var 3) pei_int) pei_str)
      (psis_one (psi_ret (pei_if (pti_chain op_le op_le op2_le op2_le pei_int (pei_ixT (pei_var 3) pei_int) (pei_gint rfl T.c_MOST_NUMBER)) (pei_def (ok_take_writes T) (hr.mono (by decide)) T.g_take_writes T.F_take_writes.kp T.b_take_writes passE (pai_cons (pei_var 0) (pai_cons (pei_var 1) (pai_cons (pei_var 2) (pai_cons (pei_ixT (pei_var 3) pei_int) pai_nil)))) rfl) pei_non)))
      (psis_nil))
    (psis_cons (psi_setF 4 (pei_ixT (pei_var 3) pei_int) sc_writes_of.nd)
    (psis_cons (psi_if (pti_bool (pwi_or (pti_not (pti_chain op_le op_lt op2_le op2_lt pei_int (pei_var 4) (pei_len T.m_len rfl (pai_cons (pei_ixT (pei_var 0) pei_int) pai_nil)))) (pwi_one (pti_cmp (op_neD (hu64 hr)) op2_ne (nomark _) (pei_ixT (pei_ixT (pei_ixT (pei_var 0) pei_int) (pei_var 4)) pei_int) (pei_gstr rfl T.c_ROW)))))
      (psis_one (psi_ret pei_non))
      (psis_nil))
    (psis_one (psi_ret (pei_def (ok_in_order T) (hr.mono (by decide)) T.g_in_order T.F_in_order.kp T.b_in_order passE (pai_cons (pei_ixT (pei_var 1) pei_int) (pai_cons (pei_tup (pai_cons pei_non (pai_cons (pei_var 4) pai_nil))) (pai_cons (pei_tup (pai_cons (pei_var 4) (pai_cons (pei_tup (pai_cons (pei_gstr rfl T.c_FREE) (pai_cons (pei_ixT (pei_var 0) pei_int) pai_nil))) pai_nil))) pai_nil))) rfl)))))), fun ds Φ Ξ hT => ?_⟩
  obtain ⟨⟨f, r, room, d⟩, rfl, ⟨hf, hd⟩, h⟩ := hT
  have hf : Fine f := hf
  cases d with
  | other w n => cases hd
  | mend =>
    unfold dDeed
    walk_at "sf"
    exact ⟨f, rfl, hf, h⟩
  | take n =>
    have h : Φ (optW (if 0 ≤ n ∧ n ≤ 999 then takeW f r room n.toNat else none)) := h
    unfold dDeed
    walk_at "sf"
    by_cases h1 : 0 ≤ n
    · rw [decide_eq_true h1]
      by_cases h2 : n ≤ 999
      · rw [decide_eq_true h2]
        rw [if_pos ⟨h1, h2⟩] at h
        walk_at "sf"
        refine ⟨(f, r, room, n.toNat), ?_, hf, h⟩
        show _ = [dF f, dRule r, .int (room : Int), .int ((n.toNat : Nat) : Int)]
        rw [Int.toNat_of_nonneg h1]
      · rw [decide_eq_false h2]
        rw [if_neg (fun z => h2 z.2)] at h
        exact h
    · rw [decide_eq_false h1]
      rw [if_neg (fun z => h1 z.1)] at h
      exact h
  | give p =>
    have h : Φ (optW (if 0 ≤ p ∧ p < (f.cells.length : Int) ∧ rowAt f.cells p.toNat = true then some (inOrder r.2 (none, .link (some p.toNat)) (some p.toNat, .cell (.free f.head))) else none)) := h
    unfold dDeed dF dRule
    walk_at "sf"
    by_cases h1 : 0 ≤ p
    · rw [decide_eq_true h1]
      by_cases h2 : p < (f.cells.length : Int)
      · rw [decide_eq_true h2]
        obtain ⟨k, rfl⟩ : ∃ k : Nat, p = (k : Int) := ⟨p.toNat, by omega⟩
        obtain ⟨c, hc, _⟩ := hf.at (show k < f.cells.length by omega)
        rw [Int.toNat_natCast] at h
        walk_at "sf"
        rw [atC hc]
        unfold rowAt at h
        rw [hc] at h
        cases c with
        | row n =>
          rw [if_pos ⟨h1, h2, rfl⟩] at h
          walk_at "sf"
          exact ⟨(r.2, (none, .link (some k)), (some k, .cell (.free f.head))), rfl, trivial, h⟩
        | free l =>
          rw [if_neg (fun z => by cases z.2.2)] at h
          walk_at "sf"
          exact h
      · rw [decide_eq_false h2]
        rw [if_neg (fun z => h2 z.2.1)] at h
        exact h
    · rw [decide_eq_false h1]
      rw [if_neg (fun z => h1 z.1)] at h
      exact h
end
def tf_written_in : Tf := mkT (α := File × Write) (fun a => [dF a.1, dW a.2]) (fun a => Fine a.1 ∧ (wOk a.1.cells.length a.2 = true ∨ wEnd a.1.cells.length a.2 = true)) (fun a => .dat (dF (put a.1 a.2)))
theorem writeOk_cases {n : Nat} {p : Lk} {q : What} (hw : wOk n (p, q) = true ∨ wEnd n (p, q) = true) : (∃ l, p = none ∧ q = .link l) ∨ ∃ i c, p = some i ∧ q = .cell c ∧ i ≤ n := by
  cases p with
  | none =>
    cases q with
    | link l => exact .inl ⟨l, rfl, rfl⟩
    | cell c => rcases hw with z | z <;> cases z
  | some i =>
    cases q with
    | link l => rcases hw with z | z <;> cases z
    | cell c =>
      refine .inr ⟨i, c, rfl, rfl, ?_⟩
      rcases hw with z | z
      · have z : (decide (i < n) && cellOk n c) = true := z
        rw [Bool.and_eq_true, decide_eq_true_iff] at z
        omega
      · cases c with
        | free l => cases z
        | row k =>
          have z : (decide (i = n) && decide (n < 12) && decide (k ≤ 999)) = true := z
          rw [Bool.and_eq_true, Bool.and_eq_true, decide_eq_true_iff] at z
          omega
section
variable {P : Program} {w : World} {K : PySem.W.Frag} {mg : Str → Option Value} {base : Heap}
theorem ok_written_in (T : Txt K mg) : FnOk P w K mg base CX0 1 T.f_written_in T.fd_written_in ["file", "write"] (spP K XR0 tf_written_in) := by
  refine okP (n := 2) T.F_written_in sc_written_in rfl (fun ds Φ Ξ ⟨_, e, _⟩ => by rw [e]; rfl) fun cdv A outer s H E hr => ⟨_, psis_cons (psi_unpack [2, 3] (pei_var 1) (by exact (pg_tup rfl (pgs_cons (pg_name (i := 2) sc_written_in.nd rfl (by first | exact Or.inl rfl | exact Or.inr rfl)) (pgs_cons (pg_name (i := 3) sc_written_in.nd rfl (by first | exact Or.inl rfl | exact Or.inr rfl)) pgs_nil)))))
    (psis_cons (psi_if (pti_cmp op_isN op2_isN (nomark _) (pei_var 2) pei_non)
      (psis_one (psi_ret (pei_tup (pai_cons (pei_var 3) (pai_cons (pei_ixT (pei_var 0) pei_int) pai_nil)))))
      (psis_nil))
    (psis_cons (psi_if (pti_cmp (op_eqD (hu64 hr)) op2_eq (nomark _) (pei_var 2) (pei_len T.m_len rfl (pai_cons (pei_ixT (pei_var 0) pei_int) pai_nil)))
      (psis_one (psi_ret (pei_tup (pai_cons (pei_ixT (pei_var 0) pei_int) (pai_cons (pei_catT (pei_ixT (pei_var 0) pei_int) (pei_tup (pai_cons (pei_var 3) pai_nil))) pai_nil)))))
      (psis_nil))
    (psis_one (psi_ret (pei_tup (pai_cons (pei_ixT (pei_var 0) pei_int) (pai_cons (pei_catT (pei_catT (pei_slT (pei_ixT (pei_var 0) pei_int) poi_none (poi_some (pei_var 2))) (pei_tup (pai_cons (pei_var 3) pai_nil))) (pei_slT (pei_ixT (pei_var 0) pei_int) (poi_some (pei_add (pei_var 2) pei_int)) poi_none)) pai_nil))))))), fun ds Φ Ξ hT => ?_⟩
  obtain ⟨⟨f, p, q⟩, rfl, ⟨hf, hw⟩, h⟩ := hT
  have hl := hf.few
  have hl : f.cells.length ≤ 12 := hl
  have h : Φ (.dat (dF (put f (p, q)))) := h
  rcases writeOk_cases hw with ⟨l, rfl, rfl⟩ | ⟨i, c, rfl, rfl, hi⟩
  · rw [put_link] at h
    unfold dF dW dWh
    walk_at "sf"
    exact h
  · have hi : i ≤ f.cells.length := hi
    rw [put_cell] at h
    unfold dF dW dWh
    walk_at "sf"
    rw [eq_cast]
    by_cases hx : i = f.cells.length
    · rw [if_pos hx] at h
      rw [decide_eq_true hx]
      unfold dF at h
      rw [List.map_append] at h
      walk_at "sf"
      exact ⟨by omega, h⟩
    · rw [if_neg hx] at h
      rw [decide_eq_false hx, cast1, cut_to (by rw [List.length_map]; exact hi), cut_from (by rw [List.length_map]; omega)]
      have h : Φ (.dat (.tuple [dL f.head, .tuple ((f.cells.set i c).map dC)])) := h
      rw [List.map_set, ← set_split (l := f.cells.map dC) (by rw [List.length_map]; omega)] at h
      walk_at "sf"
      refine ⟨?_, ?_, h⟩
      · rw [List.length_take, List.length_map]
        omega
      · rw [List.length_append, List.length_take, List.length_drop, List.length_map]
        simp only [List.length_cons, List.length_nil]
        omega
end
def resF : Option File → Res
  | none => .dat .none
  | some g => .dat (dF g)
def tf_stepped : Tf := mkT (α := File × Rule × Nat × Step) (fun a => [dF a.1, dRule a.2.1, .int (a.2.2.1 : Int), dStep a.2.2.2]) (fun a => Fine a.1 ∧ a.2.2.1 ≤ 12 ∧ deedOk a.2.2.2.1 = true) (fun a => resF (steppedF a.1 a.2.1 a.2.2.1 a.2.2.2))
theorem wsOk_at {f : File} {ws : List Write} (h : Fine f) (hw : wsOk f.cells.length ws) {i : Nat} {w : Write} (hi : ws[i]? = some w) : Fine ((ws.take i).foldl put f) ∧ (wOk ((ws.take i).foldl put f).cells.length w = true ∨ wEnd ((ws.take i).foldl put f).cells.length w = true) := by
  rcases hw with hw | ⟨v, rfl, hw⟩
  · obtain ⟨h1, h2⟩ := foldPut_fine (ws := ws.take i) h fun w hw' => hw w (List.mem_of_mem_take hw')
    exact ⟨h1, .inl (by rw [h2]; exact hw w (List.mem_of_getElem? hi))⟩
  · cases i with
    | zero =>
      cases hi
      exact ⟨h, .inr hw⟩
    | succ i => simp at hi
theorem step_loop {f : File} {ws : List Write} {Φ : Res → Prop} {Ξ : Exn → Prop} {a b c d e g : Ent} (h : Fine f) (hw : wsOk f.cells.length ws) (q : Φ (.dat (dF (ws.foldl put f)))) :
    ForI (.nm 7) (wSetF 0 (wDef tf_written_in (wCons (wVar 0) (wCons (wVar 7) wNil)))) (ws.map dW) [.dat (dF f), a, b, c, d, e, g, .no] { nx := fun ρ' => ∃ d, ρ'[0]? = some (.dat d) ∧ Φ (.dat d), rt := Φ, xc := Ξ } := by
  refine ⟨fun i ρ => ∃ z, ρ = [.dat (dF ((ws.take i).foldl put f)), a, b, c, d, e, g, z], ⟨_, rfl⟩, fun i d' ρ' hd hρ => ?_, fun ρ' hρ => ?_⟩
  · obtain ⟨z, rfl⟩ := hρ
    rw [List.getElem?_map] at hd
    cases hwi : ws[i]? with
    | none => rw [hwi] at hd; cases hd
    | some w =>
      rw [hwi] at hd
      cases hd
      obtain ⟨h1, h2⟩ := wsOk_at h hw hwi
      walk_at "sf"
      refine ⟨((ws.take i).foldl put f, w), rfl, ⟨h1, h2⟩, ?_⟩
      walk_at "sf"
      refine ⟨.dat (dW w), ?_⟩
      rw [List.take_add_one, hwi, List.foldl_append]
      rfl
  · obtain ⟨z, rfl⟩ := hρ
    rw [List.length_map, List.take_length]
    exact ⟨_, rfl, q⟩
theorem in_deeds {w : Str} : ([PyData.str (Str.ofString "take"), PyData.str (Str.ofString "give"), PyData.str (Str.ofString "mend")].any fun z => z.eqv (.str w)) = ((w == sTake) || (w == sGive) || (w == sMend)) := by
  show (PyData.eqv _ _ || (PyData.eqv _ _ || (PyData.eqv _ _ || false))) = _
  rw [v_str, v_str, v_str, Bool.or_false, Bool.or_assoc]
  congr 1
  · exact BEq.comm
  · congr 1
    · exact BEq.comm
    · exact BEq.comm
def dwd : Deed → Str
  | .take _ => sTake
  | .give _ => sGive
  | .mend => sMend
  | .other w _ => w
def drest : Deed → List PyData
  | .take n => [.int n]
  | .give n => [.int n]
  | .mend => []
  | .other _ n => [.int n]
theorem dDeed_eq (d : Deed) : dDeed d = .tuple (.str (dwd d) :: drest d) := by cases d <;> rfl
theorem dwd_in {d : Deed} (h : deedOk d = true) : ((dwd d == sTake) || (dwd d == sGive) || (dwd d == sMend)) = !isOther d := by
  cases d with
  | take n => show ((sTake == sTake) || _ || _) = true; rw [ws_take]; rfl
  | give n => show (_ || (sGive == sGive) || _) = true; rw [ws_give, Bool.or_true]; rfl
  | mend => show (_ || _ || (sMend == sMend)) = true; rw [ws_mend, Bool.or_true]
  | other w n =>
    have h : (PyData.strOk w && !(w == sTake) && !(w == sGive) && !(w == sMend)) = true := h
    show ((w == sTake) || (w == sGive) || (w == sMend)) = false
    revert h
    cases (w == sTake) <;> cases (w == sGive) <;> cases (w == sMend) <;> cases (PyData.strOk w) <;> decide
section
variable {P : Program} {w : World} {K : PySem.W.Frag} {mg : Str → Option Value} {base : Heap}
theorem ok_stepped (T : Txt K mg) : FnOk P w K mg base CX0 6 T.f_stepped T.fd_stepped ["file", "rule", "room", "step"] (spP K XR0 tf_stepped) := by
  refine okP (n := 4) T.F_stepped sc_stepped rfl (fun ds Φ Ξ ⟨_, e, _⟩ => by rw [e]; rfl) fun cdv A outer s H E hr => ⟨_, psis_cons (psi_unpack [4, 5] (pei_var 3) (by exact (pg_tup rfl (pgs_cons (pg_name (i := 4) sc_stepped.nd rfl (by first | exact Or.inl rfl | exact Or.inr rfl)) (pgs_cons (pg_name (i := 5) sc_stepped.nd rfl (by first | exact Or.inl rfl | exact Or.inr rfl)) pgs_nil)))))
    (psis_cons (psi_if (pti_cmp op_notIn_seq op2_notInT (by rfl) (pei_ixT (pei_var 4) pei_int) (pei_tup (pai_cons pei_str (pai_cons pei_str (pai_cons pei_str pai_nil)))))
      (psis_one (psi_ret pei_non))
      (psis_nil))
    (psis_cons (psi_setF 6 (pei_def (ok_writes_of T) (hr.mono (by decide)) T.g_writes_of T.F_writes_of.kp T.b_writes_of passE (pai_cons (pei_var 0) (pai_cons (pei_var 1) (pai_cons (pei_var 2) (pai_cons (pei_var 4) pai_nil)))) rfl) sc_stepped.nd)
    (psis_cons (psi_if (pti_bool (pwi_or (pti_cmp op_isN op2_isN (nomark _) (pei_var 6) pei_non) (pwi_one (pti_bool (pwi_and (pti_cmp op_notN op2_notN (nomark _) (pei_var 5) pei_non) (pwi_one (pti_not (pti_chain op_le op_le op2_le op2_le pei_int (pei_var 5) (pei_len T.m_len rfl (pai_cons (pei_var 6) pai_nil))))))))))
      (psis_one (psi_ret pei_non))
      (psis_nil))
    (psis_cons (psi_forL (.nm 7) PassesOwn.never rfl (pei_if (pti_cmp op_isN op2_isN (nomark _) (pei_var 5) pei_non) (pei_var 6) (pei_slL (pei_var 6) poi_none (poi_some (pei_var 5)))) (by exact (pg_name (i := 7) sc_stepped.nd rfl (by first | exact Or.inl rfl | exact Or.inr rfl)))
      (psis_one (psi_setF 0 (pei_def (ok_written_in T) (hr.mono (by decide)) T.g_written_in T.F_written_in.kp T.b_written_in passE (pai_cons (pei_var 0) (pai_cons (pei_var 7) pai_nil)) rfl) sc_stepped.nd)))
    (psis_one (psi_ret (pei_var 0))))))), fun ds Φ Ξ hT => ?_⟩
  obtain ⟨⟨f, r, room, d, m⟩, rfl, ⟨hf, hro, hd⟩, h⟩ := hT
  have hf : Fine f := hf
  have hro : room ≤ 12 := hro
  have hd : deedOk d = true := hd
  have h : Φ (resF (steppedF f r room (d, m))) := h
  unfold dStep
  walk_at "sf"
  rw [dDeed_eq]
  walk_at "sf"
  refine ⟨rfl, rfl, ?_⟩
  simp only [in_deeds, dwd_in hd]
  unfold steppedF at h
  cases ho : isOther d with
  | true =>
    have e : writesF f r room d = none := by
      cases d with
      | other w n => rfl
      | _ => cases ho
    rw [show writesF f r room (d, m).1 = none from e] at h
    exact h
  | false =>
    walk_at "sf"
    refine ⟨(f, r, room, d), by rw [← dDeed_eq], ⟨hf, ho⟩, ?_⟩
    have hwo : ∀ ws, writesF f r room d = some ws → wsOk f.cells.length ws := fun ws e => writesF_ok hf hro e
    have h : Φ (resF (match writesF f r room d with | none => none | some ws => doneF f ws m)) := h
    cases hw : writesF f r room d with
    | none =>
      rw [hw] at h
      show (if isNone (optW (writesF f r room d)).frz = true then Φ (.dat .none) else _)
      rw [hw]
      exact h
    | some ws =>
      rw [hw] at h
      have hwo := hwo ws hw
      have e1 : optW (writesF f r room d) = .lst (ws.map dW) := by rw [hw]; rfl
      show _
      rw [show (fun a : File × Rule × Nat × Deed => optW (writesF a.1 a.2.1 a.2.2.1 a.2.2.2)) (f, r, room, d) = .lst (ws.map dW) from e1]
      cases m with
      | none =>
        show _
        have h : Φ (.dat (dF (ws.foldl put f))) := h
        unfold dMany
        walk_at "sf"
        exact step_loop hf hwo h
      | some k =>
        have h : Φ (resF (if 0 ≤ k ∧ k ≤ (ws.length : Int) then some ((ws.take k.toNat).foldl put f) else none)) := h
        unfold dMany
        walk_at "sf"
        by_cases h1 : 0 ≤ k
        · rw [decide_eq_true h1]
          by_cases h2 : k ≤ (ws.length : Int)
          · rw [decide_eq_true h2]
            rw [if_pos ⟨h1, h2⟩] at h
            obtain ⟨j, rfl⟩ : ∃ j : Nat, k = (j : Int) := ⟨k.toNat, by omega⟩
            rw [Int.toNat_natCast] at h
            walk_at "sf"
            rw [cut_to (by rw [List.length_map]; omega), ← List.map_take]
            exact step_loop hf (wsOk_take hwo) h
          · rw [decide_eq_false h2]
            rw [if_neg (fun z => h2 z.2)] at h
            exact h
        · rw [decide_eq_false h1]
          rw [if_neg (fun z => h1 z.1)] at h
          exact h
end
def outP (f : RF) (ws : List Str) (room : Int) : Exn := match badR f with
  | some p => ⟨0, p⟩
  | none => if goodRule ws = true then (if 1 ≤ room ∧ (f.cells.length : Int) ≤ room ∧ room ≤ 12 then ⟨3, 0⟩ else ⟨2, 0⟩) else ⟨1, 0⟩
def tf_played : Tf := fun ds Φ Ξ => ∃ a : RF × List Str × Int, ds = [dRF a.1, .tuple (a.2.1.map .str), .int a.2.2, .list [.tuple [.tuple [.str (Str.ofString "x"), .int 1], .int 9]]] ∧ RfOk a.1 ∧ (∀ w ∈ a.2.1, PyData.strOk w = true) ∧ a.2.1.length ≤ 10 ∧ Ξ (outP a.1 a.2.1 a.2.2)
theorem rule_ofP {ws : List Str} (h1 : goodRule ws = true) : ∃ r : Rule, PyData.tuple (ws.map .str) = dRule r := by
  unfold goodRule at h1
  rw [Bool.and_eq_true, decide_eq_true_eq] at h1
  obtain ⟨h2, ha⟩ := h1
  match ws, h2 with
  | [a, b], _ =>
    have hw : ∀ w : Str, wHd w = true → ∃ k : Bool, PyData.str w = dWd k := fun w hw => by
      unfold wHd at hw
      rw [Bool.or_eq_true, Bool.or_eq_true] at hw
      rcases hw with z | z | z
      · exact ⟨true, by rw [← eq_of_beq z]; rfl⟩
      · exact ⟨false, by rw [← eq_of_beq z]; rfl⟩
      · cases z
    have ha : wHd a = true ∧ wHd b = true := by simpa using ha
    obtain ⟨x, ex⟩ := hw a ha.1
    obtain ⟨y, ey⟩ := hw b ha.2
    refine ⟨(x, y), ?_⟩
    show PyData.tuple [.str a, .str b] = .tuple [dWd x, dWd y]
    rw [ex, ey]
section
variable {P : Program} {w : World} {K : PySem.W.Frag} {mg : Str → Option Value} {base : Heap}
theorem ok_played (T : Txt K mg) : FnOk P w K mg base (L2.CX P w) 8 T.f_played T.fd_played ["file", "rule", "room", "steps"] (spP K (XR1 T.C) tf_played) := by
  refine okPX (n := 2) T.F_played sc_played rfl (fun ds Φ Ξ ⟨_, e, _⟩ => by rw [e]; rfl) fun cdv A outer s H E hr => ⟨_, psis_cons (psi_expr (pei_def (ok_need_file T) (hr.mono (by decide)) T.g_need_file T.F_need_file.kp T.b_need_file (passes_call (takes_of rfl rfl rfl rfl) (fun _ _ _ _ h => h)) (pai_cons (pei_var 0) pai_nil) rfl))
    (psis_cons (psi_expr (pei_def (ok_need_rule T) (hr.mono (by decide)) T.g_need_rule T.F_need_rule.kp T.b_need_rule (passes_call (takes_of rfl rfl rfl rfl) (fun _ _ _ _ h => h)) (pai_cons (pei_var 1) pai_nil) rfl))
    (psis_cons (psi_expr (pei_def (ok_need_room T) (hr.mono (by decide)) T.g_need_room T.F_need_room.kp T.b_need_room (passes_call (takes_of rfl rfl rfl rfl) (fun _ _ _ _ h => h)) (pai_cons (pei_var 0) (pai_cons (pei_var 2) pai_nil)) rfl))
    (psis_cons (psi_set 4 (pei_lst pai_nil) sc_played.nd)
    (psis_cons (psi_forR1 (.nm 5) (passes_of rfl) rfl T.m_range rfl (pai_cons (pei_len T.m_len rfl (pai_cons (pei_var 3) pai_nil)) pai_nil) (by exact (pg_name (i := 5) sc_played.nd rfl (by first | exact Or.inl rfl | exact Or.inr rfl)))
      (psis_cons (psi_setF 0 (pei_def ((ok_stepped T).xp) (hr.mono (by decide)) T.g_stepped T.F_stepped.kp T.b_stepped passE (pai_cons (pei_var 0) (pai_cons (pei_var 1) (pai_cons (pei_var 2) (pai_cons (pei_ixL (pei_var 3) (pei_var 5)) pai_nil)))) rfl) sc_played.nd)
      (psis_cons (psi_if (pti_cmp op_isN op2_isN (nomark _) (pei_var 0) pei_non)
        (psis_one (psi_raiseI 3 (errI_3 T) hr (by decide) rfl (takes_of rfl rfl rfl rfl) (pai_cons (pei_var 5) pai_nil) rfl (by decide) rfl))
        (psis_nil))
      (psis_one (psi_app 4 (pei_var 0))))))
    (psis_one (psi_retM 4)))))), fun ds Φ Ξ hT => ?_⟩
  obtain ⟨⟨f0, ws, room⟩, rfl, hf0, hs, hl, h⟩ := hT
  have hf0 : RfOk f0 := hf0
  have hs : ∀ w ∈ ws, PyData.strOk w = true := hs
  have hl : ws.length ≤ 10 := hl
  have h1 : Ξ (outP f0 ws room) := h
  clear h
  have hl0 := hf0.few
  walk_at "sf"
  refine ⟨f0, rfl, hf0.cells, by omega, ?_⟩
  unfold outP at h1
  cases hb : badR f0 with
  | some p =>
    rw [hb] at h1
    exact h1
  | none =>
    rw [hb] at h1
    refine ⟨ws, rfl, hs, hl, ?_⟩
    cases hg : goodRule ws with
    | false =>
      rw [hg] at h1
      exact h1
    | true =>
      rw [hg] at h1
      obtain ⟨hf, e⟩ := fine_of hf0 hb
      have hlen : (fileOf f0).cells.length = f0.cells.length := List.length_map ..
      obtain ⟨r, er⟩ := rule_ofP hg
      refine ⟨(_, _, room), rfl, by show (f0.cells.map dRC).length ≤ 100; rw [List.length_map]; exact hl0, ?_⟩
      show if 1 ≤ room ∧ ((f0.cells.map dRC).length : Int) ≤ room ∧ room ≤ 12 then _ else _
      rw [List.length_map]
      rw [if_pos rfl] at h1
      split
      · rename_i hroom
        rw [if_pos hroom] at h1
        rw [e, er]
        obtain ⟨n, rfl⟩ : ∃ n : Nat, room = (n : Int) := ⟨room.toNat, by omega⟩
        generalize fileOf f0 = g at hf hlen
        refine ⟨by omega, by omega, ?_⟩
        show ForR _ _ 0 1 _ _
        refine ⟨fun i ρ => i = 0 ∧ ρ = [.dat (dF g), .dat (dRule r), .dat (.int (n : Int)), .dat (.list [.tuple [.tuple [.str (Str.ofString "x"), .int 1], .int 9]]), .ls [], .no], ⟨rfl, rfl⟩, fun i ρ' hi hρ => ?_, fun ρ' hρ => ?_⟩
        · obtain ⟨rfl, rfl⟩ := hρ
          walk_at "sf"
          refine ⟨(g, r, n, (.other (Str.ofString "x") 1, some 9)), rfl, ⟨hf, show n ≤ 12 by omega, show deedOk (.other (Str.ofString "x") 1) = true by decide +kernel⟩, ?_⟩
          rw [show (fun a : File × Rule × Nat × Step => resF (steppedF a.1 a.2.1 a.2.2.1 a.2.2.2)) (g, r, n, (.other (Str.ofString "x") 1, some 9)) = .dat .none from rfl]
          walk_at "sf"
          exact h1
        · exact absurd hρ.1 (by decide)
      · rename_i hroom
        rw [if_neg hroom] at h1
        exact h1
end
/-- what two words make a rule -/
theorem rule_of {ws : List Str} (h : goodRule ws = true) : ∃ r : Rule, PyData.tuple (ws.map .str) = dRule r := by
  unfold goodRule at h
  rw [Bool.and_eq_true, decide_eq_true_eq] at h
  obtain ⟨h2, ha⟩ := h
  match ws, h2 with
  | [a, b], _ =>
    have hw : ∀ w : Str, wHd w = true → ∃ k : Bool, PyData.str w = dWd k := fun w hw => by
      unfold wHd at hw
      rw [Bool.or_eq_true, Bool.or_eq_true] at hw
      rcases hw with z | z | z
      · exact ⟨true, by rw [← eq_of_beq z]; rfl⟩
      · exact ⟨false, by rw [← eq_of_beq z]; rfl⟩
      · cases z
    have ha : wHd a = true ∧ wHd b = true := by simpa using ha
    obtain ⟨x, ex⟩ := hw a ha.1
    obtain ⟨y, ey⟩ := hw b ha.2
    refine ⟨(x, y), ?_⟩
    show PyData.tuple [.str a, .str b] = .tuple [dWd x, dWd y]
    rw [ex, ey]
theorem iteW {b : Bool} (e : b = true) {p q : Prop} (h : p) : if b = true then p else q := by subst e; exact h
/-- what is refused of a step that can't be done, whatever file, rule, room -/
def outW (f : RF) (ws : List Str) (room : Int) : Exn := match badR f with
  | some p => ⟨0, p⟩
  | none => if goodRule ws = true then (if 1 ≤ room ∧ (f.cells.length : Int) ≤ room ∧ room ≤ 12 then ⟨3, 0⟩ else ⟨2, 0⟩) else ⟨1, 0⟩
def tf_writes : Tf := fun ds Φ Ξ => ∃ a : RF × List Str × Int, ds = [dRF a.1, .tuple (a.2.1.map .str), .int a.2.2, .tuple [.str (Str.ofString "take"), .int 5000]] ∧ RfOk a.1 ∧ (∀ w ∈ a.2.1, PyData.strOk w = true) ∧ a.2.1.length ≤ 10 ∧ Ξ (outW a.1 a.2.1 a.2.2)
section
variable {P : Program} {w : World} {K : PySem.W.Frag} {mg : Str → Option Value} {base : Heap}
theorem ok_writes (T : Txt K mg) : FnOk P w K mg base (L2.CX P w) 8 T.f_writes T.fd_writes ["file", "rule", "room", "deed"] (spP K (XR1 T.C) tf_writes) := by
  refine okPX (n := 1) T.F_writes sc_writes rfl (fun ds Φ Ξ ⟨_, e, _⟩ => by rw [e]; rfl) fun cdv A outer s H E hr => ⟨_, psis_cons (psi_expr (pei_def (ok_need_file T) (hr.mono (by decide)) T.g_need_file T.F_need_file.kp T.b_need_file (passes_call (takes_of rfl rfl rfl rfl) (fun _ _ _ _ h => h)) (pai_cons (pei_var 0) pai_nil) rfl))
    (psis_cons (psi_expr (pei_def (ok_need_rule T) (hr.mono (by decide)) T.g_need_rule T.F_need_rule.kp T.b_need_rule (passes_call (takes_of rfl rfl rfl rfl) (fun _ _ _ _ h => h)) (pai_cons (pei_var 1) pai_nil) rfl))
    (psis_cons (psi_expr (pei_def (ok_need_room T) (hr.mono (by decide)) T.g_need_room T.F_need_room.kp T.b_need_room (passes_call (takes_of rfl rfl rfl rfl) (fun _ _ _ _ h => h)) (pai_cons (pei_var 0) (pai_cons (pei_var 2) pai_nil)) rfl))
    (psis_cons (psi_setF 4 (pei_if (pti_cmp op_in_seq op2_inT1 (by rfl) (pei_ixT (pei_var 3) pei_int) (pei_tup (pai_cons pei_str (pai_cons pei_str (pai_cons pei_str pai_nil))))) (pei_def ((ok_writes_of T).xp) (hr.mono (by decide)) T.g_writes_of T.F_writes_of.kp T.b_writes_of passE (pai_cons (pei_var 0) (pai_cons (pei_var 1) (pai_cons (pei_var 2) (pai_cons (pei_var 3) pai_nil)))) rfl) pei_non) sc_writes.nd)
    (psis_cons (psi_if (pti_cmp op_isN op2_isN (nomark _) (pei_var 4) pei_non)
      (psis_one (psi_raiseI 3 (errI_3 T) hr (by decide) rfl (takes_of rfl rfl rfl rfl) (pai_cons pei_int pai_nil) rfl (by decide) rfl))
      (psis_nil))
    (psis_one (psi_ret (pei_var 4))))))), fun ds Φ Ξ hT => ?_⟩
  obtain ⟨⟨f0, ws, room⟩, rfl, hf0, hs, hl, h⟩ := hT
  have hf0 : RfOk f0 := hf0
  have hs : ∀ w ∈ ws, PyData.strOk w = true := hs
  have hl : ws.length ≤ 10 := hl
  have h1 : Ξ (outW f0 ws room) := h
  clear h
  have hl0 := hf0.few
  walk_at "sf"
  refine ⟨f0, rfl, hf0.cells, by omega, ?_⟩
  unfold outW at h1
  cases hb : badR f0 with
  | some p =>
    rw [hb] at h1
    exact h1
  | none =>
    rw [hb] at h1
    refine ⟨ws, rfl, hs, hl, ?_⟩
    cases hg : goodRule ws with
    | false =>
      rw [hg] at h1
      exact h1
    | true =>
      rw [hg] at h1
      obtain ⟨hf, e⟩ := fine_of hf0 hb
      have hlen : (fileOf f0).cells.length = f0.cells.length := List.length_map ..
      obtain ⟨r, er⟩ := rule_of hg
      refine ⟨(_, _, room), rfl, by show (f0.cells.map dRC).length ≤ 100; rw [List.length_map]; exact hl0, ?_⟩
      show if 1 ≤ room ∧ ((f0.cells.map dRC).length : Int) ≤ room ∧ room ≤ 12 then _ else _
      rw [List.length_map]
      rw [if_pos rfl] at h1
      split
      · rename_i hroom
        rw [if_pos hroom] at h1
        rw [e, er]
        obtain ⟨n, rfl⟩ : ∃ n : Nat, room = (n : Int) := ⟨room.toNat, by omega⟩
        generalize fileOf f0 = g at hf hlen
        refine ⟨rfl, rfl, ?_⟩
        refine iteW (by
          show (PyData.eqv (.str (Str.ofString "take")) (.str (Str.ofString "take")) || (PyData.eqv (.str (Str.ofString "give")) (.str (Str.ofString "take")) || _)) = true
          rw [v_str, ws_take, Bool.true_or]) ?_
        refine ⟨(g, r, n, .take 5000), rfl, ⟨hf, rfl⟩, ?_⟩
        exact h1
      · rename_i hroom
        rw [if_neg hroom] at h1
        exact h1
end
def tf_need_small : Tf := fun ds Φ Ξ => ∃ room : Int, ds = [.int room] ∧ ¬ (1 ≤ room ∧ room ≤ 12) ∧ Ξ ⟨2, 0⟩
section
variable {P : Program} {w : World} {K : PySem.W.Frag} {mg : Str → Option Value} {base : Heap}
theorem ok_need_small (T : Txt K mg) : FnOk P w K mg base (L2.CX P w) 3 T.f_need_small T.fd_need_small ["room"] (spP K (XR1 T.C) tf_need_small) := by
  refine okPX (n := 0) T.F_need_small sc_need_small rfl (fun ds Φ Ξ ⟨_, e, _⟩ => by rw [e]; rfl) fun cdv A outer s H E hr => ⟨_, psis_cons (psi_expr (pei_def (ok_need_room T) (hr.mono (by decide)) T.g_need_room T.F_need_room.kp T.b_need_room (passes_call (takes_of rfl rfl rfl rfl) (fun _ _ _ _ h => h)) (pai_cons (pei_gref rfl T.c_EMPTY T.i_EMPTY) (pai_cons (pei_var 0) pai_nil)) rfl))
    (psis_one (psi_ret (pei_min2 T.m_min rfl rfl (pai_cons (pei_var 0) (pai_cons (pei_gint rfl T.c_MOST_ROOM) pai_nil))))), fun ds Φ Ξ hT => ?_⟩
  obtain ⟨room, rfl, hr, h⟩ := hT
  walk_at "sf"
  refine ⟨(.none, [], room), rfl, Nat.zero_le _, ?_⟩
  show if 1 ≤ room ∧ _ ∧ room ≤ 12 then _ else _
  rw [if_neg (fun z => hr ⟨z.1, z.2.2⟩)]
  exact h
end
def tf_lost_by : Tf := fun _ _ _ => False
section
variable {P : Program} {w : World} {K : PySem.W.Frag} {mg : Str → Option Value} {base : Heap}
theorem ok_lost_by (T : Txt K mg) : FnOk P w K mg base CX0 1 T.f_lost_by T.fd_lost_by ["rule", "room"] (spP K XR0 tf_lost_by) := ⟨fun _ _ _ _ ⟨_, _, _, _, _, _, z, _⟩ => z.elim, fun _ _ _ _ _ _ _ _ _ _ _ _ _ ⟨_, _, _, _, _, _, z, _⟩ => z.elim⟩
end
def tf_judged : Tf := fun ds Φ Ξ => ∃ a : List Str × Int, ds = [.tuple (a.1.map .str), .int a.2] ∧ (∀ w ∈ a.1, PyData.strOk w = true) ∧ a.1.length ≤ 10 ∧ (if goodRule a.1 = true then ¬ (1 ≤ a.2 ∧ a.2 ≤ 12) ∧ Ξ ⟨2, 0⟩ else Ξ ⟨1, 0⟩)
section
variable {P : Program} {w : World} {K : PySem.W.Frag} {mg : Str → Option Value} {base : Heap}
theorem ok_judged (T : Txt K mg) : FnOk P w K mg base (L2.CX P w) 8 T.f_judged T.fd_judged ["rule", "room"] (spP K (XR1 T.C) tf_judged) := by
  refine okPX (n := 1) T.F_judged sc_judged rfl (fun ds Φ Ξ ⟨_, e, _⟩ => by rw [e]; rfl) fun cdv A outer s H E hr => ⟨_, psis_cons (psi_expr (pei_def (ok_need_rule T) (hr.mono (by decide)) T.g_need_rule T.F_need_rule.kp T.b_need_rule (passes_call (takes_of rfl rfl rfl rfl) (fun _ _ _ _ h => h)) (pai_cons (pei_var 0) pai_nil) rfl))
    (psis_cons (psi_setF 2 (pei_def ((ok_lost_by T).xp) (hr.mono (by decide)) T.g_lost_by T.F_lost_by.kp T.b_lost_by passE (pai_cons (pei_var 0) (pai_cons (pei_def (ok_need_small T) (hr.mono (by decide)) T.g_need_small T.F_need_small.kp T.b_need_small (passes_call (takes_of rfl rfl rfl rfl) (fun _ _ _ _ h => h)) (pai_cons (pei_var 1) pai_nil) rfl) pai_nil)) rfl) sc_judged.nd)
    (psis_one (psi_ret (pei_if (pti_cmp op_isN op2_isN (nomark _) (pei_var 2) pei_non) (pei_tup (pai_cons pei_str pai_nil)) (pei_tup (pai_cons pei_str (pai_cons (pei_var 2) pai_nil))))))), fun ds Φ Ξ hT => ?_⟩
  obtain ⟨⟨ws, room⟩, rfl, hs, hl, h⟩ := hT
  have h : (if goodRule ws = true then ¬ (1 ≤ room ∧ room ≤ 12) ∧ Ξ ⟨2, 0⟩ else Ξ ⟨1, 0⟩) := h
  walk_at "sf"
  refine ⟨ws, rfl, hs, hl, ?_⟩
  split
  · rename_i hg
    rw [if_pos hg] at h
    exact ⟨room, rfl, h⟩
  · rename_i hg
    rw [if_neg hg] at h
    exact h
end
def tf_written : Tf := tfCheck
theorem log_small {n : Nat} (h : n ≤ 999) : ((n : Int)).natAbs.log2 < 1920 := by
  rw [Int.natAbs_natCast]
  have h1 : n.log2 < 10 := by
    by_cases q : n = 0
    · subst q; decide
    · exact (Nat.log2_lt q).mpr (by omega)
  omega
theorem fine_what {f : File} (h : Fine f) {c : Cell} (hc : c ∈ f.cells) : ∀ n, whatL c = some n → n ≤ 999 := fun n e => by
  have h1 := h.cells c hc
  have h2 := h.few
  cases c with
  | row k =>
    cases e
    exact of_decide_eq_true h1
  | free l =>
    have e : l = some n := e
    subst e
    have := of_decide_eq_true (p := n < f.cells.length) h1
    omega
theorem fine_head {f : File} (h : Fine f) : ∀ n, f.head = some n → n ≤ 999 := fun n e => by
  have h1 := h.head
  rw [e] at h1
  have h2 := h.few
  have := of_decide_eq_true (p := n < f.cells.length) h1
  omega
theorem numS_len {l : Lk} (h : ∀ n, l = some n → n ≤ 999) : (numS l).length ≤ 3 := by
  cases l with
  | none => decide
  | some n => exact (numF (h n rfl)).hi
theorem dWhat_eq (c : Cell) : dWhat c = dL (whatL c) := by cases c <;> rfl
theorem app_len (s t : Str) : (s ++ t).length = s.length + t.length := by
  show (s.cps ++ t.cps).size = _
  rw [Array.size_append]
  rfl
theorem cellS_len {f : File} (h : Fine f) {c : Cell} (hc : c ∈ f.cells) : (cellS c).length ≤ 4 := by
  have := numS_len (fine_what h hc)
  unfold cellS
  rw [app_len]
  have e : (headS c).length = 1 := by
    cases c with
    | row n => show (Str.ofString "r").length = 1; decide
    | free l => show (Str.ofString "f").length = 1; decide
  omega
theorem words_sum {f : File} (h : Fine f) : ((wordsF f).map (·.length)).sum + (wordsF f).length * (Str.ofString " ").length ≤ 16777216 := by
  have h1 : ∀ {cs : List Cell}, (∀ c ∈ cs, (cellS c).length ≤ 4) → ((cs.map cellS).map (·.length)).sum ≤ 4 * cs.length := by
    intro cs
    induction cs with
    | nil => intro _; exact Nat.zero_le _
    | cons c cs ih =>
      intro hc
      have q1 := hc c List.mem_cons_self
      have q2 := ih fun d hd => hc d (List.mem_cons_of_mem _ hd)
      rw [List.map_cons, List.map_cons, List.sum_cons, List.length_cons]
      omega
  have h2 := h1 fun c hc => cellS_len h hc
  have h3 := numS_len (fine_head h)
  have h4 := h.few
  have e : (Str.ofString " ").length = 1 := by decide
  unfold wordsF
  rw [List.map_cons, List.sum_cons, List.length_cons, List.length_map, e]
  omega
theorem first_row : atI (Str.ofString "row").cps.toList 0 = some 114 := by decide +kernel
theorem first_free : atI (Str.ofString "free").cps.toList 0 = some 102 := by decide +kernel
theorem sign_r : (⟨#[114]⟩ : Str) = Str.ofString "r" := by decide +kernel
theorem sign_f : (⟨#[102]⟩ : Str) = Str.ofString "f" := by decide +kernel
theorem len_row : (Str.ofString "row").length = 3 := by decide +kernel
theorem len_free : (Str.ofString "free").length = 4 := by decide +kernel
theorem len_r : (⟨#[114]⟩ : Str).length = 1 := rfl
theorem len_f : (⟨#[102]⟩ : Str).length = 1 := rfl
theorem len_minus : (Str.ofString "-").length = 1 := by decide +kernel
abbrev textW : WE := wOp sCatS (wOp sIxS (wVar 2) (wC (PyData.int 0))) (wIf (wTest (wOp sIsN (wVar 3) (wC PyData.none))) (wC (PyData.str (Str.ofString "-"))) (wCall sStrI (wCons (wVar 3) wNil)))
theorem text_cell {f : File} (hf : Fine f) {c : Cell} (hc : c ∈ f.cells) {a b : Ent} {Φ : Res → Prop} {Ξ : Exn → Prop} (h : Φ (.dat (.str (cellS c)))) : textW [a, b, .dat (.str (wordOf c)), .dat (dL (whatL c))] Φ Ξ := by
  have hw := fine_what hf hc
  have hlen := numS_len hw
  cases c with
  | row n =>
    have hn : n ≤ 999 := hw n rfl
    have hg := log_small hn
    have e : cellS (.row n) = (⟨#[114]⟩ : Str) ++ Str.ofString (toString (n : Int)) := by rw [sign_r]; rfl
    rw [e] at h
    have hlen : (Str.ofString (toString (n : Int))).length ≤ 3 := hlen
    unfold wordOf whatL
    walk_at "sf"
    rw [first_row]
    exact ⟨by rw [len_row]; omega, _, rfl, hg, by rw [len_r]; omega, h⟩
  | free l =>
    unfold wordOf
    cases l with
    | none =>
      have e : cellS (.free none) = (⟨#[102]⟩ : Str) ++ Str.ofString "-" := by rw [sign_f]; rfl
      rw [e] at h
      unfold whatL
      walk_at "sf"
      rw [first_free]
      exact ⟨by rw [len_free]; omega, _, rfl, by rw [len_f, len_minus]; omega, h⟩
    | some n =>
      have hn : n ≤ 999 := hw n rfl
      have hg := log_small hn
      have e : cellS (.free (some n)) = (⟨#[102]⟩ : Str) ++ Str.ofString (toString (n : Int)) := by rw [sign_f]; rfl
      rw [e] at h
      have hlen : (Str.ofString (toString (n : Int))).length ≤ 3 := hlen
      unfold whatL
      walk_at "sf"
      rw [first_free]
      exact ⟨by rw [len_free]; omega, _, rfl, hg, by rw [len_f]; omega, h⟩
theorem text_loop {f : File} (hf : Fine f) {x : Ent} {w0 : Str} {N : Rho → Prop} {Φ : Res → Prop} {Ξ : Exn → Prop} (q : ∀ y z, N [x, .ls (.str w0 :: (f.cells.map cellS).map PyData.str), y, z]) :
    ForI (.tp [2, 3]) (wApp 1 textW) (f.cells.map dC) [x, .ls [.str w0], .no, .no] { nx := N, rt := Φ, xc := Ξ } := by
  have hl := hf.few
  refine ⟨fun i ρ => ∃ y z, ρ = [x, .ls (.str w0 :: ((f.cells.take i).map cellS).map PyData.str), y, z], ⟨_, _, rfl⟩, fun i d ρ' hd hρ => ?_, fun ρ' hρ => ?_⟩
  · obtain ⟨y, z, rfl⟩ := hρ
    rw [List.getElem?_map] at hd
    cases hc : f.cells[i]? with
    | none => rw [hc] at hd; cases hd
    | some c =>
      rw [hc] at hd
      cases hd
      have hi : i < f.cells.length := (List.getElem?_eq_some_iff.mp hc).1
      refine ⟨[.str (wordOf c), dL (whatL c)], by rw [dC_eq, dWhat_eq], rfl, ?_⟩
      refine ⟨_, rfl, ?_, ?_⟩
      · rw [List.length_cons, List.length_map, List.length_map, List.length_take]
        omega
      · refine text_cell hf (List.mem_of_getElem? hc) ?_
        refine ⟨.dat (.str (wordOf c)), .dat (dL (whatL c)), ?_⟩
        rw [List.take_add_one, hc, List.map_append, List.map_append]
        rfl
  · obtain ⟨y, z, rfl⟩ := hρ
    rw [List.length_map, List.take_length]
    exact q y z
section
variable {P : Program} {w : World} {K : PySem.W.Frag} {mg : Str → Option Value} {base : Heap}
theorem ok_written (T : Txt K mg) : FnOk P w K mg base (L2.CX P w) 6 T.f_written T.fd_written ["file"] (spP K (XR1 T.C) tf_written) := by
  refine okPX (n := 3) T.F_written sc_written rfl (fun ds Φ Ξ ⟨_, e, _⟩ => by rw [e]; rfl) fun cdv A outer s H E hr => ⟨_, psis_cons (psi_expr (pei_def (ok_need_file T) (hr.mono (by decide)) T.g_need_file T.F_need_file.kp T.b_need_file (passes_call (takes_of rfl rfl rfl rfl) (fun _ _ _ _ h => h)) (pai_cons (pei_var 0) pai_nil) rfl))
    (psis_cons (psi_set 1 (pei_lst (pai_cons (pei_if (pti_cmp op_isN op2_isN (nomark _) (pei_ixT (pei_var 0) pei_int) pei_non) pei_str (pei_strI T.m_str rfl (pai_cons (pei_ixT (pei_var 0) pei_int) pai_nil))) pai_nil)) sc_written.nd)
    (psis_cons (psi_forT (.tp [2, 3]) (passes_of rfl) rfl (pei_ixT (pei_var 0) pei_int) (by exact (pg_tup rfl (pgs_cons (pg_name (i := 2) sc_written.nd rfl (by first | exact Or.inl rfl | exact Or.inr rfl)) (pgs_cons (pg_name (i := 3) sc_written.nd rfl (by first | exact Or.inl rfl | exact Or.inr rfl)) pgs_nil))))
      (psis_one (psi_app 1 (pei_catS (pei_ixS (pei_var 2) pei_int) (pei_if (pti_cmp op_isN op2_isN (nomark _) (pei_var 3) pei_non) pei_str (pei_strI T.m_str rfl (pai_cons (pei_var 3) pai_nil)))))))
    (psis_one (psi_frz 1 (psi_ret (pei_join pei_str (pei_var 1))))))), fun ds Φ Ξ hT => ?_⟩
  obtain ⟨f0, rfl, hf0, h⟩ := hT
  have hl0 := hf0.few
  walk_at "sf"
  refine ⟨f0, rfl, hf0.cells, by omega, ?_⟩
  cases hb : badR f0 with
  | some p =>
    rw [hb] at h
    exact h
  | none =>
    rw [hb] at h
    obtain ⟨hf, e⟩ := fine_of hf0 hb
    rw [e]
    generalize fileOf f0 = f at hf
    have hl := hf.few
    have h : Φ (.dat (.str (textF f))) := h _
    unfold dF
    walk_at "sf"
    have fin : ∀ y z : Ent, ∃ ds, ([Ent.dat (.tuple [dL f.head, .tuple (f.cells.map dC)]), .ls (.str (numS f.head) :: (f.cells.map cellS).map PyData.str), y, z] : Rho)[1]? = some (Ent.ls ds) ∧ ∃ d, (List.set [Ent.dat (.tuple [dL f.head, .tuple (f.cells.map dC)]), .ls (.str (numS f.head) :: (f.cells.map cellS).map PyData.str), y, z] 1 (Ent.dat (PyData.list ds)))[1]? = some (Ent.dat d) ∧ sJoin (Str.ofString " ") d Φ := fun y z => ⟨_, rfl, _, rfl, wordsF f, rfl, words_sum hf, h⟩
    cases hh : f.head with
    | none =>
      rw [hh] at fin
      exact text_loop hf (w0 := numS none) fin
    | some n =>
      rw [hh] at fin
      walk_at "sf"
      exact ⟨log_small (fine_head hf n hh), text_loop hf (w0 := numS (some n)) fin⟩
end
def tf__law_taken : Tf := mkTR (α := Nat) (fun n => [.int (n : Int)]) (fun n => 1 ≤ n ∧ n ≤ 1000000) (fun n r => ∃ v : Nat, v < n ∧ r = .dat (.int (v : Int)))
theorem taken {n : Int} {Φ : Res → Prop} {Ξ : Exn → Prop} (k : Nat) (e : n = (k : Int)) (h1 : 1 ≤ k ∧ k ≤ 1000000) (h : ∀ v : Nat, v < k → Φ (.dat (.int (v : Int)))) : tf__law_taken [.int n] Φ Ξ := ⟨k, by rw [e], h1, fun r ⟨v, hv, er⟩ => by rw [er]; exact h v hv⟩
theorem mod_lt {a n : Int} (h : 0 < n) : ∃ v : Nat, (v : Int) < n ∧ a % n = (v : Int) := ⟨(a % n).toNat, by have := Int.emod_nonneg a (show n ≠ 0 by omega); have := Int.emod_lt_of_pos a h; omega, by have := Int.emod_nonneg a (show n ≠ 0 by omega); omega⟩
section
variable {P : Program} {w : World} {K : PySem.W.Frag} {mg : Str → Option Value} {base : Heap}
theorem ok__law_taken (T : Txt K mg) : FnOk P w K mg base CX0 1 T.f__law_taken T.fd__law_taken ["_law_row", "_law_many"] (spR K XR0 tf__law_taken) := by
  refine T.F__law_taken.ok sc__law_taken (fun vs H Q E ⟨r, us, G, ds, Φ, Ξ, ev, e, hr, il, ⟨n, hT, _⟩, _⟩ => by rw [ev, List.length_cons, ← il.len, hT]; rfl) fun cdv A outer s0 H vs Q E hr ⟨r, us, G, ds, Φ, Ξ, ev, e, hrow, il, ⟨n, hT, hn, hΦ⟩, q, ex⟩ => ?_
  have hn : 1 ≤ n ∧ n ≤ 1000000 := hn
  subst ev
  subst hT
  obtain ⟨v, rfl, im⟩ := imL_1 il
  rw [im_int] at im
  subst im
  obtain ⟨hG, s, ns, i, x, hH, scr, hi, hx, hx2⟩ := hrow
  refine ⟨_, pss_cons (ps_asg (pe_op op_add (pe_ix ix_list (pv 0) pe_int (fun _ _ => rfl)) pe_int) (pg_sub (pv 0) pe_int set_list))
    (pss_cons (ps_if (pt_cmpR op_gt (pe_ix ix_list (pv 0) pe_int (fun _ _ => rfl)) (pe_callB call_len_seq (by rfl) T.m_len PySem.boot_len (pa_cons (pe_ix ix_list (pv 0) pe_int (fun _ _ => rfl)) pa_nil)) (nomark _))
      (pss_cons (ps_asg (pe_op op_mod (pe_op op_add (pe_op op_mul (pe_ix ix_list (pv 0) pe_int (fun _ _ => rfl)) pe_int) pe_int) pe_int) (pg_sub (pv 0) pe_int set_list))
        (pss_one (ps_ret (pe_op op_mod (pe_op op_fdiv (pe_ix ix_list (pv 0) pe_int (fun _ _ => rfl)) pe_int) (pv 1)))))
      pss_nil)
    (pss_cons (ps_set (i := 2) sc__law_taken.nd rfl (.inl rfl) (pe_ix ix_list (pe_ix ix_list (pv 0) pe_int (fun _ _ => rfl)) (pe_op op_sub (pe_ix ix_list (pv 0) pe_int (fun _ _ => rfl)) pe_int) (fun _ _ => rfl)))
    (pss_cons (ps_asg (pe_op op_mod (pe_op op_add (pe_op op_add (pe_op op_mul (pe_ix ix_list (pv 0) pe_int (fun _ _ => rfl)) pe_int) (pv 2)) pe_int) pe_int) (pg_sub (pv 0) pe_int set_list))
    (pss_one (ps_ret (pe_op op_mod (pv 2) (pv 1))))))), ?_⟩
  have sqH : SqL K H r [.ref s, .int i, .int x] := sq_of hH
  refine ⟨.ref r, rfl, r, _, 1, _, rfl, rfl, sqH, atI_nat (j := 1) rfl, i, 1, rfl, rfl, .ref r, rfl, r, _, 1, 1, rfl, rfl, hH, rfl, ?_⟩
  have e1 : Ex G (upd H r (.lst [.ref s, .int (i + 1), .int x])) := e.out hG
  have h1 : (upd H r (.lst [.ref s, .int (i + 1), .int x])) r = some (.lst [.ref s, .int (i + 1), .int x]) := upd_same
  have hk1 : ∀ a, a ≠ r → (upd H r (.lst [.ref s, .int (i + 1), .int x])) a = H a := fun a ha => upd_ne ha
  have sq1 : SqL K (upd H r (.lst [.ref s, .int (i + 1), .int x])) r [.ref s, .int (i + 1), .int x] := sq_of h1
  have sqs : SqL K (upd H r (.lst [.ref s, .int (i + 1), .int x])) s (ns.map V.int) := scr.sql e1
  have fin : ∀ x2 : Int, 0 ≤ x2 → x2 < 2147483647 → Fin' K ⟨some r, G, H⟩ G (upd (upd H r (.lst [.ref s, .int (i + 1), .int x])) r (.lst [.ref s, .int (i + 1), .int x2])) := fun x2 a1 a2 => by
    refine ⟨.refl _, e1.out hG, fun a o h hne _ => ?_, (TblK.lst hH).trans (.lst h1), fun a h => ?_, fun a h _ => h, fun r' hr' => ?_⟩
    · have ha : a ≠ r := fun z => hne (by rw [z])
      rw [upd_ne ha, hk1 a ha]
      exact h
    · by_cases ha : a = r
      · subst ha
        rw [upd_same]
        exact fun z => by cases z
      · rw [upd_ne ha, hk1 a ha]
        exact h
    · cases hr'
      exact ⟨hG, s, ns, i + 1, x2, upd_same, scr, by omega, a1, a2⟩
  refine ⟨.ref r, rfl, r, _, 1, _, rfl, rfl, sq1, atI_nat (j := 1) rfl, .ref r, rfl, r, _, 0, _, rfl, rfl, sq1, atI_nat (j := 0) rfl, s, _, rfl, .inl sqs, i + 1, _, rfl, rfl, _, rfl, ite2 (fun hlt => ?_) (fun hlt => ?_)⟩
  · refine ⟨.ref r, rfl, r, _, 2, _, rfl, rfl, sq1, atI_nat (j := 2) rfl, x, _, rfl, rfl, .inl ⟨by omega, by omega⟩, _, _, rfl, rfl, _, _, rfl, rfl, (by show (0 : Int) < 2147483647; decide), .ref r, rfl, r, _, 2, 2, rfl, rfl, upd_same, rfl, ?_⟩
    obtain ⟨y, y1, y2⟩ := mod_lt (a := x * 48271 + 11) (n := 2147483647) (by decide)
    obtain ⟨v, v1, v2⟩ := mod_lt (a := (x * 48271 + 11) % 2147483647 / 7) (n := (n : Int)) (by omega)
    refine ⟨.ref r, rfl, r, _, 2, _, rfl, rfl, sq_of upd_same, atI_nat (j := 2) rfl, _, _, rfl, rfl, ⟨by decide, by decide⟩, .int n, rfl, _, _, rfl, rfl, (by show (0 : Int) < n; omega), ?_⟩
    refine q _ (.dat (.int ((v : Nat) : Int))) G _ (fin ((x * 48271 + 11) % 2147483647) (by omega) (by omega)) ?_ (hΦ _ ⟨v, by omega, rfl⟩)
    show Im _ _ _ _
    rw [im_int, ← v2]
  · have hil : i < (ns.length : Int) := by
      have h := of_decide_eq_false (Bool.eq_false_iff.mpr hlt)
      rw [List.length_map] at h
      omega
    have gi : (ns.map V.int)[i.toNat]? = some (.int ns[i.toNat]) := by
      rw [List.getElem?_map, List.getElem?_eq_getElem (by omega)]
      rfl
    have ga : atI (ns.map V.int) (i + 1 - 1) = some (.int ns[i.toNat]) := by
      rw [show i + 1 - 1 = ((i.toNat : Nat) : Int) by omega]
      exact atI_nat gi
    generalize ns[i.toNat] = m at ga
    refine ⟨.ref r, rfl, r, _, 0, _, rfl, rfl, sq1, atI_nat (j := 0) rfl, .ref r, rfl, r, _, 1, _, rfl, rfl, sq1, atI_nat (j := 1) rfl, i + 1, _, rfl, rfl, s, _, _, _, rfl, rfl, sqs, ga, ?_⟩
    refine ⟨.ref r, rfl, r, _, 2, _, rfl, rfl, sq1, atI_nat (j := 2) rfl, x, _, rfl, rfl, .inl ⟨by omega, by omega⟩, .int m, rfl, _, _, rfl, rfl, _, _, rfl, rfl, _, _, rfl, rfl, (by show (0 : Int) < 2147483647; decide), .ref r, rfl, r, _, 2, 2, rfl, rfl, upd_same, rfl, ?_⟩
    obtain ⟨y, y1, y2⟩ := mod_lt (a := x * 48271 + m + 11) (n := 2147483647) (by decide)
    obtain ⟨v, v1, v2⟩ := mod_lt (a := m) (n := (n : Int)) (by omega)
    refine ⟨.int m, rfl, .int n, rfl, _, _, rfl, rfl, (by show (0 : Int) < n; omega), ?_⟩
    refine q _ (.dat (.int ((v : Nat) : Int))) G _ (fin ((x * 48271 + m + 11) % 2147483647) (by omega) (by omega)) ?_ (hΦ _ ⟨v, by omega, rfl⟩)
    show Im _ _ _ _
    rw [im_int, ← v2]
end
def tf__law_rule : Tf := mkTR (α := Unit) (fun _ => []) (fun _ => True) (fun _ r => ∃ u : Rule, r = .dat (dRule u))
theorem words_at {v : Nat} (h : v < 2) : ∃ b : Bool, atI [PyData.str (Str.ofString "head"), .str (Str.ofString "slot")] ((v : Nat) : Int) = some (dWd b) := by
  cases v with
  | zero => exact ⟨true, atI_nat (j := 0) rfl⟩
  | succ k =>
    cases k with
    | zero => exact ⟨false, atI_nat (j := 1) rfl⟩
    | succ k => omega
section
variable {P : Program} {w : World} {K : PySem.W.Frag} {mg : Str → Option Value} {base : Heap}
theorem ok__law_rule (T : Txt K mg) : FnOk P w K mg base CX0 2 T.f__law_rule T.fd__law_rule ["_law_row"] (spR K XR0 tf__law_rule) := by
  refine okR (n := 0) T.F__law_rule sc__law_rule rfl (fun ds Φ Ξ ⟨_, e, _⟩ => by rw [e]; rfl) fun cdv A outer s H E hr => ⟨_, psis_one (psi_ret (pei_tup (pai_cons (pei_ixL (pei_lst (pai_cons pei_str (pai_cons pei_str pai_nil))) (pei_defR 0 (ok__law_taken T) (hr.mono (by decide)) T.g__law_taken T.F__law_taken.kp T.b__law_taken passE (pai_cons pei_int pai_nil) rfl)) (pai_cons (pei_ixL (pei_lst (pai_cons pei_str (pai_cons pei_str pai_nil))) (pei_defR 0 (ok__law_taken T) (hr.mono (by decide)) T.g__law_taken T.F__law_taken.kp T.b__law_taken passE (pai_cons pei_int pai_nil) rfl)) pai_nil)))), fun ds Φ Ξ hT => ?_⟩
  obtain ⟨_, rfl, _, h⟩ := hT
  walk_at "sf"
  refine taken 2 rfl (by omega) fun a ha => ?_
  obtain ⟨x, ex⟩ := words_at ha
  walk_at "sf"
  rw [ex]
  walk_at "sf"
  refine taken 2 rfl (by omega) fun b hb => ?_
  obtain ⟨y, ey⟩ := words_at hb
  walk_at "sf"
  rw [ey]
  walk_at "sf"
  exact h _ ⟨(x, y), rfl⟩
end
def tf__law_file : Tf := mkTR (α := Nat) (fun m => [.int (m : Int)]) (fun m => m ≤ 12) (fun m r => ∃ f : File, Fine f ∧ f.cells.length ≤ m ∧ r = .dat (dF f))
def lnks (n : Nat) : List PyData := PyData.none :: (List.range n).map fun i : Nat => PyData.int (i : Int)
theorem lnks_at {n v : Nat} (h : v < n + 1) : ∃ l : Lk, linkOk n l = true ∧ atI (lnks n) ((v : Nat) : Int) = some (dL l) := by
  cases v with
  | zero => exact ⟨none, rfl, atI_nat (j := 0) rfl⟩
  | succ k =>
    refine ⟨some k, decide_eq_true (by omega), atI_nat ?_⟩
    show ((List.range n).map fun i : Nat => PyData.int (i : Int))[k]? = _
    rw [List.getElem?_map, List.getElem?_range (by omega)]
    rfl
theorem two_at {v a b : Nat} (h : v < 2) : ∃ k : Nat, (k = a ∨ k = b) ∧ atI [PyData.int (a : Int), .int (b : Int)] ((v : Nat) : Int) = some (.int (k : Int)) := by
  cases v with
  | zero => exact ⟨a, .inl rfl, atI_nat (j := 0) rfl⟩
  | succ k =>
    cases k with
    | zero => exact ⟨b, .inr rfl, atI_nat (j := 1) rfl⟩
    | succ k => omega
section
variable {P : Program} {w : World} {K : PySem.W.Frag} {mg : Str → Option Value} {base : Heap}
theorem ok__law_file (T : Txt K mg) : FnOk P w K mg base CX0 2 T.f__law_file T.fd__law_file ["_law_row", "_law_most"] (spR K XR0 tf__law_file) := by
  refine okR (n := 5) T.F__law_file sc__law_file rfl (fun ds Φ Ξ ⟨_, e, _⟩ => by rw [e]; rfl) fun cdv A outer s H E hr => ⟨_, psis_cons (psi_setF 2 (pei_defR 0 (ok__law_taken T) (hr.mono (by decide)) T.g__law_taken T.F__law_taken.kp T.b__law_taken passE (pai_cons (pei_add (pei_var 1) pei_int) pai_nil) rfl) sc__law_file.nd)
    (psis_cons (psi_setF 3 (pei_add pei_int (pei_defR 0 (ok__law_taken T) (hr.mono (by decide)) T.g__law_taken T.F__law_taken.kp T.b__law_taken passE (pai_cons pei_int pai_nil) rfl)) sc__law_file.nd)
    (psis_cons (psi_setF 4 (pei_catL (pei_lst (pai_cons pei_non pai_nil)) (pei_listRange T.m_list rfl T.m_range rfl rfl (pei_var 2))) sc__law_file.nd)
    (psis_cons (psi_set 5 (pei_lst pai_nil) sc__law_file.nd)
    (psis_cons (psi_forR1 (.nm 6) PassesOwn.never rfl T.m_range rfl (pai_cons (pei_var 2) pai_nil) (by exact (pg_name (i := 6) sc__law_file.nd rfl (by first | exact Or.inl rfl | exact Or.inr rfl)))
      (psis_one (psi_if (pti_cmp (op_eqD (hu64 hr)) op2_eq (nomark _) (pei_defR 0 (ok__law_taken T) (hr.mono (by decide)) T.g__law_taken T.F__law_taken.kp T.b__law_taken passE (pai_cons (pei_var 3) pai_nil) rfl) pei_int)
        (psis_one (psi_app 5 (pei_tup (pai_cons pei_str (pai_cons (pei_ixL (pei_var 4) (pei_defR 0 (ok__law_taken T) (hr.mono (by decide)) T.g__law_taken T.F__law_taken.kp T.b__law_taken passE (pai_cons (pei_add (pei_var 2) pei_int) pai_nil) rfl)) pai_nil)))))
        (psis_one (psi_app 5 (pei_tup (pai_cons pei_str (pai_cons (pei_ixL (pei_lst (pai_cons (pei_defR 0 (ok__law_taken T) (hr.mono (by decide)) T.g__law_taken T.F__law_taken.kp T.b__law_taken passE (pai_cons pei_int pai_nil) rfl) (pai_cons (pei_defR 0 (ok__law_taken T) (hr.mono (by decide)) T.g__law_taken T.F__law_taken.kp T.b__law_taken passE (pai_cons pei_int pai_nil) rfl) pai_nil))) (pei_defR 0 (ok__law_taken T) (hr.mono (by decide)) T.g__law_taken T.F__law_taken.kp T.b__law_taken passE (pai_cons pei_int pai_nil) rfl)) pai_nil))))))))
    (psis_one (psi_frz 5 (psi_ret (pei_tup (pai_cons (pei_ixL (pei_var 4) (pei_defR 0 (ok__law_taken T) (hr.mono (by decide)) T.g__law_taken T.F__law_taken.kp T.b__law_taken passE (pai_cons (pei_add (pei_var 2) pei_int) pai_nil) rfl)) (pai_cons (pei_tuple T.m_tuple rfl (pai_cons (pei_var 5) pai_nil)) pai_nil)))))))))), fun ds Φ Ξ hT => ?_⟩
  obtain ⟨m, rfl, hm, h⟩ := hT
  have hm : m ≤ 12 := hm
  walk_at "sf"
  refine taken (m + 1) (by omega) (by omega) fun n hn => taken 4 rfl (by omega) fun v4 hv4 => ?_
  walk_at "sf"
  refine ⟨by omega, ?_⟩
  unfold sRng
  refine ⟨by omega, ?_⟩
  walk_at "sf"
  refine ⟨by rw [List.length_range]; omega, by omega, by omega, ?_⟩
  refine ⟨fun i ρ => ∃ (cs : List Cell) (z : Ent), ρ = [.row, .dat (.int (m : Int)), .dat (.int (n : Int)), .dat (.int (1 + (v4 : Int))), .dat (.list (lnks n)), .ls (cs.map dC), z] ∧ cs.length = i ∧ ∀ c ∈ cs, cellOk n c = true, ⟨[], _, rfl, rfl, fun c hc => by cases hc⟩, fun i ρ' hi hρ => ?_, fun ρ' hρ => ?_⟩
  · obtain ⟨cs, z, rfl, hcs, hok⟩ := hρ
    have step : ∀ c, cellOk n c = true → ∃ (cs' : List Cell) (z' : Ent), [Ent.row, .dat (.int (m : Int)), .dat (.int (n : Int)), .dat (.int (1 + (v4 : Int))), .dat (.list (lnks n)), .ls (cs.map dC ++ [dC c]), .dat (.int (i : Int))] = [.row, .dat (.int (m : Int)), .dat (.int (n : Int)), .dat (.int (1 + (v4 : Int))), .dat (.list (lnks n)), .ls (cs'.map dC), z'] ∧ cs'.length = i + 1 ∧ ∀ c ∈ cs', cellOk n c = true := fun c hc => by
      refine ⟨cs ++ [c], _, by rw [List.map_append]; rfl, by rw [List.length_append, hcs]; rfl, fun d hd => ?_⟩
      rcases List.mem_append.mp hd with q | q
      · exact hok d q
      · rw [List.mem_singleton.mp q]
        exact hc
    walk_at "sf"
    refine taken (1 + v4) (by omega) (by omega) fun v hv => ?_
    walk_at "sf"
    cases (((v : Nat) : Int) == 0) with
    | true =>
      walk_at "sf"
      refine ⟨by omega, ?_⟩
      refine taken (n + 1) (by omega) (by omega) fun u hu => ?_
      obtain ⟨l, hl, e⟩ := lnks_at hu
      walk_at "sf"
      rw [e]
      walk_at "sf"
      exact step (.free l) hl
    | false =>
      walk_at "sf"
      refine ⟨by omega, ?_⟩
      refine taken 4 rfl (by omega) fun a ha => taken 1000 rfl (by omega) fun b hb => taken 2 rfl (by omega) fun u hu => ?_
      obtain ⟨k, hk, e⟩ := two_at (a := a) (b := b) hu
      walk_at "sf"
      rw [e]
      walk_at "sf"
      exact step (.row k) (decide_eq_true (by omega))
  · obtain ⟨cs, z, rfl, hcs, hok⟩ := hρ
    walk_at "sf"
    refine taken (n + 1) (by omega) (by omega) fun u hu => ?_
    obtain ⟨l, hl, e⟩ := lnks_at hu
    walk_at "sf"
    rw [e]
    walk_at "sf"
    refine h _ ⟨⟨l, cs⟩, ⟨?_, ?_, ?_⟩, ?_, rfl⟩
    · show linkOk cs.length l = true
      rw [hcs]
      exact hl
    · show cs.length ≤ 12
      omega
    · show ∀ c ∈ cs, cellOk cs.length c = true
      rw [hcs]
      exact hok
    · show cs.length ≤ m
      omega
end
theorem one_5 {ks : List Bool} (h : ks.count true = 1) : (!(PyData.eqv (.int ((ks.count true : Nat) : Int)) (.int 1))) = false := by rw [h, v_int]; rfl
theorem ite_f {b : Bool} (e : b = false) {p q : Prop} (h : q) : if b = true then p else q := by subst e; exact h
theorem ite_t {b : Bool} (e : b = true) {p q : Prop} (h : p) : if b = true then p else q := by subst e; exact h
section
variable {P : Program} {w : World} {K : PySem.W.Frag} {mg : Str → Option Value} {base : Heap}
theorem ok__law_word (T : Txt K mg) : FnOk P w K mg base CX0 12 T.f__law_word T.fd__law_word ["_law_work"] (spW P w K mg base 11 T.C) := by
  refine okWord (k := 11) T.F__law_word sc__law_word T.eA rfl (fun _ => rfl) (fun _ => rfl) rfl rfl rfl (by first | exact Or.inl rfl | exact Or.inr (Or.inl rfl) | exact Or.inr (Or.inr rfl)) (fun cdg A outer s H E => ⟨rfl, by decide, .inl T.eB.gS⟩)
    (fun cdg A outer s H E a oe cls d pn hr hz hvf => psis_cons (psi_set 2 (pei_lst (pai_cons (pei_isE 1 (fun k => decide (k = 0)) T.eA hz hvf T.m_isinstance rfl (pe_glob (v := .ref (T.C 0)) rfl T.gI_0 rfl) (.own _) (fun k hk => T.eA.kit k 0 hk (by decide)))
        (pai_cons (pei_isE 1 (fun k => decide (k = 2)) T.eA hz hvf T.m_isinstance rfl (pe_glob (v := .ref (T.C 2)) rfl T.e_BadRoom.gC rfl) (.own _) (fun k hk => T.eA.kit k 2 hk (by decide)))
        (pai_cons (pei_isE 1 (fun k => decide (k = 1)) T.eA hz hvf T.m_isinstance rfl (pe_glob (v := .ref (T.C 1)) rfl T.e_BadRule.gC rfl) (.own _) (fun k hk => T.eA.kit k 1 hk (by decide)))
        (pai_cons (pei_isE 1 (fun k => decide (k = 3)) T.eA hz hvf T.m_isinstance rfl (pe_glob (v := .ref (T.C 3)) rfl T.gI_3 rfl) (.own _) (fun k hk => T.eA.kit k 3 hk (by decide))) pai_nil))))) sc__law_word.nd)
      (psis_cons (psi_app 2 (pei_isE 1 (fun k => decide (k = 4)) T.eA hz hvf T.m_isinstance rfl (pe_glob (v := .ref (T.C 4)) rfl T.gI_4 rfl) (.own _) (fun k hk => T.eA.kit k 4 hk (by decide))))
      (psis_cons (psi_frz 2 (psi_if (pti_bool (pwi_or (pti_not (pti_val (pei_isE 1 (fun _ => true) T.eA hz hvf T.m_isinstance rfl (pe_bltn (v := .ty "ValueError") rfl T.m_ValueError (by decide +kernel) rfl) (.ty _) (fun k hk => T.eA.kitV k hk)))) (pwi_one (pti_cmp (op_neD (by have h := hu64 hr; exact h)) op2_ne (nomark _) (pei_countB (pei_var 2)) pei_int))))
        (psis_one (psi_ret pei_non)) psis_nil))
      (psis_cons (psi_if (pti_val (pei_ixL (pei_var 2) pei_int)) (psis_one (psi_ret (pei_tup (pai_cons pei_str (pai_cons (pei_fldE 1 0 T.eA hz hvf (by decide) rfl) pai_nil))))) psis_nil)
      (psis_cons (psi_if (pti_bool (pwi_or (pti_val (pei_ixL (pei_var 2) pei_int)) (pwi_one (pti_val (pei_ixL (pei_var 2) pei_int))))) (psis_one (psi_ret (pei_tup (pai_cons (pei_ixL (pei_lst (pai_cons pei_str (pai_cons pei_str pai_nil))) (pei_intB T.m_int rfl (pai_cons (pei_ixL (pei_var 2) pei_int) pai_nil))) (pai_cons pei_non pai_nil))))) psis_nil)
      (psis_one (psi_ret (pei_if (pti_val (pei_ixL (pei_var 2) pei_int)) (pei_tup (pai_cons pei_str (pai_cons (pei_fldE 1 3 T.eA hz hvf (by decide) rfl) pai_nil))) (pei_tup (pai_cons pei_str (pai_cons (pei_fldE 1 4 T.eA hz hvf (by decide) rfl) pai_nil))))))))))) ?hrd
    (fun cdg A outer s H E => psi_ret (pei_tup (pai_cons pei_str (pai_cons pei_non pai_nil)))) ?hrr
  case hrr =>
    walk_at "sf"
    rfl
  case hrd =>
    intro ex a cls d hk
    obtain ⟨k, v⟩ := ex
    match k, hk with
    | 0, _ =>
      walk_at "sf"
      refine ⟨_, rfl, _, rfl, _, rfl, _, rfl, by omega, _, rfl, _, rfl, ?_⟩
      walk_at "sf"
      refine ⟨[true, false, false, false, false], rfl, h_int, ?_⟩
      refine ite_f (one_5 rfl) (ite_t rfl ?_)
      exact ⟨_, rfl, rfl, rfl⟩
    | 1, _ =>
      walk_at "sf"
      refine ⟨_, rfl, _, rfl, _, rfl, _, rfl, by omega, _, rfl, _, rfl, ?_⟩
      walk_at "sf"
      refine ⟨[false, false, true, false, false], rfl, h_int, ?_⟩
      refine ite_f (one_5 rfl) (ite_f rfl (ite_f rfl (ite_t rfl ?_)))
      exact ⟨_, atI_nat (j := 1) rfl, rfl⟩
    | 2, _ =>
      walk_at "sf"
      refine ⟨_, rfl, _, rfl, _, rfl, _, rfl, by omega, _, rfl, _, rfl, ?_⟩
      walk_at "sf"
      refine ⟨[false, true, false, false, false], rfl, h_int, ?_⟩
      refine ite_f (one_5 rfl) (ite_f rfl (ite_t rfl ?_))
      exact ⟨_, atI_nat (j := 0) rfl, rfl⟩
    | 3, _ =>
      walk_at "sf"
      refine ⟨_, rfl, _, rfl, _, rfl, _, rfl, by omega, _, rfl, _, rfl, ?_⟩
      walk_at "sf"
      refine ⟨[false, false, false, true, false], rfl, h_int, ?_⟩
      refine ite_f (one_5 rfl) (ite_f rfl (ite_f rfl (ite_f rfl (ite_t rfl ?_))))
      exact ⟨_, rfl, rfl, rfl⟩
    | 4, _ =>
      walk_at "sf"
      refine ⟨_, rfl, _, rfl, _, rfl, _, rfl, by omega, _, rfl, _, rfl, ?_⟩
      walk_at "sf"
      refine ⟨[false, false, false, false, true], rfl, h_int, ?_⟩
      refine ite_f (one_5 rfl) (ite_f rfl (ite_f rfl (ite_f rfl (ite_f rfl ?_))))
      exact ⟨_, rfl, rfl, rfl⟩
end
def tf__law_odd : Tf := mkTR (α := RF) (fun f => [dRF f]) RfOk (fun f r => ∃ g : RF, r = .dat (dRF g) ∧ RfOk g)
theorem rc_word {w : Str} {i : Int} (h : PyData.strOk w = true) : RcOk (w, some i) := ⟨h, fun _ => ⟨i, rfl⟩⟩
section
variable {P : Program} {w : World} {K : PySem.W.Frag} {mg : Str → Option Value} {base : Heap}
theorem ok__law_odd (T : Txt K mg) : FnOk P w K mg base CX0 2 T.f__law_odd T.fd__law_odd ["_law_row", "_law_file_here"] (spR K XR0 tf__law_odd) := by
  refine okR (n := 7) T.F__law_odd sc__law_odd rfl (fun ds Φ Ξ ⟨_, e, _⟩ => by rw [e]; rfl) fun cdv A outer s H E hr => ⟨_, psis_cons (psi_unpack [2, 3] (pei_var 1) (by exact (pg_tup rfl (pgs_cons (pg_name (i := 2) sc__law_odd.nd rfl (by first | exact Or.inl rfl | exact Or.inr rfl)) (pgs_cons (pg_name (i := 3) sc__law_odd.nd rfl (by first | exact Or.inl rfl | exact Or.inr rfl)) pgs_nil)))))
    (psis_cons (psi_setF 4 (pei_defR 0 (ok__law_taken T) (hr.mono (by decide)) T.g__law_taken T.F__law_taken.kp T.b__law_taken passE (pai_cons pei_int pai_nil) rfl) sc__law_odd.nd)
    (psis_cons (psi_setF 5 (pei_len T.m_len rfl (pai_cons (pei_var 3) pai_nil)) sc__law_odd.nd)
    (psis_cons (psi_setF 6 (pei_ixL (pei_lst (pai_cons (pei_var 5) (pai_cons (pei_add (pei_var 5) (pei_var 4)) (pai_cons (pei_sub pei_int pei_int) (pai_cons (pei_sub (pei_sub pei_int pei_int) (pei_var 4)) pai_nil))))) (pei_defR 0 (ok__law_taken T) (hr.mono (by decide)) T.g__law_taken T.F__law_taken.kp T.b__law_taken passE (pai_cons pei_int pai_nil) rfl)) sc__law_odd.nd)
    (psis_cons (psi_setF 7 (pei_defR 0 (ok__law_taken T) (hr.mono (by decide)) T.g__law_taken T.F__law_taken.kp T.b__law_taken passE (pai_cons (pei_add (pei_var 5) pei_int) pai_nil) rfl) sc__law_odd.nd)
    (psis_cons (psi_if (pti_cmp (op_eqD (hu64 hr)) op2_eq (nomark _) (pei_var 7) (pei_var 5))
      (psis_one (psi_ret (pei_tup (pai_cons (pei_var 6) (pai_cons (pei_var 3) pai_nil)))))
      (psis_nil))
    (psis_cons (psi_setF 8 (pei_lst (pai_cons (pei_tup (pai_cons pei_str (pai_cons (pei_var 6) pai_nil))) (pai_cons (pei_tup (pai_cons pei_str (pai_cons (pei_add pei_int (pei_var 4)) pai_nil))) (pai_cons (pei_tup (pai_cons pei_str (pai_cons (pei_sub (pei_sub pei_int pei_int) (pei_var 4)) pai_nil))) (pai_cons (pei_tup (pai_cons pei_str (pai_cons pei_int pai_nil))) (pai_cons (pei_tup (pai_cons pei_str (pai_cons pei_int pai_nil))) (pai_cons (pei_tup (pai_cons pei_str (pai_cons pei_int pai_nil))) (pai_cons (pei_tup (pai_cons pei_str (pai_cons pei_int pai_nil))) pai_nil)))))))) sc__law_odd.nd)
    (psis_one (psi_ret (pei_tup (pai_cons (pei_var 2) (pai_cons (pei_catT (pei_catT (pei_slT (pei_var 3) poi_none (poi_some (pei_var 7))) (pei_tup (pai_cons (pei_ixL (pei_var 8) (pei_defR 0 (ok__law_taken T) (hr.mono (by decide)) T.g__law_taken T.F__law_taken.kp T.b__law_taken passE (pai_cons pei_int pai_nil) rfl)) pai_nil))) (pei_slT (pei_var 3) (poi_some (pei_add (pei_var 7) pei_int)) poi_none)) pai_nil))))))))))), fun ds Φ Ξ hT => ?_⟩
  obtain ⟨f, rfl, hf, h⟩ := hT
  have hl := hf.few
  have hl : f.cells.length ≤ 100 := hl
  have h : ∀ g : RF, RfOk g → Φ (.dat (dRF g)) := fun g hg => h _ ⟨g, rfl, hg⟩
  unfold dRF
  walk_at "sf"
  refine taken 1000 rfl (by omega) fun far hfar => ?_
  walk_at "sf"
  refine taken 4 rfl (by omega) fun v hv => ?_
  obtain ⟨o, eo⟩ : ∃ o : Int, atI [PyData.int (f.cells.length : Int), .int ((f.cells.length : Int) + (far : Int)), .int (0 - 1), .int (0 - 1 - (far : Int))] ((v : Nat) : Int) = some (.int o) := by
    have : v = 0 ∨ v = 1 ∨ v = 2 ∨ v = 3 := by omega
    rcases this with e | e | e | e
    · subst e; exact ⟨_, atI_nat (j := 0) rfl⟩
    · subst e; exact ⟨_, atI_nat (j := 1) rfl⟩
    · subst e; exact ⟨_, atI_nat (j := 2) rfl⟩
    · subst e; exact ⟨_, atI_nat (j := 3) rfl⟩
  walk_at "sf"
  rw [eo]
  walk_at "sf"
  refine taken (f.cells.length + 1) (by omega) (by omega) fun at_ hat => ?_
  walk_at "sf"
  rw [eq_cast]
  by_cases hx : at_ = f.cells.length
  · rw [decide_eq_true hx, if_pos rfl]
    exact h ⟨some o, f.cells⟩ ⟨hf.cells, hl⟩
  · rw [decide_eq_false hx, if_neg (by decide)]
    refine taken 7 rfl (by omega) fun u hu => ?_
    obtain ⟨c, ec, hc⟩ : ∃ c : RC, atI [PyData.tuple [.str (Str.ofString "free"), .int o], .tuple [.str (Str.ofString "row"), .int (1000 + (far : Int))], .tuple [.str (Str.ofString "row"), .int (0 - 1 - (far : Int))], .tuple [.str (Str.ofString ""), .int 0], .tuple [.str (Str.ofString "Row"), .int 1], .tuple [.str (Str.ofString "rows"), .int 1], .tuple [.str (Str.ofString "free"), .int 0]] ((u : Nat) : Int) = some (dRC c) ∧ RcOk c := by
      have : u = 0 ∨ u = 1 ∨ u = 2 ∨ u = 3 ∨ u = 4 ∨ u = 5 ∨ u = 6 := by omega
      rcases this with e | e | e | e | e | e | e
      · subst e; exact ⟨(_, some _), atI_nat (j := 0) rfl, rc_word (by decide +kernel)⟩
      · subst e; exact ⟨(_, some _), atI_nat (j := 1) rfl, rc_word (by decide +kernel)⟩
      · subst e; exact ⟨(_, some _), atI_nat (j := 2) rfl, rc_word (by decide +kernel)⟩
      · subst e; exact ⟨(_, some _), atI_nat (j := 3) rfl, rc_word (by decide +kernel)⟩
      · subst e; exact ⟨(_, some _), atI_nat (j := 4) rfl, rc_word (by decide +kernel)⟩
      · subst e; exact ⟨(_, some _), atI_nat (j := 5) rfl, rc_word (by decide +kernel)⟩
      · subst e; exact ⟨(_, some _), atI_nat (j := 6) rfl, rc_word (by decide +kernel)⟩
    walk_at "sf"
    rw [ec]
    walk_at "sf"
    rw [cast1, cut_to (by rw [List.length_map]; omega), cut_from (by rw [List.length_map]; omega)]
    refine ⟨by rw [List.length_take, List.length_map]; omega, ?_, ?_⟩
    · rw [List.length_append, List.length_take, List.length_drop, List.length_map]
      simp only [List.length_cons, List.length_nil]
      omega
    · rw [set_split (l := f.cells.map dRC) (by rw [List.length_map]; omega), ← List.map_set]
      refine h ⟨f.head, f.cells.set at_ c⟩ ⟨fun d hd => ?_, ?_⟩
      · rcases List.mem_or_eq_of_mem_set hd with z | z
        · exact hf.cells d z
        · rw [z]; exact hc
      · show (f.cells.set at_ c).length ≤ 100
        rw [List.length_set]
        exact hl
end
def tf__law_bad : Tf := fun ds Φ _ => ∃ f : RF, ds = [dRF f] ∧ RfOk f ∧ Φ (.dat (oI (badR f)))
theorem lnks_any {n : Nat} {l : Option Int} : ((lnks n).any fun z => PyData.eqv z (oI l)) = linkR n l := by
  unfold lnks
  rw [List.any_cons]
  cases l with
  | none => rfl
  | some i =>
    show (PyData.eqv .none (.int i) || _) = (decide (0 ≤ i) && decide (i < (n : Int)))
    rw [v_noneint, Bool.false_or, Bool.eq_iff_iff, List.any_eq_true, Bool.and_eq_true, decide_eq_true_eq, decide_eq_true_eq]
    constructor
    · rintro ⟨d, hd, e⟩
      obtain ⟨k, hk, rfl⟩ := List.mem_map.mp hd
      have e : PyData.eqv (.int (k : Int)) (.int i) = true := e
      rw [v_int, beq_iff_eq] at e
      have := List.mem_range.mp hk
      omega
    · rintro ⟨a, b⟩
      refine ⟨.int i, List.mem_map.mpr ⟨i.toNat, List.mem_range.mpr (by omega), ?_⟩, ?_⟩
      · show PyData.int ((i.toNat : Nat) : Int) = _
        rw [Int.toNat_of_nonneg a]
      · show PyData.eqv (.int i) (.int i) = true
        rw [v_int, beq_self_eq_true]
theorem ite_same {b : Bool} {p : Prop} (h : p) : if b = true then p else p := by cases b <;> exact h
theorem ite_b {b c : Bool} (e : b = c) {p q : Prop} (h : if c = true then p else q) : if b = true then p else q := by subst e; exact h
theorem rng_any {l : Option Int} : (((List.range 1000).map fun i : Nat => PyData.int (i : Int)).any fun z => PyData.eqv z (oI l)) = numR l := by
  cases l with
  | none =>
    show _ = false
    rw [List.any_eq_false]
    intro d hd
    obtain ⟨k, hk, rfl⟩ := List.mem_map.mp hd
    show ¬ PyData.eqv (.int (k : Int)) .none = true
    rw [v_intnone]
    decide
  | some i =>
    show _ = (decide (0 ≤ i) && decide (i ≤ 999))
    rw [Bool.eq_iff_iff, List.any_eq_true, Bool.and_eq_true, decide_eq_true_eq, decide_eq_true_eq]
    constructor
    · rintro ⟨d, hd, e⟩
      obtain ⟨k, hk, rfl⟩ := List.mem_map.mp hd
      have e : PyData.eqv (.int (k : Int)) (.int i) = true := e
      rw [v_int, beq_iff_eq] at e
      have := List.mem_range.mp hk
      omega
    · rintro ⟨a, b⟩
      refine ⟨.int i, List.mem_map.mpr ⟨i.toNat, List.mem_range.mpr (by omega), ?_⟩, ?_⟩
      · show PyData.int ((i.toNat : Nat) : Int) = _
        rw [Int.toNat_of_nonneg a]
      · show PyData.eqv (.int i) (.int i) = true
        rw [v_int, beq_self_eq_true]
theorem shp_oI {n : Nat} (l : Option Int) : Shp n (oI l) := by cases l with
  | none => exact .none
  | some i => exact .int
theorem shp_rng (n : Nat) : Shp 1 (.list ((List.range n).map fun i : Nat => PyData.int (i : Int))) := .list fun d hd => by
  obtain ⟨k, _, rfl⟩ := List.mem_map.mp hd
  exact .int
theorem shp_lnks (n : Nat) : Shp 1 (.list (lnks n)) := .list fun d hd => by
  rcases List.mem_cons.mp hd with e | e
  · rw [e]; exact .none
  · obtain ⟨k, _, rfl⟩ := List.mem_map.mp e
    exact .int
section
variable {P : Program} {w : World} {K : PySem.W.Frag} {mg : Str → Option Value} {base : Heap}
theorem ok__law_bad (T : Txt K mg) : FnOk P w K mg base CX0 1 T.f__law_bad T.fd__law_bad ["_law_file_here"] (spP K XR0 tf__law_bad) := by
  refine okP (n := 7) T.F__law_bad sc__law_bad rfl (fun ds Φ Ξ ⟨_, e, _⟩ => by rw [e]; rfl) fun cdv A outer s H E hr => ⟨_, psis_cons (psi_unpack [1, 2] (pei_var 0) (by exact (pg_tup rfl (pgs_cons (pg_name (i := 1) sc__law_bad.nd rfl (by first | exact Or.inl rfl | exact Or.inr rfl)) (pgs_cons (pg_name (i := 2) sc__law_bad.nd rfl (by first | exact Or.inl rfl | exact Or.inr rfl)) pgs_nil)))))
    (psis_cons (psi_setF 3 (pei_catL (pei_lst (pai_cons pei_non pai_nil)) (pei_listRange T.m_list rfl T.m_range rfl rfl (pei_len T.m_len rfl (pai_cons (pei_var 2) pai_nil)))) sc__law_bad.nd)
    (psis_cons (psi_if (pti_cmp (op_notInD (hu65 hr)) op2_notInL (by rfl) (pei_var 1) (pei_var 3))
      (psis_one (psi_ret (pei_sub pei_int pei_int)))
      (psis_nil))
    (psis_cons (psi_forR1 (.nm 4) PassesOwn.never rfl T.m_range rfl (pai_cons (pei_len T.m_len rfl (pai_cons (pei_var 2) pai_nil)) pai_nil) (by exact (pg_name (i := 4) sc__law_bad.nd rfl (by first | exact Or.inl rfl | exact Or.inr rfl)))
      (psis_cons (psi_unpack [5, 6] (pei_ixT (pei_var 2) (pei_var 4)) (by exact (pg_tup rfl (pgs_cons (pg_name (i := 5) sc__law_bad.nd rfl (by first | exact Or.inl rfl | exact Or.inr rfl)) (pgs_cons (pg_name (i := 6) sc__law_bad.nd rfl (by first | exact Or.inl rfl | exact Or.inr rfl)) pgs_nil)))))
      (psis_cons (psi_setF 7 (pei_if (pti_cmp (op_eqD (hu64 hr)) op2_eq (nomark _) (pei_var 5) pei_str) (pei_cmp (op_inD (hu65 hr)) op2_inL (by rfl) (pei_var 6) (pei_var 3)) (pei_and (pei_cmp (op_eqD (hu64 hr)) op2_eq (nomark _) (pei_var 5) pei_str) (pei_one _ (pei_cmp (op_inD (hu65 hr)) op2_inL (by rfl) (pei_var 6) (pei_listRange T.m_list rfl T.m_range rfl rfl pei_int))))) sc__law_bad.nd)
      (psis_one (psi_if (pti_bool (pwi_or (pti_cmp op_gt op2_gt (nomark _) (pei_var 4) pei_int) (pwi_one (pti_not (pti_val (pei_var 7))))))
        (psis_one (psi_ret (pei_var 4)))
        (psis_nil))))))
    (psis_one (psi_ret pei_non))))), fun ds Φ Ξ hT => ?_⟩
  obtain ⟨f, rfl, hf, h⟩ := hT
  have hl := hf.few
  unfold dRF
  walk_at "sf"
  refine ⟨by omega, ?_⟩
  unfold sRng
  refine ⟨by omega, ?_⟩
  have hcl : (f.cells.map dRC).length = f.cells.length := List.length_map ..
  walk_at "sf"
  refine ⟨by rw [List.length_range]; omega, ?_⟩
  show SeqAt.shaped (oI f.head) = true ∧ SeqAt.shaped (.list (lnks f.cells.length)) = true ∧ (if (!((lnks f.cells.length).any fun z => PyData.eqv z (oI f.head))) = true then Φ (.dat (.int (0 - 1))) else _)
  refine ⟨(shp_oI (n := 0) _).shaped (by decide), (shp_lnks _).shaped (by decide), ?_⟩
  rw [lnks_any]
  unfold badR at h
  cases hh : linkR f.cells.length f.head with
  | false =>
    rw [hh] at h
    exact h
  | true =>
    rw [hh, if_pos rfl] at h
    walk_at "sf"
    refine ⟨by omega, by omega, ?_⟩
    refine ⟨fun i ρ => (∀ j, j < i → badC f j = false) ∧ ∃ a b c d, ρ = [.dat (.tuple [oI f.head, .tuple (f.cells.map dRC)]), .dat (oI f.head), .dat (.tuple (f.cells.map dRC)), .dat (.list (lnks f.cells.length)), a, b, c, d], ⟨fun j hj => absurd hj (Nat.not_lt_zero _), _, _, _, _, rfl⟩, fun i ρ' hi hρ => ?_, fun ρ' hρ => ?_⟩
    · obtain ⟨hb, x1, x2, x3, x4, rfl⟩ := hρ
      have hc : f.cells[i]? = some f.cells[i] := List.getElem?_eq_getElem hi
      have hm : f.cells[i] ∈ f.cells := List.getElem_mem hi
      generalize f.cells[i] = c at hc hm
      have bc : badC f i = (decide (12 ≤ i) || !(cellR f.cells.length c)) := by
        unfold badC
        rw [hc]
      have ha : atI (f.cells.map dRC) ((i : Nat) : Int) = some (.tuple [.str c.1, oI c.2]) := atI_nat (by rw [List.getElem?_map, hc]; rfl)
      have bad : badC f i = true → Φ (.dat (.int (i : Int))) := fun q => by
        have e : badAt f = some i := find_first hi q hb
        rw [e] at h
        exact h
      have good : badC f i = false → ∀ j, j < i + 1 → badC f j = false := fun q j hj => by
        by_cases z : j < i
        · exact hb j z
        · rw [show j = i by omega]
          exact q
      have hok := hf.cells c hm
      obtain ⟨w, l⟩ := c
      have hw : PyData.strOk w = true := hok.str
      walk_at "sf"
      rw [ha]
      walk_at "sf"
      refine ⟨h_str hw, ?_⟩
      have fin : ∀ (g : Bool) (x : Ent), g = cellR f.cells.length (w, l) → (if decide ((11 : Int) < (i : Int)) = true then Φ (.dat (.int (i : Int))) else if (!g) = true then Φ (.dat (.int (i : Int))) else (∀ j, j < i + 1 → badC f j = false) ∧ ∃ a b c d, [Ent.dat (.tuple [oI f.head, .tuple (f.cells.map dRC)]), .dat (oI f.head), .dat (.tuple (f.cells.map dRC)), .dat (.list (lnks f.cells.length)), .dat (.int (i : Int)), .dat (.str w), .dat (oI l), x] = ([.dat (.tuple [oI f.head, .tuple (f.cells.map dRC)]), .dat (oI f.head), .dat (.tuple (f.cells.map dRC)), .dat (.list (lnks f.cells.length)), a, b, c, d] : Rho)) := fun g x eg => by
        rw [eg]
        cases h11 : decide ((11 : Int) < (i : Int)) with
        | true =>
          have : decide (12 ≤ i) = true := decide_eq_true (by have := of_decide_eq_true h11; omega)
          exact bad (by rw [bc, this]; rfl)
        | false =>
          have n12 : decide (12 ≤ i) = false := decide_eq_false (by have := of_decide_eq_false h11; omega)
          rw [if_neg (by decide)]
          cases hq : cellR f.cells.length (w, l) with
          | true => exact ⟨good (by rw [bc, n12, hq]; rfl), _, _, _, _, rfl⟩
          | false => exact bad (by rw [bc, n12, hq]; rfl)
      have hsl : SeqAt.shaped (oI l) = true := (shp_oI (n := 0) _).shaped (by decide)
      have hsL : SeqAt.shaped (.list (lnks f.cells.length)) = true := (shp_lnks _).shaped (by decide)
      have hsR : SeqAt.shaped (.list ((List.range 1000).map fun i : Nat => PyData.int (i : Int))) = true := (shp_rng _).shaped (by decide)
      cases hfr : (w == Str.ofString "free") with
      | true =>
        have hfr2 : (w == sFree) = true := hfr
        have hrw : (w == sRow) = false := by rw [eq_of_beq hfr]; decide +kernel
        walk_at "sf"
        refine ⟨hsl, hsL, ?_⟩
        refine fin _ _ ?_
        rw [lnks_any]
        unfold cellR
        rw [hrw, if_neg (by decide), hfr2, Bool.true_and]
      | false =>
        have hfr2 : (w == sFree) = false := hfr
        walk_at "sf"
        refine ⟨h_str hw, ?_⟩
        cases hrw : (w == Str.ofString "row") with
        | true =>
          have hrw2 : (w == sRow) = true := hrw
          walk_at "sf"
          refine ⟨by omega, ?_⟩
          unfold sRng
          refine ⟨by omega, ?_⟩
          walk_at "sf"
          refine ⟨hsl, hsR, ?_⟩
          refine fin _ _ ?_
          refine rng_any.trans ?_
          unfold cellR
          rw [hrw2, if_pos rfl]
        | false =>
          have hrw2 : (w == sRow) = false := hrw
          walk_at "sf"
          refine fin false (.dat (.bool false)) ?_
          unfold cellR
          rw [hrw2, if_neg (by decide), hfr2, Bool.false_and]
    · obtain ⟨hb, _⟩ := hρ
      have e : badAt f = none := find_none hb
      rw [e] at h
      exact h
end
section
variable {P : Program} {w : World} {K : PySem.W.Frag} {mg : Str → Option Value} {base : Heap}
theorem ok__law_works (T : Txt K mg) (TBw : LamX.TabB base mg (wkP K (Str.ofString "_law_works")).1 (wkP K (Str.ofString "_law_works")).2) : FnOk P w K mg base CX0 1 T.f__law_works T.fd__law_works ["_law_file_here", "_law_rule_here", "_law_room"]
    (spWk K (wkP K (Str.ofString "_law_works")).2 n__law_works qWk (wkL0 s__law_works) (wkL1 s__law_works)) :=
  okWorks (k := 0) T.F__law_works T.ef_works sc__law_works rfl qWk (fun _ _ _ _ _ => rfl) tab_wk (freeIn_by (by decide +kernel)) (freeIn_by (by decide +kernel)) fun A outer s H E =>
    ⟨ps_set (i := 3) sc__law_works.nd rfl (.inl rfl) (pe_lst (pa_cons (pe_mk TBw rfl tab_wk (one_wk T.pn) (fun ok => FreeIn.has (freeIn_by (sc := defScope s__law_works) (by decide +kernel)) ok) rfl) pa_nil)),
     ps_expr (pe_bm PySem.F.plainAttrs_list PySem.F.slot_list_append PySem.F.type_list_append mt_append (pv 3) (pa_cons (pe_mk TBw rfl tab_wk (one_wk T.pn) (fun ok => FreeIn.has (freeIn_by (sc := defScope s__law_works) (by decide +kernel)) ok) rfl) pa_nil)), pv 3⟩
end
def rawC : Cell → RC
  | .row n => (sRow, some (n : Int))
  | .free l => (sFree, l.map fun n : Nat => (n : Int))
def rawF (f : File) : RF := ⟨f.head.map fun n : Nat => (n : Int), f.cells.map rawC⟩
theorem oI_raw (l : Lk) : oI (l.map fun n : Nat => (n : Int)) = dL l := by cases l <;> rfl
theorem dRC_raw (c : Cell) : dRC (rawC c) = dC c := by
  cases c with
  | row n => rfl
  | free l =>
    show PyData.tuple [.str sFree, oI (l.map fun n : Nat => (n : Int))] = _
    rw [oI_raw]
    rfl
theorem dRF_raw (f : File) : dRF (rawF f) = dF f := by
  show PyData.tuple [oI (f.head.map fun n : Nat => (n : Int)), .tuple ((f.cells.map rawC).map dRC)] = .tuple [dL f.head, .tuple (f.cells.map dC)]
  rw [oI_raw, List.map_map, List.map_congr_left (f := dRC ∘ rawC) (g := dC) fun c _ => dRC_raw c]
theorem link_raw {n : Nat} {l : Lk} (h : linkOk n l = true) : linkR n (l.map fun n : Nat => (n : Int)) = true := by
  cases l with
  | none => rfl
  | some i =>
    have h : i < n := of_decide_eq_true h
    show (decide ((0 : Int) ≤ (i : Int)) && decide ((i : Int) < (n : Int))) = true
    rw [decide_eq_true (by omega), decide_eq_true (by omega)]
    rfl
theorem sFR : (sFree == sRow) = false := by decide +kernel
theorem cell_raw {n : Nat} {c : Cell} (h : cellOk n c = true) : cellR n (rawC c) = true := by
  cases c with
  | row k =>
    have h : k ≤ 999 := of_decide_eq_true h
    show (if (sRow == sRow) = true then numR (some (k : Int)) else _) = true
    rw [if_pos (beq_self_eq_true _)]
    show (decide ((0 : Int) ≤ (k : Int)) && decide ((k : Int) ≤ 999)) = true
    rw [decide_eq_true (by omega), decide_eq_true (by omega)]
    rfl
  | free l =>
    show (if (sFree == sRow) = true then _ else (sFree == sFree) && linkR n (l.map fun n : Nat => (n : Int))) = true
    rw [sFR, if_neg (by decide), beq_self_eq_true, link_raw h]
    rfl
theorem rc_raw (c : Cell) : RcOk (rawC c) := by
  cases c with
  | row n => exact ⟨by show PyData.strOk sRow = true; decide +kernel, fun _ => ⟨_, rfl⟩⟩
  | free l => exact ⟨by show PyData.strOk sFree = true; decide +kernel, fun z => by have z : (sFree == sRow) = true := z; rw [sFR] at z; cases z⟩
theorem raw_ok {f : File} (h : Fine f) : RfOk (rawF f) := ⟨fun c hc => by
  obtain ⟨d, _, rfl⟩ := List.mem_map.mp hc
  exact rc_raw d, by
  have := h.few
  show (f.cells.map rawC).length ≤ 100
  rw [List.length_map]
  omega⟩
theorem raw_good {f : File} (h : Fine f) : badR (rawF f) = none := by
  have el : (f.cells.map rawC).length = f.cells.length := List.length_map ..
  have e : badAt (rawF f) = none := find_none fun j hj => by
    have hj : j < (f.cells.map rawC).length := hj
    rw [el] at hj
    have hc : (f.cells.map rawC)[j]? = some (rawC f.cells[j]) := by rw [List.getElem?_map, List.getElem?_eq_getElem hj]; rfl
    have hk : cellOk f.cells.length f.cells[j] = true := h.cells _ (List.getElem_mem hj)
    have hf := h.few
    unfold badC
    show (decide (12 ≤ j) || !(match (f.cells.map rawC)[j]? with | some c => cellR (f.cells.map rawC).length c | none => true)) = false
    rw [hc, el, decide_eq_false (by omega), Bool.false_or]
    show (!(cellR f.cells.length (rawC f.cells[j]))) = false
    rw [cell_raw hk]
    rfl
  unfold badR
  rw [e]
  show (if linkR (f.cells.map rawC).length (f.head.map fun n : Nat => (n : Int)) = true then none else some (-1)) = none
  rw [el, link_raw h.head, if_pos rfl]
theorem odd_one {v n : Nat} {Φ : Prop} (h : Φ) : Φ := h
section
variable {R : WS} {Ψ : Pst} {a0 : Addr} {x2 x3 x4 x5 x6 x7 x8 x11 x12 : Ent}
theorem turn_a (h : ∀ (f : File) (g : RF), Fine f → RfOk g → R [.val (tabK a0), .row, x2, .dat (dF f), .dat (dRF g), x5, x6, x7, x8, .no, .no, x11, x12] Ψ) :
    wSeq (wSetF 3 (wDefR 1 tf__law_file (wCons (wC (PyData.int 12)) wNil))) (wSeq (wSetF 4 (wDefR 1 tf__law_odd (wCons (wVar 3) wNil))) R) [.val (tabK a0), .row, x2, x3, x4, x5, x6, x7, x8, .no, .no, x11, x12] Ψ := by
  walk_at "sf"
  refine ⟨12, rfl, Nat.le_refl _, fun q ⟨f, hf, hlen, er⟩ => ?_⟩
  subst er
  walk_at "sf"
  refine ⟨rawF f, by show [dF f] = [dRF (rawF f)]; rw [dRF_raw], raw_ok hf, fun q ⟨g, er, hg⟩ => ?_⟩
  subst er
  exact h f g hf hg
theorem turn_b {g : RF} (hg : RfOk g) (h : ∀ g : RF, RfOk g → R [.val (tabK a0), .row, x2, x3, .dat (dRF g), x5, x6, x7, x8, .no, .no, x11, x12] Ψ) :
    wSeq (wIfS (wTest (wOp sEq (wDefR 1 tf__law_taken (wCons (wC (PyData.int 3)) wNil)) (wC (PyData.int 2)))) (wSetF 4 (wDefR 1 tf__law_odd (wCons (wVar 4) wNil))) wSkip) R [.val (tabK a0), .row, x2, x3, .dat (dRF g), x5, x6, x7, x8, .no, .no, x11, x12] Ψ := by
  walk_at "sf"
  refine taken 3 rfl (by omega) fun v hv => ?_
  walk_at "sf"
  split
  · refine ⟨g, rfl, hg, fun q ⟨g2, er, hg2⟩ => ?_⟩
    subst er
    exact h g2 hg2
  · exact h g hg
theorem turn_c {g : RF} (hg : RfOk g) (h : ∀ g : RF, RfOk g → R [.val (tabK a0), .row, x2, x3, .dat (dRF g), x5, x6, x7, x8, .no, .no, x11, x12] Ψ) :
    wSeq (wIfS (wTest (wOp sEq (wDefR 1 tf__law_taken (wCons (wC (PyData.int 6)) wNil)) (wC (PyData.int 5)))) (wSetF 4 (wTup (wCons (wC PyData.none) (wCons (wOp sRepT (wTup (wCons (wTup (wCons (wC (PyData.str (Str.ofString "row"))) (wCons (wC (PyData.int 1)) wNil))) wNil)) (wOp sAdd (wC (PyData.int 13)) (wDefR 1 tf__law_taken (wCons (wC (PyData.int 3)) wNil)))) wNil)))) wSkip) R [.val (tabK a0), .row, x2, x3, .dat (dRF g), x5, x6, x7, x8, .no, .no, x11, x12] Ψ := by
  walk_at "sf"
  refine taken 6 rfl (by omega) fun v hv => ?_
  walk_at "sf"
  split
  · refine taken 3 rfl (by omega) fun u hu => ?_
    walk_at "sf"
    refine ⟨by omega, by omega, by simp, ?_⟩
    have e : PyData.tuple [.none, .tuple (repD ((13 : Int) + (u : Int)).toNat [.tuple [.str (Str.ofString "row"), .int 1]])] = dRF ⟨none, List.replicate (13 + u) (sRow, some 1)⟩ := by
      show _ = PyData.tuple [.none, .tuple ((List.replicate (13 + u) ((sRow, some 1) : RC)).map dRC)]
      rw [List.map_replicate, show ((13 : Int) + (u : Int)).toNat = 13 + u by omega]
      unfold repD
      rw [show List.replicate (13 + u) [PyData.tuple [.str (Str.ofString "row"), .int 1]] = (List.replicate (13 + u) (PyData.tuple [.str (Str.ofString "row"), .int 1])).map (fun x => [x]) by rw [List.map_replicate]]
      rw [show ∀ l : List PyData, (l.map fun x => [x]).flatten = l from fun l => by induction l with
        | nil => rfl
        | cons a l ih => rw [List.map_cons, List.flatten_cons, ih]; rfl]
      rfl
    rw [e]
    refine ⟨by omega, h _ ⟨fun c hc => ?_, ?_⟩⟩
    · rw [List.eq_of_mem_replicate hc]
      exact ⟨by show PyData.strOk sRow = true; decide +kernel, fun _ => ⟨1, rfl⟩⟩
    · show (List.replicate (13 + u) ((sRow, some 1) : RC)).length ≤ 100
      rw [List.length_replicate]
      omega
  · exact h g hg
def badRules : List (List Str) := [[Str.ofString "head", Str.ofString ""], [Str.ofString "slots", Str.ofString "slot"], [Str.ofString "Head", Str.ofString "slot"], [Str.ofString "head"], [Str.ofString "head", Str.ofString "head", Str.ofString "slot"], [Str.ofString "head", Str.ofString "slo"], [Str.ofString "heads", Str.ofString "slot"], [Str.ofString "row", Str.ofString "head"], [Str.ofString "slot", Str.ofString "slot "]]
theorem bad_strs : ∀ ws ∈ badRules, (∀ w ∈ ws, PyData.strOk w = true) ∧ ws.length ≤ 10 ∧ goodRule ws = false := by decide +kernel
def tupW (ws : List Str) : PyData := .tuple (ws.map .str)
theorem turn_d (h : ∀ (d5 : PyData) (ws : List Str), ws ∈ badRules → R [.val (tabK a0), .row, x2, x3, x4, .dat d5, .dat (tupW ws), x7, x8, .no, .no, x11, x12] Ψ) :
    wSeq (wSetF 5 (wLst (wCons (wTup (wCons (wC (PyData.str (Str.ofString "head"))) (wCons (wC (PyData.str (Str.ofString ""))) wNil))) (wCons (wTup (wCons (wC (PyData.str (Str.ofString "slots"))) (wCons (wC (PyData.str (Str.ofString "slot"))) wNil))) (wCons (wTup (wCons (wC (PyData.str (Str.ofString "Head"))) (wCons (wC (PyData.str (Str.ofString "slot"))) wNil))) (wCons (wTup (wCons (wC (PyData.str (Str.ofString "head"))) wNil)) (wCons (wTup (wCons (wC (PyData.str (Str.ofString "head"))) (wCons (wC (PyData.str (Str.ofString "head"))) (wCons (wC (PyData.str (Str.ofString "slot"))) wNil)))) wNil))))))) (wSeq (wSetF 5 (wOp sCatL (wVar 5) (wLst (wCons (wTup (wCons (wC (PyData.str (Str.ofString "head"))) (wCons (wC (PyData.str (Str.ofString "slo"))) wNil))) (wCons (wTup (wCons (wC (PyData.str (Str.ofString "heads"))) (wCons (wC (PyData.str (Str.ofString "slot"))) wNil))) (wCons (wTup (wCons (wC (PyData.str (Str.ofString "row"))) (wCons (wC (PyData.str (Str.ofString "head"))) wNil))) (wCons (wTup (wCons (wC (PyData.str (Str.ofString "slot"))) (wCons (wC (PyData.str (Str.ofString "slot "))) wNil))) wNil))))))) (wSeq (wSetF 6 (wOp sIxL (wVar 5) (wDefR 1 tf__law_taken (wCons (wC (PyData.int 9)) wNil)))) R)) [.val (tabK a0), .row, x2, x3, x4, x5, x6, x7, x8, .no, .no, x11, x12] Ψ := by
  walk_at "sf"
  refine ⟨by omega, ?_⟩
  refine taken 9 rfl (by omega) fun v hv => ?_
  have hv2 : v < badRules.length := hv
  have e : atI (badRules.map tupW) ((v : Nat) : Int) = some (tupW badRules[v]) := atI_nat (by rw [List.getElem?_map, List.getElem?_eq_getElem hv2]; rfl)
  refine Eq.mpr (r_sIxL (i := (v : Int))) ⟨_, e, ?_⟩
  exact h _ _ (List.getElem_mem hv2)
def badRoom (n : Nat) (room : Int) : Prop := ¬ (1 ≤ room ∧ (n : Int) ≤ room ∧ room ≤ 12)
theorem turn_e {f : File} (hf : Fine f) (h : ∀ room : Int, badRoom f.cells.length room → R [.val (tabK a0), .row, x2, .dat (dF f), x4, x5, x6, .dat (.int room), x8, .no, .no, x11, x12] Ψ) :
    wSeq (wSetF 7 (wOp sIxL (wLst (wCons (wOp sSub (wCall sLen (wCons (wOp sIxT (wVar 3) (wC (PyData.int 1))) wNil)) (wC (PyData.int 1))) (wCons (wC (PyData.int 13)) (wCons (wOp sAdd (wC (PyData.int 13)) (wDefR 1 tf__law_taken (wCons (wC (PyData.int 99)) wNil))) (wCons (wOp sSub (wC (PyData.int 0)) (wDefR 1 tf__law_taken (wCons (wC (PyData.int 99)) wNil))) wNil))))) (wDefR 1 tf__law_taken (wCons (wC (PyData.int 4)) wNil)))) R [.val (tabK a0), .row, x2, .dat (dF f), x4, x5, x6, x7, x8, .no, .no, x11, x12] Ψ := by
  have hl := hf.few
  unfold dF at h ⊢
  walk_at "sf"
  refine taken 99 rfl (by omega) fun p hp => ?_
  walk_at "sf"
  refine taken 99 rfl (by omega) fun q hq => ?_
  walk_at "sf"
  refine taken 4 rfl (by omega) fun v hv => ?_
  obtain ⟨o, eo, ho⟩ : ∃ o : Int, atI [PyData.int ((f.cells.length : Int) - 1), .int 13, .int (13 + (p : Int)), .int (0 - (q : Int))] ((v : Nat) : Int) = some (.int o) ∧ badRoom f.cells.length o := by
    unfold badRoom
    have : v = 0 ∨ v = 1 ∨ v = 2 ∨ v = 3 := by omega
    rcases this with e | e | e | e
    · subst e; exact ⟨_, atI_nat (j := 0) rfl, by omega⟩
    · subst e; exact ⟨_, atI_nat (j := 1) rfl, by omega⟩
    · subst e; exact ⟨_, atI_nat (j := 2) rfl, by omega⟩
    · subst e; exact ⟨_, atI_nat (j := 3) rfl, by omega⟩
  walk_at "sf"
  rw [eo]
  walk_at "sf"
  exact h o ho
/-- what the two lambdas of works tell -/
abbrev rdW : WE := wDef tf_writes (wCons (wVar 0) (wCons (wVar 1) (wCons (wVar 2) (wCons (wTup (wCons (wC (PyData.str (Str.ofString "take"))) (wCons (wC (PyData.int 5000)) wNil))) wNil))))
abbrev rdP : WE := wDef tf_played (wCons (wVar 0) (wCons (wVar 1) (wCons (wVar 2) (wCons (wLst (wCons (wTup (wCons (wTup (wCons (wC (PyData.str (Str.ofString "x"))) (wCons (wC (PyData.int 1)) wNil))) (wCons (wC (PyData.int 9)) wNil))) wNil)) wNil))))
theorem outP_eq {f : RF} {ws : List Str} {room : Int} : outP f ws room = outW f ws room := rfl
theorem rdW_is {g : RF} {ws : List Str} {room : Int} {e : PyData} (hg : RfOk g) (hs : ∀ w ∈ ws, PyData.strOk w = true) (hl : ws.length ≤ 10) (he : e = wordP (some (outW g ws room))) : wordIs rdW (startE ([dRF g, tupW ws, .int room].map .dat) 1) e := by
  unfold wordIs rdW
  walk_at "sf"
  exact ⟨(g, ws, room), rfl, hg, hs, hl, he⟩
theorem rdP_is {g : RF} {ws : List Str} {room : Int} {e : PyData} (hg : RfOk g) (hs : ∀ w ∈ ws, PyData.strOk w = true) (hl : ws.length ≤ 10) (he : e = wordP (some (outW g ws room))) : wordIs rdP (startE ([dRF g, tupW ws, .int room].map .dat) 1) e := by
  unfold wordIs rdP
  walk_at "sf"
  exact ⟨(g, ws, room), rfl, hg, hs, hl, he⟩
theorem comp_st {wa : WA} {wk : WE} {ρ : Rho} {g : RF} {ws : List Str} {room : Int} {e : PyData} (hρ : ∃ a, ρ[0]? = some (.val (tabK a))) (hn : noRow ρ [10] = true ∧ 10 < ρ.length) (ha : ∀ (Ψ : List PyData → Prop) Ξ, Ψ [dRF g, tupW ws, .int room] → wa ρ Ψ Ξ) (hk : wk (ρ.set 10 .no) (fun r => r.frz = e) (fun _ => False))
    (hg : RfOk g) (hs : ∀ w ∈ ws, PyData.strOk w = true) (hl : ws.length ≤ 10) (he : e = wordP (some (outW g ws room))) (h : R ρ Ψ) :
    wSeq (wIfS (wTest (wOp sNe (wWorksC 10 wa wk rdW rdP) (wLst wNil))) (wRet (wC (PyData.bool false))) wSkip) R ρ Ψ := by
  refine ⟨hρ, hn, ha _ _ ⟨e, hk, rdW_is hg hs hl he, rdP_is hg hs hl he, ?_⟩⟩
  walk_at "sf"
  exact h
theorem turn_f {g : RF} {ws : List Str} {room : Int} {d5 : PyData} (hg : RfOk g) (hs : ∀ w ∈ ws, PyData.strOk w = true) (hl : ws.length ≤ 10) (h : ∀ x8, R [.val (tabK a0), .row, x2, x3, .dat (dRF g), .dat d5, .dat (tupW ws), .dat (.int room), x8, .no, .no, x11, x12] Ψ) :
    wSeq (wSetF 8 (wDef tf__law_bad (wCons (wVar 4) wNil))) (wWorksF 9 10 (wCons (wVar 4) (wCons (wVar 6) (wCons (wVar 7) wNil))) (wCall sIntB (wCons (wOp sNotN (wVar 8) (wC PyData.none)) wNil))
        (wOp sIxL (wLst (wCons (wTup (wCons (wC (PyData.str (Str.ofString "file"))) (wCons (wVar 8) wNil))) (wCons (wTup (wCons (wC (PyData.str (Str.ofString ""))) (wCons (wC PyData.none) wNil))) wNil))) (wCall sIntB (wCons (wOp sIsN (wVar 8) (wC PyData.none)) wNil)))
        rdW rdP (wDef tf_checked (wCons (wVar 4) wNil)) (wDef tf_mended (wCons (wVar 4) wNil)) (wDef tf_mends (wCons (wVar 4) wNil)) (wDef tf_written (wCons (wVar 4) wNil)) R)
      [.val (tabK a0), .row, x2, x3, .dat (dRF g), .dat d5, .dat (tupW ws), .dat (.int room), x8, .no, .no, x11, x12] Ψ := by
  walk_at "sf"
  refine ⟨g, rfl, hg, ?_⟩
  refine ⟨⟨a0, rfl⟩, ⟨rfl, by show 9 < 13; decide, by show 10 < 13; decide, by decide, by decide⟩, ?_⟩
  cases hb : badR g with
  | some p =>
    have ho : outW g ws room = ⟨0, p⟩ := by unfold outW; rw [hb]
    have ck : ∀ {q : PyData}, q = wordP (some ⟨0, p⟩) → tfCheck [dRF g] (fun _ => q = wordP none) (fun ex => q = wordP (some ex)) := fun {q} eq => ⟨g, rfl, hg, by rw [hb]; exact eq⟩
    walk_at "sf"
    exact ⟨true, rfl, wordP (some ⟨0, p⟩), ⟨_, atI_nat (j := 0) rfl, rfl⟩, ⟨ck rfl, ck rfl, ck rfl, ck rfl⟩, fun _ => ⟨⟨(g, ws, room), rfl, hg, hs, hl, by show _ = wordP (some (outW g ws room)); rw [ho]⟩, ⟨(g, ws, room), rfl, hg, hs, hl, by show _ = wordP (some (outW g ws room)); rw [ho]⟩⟩, h _⟩
  | none =>
    have ck : ∀ {q : PyData}, q = wordP none → tfCheck [dRF g] (fun _ => q = wordP none) (fun ex => q = wordP (some ex)) := fun {q} eq => ⟨g, rfl, hg, by rw [hb]; exact fun _ => eq⟩
    walk_at "sf"
    exact ⟨false, rfl, wordP none, ⟨_, atI_nat (j := 1) rfl, rfl⟩, ⟨ck rfl, ck rfl, ck rfl, ck rfl⟩, fun z => (by cases z), h _⟩
def wdS (b : Bool) : Str := if b = true then Str.ofString "head" else Str.ofString "slot"
def ruleWs (r : Rule) : List Str := [wdS r.1, wdS r.2]
theorem dRule_ws (r : Rule) : dRule r = tupW (ruleWs r) := by
  obtain ⟨a, b⟩ := r
  cases a <;> cases b <;> rfl
theorem ruleWs_ok (r : Rule) : (∀ w ∈ ruleWs r, PyData.strOk w = true) ∧ (ruleWs r).length ≤ 10 ∧ goodRule (ruleWs r) = true := by
  obtain ⟨a, b⟩ := r
  cases a <;> cases b <;> decide +kernel
theorem turn_g (h : ∀ r : Rule, R [.val (tabK a0), .row, x2, x3, x4, x5, x6, x7, x8, .no, .no, .dat (tupW (ruleWs r)), x12] Ψ) : wSeq (wSetF 11 (wDefR 1 tf__law_rule wNil)) R [.val (tabK a0), .row, x2, x3, x4, x5, x6, x7, x8, .no, .no, x11, x12] Ψ := by
  walk_at "sf"
  refine ⟨(), rfl, trivial, fun q ⟨r, er⟩ => ?_⟩
  subst er
  have := h r
  rw [← dRule_ws] at this
  exact this
theorem turn_i {n : Nat} {room : Int} (hr : badRoom n room) (h : ∀ room : Int, badRoom n room → R [.val (tabK a0), .row, x2, x3, x4, x5, x6, .dat (.int room), x8, .no, .no, x11, x12] Ψ) :
    wSeq (wSetF 7 (wOp sIxL (wLst (wCons (wVar 7) (wCons (wC (PyData.int 0)) wNil))) (wCall sIntB (wCons (wOp sEq (wVar 7) (wOp sSub (wC (PyData.int 0)) (wC (PyData.int 1)))) wNil)))) R [.val (tabK a0), .row, x2, x3, x4, x5, x6, .dat (.int room), x8, .no, .no, x11, x12] Ψ := by
  walk_at "sf"
  cases (room == (0 - 1)) with
  | true => exact ⟨_, atI_nat (j := 1) rfl, h 0 (by unfold badRoom; omega)⟩
  | false => exact ⟨_, atI_nat (j := 0) rfl, h room hr⟩
end
section
variable {P : Program} {w : World} {K : PySem.W.Frag} {mg : Str → Option Value} {base : Heap}
theorem ok_law (T : Txt K mg) (ef : T.f_law = He.ga K (Str.ofString "law")) (TB : LamX.TabB base mg (lawP K).1 (lawP K).2) (TBw : LamX.TabB base mg (wkP K (Str.ofString "_law_works")).1 (wkP K (Str.ofString "_law_works")).2) : FnOk P w K mg base CX0 14 T.f_law T.fd_law ["_law_script"] (spLT K) := by
  refine okLawT (okLawF (n := 11) T.F_law ef sc_law rfl fun A outer s H E hr => ⟨_, _, _, rfl, ps_set (i := 1) sc_law.nd rfl (by first | exact Or.inl rfl | exact Or.inr rfl) (pe_lst (pa_cons (pv 0) (pa_cons pe_int (pa_cons pe_int pa_nil)))), psis_cons (psi_forR1 (.nm 2) PassesOwn.never rfl T.m_range rfl (pai_cons pei_int pai_nil) (by exact (pg_name (i := 2) sc_law.nd rfl (by first | exact Or.inl rfl | exact Or.inr rfl)))
      (psis_cons (psi_setF 3 (pei_defR 1 (ok__law_file T) (hr.mono (by decide)) T.g__law_file T.F__law_file.kp T.b__law_file passE (pai_cons pei_int pai_nil) rfl) sc_law.nd)
      (psis_cons (psi_setF 4 (pei_defR 1 (ok__law_odd T) (hr.mono (by decide)) T.g__law_odd T.F__law_odd.kp T.b__law_odd passE (pai_cons (pei_var 3) pai_nil) rfl) sc_law.nd)
      (psis_cons (psi_if (pti_cmp (op_eqD (hu64 hr)) op2_eq (nomark _) (pei_defR 1 (ok__law_taken T) (hr.mono (by decide)) T.g__law_taken T.F__law_taken.kp T.b__law_taken passE (pai_cons pei_int pai_nil) rfl) pei_int)
        (psis_one (psi_setF 4 (pei_defR 1 (ok__law_odd T) (hr.mono (by decide)) T.g__law_odd T.F__law_odd.kp T.b__law_odd passE (pai_cons (pei_var 4) pai_nil) rfl) sc_law.nd))
        (psis_nil))
      (psis_cons (psi_if (pti_cmp (op_eqD (hu64 hr)) op2_eq (nomark _) (pei_defR 1 (ok__law_taken T) (hr.mono (by decide)) T.g__law_taken T.F__law_taken.kp T.b__law_taken passE (pai_cons pei_int pai_nil) rfl) pei_int)
        (psis_one (psi_setF 4 (pei_tup (pai_cons pei_non (pai_cons (pei_repT (pei_tup (pai_cons (pei_tup (pai_cons pei_str (pai_cons pei_int pai_nil))) pai_nil)) (pei_add pei_int (pei_defR 1 (ok__law_taken T) (hr.mono (by decide)) T.g__law_taken T.F__law_taken.kp T.b__law_taken passE (pai_cons pei_int pai_nil) rfl))) pai_nil))) sc_law.nd))
        (psis_nil))
      (psis_cons (psi_setF 5 (pei_lst (pai_cons (pei_tup (pai_cons pei_str (pai_cons pei_str pai_nil))) (pai_cons (pei_tup (pai_cons pei_str (pai_cons pei_str pai_nil))) (pai_cons (pei_tup (pai_cons pei_str (pai_cons pei_str pai_nil))) (pai_cons (pei_tup (pai_cons pei_str pai_nil)) (pai_cons (pei_tup (pai_cons pei_str (pai_cons pei_str (pai_cons pei_str pai_nil)))) pai_nil)))))) sc_law.nd)
      (psis_cons (psi_setF 5 (pei_catL (pei_var 5) (pei_lst (pai_cons (pei_tup (pai_cons pei_str (pai_cons pei_str pai_nil))) (pai_cons (pei_tup (pai_cons pei_str (pai_cons pei_str pai_nil))) (pai_cons (pei_tup (pai_cons pei_str (pai_cons pei_str pai_nil))) (pai_cons (pei_tup (pai_cons pei_str (pai_cons pei_str pai_nil))) pai_nil)))))) sc_law.nd)
      (psis_cons (psi_setF 6 (pei_ixL (pei_var 5) (pei_defR 1 (ok__law_taken T) (hr.mono (by decide)) T.g__law_taken T.F__law_taken.kp T.b__law_taken passE (pai_cons pei_int pai_nil) rfl)) sc_law.nd)
      (psis_cons (psi_setF 7 (pei_ixL (pei_lst (pai_cons (pei_sub (pei_len T.m_len rfl (pai_cons (pei_ixT (pei_var 3) pei_int) pai_nil)) pei_int) (pai_cons pei_int (pai_cons (pei_add pei_int (pei_defR 1 (ok__law_taken T) (hr.mono (by decide)) T.g__law_taken T.F__law_taken.kp T.b__law_taken passE (pai_cons pei_int pai_nil) rfl)) (pai_cons (pei_sub pei_int (pei_defR 1 (ok__law_taken T) (hr.mono (by decide)) T.g__law_taken T.F__law_taken.kp T.b__law_taken passE (pai_cons pei_int pai_nil) rfl)) pai_nil))))) (pei_defR 1 (ok__law_taken T) (hr.mono (by decide)) T.g__law_taken T.F__law_taken.kp T.b__law_taken passE (pai_cons pei_int pai_nil) rfl)) sc_law.nd)
      (psis_cons (psi_setF 8 (pei_def (ok__law_bad T) (hr.mono (by decide)) T.g__law_bad T.F__law_bad.kp T.b__law_bad passE (pai_cons (pei_var 4) pai_nil) rfl) sc_law.nd)
      (psis_worksG (i := 9) (j := 10) (k := 10) (q := qWk) (L0 := wkL0 s__law_works) (L1 := wkL1 s__law_works) (N := n__law_works) tab_law tab_wk rfl
        (ps_set (i := 9) sc_law.nd rfl (by first | exact Or.inl rfl | exact Or.inr rfl) (pe_lst (pa_cons (pe_mk TB rfl tab_law (one_law T.pn) (fun ok => FreeIn.has (freeIn_by (sc := defScope s_law) (by decide +kernel)) ok) rfl) (pa_cons (pe_mkD TB rfl tab_law (one_law T.pn) (fun ok => FreeIn.has (freeIn_by (sc := defScope s_law) (by decide +kernel)) ok) rfl rfl) (pa_cons (pe_mkD TB rfl tab_law (one_law T.pn) (fun ok => FreeIn.has (freeIn_by (sc := defScope s_law) (by decide +kernel)) ok) rfl rfl) pa_nil)))))
        (ps_expr (pe_bm PySem.F.plainAttrs_list PySem.F.slot_list_append PySem.F.type_list_append mt_append (pv 9) (pa_cons (pe_mk TB rfl tab_law (one_law T.pn) (fun ok => FreeIn.has (freeIn_by (sc := defScope s_law) (by decide +kernel)) ok) rfl) pa_nil)))
        (ps_for PassesOwn.never rfl (pi_list (pe_op op_cat (pv 9) (pe_op op_rep (pe_call (ok__law_works T TBw) (hr.mono (by decide)) rfl T.g__law_works T.F__law_works.kp T.b__law_works .nil passE (pai_cons (pei_var 4) (pai_cons (pei_var 6) (pai_cons (pei_var 7) pai_nil)))) (pei_intB T.m_int rfl (pai_cons (pei_cmp op_notN op2_notN (nomark _) (pei_var 8) pei_non) pai_nil))))) (by exact (pg_name (i := 10) sc_law.nd rfl (by first | exact Or.inl rfl | exact Or.inr rfl))) (pss_one (ps_if (pt_cmpR (op_neD (hu64 hr)) (pe_wrd ((runs1 (k := 10) (ok__law_word T) T.b__law_word (hr.mono (by decide)) (fun _ => rfl)).or (runs2 (ok__law_word T) T.b__law_word (hr.mono (by decide)))) rfl T.g__law_word T.F__law_word.kp (pv 10)) (pei_ixL (pei_lst (pai_cons (pei_tup (pai_cons pei_str (pai_cons (pei_var 8) pai_nil))) (pai_cons (pei_tup (pai_cons pei_str (pai_cons pei_non pai_nil))) pai_nil))) (pei_intB T.m_int rfl (pai_cons (pei_cmp op_isN op2_isN (nomark _) (pei_var 8) pei_non) pai_nil))) (nomark _)) (pss_one (ps_ret pe_bl)) pss_nil)) (by intro _; rfl))
        (by exact ⟨lamN_by (N := n__law_works) (by decide +kernel), lamB_no (by intros; rfl), fun A outer s H E clo f c' hr => (pei_def (ok_writes T) (hr.mono (by decide)) T.g_writes T.F_writes.kp T.b_writes (passes_call (takes_of rfl rfl rfl rfl) (fun _ _ _ _ h => h)) (pai_cons (pei_var 0) (pai_cons (pei_var 1) (pai_cons (pei_var 2) (pai_cons (pei_tup (pai_cons pei_str (pai_cons pei_int pai_nil))) pai_nil)))) rfl)⟩)
        (by exact ⟨lamN_by (N := n__law_works) (by decide +kernel), lamB_no (by intros; rfl), fun A outer s H E clo f c' hr => (pei_def (ok_played T) (hr.mono (by decide)) T.g_played T.F_played.kp T.b_played (passes_call (takes_of rfl rfl rfl rfl) (fun _ _ _ _ h => h)) (pai_cons (pei_var 0) (pai_cons (pei_var 1) (pai_cons (pei_var 2) (pai_cons (pei_lst (pai_cons (pei_tup (pai_cons (pei_tup (pai_cons pei_str (pai_cons pei_int pai_nil))) (pai_cons pei_int pai_nil))) pai_nil)) pai_nil)))) rfl)⟩)
        (by exact ⟨lamN_by (N := n_law) (by decide +kernel), lamB_no (by intros; rfl), fun A outer s H E clo f c' hr => (pei_def (ok_checked T) (hr.mono (by decide)) T.g_checked T.F_checked.kp T.b_checked (passes_call (takes_of rfl rfl rfl rfl) (fun _ _ _ _ h => h)) (pai_cons (pei_var 4) pai_nil) rfl)⟩)
        (by exact ⟨lamN_by (N := n_law) (by decide +kernel), (lamB_d (y := "_law_a") (by decide +kernel) (by intros; exact ⟨_, rfl, fun _ => rfl⟩)), fun A outer s H E clo f c' hr => (pei_def (ok_mended T) (hr.mono (by decide)) T.g_mended T.F_mended.kp T.b_mended (passes_call (takes_of rfl rfl rfl rfl) (fun _ _ _ _ h => h)) (pai_cons (pei_var 4) pai_nil) rfl)⟩)
        (by exact ⟨lamN_by (N := n_law) (by decide +kernel), (lamB_d (y := "_law_b") (by decide +kernel) (by intros; exact ⟨_, rfl, fun _ => rfl⟩)), fun A outer s H E clo f c' hr => (pei_def (ok_mends T) (hr.mono (by decide)) T.g_mends T.F_mends.kp T.b_mends (passes_call (takes_of rfl rfl rfl rfl) (fun _ _ _ _ h => h)) (pai_cons (pei_var 4) pai_nil) rfl)⟩)
        (by exact ⟨lamN_by (N := n_law) (by decide +kernel), lamB_no (by intros; rfl), fun A outer s H E clo f c' hr => (pei_def (ok_written T) (hr.mono (by decide)) T.g_written T.F_written.kp T.b_written (passes_call (takes_of rfl rfl rfl rfl) (fun _ _ _ _ h => h)) (pai_cons (pei_var 4) pai_nil) rfl)⟩)
        (by exact freeIn_by (sc := defScope s_law) (by decide +kernel)) (by exact freeIn_by (sc := defScope s_law) (by decide +kernel)) (by exact freeIn_by (sc := defScope s_law) (by decide +kernel)) (by exact freeIn_by (sc := defScope s_law) (by decide +kernel))
      (psis_cons (psi_if (pti_cmp (op_neD (hu64 hr)) op2_ne (nomark _) (pei_worksC (j := 10) (k := 10) (q := qWk) (L0 := wkL0 s__law_works) (L1 := wkL1 s__law_works) (N := n__law_works) rfl sc_law.nd tab_wk rfl (by exact ⟨lamN_by (N := n__law_works) (by decide +kernel), lamB_no (by intros; rfl), fun A outer s H E clo f c' hr => (pei_def (ok_writes T) (hr.mono (by decide)) T.g_writes T.F_writes.kp T.b_writes (passes_call (takes_of rfl rfl rfl rfl) (fun _ _ _ _ h => h)) (pai_cons (pei_var 0) (pai_cons (pei_var 1) (pai_cons (pei_var 2) (pai_cons (pei_tup (pai_cons pei_str (pai_cons pei_int pai_nil))) pai_nil)))) rfl)⟩) (by exact ⟨lamN_by (N := n__law_works) (by decide +kernel), lamB_no (by intros; rfl), fun A outer s H E clo f c' hr => (pei_def (ok_played T) (hr.mono (by decide)) T.g_played T.F_played.kp T.b_played (passes_call (takes_of rfl rfl rfl rfl) (fun _ _ _ _ h => h)) (pai_cons (pei_var 0) (pai_cons (pei_var 1) (pai_cons (pei_var 2) (pai_cons (pei_lst (pai_cons (pei_tup (pai_cons (pei_tup (pai_cons pei_str (pai_cons pei_int pai_nil))) (pai_cons pei_int pai_nil))) pai_nil)) pai_nil)))) rfl)⟩) (blkOk_by (N := n_law) (sc := defScope s_law) (by decide +kernel)) (pe_call (ok__law_works T TBw) (hr.mono (by decide)) rfl T.g__law_works T.F__law_works.kp T.b__law_works .nil passE (pai_cons (pei_var 3) (pai_cons (pei_var 6) (pai_cons (pei_var 7) pai_nil)))) (fun _ _ _ _ _ => by exact (pg_name (i := 10) sc_law.nd rfl (by first | exact Or.inl rfl | exact Or.inr rfl))) (fun _ _ _ _ _ => pt_cmpR (op_neD (hu64 hr)) (pe_wrd (runs2 (ok__law_word T) T.b__law_word (hr.mono (by decide))) rfl T.g__law_word T.F__law_word.kp (pv 10)) (pei_tup (pai_cons pei_str (pai_cons pei_non pai_nil))) (nomark _)) (fun _ _ _ _ _ => pv 10)) (pei_lst pai_nil))
        (psis_one (psi_ret pei_bl))
        (psis_nil))
      (psis_cons (psi_setF 11 (pei_defR 1 (ok__law_rule T) (hr.mono (by decide)) T.g__law_rule T.F__law_rule.kp T.b__law_rule passE pai_nil rfl) sc_law.nd)
      (psis_cons (psi_setF 7 (pei_ixL (pei_lst (pai_cons (pei_var 7) (pai_cons pei_int pai_nil))) (pei_intB T.m_int rfl (pai_cons (pei_cmp (op_eqD (hu64 hr)) op2_eq (nomark _) (pei_var 7) (pei_sub pei_int pei_int)) pai_nil))) sc_law.nd)
      (psis_cons (psi_if (pti_cmp (op_neD (hu64 hr)) op2_ne (nomark _) (pei_worksC (j := 10) (k := 10) (q := qWk) (L0 := wkL0 s__law_works) (L1 := wkL1 s__law_works) (N := n__law_works) rfl sc_law.nd tab_wk rfl (by exact ⟨lamN_by (N := n__law_works) (by decide +kernel), lamB_no (by intros; rfl), fun A outer s H E clo f c' hr => (pei_def (ok_writes T) (hr.mono (by decide)) T.g_writes T.F_writes.kp T.b_writes (passes_call (takes_of rfl rfl rfl rfl) (fun _ _ _ _ h => h)) (pai_cons (pei_var 0) (pai_cons (pei_var 1) (pai_cons (pei_var 2) (pai_cons (pei_tup (pai_cons pei_str (pai_cons pei_int pai_nil))) pai_nil)))) rfl)⟩) (by exact ⟨lamN_by (N := n__law_works) (by decide +kernel), lamB_no (by intros; rfl), fun A outer s H E clo f c' hr => (pei_def (ok_played T) (hr.mono (by decide)) T.g_played T.F_played.kp T.b_played (passes_call (takes_of rfl rfl rfl rfl) (fun _ _ _ _ h => h)) (pai_cons (pei_var 0) (pai_cons (pei_var 1) (pai_cons (pei_var 2) (pai_cons (pei_lst (pai_cons (pei_tup (pai_cons (pei_tup (pai_cons pei_str (pai_cons pei_int pai_nil))) (pai_cons pei_int pai_nil))) pai_nil)) pai_nil)))) rfl)⟩) (blkOk_by (N := n_law) (sc := defScope s_law) (by decide +kernel)) (pe_call (ok__law_works T TBw) (hr.mono (by decide)) rfl T.g__law_works T.F__law_works.kp T.b__law_works .nil passE (pai_cons (pei_var 3) (pai_cons (pei_var 11) (pai_cons (pei_var 7) pai_nil)))) (fun _ _ _ _ _ => by exact (pg_name (i := 10) sc_law.nd rfl (by first | exact Or.inl rfl | exact Or.inr rfl))) (fun _ _ _ _ _ => pt_cmpR (op_neD (hu64 hr)) (pe_wrd (runs2 (ok__law_word T) T.b__law_word (hr.mono (by decide))) rfl T.g__law_word T.F__law_word.kp (pv 10)) (pei_tup (pai_cons pei_str (pai_cons pei_non pai_nil))) (nomark _)) (fun _ _ _ _ _ => pv 10)) (pei_lst pai_nil))
        (psis_one (psi_ret pei_bl))
        (psis_nil))
      (psis_cons (psi_if (pti_cmp (op_neD (hu64 hr)) op2_ne (nomark _) (pei_worksC (j := 10) (k := 10) (q := qWk) (L0 := wkL0 s__law_works) (L1 := wkL1 s__law_works) (N := n__law_works) rfl sc_law.nd tab_wk rfl (by exact ⟨lamN_by (N := n__law_works) (by decide +kernel), lamB_no (by intros; rfl), fun A outer s H E clo f c' hr => (pei_def (ok_writes T) (hr.mono (by decide)) T.g_writes T.F_writes.kp T.b_writes (passes_call (takes_of rfl rfl rfl rfl) (fun _ _ _ _ h => h)) (pai_cons (pei_var 0) (pai_cons (pei_var 1) (pai_cons (pei_var 2) (pai_cons (pei_tup (pai_cons pei_str (pai_cons pei_int pai_nil))) pai_nil)))) rfl)⟩) (by exact ⟨lamN_by (N := n__law_works) (by decide +kernel), lamB_no (by intros; rfl), fun A outer s H E clo f c' hr => (pei_def (ok_played T) (hr.mono (by decide)) T.g_played T.F_played.kp T.b_played (passes_call (takes_of rfl rfl rfl rfl) (fun _ _ _ _ h => h)) (pai_cons (pei_var 0) (pai_cons (pei_var 1) (pai_cons (pei_var 2) (pai_cons (pei_lst (pai_cons (pei_tup (pai_cons (pei_tup (pai_cons pei_str (pai_cons pei_int pai_nil))) (pai_cons pei_int pai_nil))) pai_nil)) pai_nil)))) rfl)⟩) (blkOk_by (N := n_law) (sc := defScope s_law) (by decide +kernel)) (pe_call (ok__law_works T TBw) (hr.mono (by decide)) rfl T.g__law_works T.F__law_works.kp T.b__law_works .nil passE (pai_cons (pei_var 3) (pai_cons (pei_var 11) (pai_cons (pei_max2 T.m_max rfl rfl (pai_cons pei_int (pai_cons (pei_len T.m_len rfl (pai_cons (pei_ixT (pei_var 3) pei_int) pai_nil)) pai_nil))) pai_nil)))) (fun _ _ _ _ _ => by exact (pg_name (i := 10) sc_law.nd rfl (by first | exact Or.inl rfl | exact Or.inr rfl))) (fun _ _ _ _ _ => pt_cmpR (op_neD (hu64 hr)) (pe_wrd (runs2 (ok__law_word T) T.b__law_word (hr.mono (by decide))) rfl T.g__law_word T.F__law_word.kp (pv 10)) (pei_tup (pai_cons pei_str (pai_cons pei_int pai_nil))) (nomark _)) (fun _ _ _ _ _ => pv 10)) (pei_lst pai_nil))
        (psis_one (psi_ret pei_bl))
        (psis_nil))
      (psis_cons (psi_setF 12 (pei_lst (pai_cons (pei_word3 (k := 10) tab_law (runs1 (ok__law_word T) T.b__law_word (hr.mono (by decide)) (fun _ => rfl)) T.g__law_word T.F__law_word.kp (pe_mk TB rfl tab_law (one_law T.pn) (fun ok => FreeIn.has (freeIn_by (sc := defScope s_law) (by decide +kernel)) ok) rfl) (freeIn_by (sc := defScope s_law) (by decide +kernel)) (by exact ⟨lamN_by (N := n_law) (by decide +kernel), lamB_no (by intros; rfl), fun A outer s H E clo f c' hr => (pei_def (ok_judged T) (hr.mono (by decide)) T.g_judged T.F_judged.kp T.b_judged (passes_call (takes_of rfl rfl rfl rfl) (fun _ _ _ _ h => h)) (pai_cons (pei_var 6) (pai_cons pei_int pai_nil)) rfl)⟩)) (pai_cons (pei_word3 (k := 10) tab_law (runs1 (ok__law_word T) T.b__law_word (hr.mono (by decide)) (fun _ => rfl)) T.g__law_word T.F__law_word.kp (pe_mkD TB rfl tab_law (one_law T.pn) (fun ok => FreeIn.has (freeIn_by (sc := defScope s_law) (by decide +kernel)) ok) rfl rfl) (freeIn_by (sc := defScope s_law) (by decide +kernel)) (by exact ⟨lamN_by (N := n_law) (by decide +kernel), (lamB_d (y := "_law_a") (by decide +kernel) (by intros; exact ⟨_, rfl, fun _ => rfl⟩)), fun A outer s H E clo f c' hr => (pei_def (ok_judged T) (hr.mono (by decide)) T.g_judged T.F_judged.kp T.b_judged (passes_call (takes_of rfl rfl rfl rfl) (fun _ _ _ _ h => h)) (pai_cons (pei_var 11) (pai_cons (pei_ixL (pei_lst (pai_cons pei_int (pai_cons pei_int (pai_cons (pei_sub pei_int pei_int) pai_nil)))) (pei_mod (pei_var 2) pei_int)) pai_nil)) rfl)⟩)) pai_nil))) sc_law.nd)
      (psis_one (psi_if (pti_cmp (op_neD (hu64 hr)) op2_ne (nomark _) (pei_var 12) (pei_lst (pai_cons (pei_tup (pai_cons pei_str (pai_cons pei_non pai_nil))) (pai_cons (pei_tup (pai_cons pei_str (pai_cons pei_non pai_nil))) pai_nil))))
        (psis_one (psi_ret pei_bl))
        (psis_nil))))))))))))))))))))
    (psis_one (psi_ret pei_bl)), fun a0 => ?_⟩)
  walk_at "sf"
  refine ⟨by omega, by omega, fun i ρ => ∃ (a b c d e g h m n : Ent), ρ = [.val (tabK a0), .row, a, b, c, d, e, g, h, .no, .no, m, n], ⟨_, _, _, _, _, _, _, _, _, rfl⟩, fun i ρ' hi hρ => ?_, fun ρ' hρ => ?_⟩
  · obtain ⟨a, b, c, d, e, g, h, m, n, rfl⟩ := hρ
    simp only [bindT, List.set_cons_succ, List.set_cons_zero]
    refine turn_a fun f g1 hf hg1 => ?_
    refine turn_b hg1 fun g2 hg2 => ?_
    refine turn_c hg2 fun g hg => ?_
    refine turn_d fun d5 ws hws => ?_
    refine turn_e hf fun room hroom => ?_
    have hsl := bad_strs ws hws
    refine turn_f hg hsl.1 hsl.2.1 fun x8 => ?_
    have hlf := hf.few
    have hn10 : ∀ {x2 x3 x4 x5 x6 x7 x8 x11 x12 : Ent}, noRow [.val (tabK a0), .row, x2, x3, x4, x5, x6, x7, x8, .no, .no, x11, x12] [10] = true ∧ 10 < ([.val (tabK a0), .row, x2, x3, x4, x5, x6, x7, x8, .no, .no, x11, x12] : Rho).length := ⟨rfl, by show 10 < 13; decide⟩
    have rg := raw_good hf
    have el : (rawF f).cells.length = f.cells.length := List.length_map ..
    refine comp_st (g := rawF f) (ws := ws) (room := room) (e := wordP (some ⟨1, 0⟩)) ⟨a0, rfl⟩ hn10 (fun Ψ Ξ hΨ => by walk_at "sf"; rw [← dRF_raw]; exact hΨ) (by walk_at "sf"; rfl) (raw_ok hf) hsl.1 hsl.2.1 (by unfold outW; rw [rg, hsl.2.2]; rfl) ?_
    refine turn_g fun r => ?_
    refine turn_i hroom fun room2 hroom2 => ?_
    have hr := ruleWs_ok r
    refine comp_st (g := rawF f) (ws := ruleWs r) (room := room2) (e := wordP (some ⟨2, 0⟩)) ⟨a0, rfl⟩ hn10 (fun Ψ Ξ hΨ => by walk_at "sf"; rw [← dRF_raw]; exact hΨ) (by walk_at "sf"; rfl) (raw_ok hf) hr.1 hr.2.1 (by unfold outW; rw [rg, hr.2.2, el]; dsimp only; rw [if_pos rfl, if_neg hroom2]) ?_
    refine comp_st (g := rawF f) (ws := ruleWs r) (room := max 1 (f.cells.length : Int)) (e := wordP (some ⟨3, 0⟩)) ⟨a0, rfl⟩ hn10 (fun Ψ Ξ hΨ => by rw [dRF_raw] at hΨ; unfold dF at hΨ ⊢; walk_at "sf"; exact hΨ) (by walk_at "sf"; rfl) (raw_ok hf) hr.1 hr.2.1 (by unfold outW; rw [rg, hr.2.2, el]; dsimp only; rw [if_pos rfl, if_pos (by omega)]) ?_
    walk_at "sf"
    refine ⟨⟨a0, rfl⟩, (ws, 0), rfl, hsl.1, hsl.2.1, ?_⟩
    show if goodRule ws = true then _ else _
    rw [hsl.2.2, if_neg (by decide)]
    refine ⟨⟨a0, rfl⟩, by omega, ?_⟩
    obtain ⟨o, eo, ho⟩ : ∃ o : Int, atI [PyData.int 0, .int 13, .int (0 - 5)] ((i : Int) % 3) = some (.int o) ∧ ¬ (1 ≤ o ∧ o ≤ 12) := by
      rw [show (i : Int) % 3 = ((i % 3 : Nat) : Int) by omega]
      have : i % 3 = 0 ∨ i % 3 = 1 ∨ i % 3 = 2 := by omega
      rcases this with e | e | e
      · rw [e]; exact ⟨_, atI_nat (j := 0) rfl, by omega⟩
      · rw [e]; exact ⟨_, atI_nat (j := 1) rfl, by omega⟩
      · rw [e]; exact ⟨_, atI_nat (j := 2) rfl, by omega⟩
    refine ⟨_, eo, (ruleWs r, o), rfl, hr.1, hr.2.1, ?_⟩
    show if goodRule (ruleWs r) = true then _ else _
    rw [hr.2.2, if_pos rfl]
    refine ⟨ho, ?_⟩
    have sh : Shp 2 (.list [wordP (some ⟨1, 0⟩), wordP (some ⟨2, 0⟩)]) := .list fun d hd => by
      rcases List.mem_cons.mp hd with z | z
      · rw [z]; exact shp_wd _
      · rw [List.mem_singleton.mp z]; exact shp_wd _
    refine ⟨sh.shaped (by decide), sh.shaped (by decide), ite_f ?_ ⟨_, _, _, _, _, _, _, _, _, rfl⟩⟩
    show (!(PyData.eqv (.list [wordP (some ⟨1, 0⟩), wordP (some ⟨2, 0⟩)]) (.list [wordP (some ⟨1, 0⟩), wordP (some ⟨2, 0⟩)]))) = false
    rw [SeqAt.eqv_refl _ sh.1]
    rfl
  · obtain ⟨a, b, c, d, e, g, h, m, n, rfl⟩ := hρ
    walk_at "sf"
end
theorem im_firstsB {K : PySem.W.Frag} (h : He.tupB K "FIRSTS" [.str (Str.ofString "head"), .str (Str.ofString "slot")] = true) : ∀ G, Im K G (.tuple [.str (Str.ofString "head"), .str (Str.ofString "slot")]) (.ref (He.ga K "FIRSTS")) := fun G => by
  rw [im_tuple]
  refine ⟨_, [.str (Str.ofString "head"), .str (Str.ofString "slot")], rfl, He.tupB_ok h G, ?_⟩
  exact .cons (by rw [im_str]) (.cons (by rw [im_str]) .nil)
theorem fun_ofD {K : PySem.W.Frag} {x y : Str} {st : Stmt} {f : Addr} {fd : FuncData} (F : FunD K x y (defArgs st) (defBody st) (defScope st) [] [] f fd) : Fun K x y st f fd := by
  obtain ⟨oc, od, dV, kV, doc, pm, an, cdv, ct, osl, e, lk, hcd, hd, _⟩ := F.ex
  rcases hd with ⟨_, hd⟩ | ⟨hd, _⟩
  · subst hd
    exact ⟨⟨oc, od, kV, doc, pm, an, cdv, ct, osl, e, lk, hcd⟩, F.kp⟩
  · exact absurd rfl hd
def dd (x : Str) (st : Stmt) : He.DefD := ⟨(x, none), x, x, defArgs st, defBody st, defScope st, [], []⟩
def signsB (K : PySem.W.Frag) : Bool := match K.lookup (He.ga K "SIGNS") with
  | some ⟨_, _, .dict es _, _⟩ => (match es.toList with
    | [⟨_, .str a _, .str b _⟩, ⟨_, .str c _, .str d _⟩] => decide (a = Str.ofString "r") && decide (b = Str.ofString "row") && decide (c = Str.ofString "f") && decide (d = Str.ofString "free")
    | _ => false)
  | _ => false
theorem signsB_ok {K : PySem.W.Frag} (h : signsB K = true) : KdAs K (He.ga K "SIGNS") signsG := by
  unfold signsB at h
  split at h
  · rename_i oc od es n sl e
    split at h
    · rename_i ha a ta b tb hb c tc d td e2
      rw [Bool.and_eq_true, Bool.and_eq_true, Bool.and_eq_true, decide_eq_true_iff, decide_eq_true_iff, decide_eq_true_iff, decide_eq_true_iff] at h
      obtain ⟨⟨⟨h1, h2⟩, h3⟩, h4⟩ := h
      subst h1 h2 h3 h4
      have ee : es = #[⟨ha, .str (Str.ofString "r") ta, .str (Str.ofString "row") tb⟩, ⟨hb, .str (Str.ofString "f") tc, .str (Str.ofString "free") td⟩] := by
        have := congrArg List.toArray e2
        rwa [Array.toArray_toList] at this
      subst ee
      exact kd_signs (oc := oc) e
    · cases h
  · cases h
def di0 : He.DefD := ⟨("BadFile", some "__init__"), "__init__", "BadFile.__init__", defArgs sI_0, defBody sI_0, defScope sI_0, [], []⟩
def di3 : He.DefD := ⟨("BadStep", some "__init__"), "__init__", "BadStep.__init__", defArgs sI_3, defBody sI_3, defScope sI_3, [], []⟩
def di4 : He.DefD := ⟨("BadText", some "__init__"), "__init__", "BadText.__init__", defArgs sI_4, defBody sI_4, defScope sI_4, [], []⟩
def hfn : List He.DefD := [dd "is_link" s_is_link, dd "is_cell" s_is_cell, dd "need_file" s_need_file, dd "chain_of" s_chain_of, dd "rows_of" s_rows_of, dd "looked_over" s_looked_over, dd "checked" s_checked, dd "chained" s_chained, dd "mended_of" s_mended_of, dd "mended" s_mended, dd "mends_of" s_mends_of, dd "mends" s_mends, dd "need_rule" s_need_rule, dd "need_room" s_need_room, dd "in_order" s_in_order, dd "take_writes" s_take_writes, dd "writes_of" s_writes_of, dd "written_in" s_written_in, dd "stepped" s_stepped, dd "played" s_played, dd "writes" s_writes, dd "need_small" s_need_small, dd "lost_by" s_lost_by, dd "judged" s_judged, dd "written" s_written, dd "_law_taken" s__law_taken, dd "_law_rule" s__law_rule, dd "_law_file" s__law_file, dd "_law_word" s__law_word, dd "_law_odd" s__law_odd, dd "_law_bad" s__law_bad, dd "_law_works" s__law_works, dd "law" s_law, di0, di3, di4]
def hfa : List He.Fa := [.glo "is_link", .glo "is_cell", .glo "need_file", .glo "chain_of", .glo "rows_of", .glo "looked_over", .glo "checked", .glo "chained", .glo "mended_of", .glo "mended", .glo "mends_of", .glo "mends", .glo "need_rule", .glo "need_room", .glo "in_order", .glo "take_writes", .glo "writes_of", .glo "written_in", .glo "stepped", .glo "played", .glo "writes", .glo "need_small", .glo "lost_by", .glo "judged", .glo "written", .glo "_law_taken", .glo "_law_rule", .glo "_law_file", .glo "_law_word", .glo "_law_odd", .glo "_law_bad", .glo "_law_works", .glo "law", .free "len", .free "range", .free "list", .free "tuple", .free "max", .free "int", .free "isinstance", .free "ValueError", .free "min", .free "str", .int "MOST_SLOTS" 12, .int "MOST_NUMBER" 999, .str "ROW" (Str.ofString "row"), .str "FREE" (Str.ofString "free"), .glo "FIRSTS", .int "MOST_ROOM" 4, .glo "EMPTY", .glo "BadFile", .glo "BadRule", .glo "BadRoom", .glo "BadStep", .glo "BadText", .glo "SlotError"]
def hts : List He.Tab := []
def hex (K : PySem.W.Frag) : Bool := He.tupB K "FIRSTS" [.str (Str.ofString "head"), .str (Str.ofString "slot")] && (imB K (.tuple [.none, .tuple []]) (.ref (He.ga K "EMPTY")) && (decide ((lawP K).2 ≠ (wkP K (Str.ofString "_law_works")).2) && (errsB K)))
abbrev R : PySem.W.OpenRow := PySem.W.OpenLaw.row PySem.Challenge.rw_slotfile_k01_files_rules_rooms_refused
abbrev hk : PySem.W.Hook := hookE 5 hfa hfn hts [("law", none), ("_law_works", none)] hex
def ob (s : PySem.W.SharedT) : He.AlX := obsE 5 hfa hfn hts [("law", none), ("_law_works", none)] hex (HandSHeadRun.getT s)
theorem ob_eq (s : PySem.W.SharedT) : ob s = hk.obs s.abs := obsE_eq (HandSHeadRun.getT_eq s)
theorem run (w : World) : HandSHeadRun.RunEq R (PySem.W.view R.prog [54]) hk ob 4000 [Str.ofString "SlotError", Str.ofString "BadFile", Str.ofString "BadRule", Str.ofString "BadRoom", Str.ofString "BadStep", Str.ofString "BadText", Str.ofString "MOST_SLOTS", Str.ofString "MOST_NUMBER", Str.ofString "ROW", Str.ofString "FREE", Str.ofString "is_link", Str.ofString "is_cell", Str.ofString "need_file", Str.ofString "chain_of", Str.ofString "rows_of", Str.ofString "looked_over", Str.ofString "checked", Str.ofString "chained", Str.ofString "mended_of", Str.ofString "mended", Str.ofString "mends_of", Str.ofString "mends", Str.ofString "FIRSTS", Str.ofString "need_rule", Str.ofString "need_room", Str.ofString "in_order", Str.ofString "take_writes", Str.ofString "writes_of", Str.ofString "written_in", Str.ofString "stepped", Str.ofString "played", Str.ofString "writes", Str.ofString "EMPTY", Str.ofString "MOST_ROOM", Str.ofString "TAKE", Str.ofString "need_small", Str.ofString "steps_on", Str.ofString "is_over", Str.ofString "lost_by", Str.ofString "judged", Str.ofString "written", Str.ofString "_law_taken", Str.ofString "_law_rule", Str.ofString "_law_file", Str.ofString "_law_word", Str.ofString "_law_odd", Str.ofString "_law_bad", Str.ofString "_law_works"] w :=
  PySem.W.byRow2 "special-get-raises" (P := fun w => HandSHeadRun.RunEq R (PySem.W.view R.prog [54]) hk ob 4000 [Str.ofString "SlotError", Str.ofString "BadFile", Str.ofString "BadRule", Str.ofString "BadRoom", Str.ofString "BadStep", Str.ofString "BadText", Str.ofString "MOST_SLOTS", Str.ofString "MOST_NUMBER", Str.ofString "ROW", Str.ofString "FREE", Str.ofString "is_link", Str.ofString "is_cell", Str.ofString "need_file", Str.ofString "chain_of", Str.ofString "rows_of", Str.ofString "looked_over", Str.ofString "checked", Str.ofString "chained", Str.ofString "mended_of", Str.ofString "mended", Str.ofString "mends_of", Str.ofString "mends", Str.ofString "FIRSTS", Str.ofString "need_rule", Str.ofString "need_room", Str.ofString "in_order", Str.ofString "take_writes", Str.ofString "writes_of", Str.ofString "written_in", Str.ofString "stepped", Str.ofString "played", Str.ofString "writes", Str.ofString "EMPTY", Str.ofString "MOST_ROOM", Str.ofString "TAKE", Str.ofString "need_small", Str.ofString "steps_on", Str.ofString "is_over", Str.ofString "lost_by", Str.ofString "judged", Str.ofString "written", Str.ofString "_law_taken", Str.ofString "_law_rule", Str.ofString "_law_file", Str.ofString "_law_word", Str.ofString "_law_odd", Str.ofString "_law_bad", Str.ofString "_law_works"] w) (fun w => by intro os; kernel_rfl) (fun w => by intro os; kernel_rfl) w
theorem facts {P : Program} {w : World} {K : PySem.W.Frag} {h : Heap} {mg : Str → Option Value} {f : Addr} (X : K.In h) (G : h.Ns mainGlobals mg) (hfa0 : mg ("law" : Str) = some (.ref f)) (ct : He.SaysT hfa hfn hts w K) (cx : hex K = true) :
    ∃ fd : FuncData, (∀ (s : Shared) (v : Value), BindsTo s fd ⟨[v], []⟩ [("_law_script", v)]) ∧ ∀ base : Heap, K.In base → base.Ns mainGlobals mg → LamX.TabB base mg (lawP K).1 (lawP K).2 → LamX.TabB base mg (wkP K (Str.ofString "_law_works")).1 (wkP K (Str.ofString "_law_works")).2 → FnOk P w K mg base CX0 14 f fd ["_law_script"] (spLT K) := by
  have c := ct.d
  obtain ⟨cf, cx⟩ := Bool.and_eq_true_iff.mp cx
  obtain ⟨ck_EMPTY, cx⟩ := Bool.and_eq_true_iff.mp cx
  obtain ⟨cpn, cx⟩ := Bool.and_eq_true_iff.mp cx
  have cy := cx
  obtain ⟨cB, cy⟩ := b2 cy
  obtain ⟨cA, cy⟩ := b2 cy
  obtain ⟨cI0, cy⟩ := b2 cy
  obtain ⟨cI3, cy⟩ := b2 cy
  obtain ⟨cI4, cy⟩ := b2 cy
  obtain ⟨cS1, cS2⟩ := b2 cy
  obtain ⟨fd0, D0⟩ := c.def_ 0 (d := dd "is_link" s_is_link) rfl
  have F0 := fun_ofD (st := s_is_link) D0
  obtain ⟨fd1, D1⟩ := c.def_ 1 (d := dd "is_cell" s_is_cell) rfl
  have F1 := fun_ofD (st := s_is_cell) D1
  obtain ⟨fd2, D2⟩ := c.def_ 2 (d := dd "need_file" s_need_file) rfl
  have F2 := fun_ofD (st := s_need_file) D2
  obtain ⟨fd3, D3⟩ := c.def_ 3 (d := dd "chain_of" s_chain_of) rfl
  have F3 := fun_ofD (st := s_chain_of) D3
  obtain ⟨fd4, D4⟩ := c.def_ 4 (d := dd "rows_of" s_rows_of) rfl
  have F4 := fun_ofD (st := s_rows_of) D4
  obtain ⟨fd5, D5⟩ := c.def_ 5 (d := dd "looked_over" s_looked_over) rfl
  have F5 := fun_ofD (st := s_looked_over) D5
  obtain ⟨fd6, D6⟩ := c.def_ 6 (d := dd "checked" s_checked) rfl
  have F6 := fun_ofD (st := s_checked) D6
  obtain ⟨fd7, D7⟩ := c.def_ 7 (d := dd "chained" s_chained) rfl
  have F7 := fun_ofD (st := s_chained) D7
  obtain ⟨fd8, D8⟩ := c.def_ 8 (d := dd "mended_of" s_mended_of) rfl
  have F8 := fun_ofD (st := s_mended_of) D8
  obtain ⟨fd9, D9⟩ := c.def_ 9 (d := dd "mended" s_mended) rfl
  have F9 := fun_ofD (st := s_mended) D9
  obtain ⟨fd10, D10⟩ := c.def_ 10 (d := dd "mends_of" s_mends_of) rfl
  have F10 := fun_ofD (st := s_mends_of) D10
  obtain ⟨fd11, D11⟩ := c.def_ 11 (d := dd "mends" s_mends) rfl
  have F11 := fun_ofD (st := s_mends) D11
  obtain ⟨fd12, D12⟩ := c.def_ 12 (d := dd "need_rule" s_need_rule) rfl
  have F12 := fun_ofD (st := s_need_rule) D12
  obtain ⟨fd13, D13⟩ := c.def_ 13 (d := dd "need_room" s_need_room) rfl
  have F13 := fun_ofD (st := s_need_room) D13
  obtain ⟨fd14, D14⟩ := c.def_ 14 (d := dd "in_order" s_in_order) rfl
  have F14 := fun_ofD (st := s_in_order) D14
  obtain ⟨fd15, D15⟩ := c.def_ 15 (d := dd "take_writes" s_take_writes) rfl
  have F15 := fun_ofD (st := s_take_writes) D15
  obtain ⟨fd16, D16⟩ := c.def_ 16 (d := dd "writes_of" s_writes_of) rfl
  have F16 := fun_ofD (st := s_writes_of) D16
  obtain ⟨fd17, D17⟩ := c.def_ 17 (d := dd "written_in" s_written_in) rfl
  have F17 := fun_ofD (st := s_written_in) D17
  obtain ⟨fd18, D18⟩ := c.def_ 18 (d := dd "stepped" s_stepped) rfl
  have F18 := fun_ofD (st := s_stepped) D18
  obtain ⟨fd19, D19⟩ := c.def_ 19 (d := dd "played" s_played) rfl
  have F19 := fun_ofD (st := s_played) D19
  obtain ⟨fd20, D20⟩ := c.def_ 20 (d := dd "writes" s_writes) rfl
  have F20 := fun_ofD (st := s_writes) D20
  obtain ⟨fd21, D21⟩ := c.def_ 21 (d := dd "need_small" s_need_small) rfl
  have F21 := fun_ofD (st := s_need_small) D21
  obtain ⟨fd22, D22⟩ := c.def_ 22 (d := dd "lost_by" s_lost_by) rfl
  have F22 := fun_ofD (st := s_lost_by) D22
  obtain ⟨fd23, D23⟩ := c.def_ 23 (d := dd "judged" s_judged) rfl
  have F23 := fun_ofD (st := s_judged) D23
  obtain ⟨fd24, D24⟩ := c.def_ 24 (d := dd "written" s_written) rfl
  have F24 := fun_ofD (st := s_written) D24
  obtain ⟨fd25, D25⟩ := c.def_ 25 (d := dd "_law_taken" s__law_taken) rfl
  have F25 := fun_ofD (st := s__law_taken) D25
  obtain ⟨fd26, D26⟩ := c.def_ 26 (d := dd "_law_rule" s__law_rule) rfl
  have F26 := fun_ofD (st := s__law_rule) D26
  obtain ⟨fd27, D27⟩ := c.def_ 27 (d := dd "_law_file" s__law_file) rfl
  have F27 := fun_ofD (st := s__law_file) D27
  obtain ⟨fd28, D28⟩ := c.def_ 28 (d := dd "_law_word" s__law_word) rfl
  have F28 := fun_ofD (st := s__law_word) D28
  obtain ⟨fd29, D29⟩ := c.def_ 29 (d := dd "_law_odd" s__law_odd) rfl
  have F29 := fun_ofD (st := s__law_odd) D29
  obtain ⟨fd30, D30⟩ := c.def_ 30 (d := dd "_law_bad" s__law_bad) rfl
  have F30 := fun_ofD (st := s__law_bad) D30
  obtain ⟨fd31, D31⟩ := c.def_ 31 (d := dd "_law_works" s__law_works) rfl
  have F31 := fun_ofD (st := s__law_works) D31
  obtain ⟨fd32, D32⟩ := c.def_ 32 (d := dd "law" s_law) rfl
  have F32 := fun_ofD (st := s_law) D32
  obtain ⟨fdI0, DI0⟩ := c.def_ 33 (d := di0) rfl
  have FI0 := fun_ofD (st := sI_0) DI0
  obtain ⟨oI0, nI0, iI0, tI0⟩ := iniB_ok cI0
  obtain ⟨fdI3, DI3⟩ := c.def_ 34 (d := di3) rfl
  have FI3 := fun_ofD (st := sI_3) DI3
  obtain ⟨oI3, nI3, iI3, tI3⟩ := iniB_ok cI3
  obtain ⟨fdI4, DI4⟩ := c.def_ 35 (d := di4) rfl
  have FI4 := fun_ofD (st := sI_4) DI4
  obtain ⟨oI4, nI4, iI4, tI4⟩ := iniB_ok cI4
  have e := hfa0.symm.trans (He.glo_ok X G (c.fact 32 (f := .glo "law") rfl))
  cases e
  have T : ∃ T : Txt K mg, T.f_law = He.ga K "law" ∧ T.fd_law = fd32 := ⟨{ f_is_link := _, fd_is_link := fd0, F_is_link := F0, b_is_link := F0.binds (ps := ["cells", "place"]) fun _ _ _ _ _ _ us hl => match us, hl with | [_, _], _ => rfl, g_is_link := He.glo_ok X G (c.fact 0 (f := .glo "is_link") rfl), f_is_cell := _, fd_is_cell := fd1, F_is_cell := F1, b_is_cell := F1.binds (ps := ["cells", "cell"]) fun _ _ _ _ _ _ us hl => match us, hl with | [_, _], _ => rfl, g_is_cell := He.glo_ok X G (c.fact 1 (f := .glo "is_cell") rfl), f_need_file := _, fd_need_file := fd2, F_need_file := F2, b_need_file := F2.binds (ps := ["file"]) fun _ _ _ _ _ _ us hl => match us, hl with | [_], _ => rfl, g_need_file := He.glo_ok X G (c.fact 2 (f := .glo "need_file") rfl), f_chain_of := _, fd_chain_of := fd3, F_chain_of := F3, b_chain_of := F3.binds (ps := ["file"]) fun _ _ _ _ _ _ us hl => match us, hl with | [_], _ => rfl, g_chain_of := He.glo_ok X G (c.fact 3 (f := .glo "chain_of") rfl), f_rows_of := _, fd_rows_of := fd4, F_rows_of := F4, b_rows_of := F4.binds (ps := ["file"]) fun _ _ _ _ _ _ us hl => match us, hl with | [_], _ => rfl, g_rows_of := He.glo_ok X G (c.fact 4 (f := .glo "rows_of") rfl), f_looked_over := _, fd_looked_over := fd5, F_looked_over := F5, b_looked_over := F5.binds (ps := ["file"]) fun _ _ _ _ _ _ us hl => match us, hl with | [_], _ => rfl, g_looked_over := He.glo_ok X G (c.fact 5 (f := .glo "looked_over") rfl), f_checked := _, fd_checked := fd6, F_checked := F6, b_checked := F6.binds (ps := ["file"]) fun _ _ _ _ _ _ us hl => match us, hl with | [_], _ => rfl, g_checked := He.glo_ok X G (c.fact 6 (f := .glo "checked") rfl), f_chained := _, fd_chained := fd7, F_chained := F7, b_chained := F7.binds (ps := ["cells", "places"]) fun _ _ _ _ _ _ us hl => match us, hl with | [_, _], _ => rfl, g_chained := He.glo_ok X G (c.fact 7 (f := .glo "chained") rfl), f_mended_of := _, fd_mended_of := fd8, F_mended_of := F8, b_mended_of := F8.binds (ps := ["file"]) fun _ _ _ _ _ _ us hl => match us, hl with | [_], _ => rfl, g_mended_of := He.glo_ok X G (c.fact 8 (f := .glo "mended_of") rfl), f_mended := _, fd_mended := fd9, F_mended := F9, b_mended := F9.binds (ps := ["file"]) fun _ _ _ _ _ _ us hl => match us, hl with | [_], _ => rfl, g_mended := He.glo_ok X G (c.fact 9 (f := .glo "mended") rfl), f_mends_of := _, fd_mends_of := fd10, F_mends_of := F10, b_mends_of := F10.binds (ps := ["file"]) fun _ _ _ _ _ _ us hl => match us, hl with | [_], _ => rfl, g_mends_of := He.glo_ok X G (c.fact 10 (f := .glo "mends_of") rfl), f_mends := _, fd_mends := fd11, F_mends := F11, b_mends := F11.binds (ps := ["file"]) fun _ _ _ _ _ _ us hl => match us, hl with | [_], _ => rfl, g_mends := He.glo_ok X G (c.fact 11 (f := .glo "mends") rfl), f_need_rule := _, fd_need_rule := fd12, F_need_rule := F12, b_need_rule := F12.binds (ps := ["rule"]) fun _ _ _ _ _ _ us hl => match us, hl with | [_], _ => rfl, g_need_rule := He.glo_ok X G (c.fact 12 (f := .glo "need_rule") rfl), f_need_room := _, fd_need_room := fd13, F_need_room := F13, b_need_room := F13.binds (ps := ["file", "room"]) fun _ _ _ _ _ _ us hl => match us, hl with | [_, _], _ => rfl, g_need_room := He.glo_ok X G (c.fact 13 (f := .glo "need_room") rfl), f_in_order := _, fd_in_order := fd14, F_in_order := F14, b_in_order := F14.binds (ps := ["first", "head", "slot"]) fun _ _ _ _ _ _ us hl => match us, hl with | [_, _, _], _ => rfl, g_in_order := He.glo_ok X G (c.fact 14 (f := .glo "in_order") rfl), f_take_writes := _, fd_take_writes := fd15, F_take_writes := F15, b_take_writes := F15.binds (ps := ["file", "rule", "room", "number"]) fun _ _ _ _ _ _ us hl => match us, hl with | [_, _, _, _], _ => rfl, g_take_writes := He.glo_ok X G (c.fact 15 (f := .glo "take_writes") rfl), f_writes_of := _, fd_writes_of := fd16, F_writes_of := F16, b_writes_of := F16.binds (ps := ["file", "rule", "room", "deed"]) fun _ _ _ _ _ _ us hl => match us, hl with | [_, _, _, _], _ => rfl, g_writes_of := He.glo_ok X G (c.fact 16 (f := .glo "writes_of") rfl), f_written_in := _, fd_written_in := fd17, F_written_in := F17, b_written_in := F17.binds (ps := ["file", "write"]) fun _ _ _ _ _ _ us hl => match us, hl with | [_, _], _ => rfl, g_written_in := He.glo_ok X G (c.fact 17 (f := .glo "written_in") rfl), f_stepped := _, fd_stepped := fd18, F_stepped := F18, b_stepped := F18.binds (ps := ["file", "rule", "room", "step"]) fun _ _ _ _ _ _ us hl => match us, hl with | [_, _, _, _], _ => rfl, g_stepped := He.glo_ok X G (c.fact 18 (f := .glo "stepped") rfl), f_played := _, fd_played := fd19, F_played := F19, b_played := F19.binds (ps := ["file", "rule", "room", "steps"]) fun _ _ _ _ _ _ us hl => match us, hl with | [_, _, _, _], _ => rfl, g_played := He.glo_ok X G (c.fact 19 (f := .glo "played") rfl), f_writes := _, fd_writes := fd20, F_writes := F20, b_writes := F20.binds (ps := ["file", "rule", "room", "deed"]) fun _ _ _ _ _ _ us hl => match us, hl with | [_, _, _, _], _ => rfl, g_writes := He.glo_ok X G (c.fact 20 (f := .glo "writes") rfl), f_need_small := _, fd_need_small := fd21, F_need_small := F21, b_need_small := F21.binds (ps := ["room"]) fun _ _ _ _ _ _ us hl => match us, hl with | [_], _ => rfl, g_need_small := He.glo_ok X G (c.fact 21 (f := .glo "need_small") rfl), f_lost_by := _, fd_lost_by := fd22, F_lost_by := F22, b_lost_by := F22.binds (ps := ["rule", "room"]) fun _ _ _ _ _ _ us hl => match us, hl with | [_, _], _ => rfl, g_lost_by := He.glo_ok X G (c.fact 22 (f := .glo "lost_by") rfl), f_judged := _, fd_judged := fd23, F_judged := F23, b_judged := F23.binds (ps := ["rule", "room"]) fun _ _ _ _ _ _ us hl => match us, hl with | [_, _], _ => rfl, g_judged := He.glo_ok X G (c.fact 23 (f := .glo "judged") rfl), f_written := _, fd_written := fd24, F_written := F24, b_written := F24.binds (ps := ["file"]) fun _ _ _ _ _ _ us hl => match us, hl with | [_], _ => rfl, g_written := He.glo_ok X G (c.fact 24 (f := .glo "written") rfl), f__law_taken := _, fd__law_taken := fd25, F__law_taken := F25, b__law_taken := F25.binds (ps := ["_law_row", "_law_many"]) fun _ _ _ _ _ _ us hl => match us, hl with | [_, _], _ => rfl, g__law_taken := He.glo_ok X G (c.fact 25 (f := .glo "_law_taken") rfl), f__law_rule := _, fd__law_rule := fd26, F__law_rule := F26, b__law_rule := F26.binds (ps := ["_law_row"]) fun _ _ _ _ _ _ us hl => match us, hl with | [_], _ => rfl, g__law_rule := He.glo_ok X G (c.fact 26 (f := .glo "_law_rule") rfl), f__law_file := _, fd__law_file := fd27, F__law_file := F27, b__law_file := F27.binds (ps := ["_law_row", "_law_most"]) fun _ _ _ _ _ _ us hl => match us, hl with | [_, _], _ => rfl, g__law_file := He.glo_ok X G (c.fact 27 (f := .glo "_law_file") rfl), f__law_word := _, fd__law_word := fd28, F__law_word := F28, b__law_word := F28.binds (ps := ["_law_work"]) fun _ _ _ _ _ _ us hl => match us, hl with | [_], _ => rfl, g__law_word := He.glo_ok X G (c.fact 28 (f := .glo "_law_word") rfl), f__law_odd := _, fd__law_odd := fd29, F__law_odd := F29, b__law_odd := F29.binds (ps := ["_law_row", "_law_file_here"]) fun _ _ _ _ _ _ us hl => match us, hl with | [_, _], _ => rfl, g__law_odd := He.glo_ok X G (c.fact 29 (f := .glo "_law_odd") rfl), f__law_bad := _, fd__law_bad := fd30, F__law_bad := F30, b__law_bad := F30.binds (ps := ["_law_file_here"]) fun _ _ _ _ _ _ us hl => match us, hl with | [_], _ => rfl, g__law_bad := He.glo_ok X G (c.fact 30 (f := .glo "_law_bad") rfl), f__law_works := _, fd__law_works := fd31, F__law_works := F31, b__law_works := F31.binds (ps := ["_law_file_here", "_law_rule_here", "_law_room"]) fun _ _ _ _ _ _ us hl => match us, hl with | [_, _, _], _ => rfl, g__law_works := He.glo_ok X G (c.fact 31 (f := .glo "_law_works") rfl), f_law := _, fd_law := fd32, F_law := F32, b_law := F32.binds (ps := ["_law_script"]) fun _ _ _ _ _ _ us hl => match us, hl with | [_], _ => rfl, g_law := He.glo_ok X G (c.fact 32 (f := .glo "law") rfl), m_len := He.free_ok X G (c.fact 33 (f := .free "len") rfl), m_range := He.free_ok X G (c.fact 34 (f := .free "range") rfl), m_list := He.free_ok X G (c.fact 35 (f := .free "list") rfl), m_tuple := He.free_ok X G (c.fact 36 (f := .free "tuple") rfl), m_max := He.free_ok X G (c.fact 37 (f := .free "max") rfl), m_int := He.free_ok X G (c.fact 38 (f := .free "int") rfl), m_isinstance := He.free_ok X G (c.fact 39 (f := .free "isinstance") rfl), m_ValueError := He.free_ok X G (c.fact 40 (f := .free "ValueError") rfl), m_min := He.free_ok X G (c.fact 41 (f := .free "min") rfl), m_str := He.free_ok X G (c.fact 42 (f := .free "str") rfl), c_MOST_SLOTS := He.int_ok X G (c.fact 43 (f := .int "MOST_SLOTS" 12) rfl), c_MOST_NUMBER := He.int_ok X G (c.fact 44 (f := .int "MOST_NUMBER" 999) rfl), c_ROW := He.str_ok X G (c.fact 45 (f := .str "ROW" (Str.ofString "row")) rfl), c_FREE := He.str_ok X G (c.fact 46 (f := .str "FREE" (Str.ofString "free")) rfl), a_FIRSTS := He.ga K "FIRSTS", c_FIRSTS := He.glo_ok X G (c.fact 47 (f := .glo "FIRSTS") rfl), i_FIRSTS := im_firstsB cf, c_MOST_ROOM := He.int_ok X G (c.fact 48 (f := .int "MOST_ROOM" 4) rfl), a_EMPTY := He.ga K "EMPTY", c_EMPTY := He.glo_ok X G (c.fact 49 (f := .glo "EMPTY") rfl), i_EMPTY := imB_ref ck_EMPTY, pn := of_decide_eq_true cpn, ef_works := rfl, C := exC K, S := exS K, eB := baseB_ok cB (He.glo_ok X G (c.fact 55 (f := .glo "SlotError") rfl)), eA := allB_ok cA, e_BadRule := simB_ok cS1 (He.glo_ok X G (c.fact 51 (f := .glo "BadRule") rfl)), e_BadRoom := simB_ok cS2 (He.glo_ok X G (c.fact 52 (f := .glo "BadRoom") rfl)), gI_0 := He.glo_ok X G (c.fact 50 (f := .glo "BadFile") rfl), oI_0 := oI0, nI_0 := nI0, fI_0 := _, fdI_0 := fdI0, FI_0 := FI0, bI_0 := FI0.binds (ps := ["self", "place"]) fun _ _ _ _ _ _ us hl => match us, hl with | [_, _], _ => rfl, cI_0 := iI0, tI_0 := tI0, gI_3 := He.glo_ok X G (c.fact 53 (f := .glo "BadStep") rfl), oI_3 := oI3, nI_3 := nI3, fI_3 := _, fdI_3 := fdI3, FI_3 := FI3, bI_3 := FI3.binds (ps := ["self", "number"]) fun _ _ _ _ _ _ us hl => match us, hl with | [_, _], _ => rfl, cI_3 := iI3, tI_3 := tI3, gI_4 := He.glo_ok X G (c.fact 54 (f := .glo "BadText") rfl), oI_4 := oI4, nI_4 := nI4, fI_4 := _, fdI_4 := fdI4, FI_4 := FI4, bI_4 := FI4.binds (ps := ["self", "at"]) fun _ _ _ _ _ _ us hl => match us, hl with | [_, _], _ => rfl, cI_4 := iI4, tI_4 := tI4 }, rfl, rfl⟩
  obtain ⟨T, e1, e2⟩ := T
  have b := FunD.bindsA (ps := ["_law_script"]) D32 fun _ _ _ _ _ _ us hl => match us, hl with | [_], _ => rfl
  have hh := fun base => ok_law (P := P) (w := w) (base := base) T e1
  rw [e1, e2] at hh
  exact ⟨fd32, fun s v => b s [v] rfl, fun base _ _ tb tbw => hh base tb tbw⟩
end SF
open PySem PySem.W PySem.Calls PyProof.Rows
set_option maxHeartbeats 0 in
theorem PySem.Challenge.cw_slotfile_k01_files_rules_rooms_refused_holds : PySem.Challenge.rw_slotfile_k01_files_rules_rooms_refused.Holds := by
  w_on; o_law
  refine HandSHeadRun.head_any (r := OpenLaw.row PySem.Challenge.rw_slotfile_k01_files_rules_rooms_refused) (q := view (OpenLaw.row PySem.Challenge.rw_slotfile_k01_files_rules_rooms_refused).prog [54]) (H := SF.hk) (ob := SF.ob) (M := 4000) (loose := [Str.ofString "SlotError", Str.ofString "BadFile", Str.ofString "BadRule", Str.ofString "BadRoom", Str.ofString "BadStep", Str.ofString "BadText", Str.ofString "MOST_SLOTS", Str.ofString "MOST_NUMBER", Str.ofString "ROW", Str.ofString "FREE", Str.ofString "is_link", Str.ofString "is_cell", Str.ofString "need_file", Str.ofString "chain_of", Str.ofString "rows_of", Str.ofString "looked_over", Str.ofString "checked", Str.ofString "chained", Str.ofString "mended_of", Str.ofString "mended", Str.ofString "mends_of", Str.ofString "mends", Str.ofString "FIRSTS", Str.ofString "need_rule", Str.ofString "need_room", Str.ofString "in_order", Str.ofString "take_writes", Str.ofString "writes_of", Str.ofString "written_in", Str.ofString "stepped", Str.ofString "played", Str.ofString "writes", Str.ofString "EMPTY", Str.ofString "MOST_ROOM", Str.ofString "TAKE", Str.ofString "need_small", Str.ofString "steps_on", Str.ofString "is_over", Str.ofString "lost_by", Str.ofString "judged", Str.ofString "written", Str.ofString "_law_taken", Str.ofString "_law_rule", Str.ofString "_law_file", Str.ofString "_law_word", Str.ofString "_law_odd", Str.ofString "_law_bad", Str.ofString "_law_works"]) (d := HandSHeadRun.topDef (OpenLaw.row PySem.Challenge.rw_slotfile_k01_files_rules_rooms_refused).prog 54) (kwd := []) SF.ob_eq
    (by kernel_rfl) (fun s => by kernel_rfl) SF.run (by kernel_rfl) (by kernel_rfl) (by kernel_rfl) (by rfl) (by first | assumption | decide +kernel) (by decide +kernel) ⟨rfl, rfl, rfl, rfl, rfl, by decide +kernel⟩ ?hw ?hc
  case hw => w_witness2
  case hc =>
    refine LamX.walk_ofTsE (l := PySem.Challenge.rw_slotfile_k01_files_rules_rooms_refused) (n := 63) (k := 14) (x := "_law_script") (CX := fun _ => L2.CX0) rfl (by decide) (by kernel_rfl) ⟨rfl, by decide, by decide⟩ ?F (fun _ _ _ _ _ z => z)
    intro w mg fa h Y G hmg0
    obtain ⟨K, KX, Y⟩ := Y
    have c := Y.t
    have cx := Y.more
    have hmg : mg ("law" : PySem.Str) = some (.ref fa) := by
      have e : (HandSHeadRun.topDef (OpenLaw.row PySem.Challenge.rw_slotfile_k01_files_rules_rooms_refused).prog 54).name = ("law" : PySem.Str) := by kernel_rfl
      rw [← e]
      exact hmg0
    obtain ⟨fd, hb, hF⟩ := SF.facts (P := (PySem.Challenge.rw_slotfile_k01_files_rules_rooms_refused).prog) (w := w) KX G hmg c cx
    have two : ∀ {C : Addr × Addr → Prop}, C (SF.lawP K) → C (SF.wkP K (PySem.Str.ofString "_law_works")) → ∀ p ∈ [SF.lawP K, SF.wkP K (PySem.Str.ofString "_law_works")], C p := fun {C} h1 h2 p hp => by
      rcases List.mem_cons.mp hp with z | z
      · rw [z]; exact h1
      · rw [List.mem_singleton.mp z]; exact h2
    refine ⟨K, KX, fd, [SF.lawP K, SF.wkP K (PySem.Str.ofString "_law_works")], SF.spLT K, two (Y.empty _ List.mem_cons_self) (Y.empty _ (List.mem_cons_of_mem _ List.mem_cons_self)), two (Y.out _ List.mem_cons_self) (Y.out _ (List.mem_cons_of_mem _ List.mem_cons_self)), two (codeHd_of_K KX (Y.hd _ List.mem_cons_self)) (codeHd_of_K KX (Y.hd _ (List.mem_cons_of_mem _ List.mem_cons_self))), hb,
      fun H a ns _ _ hT hS => ⟨a, ns, rfl, fun p hp => ?_, hS, fun _ => rfl⟩, fun base k1 k2 tb => hF base k1 k2 (tb _ List.mem_cons_self) (tb _ (List.mem_cons_of_mem _ List.mem_cons_self))⟩
    have hp : p ∈ [((SF.lawP K).2, SF.qLaw), ((SF.wkP K (PySem.Str.ofString "_law_works")).2, SF.qWk)] := hp
    rcases List.mem_cons.mp hp with z | z
    · rw [z]; exact hT _ List.mem_cons_self
    · rw [List.mem_singleton.mp z]; exact hT _ (List.mem_cons_of_mem _ List.mem_cons_self)
