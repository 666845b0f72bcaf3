import PyProof.Rows.All
import Wide.All
import OpenK.AllK
import Wide.FinOn
import HandS.ForMost
import HandS.TupSets
import HandS.Deep
import HandS.DictComp
import HandS.OwnEq
import HandS.IsInst
import HandS.FStr
import HandS.Star
import HandS.TupLe
import HandS.Conv
import HandS.More
import HandS.Walk
import HandS.Codes
import KE.KEqNest
import PySem.Challenge.RW_towerup_k42_whole_kind_texts
set_option Elab.async false
set_option linter.all false
set_option maxRecDepth 100000
set_option maxHeartbeats 4000000
/-! ## Tw0: heaps, data in the heap, own rules -/
namespace Tw
open PySem L2

/-! ### heaps -/
/-- all that was tracked but b is as it was -/
def But (b : Addr) (H H' : Hp) : Prop := ∀ a o, a ≠ b → H a = some o → H' a = some o
theorem But.refl (b : Addr) (H : Hp) : But b H H := fun _ _ _ h => h
theorem But.trans {b : Addr} {H H1 H2 : Hp} (p : But b H H1) (q : But b H1 H2) : But b H H2 := fun a o n h => q a o n (p a o n h)
theorem But.of_same {b : Addr} {H H' : Hp} (p : Same H H') : But b H H' := fun a o _ h => p a o h
theorem But.at_ {b : Addr} {H : Hp} {o : HO} : But b H (upd H b o) := fun a u n h => by rw [upd_ne n]; exact h
theorem same_new {H : Hp} {p : Addr} {o : HO} (h : H p = none) : Same H (upd H p o) := fun a u e => by
  rw [upd_ne (ne_of_none e h)]; exact e
/-- what is new behind is not what was there -/
theorem But.ne {b p : Addr} {H H' : Hp} {o : HO} (k : But b H H') (hb : ∃ u, H' b = some u) (hp : H' p = none) : H p = none := by
  obtain ⟨u, hb⟩ := hb
  have n : p ≠ b := fun e => by rw [e, hb] at hp; cases hp
  cases q : H p with
  | none => rfl
  | some o => rw [k p o n q] at hp; cases hp

/-! ### lists or tuples -/
/-- a list (true) or a tuple (false) of xs at a -/
def Sqk (K : PySem.W.Frag) (k : Bool) (H : Hp) (a : Addr) (xs : List V) : Prop := match k with
  | true => SqL K H a xs
  | false => SqT K H a xs
theorem Sqk.either {K : PySem.W.Frag} {k : Bool} {H : Hp} {a : Addr} {xs : List V} (h : Sqk K k H a xs) : SqL K H a xs ∨ SqT K H a xs := by
  cases k
  · exact .inr h
  · exact .inl h
theorem SqT.same {K : PySem.W.Frag} {H H' : Hp} {a : Addr} {xs : List V} (s : Same H H') (h : SqT K H a xs) : SqT K H' a xs :=
  h.elim (fun h => .inl (h.elim (fun h => .inl (s _ _ h)) fun ⟨o, h⟩ => .inr ⟨o, s _ _ h⟩)) fun h => .inr h
theorem Sqk.same {K : PySem.W.Frag} {k : Bool} {H H' : Hp} {a : Addr} {xs : List V} (s : Same H H') (h : Sqk K k H a xs) : Sqk K k H' a xs := by
  cases k
  · exact SqT.same s h
  · exact s.seq h
/-- a tuple stays where something else is changed -/
theorem SqT.but {K : PySem.W.Frag} {H H' : Hp} {a b : Addr} {xs : List V} {o : HO} (s : But b H H') (hb : H b = some o) (m : Mut (some o)) (h : SqT K H a xs) : SqT K H' a xs := by
  rcases h with (h | ⟨u, h⟩) | h
  · refine .inl (.inl (s a _ (fun e => ?_) h))
    rw [e, hb] at h; cases h; exact m
  · refine .inl (.inr ⟨u, s a _ (fun e => ?_) h⟩)
    rw [e, hb] at h; cases h; exact m
  · exact .inr h
/-- no list, no tuple, and it may be changed -/
def NoSeq : HO → Prop
  | .ins _ _ _ => True
  | .dK _ => True
  | _ => False
theorem NoSeq.mut {o : HO} (h : NoSeq o) : Mut (some o) := by cases o <;> first | trivial | exact h.elim
theorem NoSeq.nl {o : HO} (h : NoSeq o) : ∀ xs, o ≠ .lst xs := by
  intro xs e; rw [e] at h; exact h
theorem SqL.but {K : PySem.W.Frag} {H H' : Hp} {a b : Addr} {xs : List V} {o : HO} (s : But b H H') (hb : H b = some o) (n : NoSeq o) (h : SqL K H a xs) : SqL K H' a xs := by
  rcases h with (h | ⟨u, h⟩) | h
  · refine .inl (.inl (s a _ (fun e => ?_) h))
    rw [e, hb] at h; exact n.nl _ (Option.some.inj h)
  · refine .inl (.inr ⟨u, s a _ (fun e => ?_) h⟩)
    rw [e, hb] at h
    have := Option.some.inj h
    rw [this] at n; exact n
  · exact .inr h
theorem Sqk.but {K : PySem.W.Frag} {k : Bool} {H H' : Hp} {a b : Addr} {xs : List V} {o : HO} (s : But b H H') (hb : H b = some o) (n : NoSeq o) (h : Sqk K k H a xs) : Sqk K k H' a xs := by
  cases k
  · exact SqT.but s hb n.mut h
  · exact SqL.but s hb n h

/-! ### data in the heap -/
mutual
theorem Dp.same {K : PySem.W.Frag} {H H' : Hp} (s : Same H H') : ∀ (d : PyData) (v : V), Dp K H v d → Dp K H' v d
  | .none, _, h => by cases h; exact .non
  | .bool b, _, h => by cases h; exact .bl b
  | .int i, _, h => by cases h; exact .int i
  | .str x, _, h => by cases h; exact .str x
  | .list ds, _, h => by
    cases h with
    | lst q a => exact .lst (s.seq q) (DpAll.same s ds _ a)
  | .tuple ds, _, h => by
    cases h with
    | tup q a => exact .tup (SqT.same s q) (DpAll.same s ds _ a)
  | .dict _, _, h => by cases h
theorem DpAll.same {K : PySem.W.Frag} {H H' : Hp} (s : Same H H') : ∀ (ds : List PyData) (vs : List V), DpAll K H vs ds → DpAll K H' vs ds
  | [], _, h => by cases h; exact .nil
  | d :: ds, _, h => by
    cases h with
    | cons h1 h2 => exact .cons (Dp.same s d _ h1) (DpAll.same s ds _ h2)
end
mutual
/-- no list is in it -/
def noList : PyData → Bool
  | .list _ => false
  | .tuple ds => noListAll ds
  | _ => true
def noListAll : List PyData → Bool
  | [] => true
  | d :: ds => noList d && noListAll ds
end
mutual
/-- data without lists stay where something else is changed -/
theorem Dp.but {K : PySem.W.Frag} {H H' : Hp} {b : Addr} {o : HO} (s : But b H H') (hb : H b = some o) (m : Mut (some o)) : ∀ (d : PyData) (v : V), noList d = true → Dp K H v d → Dp K H' v d
  | .none, _, _, h => by cases h; exact .non
  | .bool b, _, _, h => by cases h; exact .bl b
  | .int i, _, _, h => by cases h; exact .int i
  | .str x, _, _, h => by cases h; exact .str x
  | .list ds, _, n, h => by simp [noList] at n
  | .tuple ds, _, n, h => by
    cases h with
    | tup q a => exact .tup (SqT.but s hb m q) (DpAll.but s hb m ds _ (by simpa [noList] using n) a)
  | .dict _, _, _, h => by cases h
theorem DpAll.but {K : PySem.W.Frag} {H H' : Hp} {b : Addr} {o : HO} (s : But b H H') (hb : H b = some o) (m : Mut (some o)) : ∀ (ds : List PyData) (vs : List V), noListAll ds = true → DpAll K H vs ds → DpAll K H' vs ds
  | [], _, _, h => by cases h; exact .nil
  | d :: ds, _, n, h => by
    have n' : noList d = true ∧ noListAll ds = true := by simpa [noListAll] using n
    cases h with
    | cons h1 h2 => exact .cons (Dp.but s hb m d _ n'.1 h1) (DpAll.but s hb m ds _ n'.2 h2)
end
mutual
/-- data stay where an instance or a dict is changed -/
theorem Dp.butI {K : PySem.W.Frag} {H H' : Hp} {b : Addr} {o : HO} (s : But b H H') (hb : H b = some o) (n : NoSeq o) : ∀ (d : PyData) (v : V), Dp K H v d → Dp K H' v d
  | .none, _, h => by cases h; exact .non
  | .bool b, _, h => by cases h; exact .bl b
  | .int i, _, h => by cases h; exact .int i
  | .str x, _, h => by cases h; exact .str x
  | .list ds, _, h => by
    cases h with
    | lst q a => exact .lst (SqL.but s hb n q) (DpAll.butI s hb n ds _ a)
  | .tuple ds, _, h => by
    cases h with
    | tup q a => exact .tup (SqT.but s hb n.mut q) (DpAll.butI s hb n ds _ a)
  | .dict _, _, h => by cases h
theorem DpAll.butI {K : PySem.W.Frag} {H H' : Hp} {b : Addr} {o : HO} (s : But b H H') (hb : H b = some o) (n : NoSeq o) : ∀ (ds : List PyData) (vs : List V), DpAll K H vs ds → DpAll K H' vs ds
  | [], _, h => by cases h; exact .nil
  | d :: ds, _, h => by
    cases h with
    | cons h1 h2 => exact .cons (Dp.butI s hb n d _ h1) (DpAll.butI s hb n ds _ h2)
end
theorem DpAll.length {K : PySem.W.Frag} {H : Hp} : ∀ {vs : List V} {ds : List PyData}, DpAll K H vs ds → vs.length = ds.length
  | _, _, .nil => rfl
  | _, _, .cons _ t => by rw [List.length_cons, List.length_cons, DpAll.length t]
theorem DpAll.get {K : PySem.W.Frag} {H : Hp} : ∀ {vs : List V} {ds : List PyData} {i : Nat} {v : V}, DpAll K H vs ds → vs[i]? = some v → ∃ d, ds[i]? = some d ∧ Dp K H v d
  | _, _, _, _, .nil, e => by simp at e
  | _, _, 0, _, .cons r _, e => by simp at e; subst e; exact ⟨_, rfl, r⟩
  | _, _, i + 1, v, .cons _ t, e => by
    obtain ⟨d, h1, h2⟩ := DpAll.get (i := i) (v := v) t (by simpa using e)
    exact ⟨d, by simpa using h1, h2⟩
theorem DpAll.getD {K : PySem.W.Frag} {H : Hp} : ∀ {vs : List V} {ds : List PyData} {i : Nat} {d : PyData}, DpAll K H vs ds → ds[i]? = some d → ∃ v, vs[i]? = some v ∧ Dp K H v d
  | _, _, _, _, .nil, e => by simp at e
  | _, _, 0, _, .cons r _, e => by simp at e; subst e; exact ⟨_, rfl, r⟩
  | _, _, i + 1, d, .cons _ t, e => by
    obtain ⟨v, h1, h2⟩ := DpAll.getD (i := i) (d := d) t (by simpa using e)
    exact ⟨v, by simpa using h1, h2⟩
theorem DpAll.take {K : PySem.W.Frag} {H : Hp} : ∀ {vs : List V} {ds : List PyData} (i : Nat), DpAll K H vs ds → DpAll K H (vs.take i) (ds.take i)
  | _, _, 0, _ => .nil
  | _, _, _ + 1, .nil => .nil
  | _, _, i + 1, .cons r t => .cons r (DpAll.take i t)
theorem DpAll.perm {K : PySem.W.Frag} {H : Hp} {xs ys : List V} (p : ys.Perm xs) : ∀ {ds : List PyData}, DpAll K H xs ds → ∃ es, es.Perm ds ∧ DpAll K H ys es := by
  induction p with
  | nil => intro ds h; exact ⟨ds, .refl _, h⟩
  | cons x _ ih =>
    intro ds h
    cases h with
    | cons h1 h2 =>
      obtain ⟨es, p, e⟩ := ih h2
      exact ⟨_ :: es, p.cons _, .cons h1 e⟩
  | swap x y l =>
    intro ds h
    cases h with
    | cons h1 h2 =>
      cases h2 with
      | cons h2 h3 => exact ⟨_ :: _ :: _, List.Perm.swap .., .cons h2 (.cons h1 h3)⟩
  | trans _ _ ih1 ih2 =>
    intro ds h
    obtain ⟨es, p, e⟩ := ih2 h
    obtain ⟨fs, q, f⟩ := ih1 e
    exact ⟨fs, q.trans p, f⟩
theorem same_at {H H' : Hp} {l : Addr} {o : HO} (s : Same H H') (h : H l = none) : Same H (upd H' l o) := fun b u e => by
  rw [upd_ne (ne_of_none e h)]; exact s b u e
theorem DpAll.snoc {K : PySem.W.Frag} {H : Hp} {v : V} {d : PyData} (h : Dp K H v d) : ∀ {vs : List V} {ds : List PyData}, DpAll K H vs ds → DpAll K H (vs ++ [v]) (ds ++ [d])
  | _, _, .nil => .cons h .nil
  | _, _, .cons r t => .cons r (DpAll.snoc h t)
theorem DpAll.ints {K : PySem.W.Frag} {H : Hp} : ∀ (ns : List Int), DpAll K H (ns.map V.int) (ns.map PyData.int)
  | [] => .nil
  | n :: ns => .cons (.int n) (DpAll.ints ns)
theorem DpAll.strs {K : PySem.W.Frag} {H : Hp} : ∀ (ns : List Str), DpAll K H (ns.map V.str) (ns.map PyData.str)
  | [] => .nil
  | n :: ns => .cons (.str n) (DpAll.strs ns)
/-- list (true) or tuple (false) -/
def sq (k : Bool) (ds : List PyData) : PyData := match k with
  | true => .list ds
  | false => .tuple ds
theorem Dp.of_sq {K : PySem.W.Frag} {H : Hp} {k : Bool} {a : Addr} {xs : List V} {ds : List PyData} (h : Sqk K k H a xs) (d : DpAll K H xs ds) : Dp K H (.ref a) (sq k ds) := by
  cases k
  · exact .tup h d
  · exact .lst h d
theorem Dp.sq_inv {K : PySem.W.Frag} {H : Hp} {k : Bool} {v : V} {ds : List PyData} (h : Dp K H v (sq k ds)) : ∃ a xs, v = .ref a ∧ Sqk K k H a xs ∧ DpAll K H xs ds := by
  cases k
  · cases h with
    | tup q a => exact ⟨_, _, rfl, q, a⟩
  · cases h with
    | lst q a => exact ⟨_, _, rfl, q, a⟩

/-! ### kinds as plain data -/
abbrev An := Int × Int
abbrev Cell := List An
abbrev Row := List Cell
structure Meth where
  args : Int
  res : Int
  rows : List Row
  deriving DecidableEq
def anD (a : An) : PyData := .tuple [.int a.1, .int a.2]
def cellD (k : Bool) (c : Cell) : PyData := sq k (c.map anD)
def rowD (k : Bool) (r : Row) : PyData := sq k (r.map (cellD k))
def rowsD (k : Bool) (rs : List Row) : PyData := sq k (rs.map (rowD k))
def methD (k : Bool) (m : Meth) : PyData := .tuple [.int m.args, .int m.res, rowsD k m.rows]
theorem noListAll_map {α : Type} {f : α → PyData} (h : ∀ x, noList (f x) = true) : ∀ l : List α, noListAll (l.map f) = true
  | [] => rfl
  | x :: l => by
    show (noList (f x) && noListAll (l.map f)) = true
    rw [h x, noListAll_map h l]; rfl
theorem noList_an (a : An) : noList (anD a) = true := rfl
theorem noList_cell (c : Cell) : noList (cellD false c) = true := noListAll_map noList_an c
theorem noList_row (r : Row) : noList (rowD false r) = true := noListAll_map noList_cell r
theorem noList_rows (rs : List Row) : noList (rowsD false rs) = true := noListAll_map noList_row rs
theorem noList_meth (m : Meth) : noList (methD false m) = true := by
  show (true && (true && (noList (rowsD false m.rows) && true))) = true
  rw [noList_rows]; rfl
theorem an_inv {K : PySem.W.Frag} {H : Hp} {v : V} {a : An} (h : Dp K H v (anD a)) : ∃ t, v = .ref t ∧ SqT K H t [.int a.1, .int a.2] := by
  cases h with
  | tup q d =>
    cases d with
    | cons d1 d =>
      cases d with
      | cons d2 d =>
        cases d; cases d1; cases d2
        exact ⟨_, rfl, q⟩
theorem an_mk {K : PySem.W.Frag} {H : Hp} {t : Addr} {a : An} (h : SqT K H t [.int a.1, .int a.2]) : Dp K H (.ref t) (anD a) := .tup h (.cons (.int _) (.cons (.int _) .nil))
theorem meth_inv {K : PySem.W.Frag} {H : Hp} {k : Bool} {v : V} {m : Meth} (h : Dp K H v (methD k m)) : ∃ t r, v = .ref t ∧ SqT K H t [.int m.args, .int m.res, r] ∧ Dp K H r (rowsD k m.rows) := by
  cases h with
  | tup q d =>
    cases d with
    | cons d1 d =>
      cases d with
      | cons d2 d =>
        cases d with
        | cons d3 d =>
          cases d; cases d1; cases d2
          exact ⟨_, _, rfl, q, d3⟩
theorem meth_mk {K : PySem.W.Frag} {H : Hp} {k : Bool} {t : Addr} {r : V} {m : Meth} (h : SqT K H t [.int m.args, .int m.res, r]) (d : Dp K H r (rowsD k m.rows)) : Dp K H (.ref t) (methD k m) := .tup h (.cons (.int _) (.cons (.int _) (.cons d .nil)))

/-! ### equality of these data -/
theorem eqvAll_map {α : Type} [DecidableEq α] {f : α → PyData} (h : ∀ x y, PyData.eqv (f x) (f y) = decide (x = y)) : ∀ l m : List α, PyData.eqvAll (l.map f) (m.map f) = decide (l = m)
  | [], [] => by simp [PyData.eqvAll]
  | [], _ :: _ => by simp [PyData.eqvAll]
  | _ :: _, [] => by simp [PyData.eqvAll]
  | x :: l, y :: m => by
    show (PyData.eqv (f x) (f y) && PyData.eqvAll (l.map f) (m.map f)) = _
    rw [h x y, eqvAll_map h l m]
    by_cases e1 : x = y <;> by_cases e2 : l = m <;> simp [e1, e2]
theorem eqv_an (a b : An) : PyData.eqv (anD a) (anD b) = decide (a = b) := by
  obtain ⟨a1, a2⟩ := a
  obtain ⟨b1, b2⟩ := b
  show ((a1 == b1) && ((a2 == b2) && true)) = _
  by_cases e1 : a1 = b1 <;> by_cases e2 : a2 = b2 <;> simp [e1, e2]
theorem eqv_cell (a b : Cell) : PyData.eqv (cellD false a) (cellD false b) = decide (a = b) := eqvAll_map eqv_an a b
theorem eqv_row (a b : Row) : PyData.eqv (rowD false a) (rowD false b) = decide (a = b) := eqvAll_map eqv_cell a b
theorem eqv_rows (a b : List Row) : PyData.eqv (rowsD false a) (rowsD false b) = decide (a = b) := eqvAll_map eqv_row a b
theorem eqv_meth (a b : Meth) : PyData.eqv (methD false a) (methD false b) = decide (a = b) := by
  obtain ⟨a1, a2, a3⟩ := a
  obtain ⟨b1, b2, b3⟩ := b
  show ((a1 == b1) && ((a2 == b2) && (PyData.eqv (rowsD false a3) (rowsD false b3) && true))) = _
  rw [eqv_rows]
  by_cases e1 : a1 = b1 <;> by_cases e2 : a2 = b2 <;> by_cases e3 : a3 = b3 <;> simp [e1, e2, e3]

end Tw
/-! ## Tw1: rules of one's own -/
namespace Tw
open PySem L2

/-! ### walks over a list or a tuple that a name holds -/
def iSq (K : PySem.W.Frag) (k : Bool) (tl : TE) : TI := match k with
  | true => iList K tl
  | false => iTup K tl
theorem pi_sq {X : Cx} {tg l : Expr} {tl : TE} (k : Bool) (hl : PE X l tl) : PI X tg l (iSq X.K k tl) := by
  cases k
  · exact pi_tup hl
  · exact pi_list hl
/-- the same rules with the written part told (within a comprehension's block) -/
theorem pi_sqK {X : Cx} {tg l : Expr} {tl : TE} (K : PySem.W.Frag) (k : Bool) (hl : PE X l tl) (h : X.K = K := by rfl) : PI X tg l (iSq K k tl) := by
  subst h
  exact pi_sq k hl
def rTupOf (K : PySem.W.Frag) : List V → Hp → VK → Prop := fun xs H Q => ∃ p ys, xs = [V.ref p] ∧ ((SqL K H p ys ∧ ∀ l, H l = none → Q (.ref l) (upd H l (.tup ys))) ∨ (SqT K H p ys ∧ Q (.ref p) H))
theorem call_tuple_K {X : Cx} (K : PySem.W.Frag) (h : X.K = K := by rfl) : CallR X (.type "tuple") (rTupOf K) := by
  subst h
  exact call_tuple_of
theorem cr_sortT_K {X : Cx} (K : PySem.W.Frag) (h : X.K = K := by rfl) : CallR X (.builtin "sorted") (rSortU K 2 64) := by
  subst h
  exact cr_sortT (d := 2) (B := 64) (by decide)
/-- for over a list or a tuple -/
theorem for_sq {K : PySem.W.Frag} {k : Bool} {j : Nat} {g : TG} {tb : TS} {D : Ends} {σ : St} {H : Hp} {a : Addr} {xs : List V} (hj : σ[j]? = some (some (.ref a))) (Pv : Nat → St → Hp → Prop) (h0 : Pv 0 σ H)
    (hl : ∀ i σ H, i ≤ xs.length → Pv i σ H → Sqk K k H a xs) (hs : ∀ i x σ H, xs[i]? = some x → Pv i σ H → g x σ H fun σ2 H2 => tb { D with nx := Pv (i + 1), ct := Pv (i + 1), bk := D.nx } σ2 H2)
    (hd : ∀ σ H, Pv xs.length σ H → D.nx σ H) : tFor (iSq K k (tVar j)) g tb D σ H := by
  have q := hl 0 σ H (Nat.zero_le _) h0
  cases k
  · exact ⟨_, hj, a, rfl, ⟨_, q⟩, for_tup (K := K) (a := a) (xs := xs) Pv h0 hl hs hd⟩
  · exact ⟨_, hj, a, rfl, ⟨_, q⟩, for_list (K := K) (a := a) (xs := xs) Pv h0 hl hs hd⟩
/-- a comprehension over a list or a tuple -/
theorem lc_sq {K : PySem.W.Frag} {k : Bool} {j : Nat} {g : TG} {tt : TT} {te : TE} {vs : List Nat} {σ : St} {H1 : Hp} {a : Addr} {xs : List V} {Q : VK} (hj : σ[j]? = some (some (.ref a))) (hq : Sqk K k H1 a xs)
    (h : ∀ D, H1 D = none → ∃ Pv : Nat → Hp → Prop, Pv 0 (upd H1 D (.lst [])) ∧ (∀ i H, i ≤ xs.length → Pv i H → Sqk K k H a xs) ∧
      (∀ i x H, xs[i]? = some x → Pv i H → g x (wipe σ vs) H fun σ2 H2 => wipe σ2 vs = wipe σ vs ∧ tt σ2 H2 fun b H3 =>
        if b = true then te σ2 H3 fun y H4 => ∃ acc, H4 D = some (.lst acc) ∧ acc.length < sizeLine ∧ Pv (i + 1) (upd H4 D (.lst (acc ++ [y]))) else Pv (i + 1) H3) ∧ (∀ H, Pv xs.length H → Q (.ref D) H)) :
    tLc (iSq K k (tVar j)) g tt te vs σ H1 Q := by
  cases k
  · refine ⟨_, hj, a, rfl, ⟨_, hq⟩, fun D hD => ?_⟩
    obtain ⟨Pv, h0, hl, hs, hd⟩ := h D hD
    exact lc_tup (K := K) (a := a) (xs := xs) Pv h0 hl hs hd
  · refine ⟨_, hj, a, rfl, ⟨_, hq⟩, fun D hD => ?_⟩
    obtain ⟨Pv, h0, hl, hs, hd⟩ := h D hD
    exact lc_list (K := K) (a := a) (xs := xs) Pv h0 hl hs hd

/-! ### how deep our data are -/
theorem depthAll_le {α : Type} {f : α → PyData} {n : Nat} (h : ∀ x, PyData.depth (f x) ≤ n) : ∀ l : List α, PyData.depthAll (l.map f) ≤ n
  | [] => by simp [PyData.depthAll]
  | x :: l => by
    have h1 := h x
    have h2 := depthAll_le h l
    simp only [List.map_cons, PyData.depthAll]
    omega
theorem layAll {α : Type} {f : α → PyData} (h : ∀ x, PyData.canLay0 (f x) = true) : ∀ l : List α, PyData.canLayAll0 (l.map f) = true
  | [] => by simp [PyData.canLayAll0]
  | x :: l => by
    simp only [List.map_cons, PyData.canLayAll0]
    rw [h x, layAll h l]; rfl
theorem depth_sq {k : Bool} {ds : List PyData} : PyData.depth (sq k ds) = PyData.depthAll ds + 1 := by cases k <;> simp [sq, PyData.depth]
theorem lay_sq {k : Bool} {ds : List PyData} : PyData.canLay0 (sq k ds) = PyData.canLayAll0 ds := by cases k <;> simp [sq, PyData.canLay0]
theorem depth_an (a : An) : PyData.depth (anD a) ≤ 1 := by simp [anD, PyData.depth, PyData.depthAll]
theorem depth_cell {k : Bool} (c : Cell) : PyData.depth (cellD k c) ≤ 2 := by
  have := depthAll_le depth_an c
  unfold cellD; rw [depth_sq]; omega
theorem depth_row {k : Bool} (c : Row) : PyData.depth (rowD k c) ≤ 3 := by
  have := depthAll_le (depth_cell (k := k)) c
  unfold rowD; rw [depth_sq]; omega
theorem depth_rows {k : Bool} (c : List Row) : PyData.depth (rowsD k c) ≤ 4 := by
  have := depthAll_le (depth_row (k := k)) c
  unfold rowsD; rw [depth_sq]; omega
theorem depth_meth {k : Bool} (m : Meth) : PyData.depth (methD k m) ≤ 5 := by
  have := depth_rows (k := k) m.rows
  simp only [methD, PyData.depth, PyData.depthAll]
  omega
theorem lay_an (a : An) : PyData.canLay0 (anD a) = true := by simp [anD, PyData.canLay0, PyData.canLayAll0]
theorem lay_cell {k : Bool} (c : Cell) : PyData.canLay0 (cellD k c) = true := by unfold cellD; rw [lay_sq]; exact layAll lay_an c
theorem lay_row {k : Bool} (c : Row) : PyData.canLay0 (rowD k c) = true := by unfold rowD; rw [lay_sq]; exact layAll lay_cell c
theorem lay_rows {k : Bool} (c : List Row) : PyData.canLay0 (rowsD k c) = true := by unfold rowsD; rw [lay_sq]; exact layAll lay_row c
theorem lay_meth {k : Bool} (m : Meth) : PyData.canLay0 (methD k m) = true := by
  have := lay_rows (k := k) m.rows
  simp only [methD, PyData.canLay0, PyData.canLayAll0, this]; rfl
theorem shaped_of {d : PyData} (h : PyData.canLay0 d = true) {n : Nat} (hn : PyData.depth d ≤ n) (h64 : n ≤ 64) : SeqAt.shaped d = true := by
  show (d.canLay0 && decide (d.depth ≤ 64)) = true
  rw [Bool.and_eq_true]
  exact ⟨h, decide_eq_true (Nat.le_trans hn h64)⟩
theorem shaped_an (a : An) : SeqAt.shaped (anD a) = true := shaped_of (lay_an a) (depth_an a) (by decide)
theorem shaped_ans (l : List An) : SeqAt.shaped (.list (l.map anD)) = true := shaped_of (d := cellD true l) (lay_cell l) (depth_cell l) (by decide)
theorem shaped_meth {k : Bool} (m : Meth) : SeqAt.shaped (methD k m) = true := shaped_of (lay_meth m) (depth_meth m) (by decide)

/-! ### dicts of methods -/
/-- the pairs of a dict are such methods -/
def MsAt (K : PySem.W.Frag) (H : Hp) (k : Bool) (kvs : List (Key × V)) (ms : List (Str × Meth)) : Prop := Paired (fun (p : Key × V) (q : Str × Meth) => p.1 = Sum.inr q.1 ∧ Dp K H p.2 (methD k q.2)) kvs ms
def DictAt (K : PySem.W.Frag) (H : Hp) (k : Bool) (a : Addr) (ms : List (Str × Meth)) : Prop := ∃ kvs, H a = some (.dK kvs) ∧ MsAt K H k kvs ms
/-- the method of a name -/
def getM (ms : List (Str × Meth)) (x : Str) : Option Meth := (ms.find? fun p => decide (p.1 = x)).map (·.2)
theorem getM_nil {x : Str} : getM [] x = none := rfl
theorem getM_cons {p : Str × Meth} {ms : List (Str × Meth)} {x : Str} : getM (p :: ms) x = if p.1 = x then some p.2 else getM ms x := by
  unfold getM
  rw [List.find?_cons]
  by_cases e : p.1 = x
  · simp [e]
  · simp [e]
theorem getM_mem {x : Str} {m : Meth} : ∀ {ms : List (Str × Meth)}, (ms.map (·.1)).Nodup → (x, m) ∈ ms → getM ms x = some m
  | [], _, h => by cases h
  | p :: r, hn, h => by
    have hn : (p.1 :: r.map (·.1)).Nodup := hn
    obtain ⟨h1, h2⟩ := List.nodup_cons.mp hn
    rw [getM_cons]
    rcases List.mem_cons.mp h with e | h
    · rw [← e]; simp
    · rw [if_neg fun e => h1 (by rw [e]; exact List.mem_map.mpr ⟨(x, m), h, rfl⟩)]
      exact getM_mem h2 h
theorem MsAt.val {K : PySem.W.Frag} {H : Hp} {k : Bool} {x : Str} : ∀ {kvs : List (Key × V)} {ms : List (Str × Meth)}, MsAt K H k kvs ms →
    (getM ms x = none ∧ valV kvs (Sum.inr x) = none) ∨ ∃ m v, getM ms x = some m ∧ valV kvs (Sum.inr x) = some v ∧ Dp K H v (methD k m)
  | _, _, .nil => .inl ⟨rfl, rfl⟩
  | _, _, .cons (a := p) (b := q) r t => by
    obtain ⟨r1, r2⟩ := r
    by_cases e : q.1 = x
    · refine .inr ⟨q.2, p.2, by rw [getM_cons, if_pos e], valV_pos (by rw [r1, e]), r2⟩
    · have e' : ¬ p.1 = (Sum.inr x : Key) := fun z => e (by rw [r1] at z; exact Sum.inr.inj z)
      rcases MsAt.val (x := x) t with ⟨h1, h2⟩ | ⟨m, v, h1, h2, h3⟩
      · exact .inl ⟨by rw [getM_cons, if_neg e]; exact h1, by rw [valV_neg e']; exact h2⟩
      · exact .inr ⟨m, v, by rw [getM_cons, if_neg e]; exact h1, by rw [valV_neg e']; exact h2, h3⟩
theorem MsAt.keys {K : PySem.W.Frag} {H : Hp} {k : Bool} : ∀ {kvs : List (Key × V)} {ms : List (Str × Meth)}, MsAt K H k kvs ms → kvs.map (·.1) = (ms.map (·.1)).map Sum.inr
  | _, _, .nil => rfl
  | _, _, .cons r t => by
    simp only [List.map_cons]
    rw [r.1, MsAt.keys t]
theorem MsAt.same {K : PySem.W.Frag} {H H' : Hp} {k : Bool} (s : Same H H') : ∀ {kvs : List (Key × V)} {ms : List (Str × Meth)}, MsAt K H k kvs ms → MsAt K H' k kvs ms
  | _, _, .nil => .nil
  | _, _, .cons r t => .cons ⟨r.1, Dp.same s _ _ r.2⟩ (MsAt.same s t)
theorem MsAt.but {K : PySem.W.Frag} {H H' : Hp} {b : Addr} {o : HO} (s : But b H H') (hb : H b = some o) (m : Mut (some o)) : ∀ {kvs : List (Key × V)} {ms : List (Str × Meth)}, MsAt K H false kvs ms → MsAt K H' false kvs ms
  | _, _, .nil => .nil
  | _, _, .cons r t => .cons ⟨r.1, Dp.but s hb m _ _ (noList_meth _) r.2⟩ (MsAt.but s hb m t)
theorem MsAt.butI {K : PySem.W.Frag} {H H' : Hp} {k : Bool} {b : Addr} {o : HO} (s : But b H H') (hb : H b = some o) (n : NoSeq o) : ∀ {kvs : List (Key × V)} {ms : List (Str × Meth)}, MsAt K H k kvs ms → MsAt K H' k kvs ms
  | _, _, .nil => .nil
  | _, _, .cons r t => .cons ⟨r.1, Dp.butI s hb n _ _ r.2⟩ (MsAt.butI s hb n t)
theorem MsAt.length {K : PySem.W.Frag} {H : Hp} {k : Bool} {kvs : List (Key × V)} {ms : List (Str × Meth)} (h : MsAt K H k kvs ms) : kvs.length = ms.length := by
  have e := congrArg List.length h.keys
  simpa using e
theorem DictAt.same {K : PySem.W.Frag} {H H' : Hp} {k : Bool} {a : Addr} {ms : List (Str × Meth)} (s : Same H H') (h : DictAt K H k a ms) : DictAt K H' k a ms := by
  obtain ⟨kvs, e, m⟩ := h
  exact ⟨kvs, s _ _ e, m.same s⟩
/-- what is asked of two dicts of methods by == -/
def eqMs (ks ls : List (Str × Meth)) : Bool := ks.length == ls.length && ks.all fun p => decide (getM ls p.1 = some p.2)

section
variable {X : Cx} {pins : List (Addr × Obj)} {σ : St} {H : Hp} {s : Shared}
theorem eqIn_meth (I : Inv X pins σ H s) {x y : V} {u v : Value} {m m' : Meth} (hx : Dp X.K H x (methD false m)) (hy : Dp X.K H y (methD false m')) (rx : RelV x u) (ry : RelV y v) {A : Around} (hu : A.units + 64 < cLine) :
    PySem.SeqAt.EqIn X.prog X.w A s u v (decide (m = m')) := by
  obtain ⟨as, r1⟩ := Dp.reads I _ x u hx rx
  obtain ⟨bs, r2⟩ := Dp.reads I _ y v hy ry
  rw [← eqv_meth]
  exact (PySem.SeqAt.eqAt_reads _ _ A s u v as bs r1 r2 (lay_meth m) (lay_meth m') (SeqAt.room_of_shaped (shaped_meth m) hu)).inModel X.prog X.w
theorem KV.val {x : Key} : ∀ {kvs : List (Key × V)} {vs : List (Key × Value)}, KV kvs vs → (valV kvs x = none ∧ valueAt vs x = none) ∨ ∃ v u, valV kvs x = some v ∧ valueAt vs x = some u ∧ RelV v u
  | _, _, .nil => .inl ⟨rfl, rfl⟩
  | _, _, .cons (a := p) (b := q) r t => by
    obtain ⟨r1, r2⟩ := r
    by_cases e : p.1 = x
    · refine .inr ⟨p.2, q.2, valV_pos e, ?_, r2⟩
      have e2 : q.1 = x := r1.symm.trans e
      simp [valueAt, List.find?_cons, e2]
    · have e2 : ¬ q.1 = x := fun z => e (r1.trans z)
      rcases KV.val (x := x) t with ⟨h1, h2⟩ | ⟨v, u, h1, h2, h3⟩
      · exact .inl ⟨(valV_neg e).trans h1, by simpa [valueAt, List.find?_cons, e2] using h2⟩
      · exact .inr ⟨v, u, (valV_neg e).trans h1, by simpa [valueAt, List.find?_cons, e2] using h2, h3⟩
/-- what the model's == of two dicts answers, by ours -/
theorem eqMs_of {ks ls : List (Key × V)} {va vb : List (Key × Value)} {ms ns : List (Str × Meth)} (ra : KV ks va) (rb : KV ls vb) (ha : MsAt X.K H false ks ms) (hb : MsAt X.K H false ls ns) :
    (va.length == vb.length && va.all fun p => (valueAt vb p.1).isSome && (match p.1 with | .inr x => decide (getM ms x = getM ns x) | .inl _ => true)) = (ms.length == ns.length && (ms.all fun p => (getM ns p.1).isSome && decide (getM ms p.1 = getM ns p.1))) := by
  have e1 : va.length = ms.length := by rw [← ra.length]; exact ha.length
  have e2 : vb.length = ns.length := by rw [← rb.length]; exact hb.length
  rw [e1, e2]
  congr 1
  have key : ∀ {ks' : List (Key × V)} {va' : List (Key × Value)} {ms' : List (Str × Meth)}, KV ks' va' → MsAt X.K H false ks' ms' →
      (va'.all fun p => (valueAt vb p.1).isSome && (match p.1 with | .inr x => decide (getM ms x = getM ns x) | .inl _ => true)) = (ms'.all fun p => (getM ns p.1).isSome && decide (getM ms p.1 = getM ns p.1)) := by
    intro ks' va' ms' r
    induction r generalizing ms' with
    | nil => intro h; cases h; rfl
    | @cons p q ps qs r1 _ ih =>
      intro h
      cases h with
      | @cons _ z _ _ h1 h2 =>
        rw [List.all_cons, List.all_cons, ih h2]
        congr 1
        have eq1 : q.1 = Sum.inr z.1 := r1.1.symm.trans h1.1
        rw [eq1]
        show ((valueAt vb (Sum.inr z.1)).isSome && decide (getM ms z.1 = getM ns z.1)) = _
        congr 1
        rcases KV.val (x := (Sum.inr z.1 : Key)) rb with ⟨a1, a2⟩ | ⟨v, u, a1, a2, _⟩
        · rcases MsAt.val (x := z.1) hb with ⟨b1, b2⟩ | ⟨m, v, b1, b2, _⟩
          · rw [a2, b1]; rfl
          · rw [a1] at b2; cases b2
        · rcases MsAt.val (x := z.1) hb with ⟨b1, b2⟩ | ⟨m, v, b1, b2, _⟩
          · rw [a1] at b2; cases b2
          · rw [a2, b1]; rfl
  exact key ra ha
/-- the answer of == on two dicts of methods -/
def eqDs (ms ns : List (Str × Meth)) : Bool := ms.length == ns.length && (ms.all fun p => (getM ns p.1).isSome && decide (getM ms p.1 = getM ns p.1))
theorem eqIn_dict (I : Inv X pins σ H s) {a b : Addr} {ms ns : List (Str × Meth)} (ha : DictAt X.K H false a ms) (hb : DictAt X.K H false b ns) (hd : (ms.map (·.1)).Nodup) {A : Around} (hu : A.units + 66 < cLine)
    {E : Value → Shared → Prop} {Q : Value → Shared → Prop} (hQ : Q (.bool (eqDs ms ns)) s) : wpAny (model X.prog X.w) A (compareOp .Eq (.ref a) (.ref b)) Q E s := by
  obtain ⟨ks, ea, ma⟩ := ha
  obtain ⟨ls, eb, mb⟩ := hb
  obtain ⟨_, ya, va, ra, da⟩ := (show ObjOk X.prog X.w H s.heap a (.dK ks) from I.hok a _ ea)
  obtain ⟨_, yb, vb, rb, db⟩ := (show ObjOk X.prog X.w H s.heap b (.dK ls) from I.hok b _ eb)
  refine PySem.W.keq_eqIn (knd := mixKind X.prog X.w) (r := va.all fun p => (valueAt vb p.1).isSome && (match p.1 with | .inr x => decide (getM ms x = getM ns x) | .inl _ => true)) ya yb da db (by omega)
    (fun _ => PySem.W.KeqHitsIn.of (e := fun k => match k with | .inr x => decide (getM ms x = getM ns x) | .inl _ => true) va fun k v y hm hv => ?_) (by rw [eqMs_of ra rb ma mb]; exact hQ)
  -- the two values under a key
  have find : ∀ {ks' : List (Key × V)} {va' : List (Key × Value)} {ms' : List (Str × Meth)}, KV ks' va' → MsAt X.K H false ks' ms' → (k, v) ∈ va' → ∃ (x : Str) (m : Meth) (z : V), k = Sum.inr x ∧ (x, m) ∈ ms' ∧ Dp X.K H z (methD false m) ∧ RelV z v := by
    intro ks' va' ms' r
    induction r generalizing ms' with
    | nil => intro _ h; cases h
    | @cons p q ps qs r1 _ ih =>
      intro h hmem
      cases h with
      | @cons _ z _ _ h1 h2 =>
        rcases List.mem_cons.mp hmem with e | hmem
        · refine ⟨z.1, z.2, p.2, ?_, List.mem_cons_self, h1.2, ?_⟩
          · have e1 : q.1 = k := congrArg Prod.fst e.symm
            rw [← e1]
            exact r1.1.symm.trans h1.1
          · have e2 : q.2 = v := congrArg Prod.snd e.symm
            rw [← e2]
            exact r1.2
        · obtain ⟨x, m, zz, e1, e2, e3, e4⟩ := ih h2 hmem
          exact ⟨x, m, zz, e1, List.mem_cons_of_mem _ e2, e3, e4⟩
  obtain ⟨x, m, z, rfl, hxm, dz, rz⟩ := find ra ma hm
  have gm : getM ms x = some m := by
    exact getM_mem hd hxm
  rcases KV.val (x := (Sum.inr x : Key)) rb with ⟨_, a2⟩ | ⟨v2, u2, a1, a2, r2⟩
  · rw [hv] at a2; cases a2
  · rw [hv] at a2; cases a2
    rcases MsAt.val (x := x) mb with ⟨_, b2⟩ | ⟨m2, v3, b1, b2, d2⟩
    · rw [a1] at b2; cases b2
    · rw [a1] at b2; cases b2
      show PySem.SeqAt.EqIn _ _ _ _ _ _ (decide (getM ms x = getM ns x))
      rw [gm, b1]
      have e : decide (some m = some m2) = decide (m = m2) := by simp
      rw [e]
      exact eqIn_meth I dz d2 rz r2 (by show A.units + 1 + 64 < cLine; omega)
/-- [int, int, dict] == [int, int, dict] -/
def rEqLID (K : PySem.W.Frag) : R2 := fun x y H Q => ∃ (a b d e : Addr) (i j i' j' : Int) (ms ns : List (Str × Meth)), x = .ref a ∧ y = .ref b ∧ H a = some (.lst [.int i, .int j, .ref d]) ∧ H b = some (.lst [.int i', .int j', .ref e]) ∧ d ≠ e ∧
  DictAt K H false d ms ∧ DictAt K H false e ns ∧ (ms.map (·.1)).Nodup ∧ Q (.bl (decide (i = i') && (decide (j = j') && eqDs ms ns))) H
theorem op_eqLID {k : Nat} (hr : Room k X.A) : OpR X (compareOp .Eq) (rEqLID X.K) := by
  intro pins s σ H x y v u Q I rx ry h
  obtain ⟨a, b, d, e, i, j, i', j', ms, ns, rfl, rfl, ea, eb, hde, hd, he, hn, q⟩ := h
  obtain rfl : v = Value.ref a := rx
  obtain rfl : u = Value.ref b := ry
  obtain ⟨_, its, n, r, ho⟩ := (show ObjOk X.prog X.w H s.heap a (.lst _) from I.hok a _ ea)
  obtain ⟨_, its', n', r', ho'⟩ := (show ObjOk X.prog X.w H s.heap b (.lst _) from I.hok b _ eb)
  obtain ⟨t1, t2, rfl⟩ : ∃ t1 t2, its = [.int i t1, .int j t2, .ref d] := by
    cases r with
    | cons a1 r => cases r with
      | cons a2 r => cases r with
        | cons a3 r =>
          cases r
          obtain ⟨t1, rfl⟩ := a1
          obtain ⟨t2, rfl⟩ := a2
          cases a3
          exact ⟨t1, t2, rfl⟩
  obtain ⟨t1', t2', rfl⟩ : ∃ t1 t2, its' = [.int i' t1, .int j' t2, .ref e] := by
    cases r' with
    | cons a1 r => cases r with
      | cons a2 r => cases r with
        | cons a3 r =>
          cases r
          obtain ⟨t1, rfl⟩ := a1
          obtain ⟨t2, rfl⟩ := a2
          cases a3
          exact ⟨t1, t2, rfl⟩
  have hu := hr.un
  show wpAny (model X.prog X.w) X.A (richCompare .Eq (.ref a) (.ref b)) (EP X pins σ Q) X.xe s
  refine PySem.SeqAt.rcIn_lists (items := [.int i t1, .int j t2, .ref d].toArray) (items2 := [.int i' t1', .int j' t2', .ref e].toArray) (e := fun z => if z = 0 then decide (i = i') else if z = 1 then decide (j = j') else eqDs ms ns) ⟨_, ho, rfl, n, rfl⟩ ⟨_, ho', rfl, n', rfl⟩ rfl (by omega) (fun z h1 h2 => ?_) ?_
  · have h3 : z < 3 := h1
    match z, h3 with
    | 0, _ =>
      intro E Q' hq
      refine wpAny_eqBool_int ?_
      have e0 : (i == i') = decide (i = i') := by by_cases h : i = i' <;> simp [h]
      rw [e0]; exact hq
    | 1, _ =>
      intro E Q' hq
      refine wpAny_eqBool_int ?_
      have e0 : (j == j') = decide (j = j') := by by_cases h : j = j' <;> simp [h]
      rw [e0]; exact hq
    | 2, _ =>
      exact PySem.SeqAt.EqIn.of_refs hde fun E Q' hq => eqIn_dict I hd he hn (by show X.A.units + 1 + 66 < cLine; omega) hq
  · refine ⟨.bl _, H, I, rfl, ?_⟩
    have e3 : (List.range ([Value.int i t1, .int j t2, .ref d].toArray).size).all (fun z => if z = 0 then decide (i = i') else if z = 1 then decide (j = j') else eqDs ms ns) = (decide (i = i') && (decide (j = j') && eqDs ms ns)) := by
      show ([0, 1, 2].all _) = _
      simp [List.all_cons]
    rw [e3]; exact q
/-- dict == dict -/
def rEqDD (K : PySem.W.Frag) : R2 := fun x y H Q => ∃ (d e : Addr) (ms ns : List (Str × Meth)), x = .ref d ∧ y = .ref e ∧ DictAt K H false d ms ∧ DictAt K H false e ns ∧ (ms.map (·.1)).Nodup ∧ Q (.bl (eqDs ms ns)) H
theorem op_eqDD {k : Nat} (hr : Room k X.A) : OpR X (compareOp .Eq) (rEqDD X.K) := by
  intro pins s σ H x y v u Q I rx ry h
  obtain ⟨d, e, ms, ns, rfl, rfl, hd, he, hn, q⟩ := h
  obtain rfl : v = Value.ref d := rx
  obtain rfl : u = Value.ref e := ry
  have hu := hr.un
  exact eqIn_dict I hd he hn (by omega) ⟨.bl _, H, I, rfl, q⟩

/-! ### == and in by own methods -/
/-- a call of an own def, out of the model's operators -/
theorem call_own {f : Addr} {fd : FuncData} {ps : List Str} {sp : Sp} {n : Nat} {vs : List V} {us : List Value} {Q : VK} {R : Value → Shared → Prop} (F : FnOk X.prog X.w X.K X.mg X.base CX0 n f fd ps sp) (hr : Room n X.A) (hb : Binds X.K fd ps [])
    (I : Inv X pins σ H s) (r : Vals vs us) (h : sp vs H Q E0) (k : ∀ z H' w s', Inv X pins σ H' s' → RelV z w → Q z H' → R w s') : wpAny (model X.prog X.w) X.A (call (.ref f) us) R X.xe s := by
  have hl := F.len _ _ _ _ h
  refine wpAny_call (codeAny_mono (F.run X.A X.stack s H ⟨us, []⟩ us vs Q E0 hr I.env0 (by
    have := hb s us I.kIn (by rw [List.append_nil, ← r.length]; exact hl)
    simpa using this) r h) fun r s' hq => ?_)
  cases r with
  | error e => exact False.elim hq
  | ok fl =>
    cases fl with
    | ret w =>
      obtain ⟨z, H', I', rz, q⟩ := I.after hq
      exact k z H' w s' I' rz q
    | next => exact False.elim hq
    | brk => exact False.elim hq
    | cont => exact False.elim hq
def rEqOwn (C : Addr) (sp : Sp) : R2 := fun x y H Q => ∃ (a b dx dy : Addr) (fs gs : List (Str × V)), x = .ref a ∧ y = .ref b ∧ H a = some (.ins C dx fs) ∧ H b = some (.ins C dy gs) ∧ sp [.ref a, .ref b] H (fun v H' => (∃ c, v = .bl c) ∧ Q v H') E0
theorem op_eqOwn {C f : Addr} {fd : FuncData} {ps : List Str} {sp : Sp} {n : Nat} (F : FnOk X.prog X.w X.K X.mg X.base CX0 n f fd ps sp) (hr : Room n X.A)
    (hs : PySem.W.findIn X.K (.ref C) "__eq__" = some (some (.ref f))) (hf : PySem.W.isFn X.K (.ref f) = true) (hb : Binds X.K fd ps []) : OpR X (compareOp .Eq) (rEqOwn C sp) := by
  intro pins s σ H x y v u Q I rx ry h
  obtain ⟨a, b, dx, dy, fs, gs, rfl, rfl, ha, hb', hsp⟩ := h
  obtain rfl : v = Value.ref a := rx
  obtain rfl : u = Value.ref b := ry
  obtain ⟨mA, J, _⟩ := ins_get I.hok ha
  obtain ⟨mB, J', _⟩ := ins_get I.hok hb'
  obtain ⟨od, J, _⟩ := J.look
  obtain ⟨od', J', _⟩ := J'.look
  obtain ⟨m, hF⟩ := I.fr
  show wpAny (model X.prog X.w) X.A (richCompare .Eq (.ref a) (.ref b)) (EP X pins σ Q) X.xe s
  refine PySem.W.cmp_K (op := .Eq) (tb := .ref C) hr.units0 hF I.ok.mod.kin J J'.type (by simp [PySem.W.notFirst]) hs hf ?_
  refine call_own F hr hb I (vs := [.ref a, .ref b]) (.cons rfl (.cons rfl .nil)) hsp fun z H' w s' I' rz q => ?_
  obtain ⟨⟨c, rfl⟩, q⟩ := q
  cases rz
  exact ⟨.bl c, H', I', rfl, q⟩
def rNotInOwn (C : Addr) (sp : Sp) : R2 := fun x y H Q => ∃ (a dx : Addr) (fs : List (Str × V)), y = .ref a ∧ H a = some (.ins C dx fs) ∧ sp [.ref a, x] H (fun v H' => ∃ c, v = .bl c ∧ Q (.bl (!c)) H') E0
theorem op_notInOwn {C f : Addr} {fd : FuncData} {ps : List Str} {sp : Sp} {n : Nat} (F : FnOk X.prog X.w X.K X.mg X.base CX0 n f fd ps sp) (hr : Room n X.A)
    (hs : PySem.W.findIn X.K (.ref C) "__contains__" = some (some (.ref f))) (hf : PySem.W.isFn X.K (.ref f) = true) (hb : Binds X.K fd ps []) : OpR X (compareOp .NotIn) (rNotInOwn C sp) := by
  intro pins s σ H x y v u Q I rx ry h
  obtain ⟨a, dx, fs, rfl, ha, hsp⟩ := h
  obtain rfl : u = Value.ref a := ry
  obtain ⟨mA, J, _⟩ := ins_get I.hok ha
  obtain ⟨od, J, _⟩ := J.look
  obtain ⟨m, hF⟩ := I.fr
  refine PySem.W.notIn_K hF I.ok.mod.kin J hs hf ?_
  refine call_own F hr hb I (vs := [.ref a, x]) (.cons rfl (.cons rx .nil)) hsp fun z H' w s' I' rz q => ?_
  obtain ⟨c, rfl, q⟩ := q
  cases rz
  exact wpAny_truthy_bool ⟨.bl (!c), H', I', rfl, q⟩
end
end Tw
/-! ## Tw3: the text by places, what its top has written (printed by gen.py) -/
namespace Tw
open PySem L2
def top (i : Nat) : Stmt := PySem.Challenge.pw_towerup_k42_whole_kind_texts.main.body.getD i (.Pass ⟨0, 0, 0, 0⟩)
abbrev s_is_integer : Stmt := top 11
abbrev s_is_between : Stmt := top 12
abbrev s_is_row : Stmt := top 13
abbrev s_is_row_of : Stmt := top 14
abbrev s_is_name : Stmt := top 15
abbrev s_are_answers : Stmt := top 21
abbrev s_is_method : Stmt := top 22
abbrev s_are_methods : Stmt := top 23
abbrev s_ordered_method : Stmt := top 24
abbrev s_Kind_init : Stmt := inClass (top 25) 0
abbrev s_Kind_contains : Stmt := inClass (top 25) 1
abbrev s_Kind_eq : Stmt := inClass (top 25) 2
abbrev s_Kind_method : Stmt := inClass (top 25) 3
abbrev s_Kind_names : Stmt := inClass (top 25) 4
abbrev s_Kind_arguments : Stmt := inClass (top 25) 5
abbrev s_Kind_results : Stmt := inClass (top 25) 6
abbrev s_Kind_answers : Stmt := inClass (top 25) 7
abbrev s_answers_line : Stmt := top 29
abbrev s_kind_text : Stmt := top 30
abbrev s_number_of : Stmt := top 31
abbrev s_answers_of : Stmt := top 32
abbrev s_Reader_init : Stmt := inClass (top 33) 0
abbrev s_Reader_is_done : Stmt := inClass (top 33) 1
abbrev s_Reader_words : Stmt := inClass (top 33) 2
abbrev s_Reader_head : Stmt := inClass (top 33) 4
abbrev s_Reader_read_method : Stmt := inClass (top 33) 5
abbrev s_Reader_answers : Stmt := inClass (top 33) 6
abbrev s_read_kind : Stmt := top 34
abbrev s__law_bag : Stmt := top 36
abbrev s__law_pick : Stmt := top 37
abbrev s__law_rows : Stmt := top 38
abbrev s__law_kind : Stmt := top 39
abbrev s__law_alike : Stmt := top 40
abbrev s__law_kind_lines : Stmt := top 41
abbrev s__law_wide_kind : Stmt := top 42
abbrev s_law : Stmt := top 43
/-- a def of the top -/
structure Df (K : PySem.W.Frag) (mg : Str → Option Value) (x : Str) (st : Stmt) (ps : List Str) where
  f : Addr
  d : FuncData
  F : Fun K x x st f d
  g : mg x = some (.ref f)
  b : Binds K d ps []
/-- a method of the class at C -/
structure Dm (K : PySem.W.Frag) (C : Addr) (m qual : Str) (st : Stmt) (ps : List Str) where
  f : Addr
  d : FuncData
  F : Fun K m qual st f d
  at_ : PySem.W.findIn K (.ref C) m = some (some (.ref f))
  fn : PySem.W.isFn K (.ref f) = true
  b : Binds K d ps []
def Dm.me {K : PySem.W.Frag} {C : Addr} {m qual : Str} {st : Stmt} {ps : List Str} (D : Dm K C m qual st ps) : L2.Meth K C m D.f := ⟨D.at_, D.fn, D.F.kp⟩
/-- what the top has written -/
structure Tx (K : PySem.W.Frag) (mg : Str → Option Value) where
  CKind : Addr
  CReader : Addr
  clKind : Cls K CKind
  mkKind : PySem.W.makesIn K CKind = true
  kcKind : PySem.W.keepIn K (.ref CKind) = true
  gKind : mg "Kind" = some (.ref CKind)
  nKind_states : NoAttr K CKind "states"
  nKind_start : NoAttr K CKind "start"
  nKind_methods : NoAttr K CKind "_methods"
  clReader : Cls K CReader
  mkReader : PySem.W.makesIn K CReader = true
  kcReader : PySem.W.keepIn K (.ref CReader) = true
  gReader : mg "Reader" = some (.ref CReader)
  nReader_lines : NoAttr K CReader "lines"
  nReader_many : NoAttr K CReader "many"
  isKind_ha : PySem.W.findIn K (.ref CKind) "__class__" = some (some (.builtin "object.__class__"))
  isKind_hn : PySem.W.specialIn K (.builtin "object.__class__") "__get__" = some (some (.builtin "getset_descriptor.__get__"))
  isKind_tk : PySem.W.takesIn K (.builtin "object.__class__") = some true
  isKind_hm : PySem.W.mroIn K CKind (.type "object") = some true
  isKind_one : PySem.W.kitOne K (.ref CKind) (.ref CKind) = some true
  z_isinstance : mg "isinstance" = none
  z_len : mg "len" = none
  z_all : mg "all" = none
  z_sorted : mg "sorted" = none
  z_range : mg "range" = none
  z_int : mg "int" = none
  z_bool : mg "bool" = none
  z_list : mg "list" = none
  z_tuple : mg "tuple" = none
  z_str : mg "str" = none
  z_dict : mg "dict" = none
  z_set : mg "set" = none
  c_LETTERS : ∃ t, mg "LETTERS" = some (.str (Str.ofString "abcdefghijklmnopqrstuvwxyz") t)
  c_LONGEST_NAME : ∃ t, mg "LONGEST_NAME" = some (.int 8 t)
  c_MOST_STATES : ∃ t, mg "MOST_STATES" = some (.int 8 t)
  c_MOST_METHODS : ∃ t, mg "MOST_METHODS" = some (.int 4 t)
  c_MOST_VALUES : ∃ t, mg "MOST_VALUES" = some (.int 4 t)
  c_MOST_ANSWERS : ∃ t, mg "MOST_ANSWERS" = some (.int 8 t)
  c_DIGITS : ∃ t, mg "DIGITS" = some (.str (Str.ofString "0123456789") t)
  c_LAST_NAME : ∃ t, mg "LAST_NAME" = some (.str (Str.ofString "zzzzzzzz") t)
  is_integer : Df K mg "is_integer" s_is_integer ["value"]
  is_between : Df K mg "is_between" s_is_between ["value", "low", "high"]
  is_row : Df K mg "is_row" s_is_row ["value"]
  is_row_of : Df K mg "is_row_of" s_is_row_of ["value", "least", "most"]
  is_name : Df K mg "is_name" s_is_name ["value"]
  are_answers : Df K mg "are_answers" s_are_answers ["value", "results", "states"]
  is_method : Df K mg "is_method" s_is_method ["value", "states"]
  are_methods : Df K mg "are_methods" s_are_methods ["value", "states"]
  ordered_method : Df K mg "ordered_method" s_ordered_method ["value"]
  Kind_init : Dm K CKind "__init__" "Kind.__init__" s_Kind_init ["self", "states", "start", "methods"]
  Kind_contains : Dm K CKind "__contains__" "Kind.__contains__" s_Kind_contains ["self", "method"]
  Kind_eq : Dm K CKind "__eq__" "Kind.__eq__" s_Kind_eq ["self", "other"]
  Kind_method : Dm K CKind "_method" "Kind._method" s_Kind_method ["self", "method"]
  Kind_names : Dm K CKind "names" "Kind.names" s_Kind_names ["self"]
  Kind_arguments : Dm K CKind "arguments" "Kind.arguments" s_Kind_arguments ["self", "method"]
  Kind_results : Dm K CKind "results" "Kind.results" s_Kind_results ["self", "method"]
  Kind_answers : Dm K CKind "answers" "Kind.answers" s_Kind_answers ["self", "state", "method", "argument"]
  answers_line : Df K mg "answers_line" s_answers_line ["state", "argument", "answers"]
  kind_text : Df K mg "kind_text" s_kind_text ["kind"]
  number_of : Df K mg "number_of" s_number_of ["word", "low", "high"]
  answers_of : Df K mg "answers_of" s_answers_of ["words", "results", "states"]
  Reader_init : Dm K CReader "__init__" "Reader.__init__" s_Reader_init ["self", "lines"]
  Reader_is_done : Dm K CReader "is_done" "Reader.is_done" s_Reader_is_done ["self"]
  Reader_words : Dm K CReader "words" "Reader.words" s_Reader_words ["self"]
  Reader_head : Dm K CReader "head" "Reader.head" s_Reader_head ["self"]
  Reader_read_method : Dm K CReader "read_method" "Reader.read_method" s_Reader_read_method ["self", "states", "last"]
  Reader_answers : Dm K CReader "answers" "Reader.answers" s_Reader_answers ["self", "state", "argument", "results", "states"]
  read_kind : Df K mg "read_kind" s_read_kind ["text"]
  _law_bag : Df K mg "_law_bag" s__law_bag ["_law_script", "_law_spot"]
  _law_pick : Df K mg "_law_pick" s__law_pick ["_law_bag_here", "_law_many"]
  _law_rows : Df K mg "_law_rows" s__law_rows ["_law_bag_here", "_law_states", "_law_places", "_law_results"]
  _law_kind : Df K mg "_law_kind" s__law_kind ["_law_raw"]
  _law_alike : Df K mg "_law_alike" s__law_alike ["_law_told", "_law_due"]
  _law_kind_lines : Df K mg "_law_kind_lines" s__law_kind_lines ["_law_raw"]
  _law_wide_kind : Df K mg "_law_wide_kind" s__law_wide_kind ["_law_bag_here"]
  law : Df K mg "law" s_law ["_law_script"]
/-! scopes: names by slot -/
theorem sc_is_integer : FnScope ["value"] ["value"] (defScope s_is_integer) := ⟨rfl, rfl, rfl, by decide +kernel, rfl, by decide +kernel, by decide +kernel⟩
theorem sc_is_between : FnScope ["value", "low", "high"] ["value", "low", "high"] (defScope s_is_between) := ⟨rfl, rfl, rfl, by decide +kernel, rfl, by decide +kernel, by decide +kernel⟩
theorem sc_is_row : FnScope ["value"] ["value"] (defScope s_is_row) := ⟨rfl, rfl, rfl, by decide +kernel, rfl, by decide +kernel, by decide +kernel⟩
theorem sc_is_row_of : FnScope ["value", "least", "most"] ["value", "least", "most"] (defScope s_is_row_of) := ⟨rfl, rfl, rfl, by decide +kernel, rfl, by decide +kernel, by decide +kernel⟩
theorem sc_is_name : FnScope ["value", "letter"] ["value"] (defScope s_is_name) := ⟨rfl, rfl, rfl, by decide +kernel, rfl, by decide +kernel, by decide +kernel⟩
theorem sc_are_answers : FnScope ["value", "results", "states", "met", "answer"] ["value", "results", "states"] (defScope s_are_answers) := ⟨rfl, rfl, rfl, by decide +kernel, rfl, by decide +kernel, by decide +kernel⟩
theorem sc_is_method : FnScope ["value", "states", "arguments", "results", "rows", "row", "answers"] ["value", "states"] (defScope s_is_method) := ⟨rfl, rfl, rfl, by decide +kernel, rfl, by decide +kernel, by decide +kernel⟩
theorem sc_are_methods : FnScope ["value", "states", "name"] ["value", "states"] (defScope s_are_methods) := ⟨rfl, rfl, rfl, by decide +kernel, rfl, by decide +kernel, by decide +kernel⟩
theorem sc_ordered_method : FnScope ["value", "arguments", "results", "rows", "ordered", "row", "answers", "answer"] ["value"] (defScope s_ordered_method) := ⟨rfl, rfl, rfl, by decide +kernel, rfl, by decide +kernel, by decide +kernel⟩
theorem sc_Kind_init : FnScope ["self", "states", "start", "methods", "name"] ["self", "states", "start", "methods"] (defScope s_Kind_init) := ⟨rfl, rfl, rfl, by decide +kernel, rfl, by decide +kernel, by decide +kernel⟩
theorem sc_Kind_contains : FnScope ["self", "method"] ["self", "method"] (defScope s_Kind_contains) := ⟨rfl, rfl, rfl, by decide +kernel, rfl, by decide +kernel, by decide +kernel⟩
theorem sc_Kind_eq : FnScope ["self", "other"] ["self", "other"] (defScope s_Kind_eq) := ⟨rfl, rfl, rfl, by decide +kernel, rfl, by decide +kernel, by decide +kernel⟩
theorem sc_Kind_method : FnScope ["self", "method"] ["self", "method"] (defScope s_Kind_method) := ⟨rfl, rfl, rfl, by decide +kernel, rfl, by decide +kernel, by decide +kernel⟩
theorem sc_Kind_names : FnScope ["self"] ["self"] (defScope s_Kind_names) := ⟨rfl, rfl, rfl, by decide +kernel, rfl, by decide +kernel, by decide +kernel⟩
theorem sc_Kind_arguments : FnScope ["self", "method"] ["self", "method"] (defScope s_Kind_arguments) := ⟨rfl, rfl, rfl, by decide +kernel, rfl, by decide +kernel, by decide +kernel⟩
theorem sc_Kind_results : FnScope ["self", "method"] ["self", "method"] (defScope s_Kind_results) := ⟨rfl, rfl, rfl, by decide +kernel, rfl, by decide +kernel, by decide +kernel⟩
theorem sc_Kind_answers : FnScope ["self", "state", "method", "argument", "arguments", "results", "rows"] ["self", "state", "method", "argument"] (defScope s_Kind_answers) := ⟨rfl, rfl, rfl, by decide +kernel, rfl, by decide +kernel, by decide +kernel⟩
theorem sc_answers_line : FnScope ["state", "argument", "answers", "result", "following"] ["state", "argument", "answers"] (defScope s_answers_line) := ⟨rfl, rfl, rfl, by decide +kernel, rfl, by decide +kernel, by decide +kernel⟩
theorem sc_kind_text : FnScope ["kind", "lines", "method", "state", "argument"] ["kind"] (defScope s_kind_text) := ⟨rfl, rfl, rfl, by decide +kernel, rfl, by decide +kernel, by decide +kernel⟩
theorem sc_number_of : FnScope ["word", "low", "high"] ["word", "low", "high"] (defScope s_number_of) := ⟨rfl, rfl, rfl, by decide +kernel, rfl, by decide +kernel, by decide +kernel⟩
theorem sc_answers_of : FnScope ["words", "results", "states", "answers", "word", "parts", "numbers", "part"] ["words", "results", "states"] (defScope s_answers_of) := ⟨rfl, rfl, rfl, by decide +kernel, rfl, by decide +kernel, by decide +kernel⟩
theorem sc_Reader_init : FnScope ["self", "lines"] ["self", "lines"] (defScope s_Reader_init) := ⟨rfl, rfl, rfl, by decide +kernel, rfl, by decide +kernel, by decide +kernel⟩
theorem sc_Reader_is_done : FnScope ["self"] ["self"] (defScope s_Reader_is_done) := ⟨rfl, rfl, rfl, by decide +kernel, rfl, by decide +kernel, by decide +kernel⟩
theorem sc_Reader_words : FnScope ["self"] ["self"] (defScope s_Reader_words) := ⟨rfl, rfl, rfl, by decide +kernel, rfl, by decide +kernel, by decide +kernel⟩
theorem sc_Reader_head : FnScope ["self", "words", "states"] ["self"] (defScope s_Reader_head) := ⟨rfl, rfl, rfl, by decide +kernel, rfl, by decide +kernel, by decide +kernel⟩
theorem sc_Reader_read_method : FnScope ["self", "states", "last", "words", "arguments", "results", "rows", "state", "argument"] ["self", "states", "last"] (defScope s_Reader_read_method) := ⟨rfl, rfl, rfl, by decide +kernel, rfl, by decide +kernel, by decide +kernel⟩
theorem sc_Reader_answers : FnScope ["self", "state", "argument", "results", "states", "words", "answers"] ["self", "state", "argument", "results", "states"] (defScope s_Reader_answers) := ⟨rfl, rfl, rfl, by decide +kernel, rfl, by decide +kernel, by decide +kernel⟩
theorem sc_read_kind : FnScope ["text", "reader", "states", "start", "methods", "last", "value"] ["text"] (defScope s_read_kind) := ⟨rfl, rfl, rfl, by decide +kernel, rfl, by decide +kernel, by decide +kernel⟩
theorem sc__law_bag : FnScope ["_law_script", "_law_spot", "_law_cell", "_law_low"] ["_law_script", "_law_spot"] (defScope s__law_bag) := ⟨rfl, rfl, rfl, by decide +kernel, rfl, by decide +kernel, by decide +kernel⟩
theorem sc__law_pick : FnScope ["_law_bag_here", "_law_many", "_law_digit", "_law_mixed"] ["_law_bag_here", "_law_many"] (defScope s__law_pick) := ⟨rfl, rfl, rfl, by decide +kernel, rfl, by decide +kernel, by decide +kernel⟩
theorem sc__law_rows : FnScope ["_law_bag_here", "_law_states", "_law_places", "_law_results", "_law_missing", "_law_rows_here", "_law_state", "_law_row", "_law_place", "_law_many", "_law_answers", "_law_turn"] ["_law_bag_here", "_law_states", "_law_places", "_law_results"] (defScope s__law_rows) := ⟨rfl, rfl, rfl, by decide +kernel, rfl, by decide +kernel, by decide +kernel⟩
theorem sc__law_kind : FnScope ["_law_raw"] ["_law_raw"] (defScope s__law_kind) := ⟨rfl, rfl, rfl, by decide +kernel, rfl, by decide +kernel, by decide +kernel⟩
theorem sc__law_alike : FnScope ["_law_told", "_law_due", "_law_k"] ["_law_told", "_law_due"] (defScope s__law_alike) := ⟨rfl, rfl, rfl, by decide +kernel, rfl, by decide +kernel, by decide +kernel⟩
theorem sc__law_kind_lines : FnScope ["_law_raw", "_law_lines", "_law_name", "_law_method", "_law_state", "_law_place", "_law_words", "_law_answer"] ["_law_raw"] (defScope s__law_kind_lines) := ⟨rfl, rfl, rfl, by decide +kernel, rfl, by decide +kernel, by decide +kernel⟩
theorem sc__law_wide_kind : FnScope ["_law_bag_here", "_law_states", "_law_names", "_law_methods", "_law_turn", "_law_places", "_law_results"] ["_law_bag_here"] (defScope s__law_wide_kind) := ⟨rfl, rfl, rfl, by decide +kernel, rfl, by decide +kernel, by decide +kernel⟩
theorem sc_law : FnScope ["_law_script", "_law_raw", "_law_other", "_law_kind_here", "_law_text", "_law_again", "_law_second"] ["_law_script"] (defScope s_law) := ⟨rfl, rfl, rfl, by decide +kernel, rfl, by decide +kernel, by decide +kernel⟩
section
variable {X : Cx}
/-- a call of a def of the top -/
theorem pcall {x : Str} {st : Stmt} {ps : List Str} {sp : Sp} {j k : Nat} {e : Expr} {es : List Expr} {t : TA} {p pos : Pos} (D : Df X.K X.mg x st ps) (G : FnOk X.prog X.w X.K X.mg X.base CX0 j D.f D.d ps sp) (hr : Room k X.A) (ha : PA X (e :: es) t)
    (hjk : j ≤ k := by decide) (hg : Gl X x := by rfl) (hdb : (x == ("__debug__" : Str)) = false := by decide) (he : starEach (e :: es) X.env = (false, eval e X.env) :: starEach es X.env := by rfl) (hpl : (backTo pos (starEach es X.env)).any (·.1) = false := by rfl) :
    PE X (.Call (.Name x p) (e :: es) [] pos) (tCall sp [] E0 t) := pe_call G (hr.mono hjk) hg D.g D.F.kp D.b .nil pass0 ha hdb he hpl
end
end Tw
/-! ## Tw4: the checks -/
namespace Tw
open PySem L2
theorem bt_isinstance : bootBuiltins "isinstance" = some (.builtin "isinstance") := by decide +kernel
theorem bt_len : bootBuiltins "len" = some (.builtin "len") := by decide +kernel
theorem bt_all : bootBuiltins "all" = some (.builtin "all") := by decide +kernel
theorem bt_sorted : bootBuiltins "sorted" = some (.builtin "sorted") := by decide +kernel
theorem bt_range : bootBuiltins "range" = some (.type "range") := by decide +kernel
theorem bt_int : bootBuiltins "int" = some (.type "int") := by decide +kernel
theorem bt_bool : bootBuiltins "bool" = some (.type "bool") := by decide +kernel
theorem bt_list : bootBuiltins "list" = some (.type "list") := by decide +kernel
theorem bt_tuple : bootBuiltins "tuple" = some (.type "tuple") := by decide +kernel
theorem bt_str : bootBuiltins "str" = some (.type "str") := by decide +kernel
theorem bt_dict : bootBuiltins "dict" = some (.type "dict") := by decide +kernel
theorem bt_set : bootBuiltins "set" = some (.type "set") := by decide +kernel
theorem ki_int_int : kitB "int" "int" = some true := by decide +kernel
theorem ki_int_bool : kitB "int" "bool" = some false := by decide +kernel
theorem ki_str_str : kitB "str" "str" = some true := by decide +kernel
theorem ki_dict_dict : kitB "dict" "dict" = some true := by decide +kernel
theorem ki_list_list : kitB "list" "list" = some true := by decide +kernel
theorem ki_tuple_list : kitB "tuple" "list" = some false := by decide +kernel
theorem ki_tuple_tuple : kitB "tuple" "tuple" = some true := by decide +kernel
theorem ty_L {K : PySem.W.Frag} {H : Hp} {a : Addr} {xs : List V} (h : SqL K H a xs) : TyX K H (.ref a) (.type "list") := by
  rcases h with (h | ⟨o, h⟩) | ⟨o, its, n, h, c, _⟩
  · exact .base (.lst h)
  · exact .base (.frz h)
  · exact .kList h c
theorem ty_T {K : PySem.W.Frag} {H : Hp} {a : Addr} {xs : List V} (h : SqT K H a xs) : TyX K H (.ref a) (.type "tuple") := by
  rcases h with (h | ⟨o, h⟩) | ⟨o, its, n, h, c, _⟩
  · exact .base (.tup h)
  · exact .fTuple h
  · exact .kTuple h c
theorem any_LT (K : PySem.W.Frag) : PySem.W.kitAny K (.type "list") [.type "list", .type "tuple"] = some true := kitAny_cons (kit_ty ki_list_list) (fun z => Bool.noConfusion z) fun _ => rfl
theorem any_TT (K : PySem.W.Frag) : PySem.W.kitAny K (.type "tuple") [.type "list", .type "tuple"] = some true := kitAny_cons (kit_ty ki_tuple_list) (fun _ => kitAny_cons (kit_ty ki_tuple_tuple) (fun z => Bool.noConfusion z) fun _ => rfl) fun z => Bool.noConfusion z
/-- a name -/
def NameOk (z : Str) : Prop := 1 ≤ z.length ∧ z.length ≤ 8 ∧ ∀ c ∈ z.cps.toList, 97 ≤ c ∧ c ≤ 122
theorem letters_mem {c : Nat} (h : 97 ≤ c ∧ c ≤ 122) : c ∈ (Str.ofString "abcdefghijklmnopqrstuvwxyz").cps.toList := by
  have e : (Str.ofString "abcdefghijklmnopqrstuvwxyz").cps.toList = [97, 98, 99, 100, 101, 102, 103, 104, 105, 106, 107, 108, 109, 110, 111, 112, 113, 114, 115, 116, 117, 118, 119, 120, 121, 122] := by decide +kernel
  rw [e]
  have : ∀ c : Nat, c < 123 → 97 ≤ c → c ∈ [97, 98, 99, 100, 101, 102, 103, 104, 105, 106, 107, 108, 109, 110, 111, 112, 113, 114, 115, 116, 117, 118, 119, 120, 121, 122] := by decide
  exact this c (by omega) h.1

section
variable {P : Program} {w : World} {K : PySem.W.Frag} {mg : Str → Option Value} {base : Heap}
def spInteger : Sp := fun vs H Q _ => ∃ i : Int, vs = [.int i] ∧ Q (.bl true) H
theorem ok_is_integer (T : Tx K mg) : FnOk P w K mg base CX0 1 T.is_integer.f T.is_integer.d ["value"] spInteger := by
  refine T.is_integer.F.ok sc_is_integer (fun vs H Q E h => ?_) (fun cdv A outer s H vs Q E hr h => ?_)
  · obtain ⟨i, rfl, _⟩ := h; rfl
  · obtain ⟨i, rfl, q⟩ := h
    refine ⟨_, pss_one (ps_ret (pe_and (pe_callB call_isi (by rfl) T.z_isinstance bt_isinstance (pa_cons (pv 0) (pa_cons (pe_bltn (v := .ty "int") (by rfl) T.z_int bt_int rfl) pa_nil)))
      (pe_one (pe_not (pe_callB call_isi (by rfl) T.z_isinstance bt_isinstance (pa_cons (pv 0) (pa_cons (pe_bltn (v := .ty "bool") (by rfl) T.z_bool bt_bool rfl) pa_nil))))))), ?_⟩
    refine ⟨_, rfl, _, _, _, _, true, rfl, .ty _, .base (.int _), kit_ty ki_int_int, true, rfl, iteT ?_⟩
    exact ⟨_, rfl, _, _, _, _, false, rfl, .ty _, .base (.int _), kit_ty ki_int_bool, false, rfl, q⟩
def spBetween : Sp := fun vs H Q _ => ∃ i lo hi : Int, vs = [.int i, .int lo, .int hi] ∧ Q (.bl (decide (lo ≤ i ∧ i ≤ hi))) H
theorem ok_is_between (T : Tx K mg) : FnOk P w K mg base CX0 2 T.is_between.f T.is_between.d ["value", "low", "high"] spBetween := by
  refine T.is_between.F.ok sc_is_between (fun vs H Q E h => ?_) (fun cdv A outer s H vs Q E hr h => ?_)
  · obtain ⟨i, lo, hi, rfl, _⟩ := h; rfl
  · obtain ⟨i, lo, hi, rfl, q⟩ := h
    refine ⟨_, pss_one (ps_ret (pe_and (pcall T.is_integer (ok_is_integer T) hr (pa_cons (pv 0) pa_nil)) (pe_one (pe_chain op_le op_le (pv 1) (pv 0) (pv 2))))), ?_⟩
    refine ⟨_, rfl, i, rfl, true, rfl, iteT ?_⟩
    refine ⟨_, rfl, _, rfl, _, _, rfl, rfl, _, rfl, ?_⟩
    by_cases h1 : lo ≤ i
    · rw [decide_eq_true h1]
      refine iteT ⟨_, rfl, _, _, rfl, rfl, ?_⟩
      have e : decide (lo ≤ i ∧ i ≤ hi) = decide (i ≤ hi) := by simp [h1]
      rw [e] at q; exact q
    · rw [decide_eq_false h1]
      refine iteF ?_
      have e : decide (lo ≤ i ∧ i ≤ hi) = false := by simp [h1]
      rw [e] at q; exact q
def spRow (K : PySem.W.Frag) : Sp := fun vs H Q _ => ∃ (a : Addr) (k : Bool) (xs : List V), vs = [.ref a] ∧ Sqk K k H a xs ∧ ∀ H', Same H H' → Q (.bl true) H'
theorem ok_is_row (T : Tx K mg) : FnOk P w K mg base CX0 1 T.is_row.f T.is_row.d ["value"] (spRow K) := by
  refine T.is_row.F.ok sc_is_row (fun vs H Q E h => ?_) (fun cdv A outer s H vs Q E hr h => ?_)
  · obtain ⟨a, k, xs, rfl, _⟩ := h; rfl
  · obtain ⟨a, k, xs, rfl, hx, q⟩ := h
    refine ⟨_, pss_one (ps_ret (pe_callB call_isiT (by rfl) T.z_isinstance bt_isinstance (pa_cons (pv 0) (pa_cons (pe_tup (pa_cons (pe_bltn (v := .ty "list") (by rfl) T.z_list bt_list rfl) (pa_cons (pe_bltn (v := .ty "tuple") (by rfl) T.z_tuple bt_tuple rfl) pa_nil))) pa_nil)))), ?_⟩
    refine ⟨_, rfl, (by show 2 ≤ sizeLine; decide), fun tp htp => ?_⟩
    have s1 : Same H (upd H tp (.tup [.ty "list", .ty "tuple"])) := same_new htp
    cases k
    · exact ⟨_, tp, _, _, _, true, rfl, upd_same, .cons (.ty _) (.cons (.ty _) .nil), ty_T (SqT.same s1 hx), any_TT K, q _ s1⟩
    · exact ⟨_, tp, _, _, _, true, rfl, upd_same, .cons (.ty _) (.cons (.ty _) .nil), ty_L (s1.seq hx), any_LT K, q _ s1⟩
def spRowOf (K : PySem.W.Frag) : Sp := fun vs H Q _ => ∃ (a : Addr) (k : Bool) (xs : List V) (lo hi : Int), vs = [.ref a, .int lo, .int hi] ∧ Sqk K k H a xs ∧ ∀ H', Same H H' → Q (.bl (decide (lo ≤ (xs.length : Int) ∧ (xs.length : Int) ≤ hi))) H'
theorem ok_is_row_of (T : Tx K mg) : FnOk P w K mg base CX0 2 T.is_row_of.f T.is_row_of.d ["value", "least", "most"] (spRowOf K) := by
  refine T.is_row_of.F.ok sc_is_row_of (fun vs H Q E h => ?_) (fun cdv A outer s H vs Q E hr h => ?_)
  · obtain ⟨a, k, xs, lo, hi, rfl, _⟩ := h; rfl
  · obtain ⟨a, k, xs, lo, hi, rfl, hx, q⟩ := h
    refine ⟨_, pss_one (ps_ret (pe_and (pcall T.is_row (ok_is_row T) hr (pa_cons (pv 0) pa_nil)) (pe_one (pe_chain op_le op_le (pv 1) (pe_callB call_len_seq (by rfl) T.z_len bt_len (pa_cons (pv 0) pa_nil)) (pv 2))))), ?_⟩
    refine ⟨_, rfl, a, k, xs, rfl, hx, fun H1 s1 => ⟨true, rfl, iteT ?_⟩⟩
    have q := q _ s1
    refine ⟨_, rfl, _, rfl, a, xs, rfl, (hx.same s1).either, _, _, rfl, rfl, _, rfl, ?_⟩
    by_cases h1 : lo ≤ (xs.length : Int)
    · rw [decide_eq_true h1]
      refine iteT ⟨_, rfl, _, _, rfl, rfl, ?_⟩
      have e : decide (lo ≤ (xs.length : Int) ∧ (xs.length : Int) ≤ hi) = decide ((xs.length : Int) ≤ hi) := by simp [h1]
      rw [e] at q; exact q
    · rw [decide_eq_false h1]
      refine iteF ?_
      have e : decide (lo ≤ (xs.length : Int) ∧ (xs.length : Int) ≤ hi) = false := by simp [h1]
      rw [e] at q; exact q
def spName : Sp := fun vs H Q _ => ∃ z : Str, vs = [.str z] ∧ NameOk z ∧ ∀ H', Same H H' → Q (.bl true) H'
theorem ok_is_name (T : Tx K mg) : FnOk P w K mg base CX0 1 T.is_name.f T.is_name.d ["value"] spName := by
  refine T.is_name.F.ok sc_is_name (fun vs H Q E h => ?_) (fun cdv A outer s H vs Q E hr h => ?_)
  · obtain ⟨z, rfl, _⟩ := h; rfl
  · obtain ⟨z, rfl, hz, q⟩ := h
    obtain ⟨tL, gL⟩ := T.c_LETTERS
    obtain ⟨tN, gN⟩ := T.c_LONGEST_NAME
    refine ⟨_, pss_cons (ps_if (PW.pt (pw_or (pt_not (pt_val (pe_callB call_isi (by rfl) T.z_isinstance bt_isinstance (pa_cons (pv 0) (pa_cons (pe_bltn (v := .ty "str") (by rfl) T.z_str bt_str rfl) pa_nil)))))
        (pw_or1 (pt_not (pt_chain op_le op_le pe_int (pe_callB call_len (by rfl) T.z_len bt_len (pa_cons (pv 0) pa_nil)) (pe_glob (v := .int 8) (by rfl) gN ⟨tN, rfl⟩)))))) (pss_one (ps_ret pe_bl)) pss_nil)
      (pss_one (ps_ret (pe_callB (cr_all rfl) (by rfl) T.z_all bt_all (pa_cons (pe_lc (own := [("letter", 1)]) (g := gName 1) (tt := tYes) rfl sc_is_name.nd (pi_str (pv 0)) (blkOk_by (own := [("letter", 1)]) (N := ["value", "letter"]) (sc := defScope s_is_name) (by decide +kernel))
        (fun _ _ _ _ _ => pg_name (i := 1) sc_is_name.nd rfl (Or.inl rfl)) (fun _ _ _ _ _ => pts_nil) (fun _ _ _ _ _ => pe_cmpR op_in_sign (pv 1) (pe_glob (v := .str (Str.ofString "abcdefghijklmnopqrstuvwxyz")) (by rfl) gL ⟨tL, rfl⟩) (by rfl))) pa_nil)))), ?_⟩
    -- isinstance(value, str); 1 <= len(value) <= LONGEST_NAME
    refine ⟨_, rfl, _, _, _, _, true, rfl, .ty _, .base (.str _), kit_ty ki_str_str, true, rfl, iteF ?_⟩
    obtain ⟨z1, z8, zc⟩ := hz
    refine ⟨_, rfl, _, z.length, rfl, ⟨by rw [sizeLine_eq]; omega, rfl⟩, _, _, rfl, rfl, true, ?_, iteT ⟨_, _, rfl, rfl, true, ?_, iteF ?_⟩⟩
    · exact congrArg V.bl (decide_eq_true (by omega))
    · exact congrArg V.bl (decide_eq_true (by omega))
    -- all([letter in LETTERS for letter in value])
    refine ⟨_, rfl, z, rfl, fun D hD => lc_it walk_str (fun i H' => Same H H' ∧ H' D = some (.lst ((List.replicate i true).map V.bl))) ⟨same_new hD, upd_same⟩ (fun _ _ _ _ => trivial) ?_ ?_⟩
    · rintro i x H1 H' hi ⟨s1, h1⟩ ⟨rfl, c, hc, rfl⟩
      have hm : c ∈ z.cps.toList := by
        have := Array.getElem?_eq_some_iff.mp hc
        obtain ⟨hl, e⟩ := this
        rw [← e]; exact Array.getElem_mem_toList hl
      refine ⟨rfl, _, rfl, c, _, rfl, rfl, _, h1, ?_, ?_, ?_⟩
      · have : z.cps.size = z.length := rfl
        rw [List.length_map, List.length_replicate, sizeLine_eq]; omega
      · intro b o e
        rw [upd_ne (ne_of_none (by exact e) hD)]
        exact s1 b o e
      · rw [upd_same, decide_eq_true (letters_mem (zc c hm)), List.replicate_succ', List.map_append]
        rfl
    · rintro H1 ⟨s1, h1⟩
      refine ⟨D, List.replicate z.cps.size true, rfl, SqL.of h1, ?_⟩
      have e : (List.replicate z.cps.size true).all id = true := by
        rw [List.all_eq_true]
        intro x hx
        rw [List.eq_of_mem_replicate hx]; rfl
      rw [e]
      exact q _ s1
end
end Tw
/-! ## Tw5: kinds, the checks of their parts -/
namespace Tw
open PySem L2
/-! ### what a right kind is -/
def AnOk (res states : Int) (a : An) : Prop := 0 ≤ a.1 ∧ a.1 < res ∧ 0 ≤ a.2 ∧ a.2 < states
def ltA (a b : An) : Prop := a.1 < b.1 ∨ (a.1 = b.1 ∧ a.2 < b.2)
structure CellOk (res states : Int) (c : Cell) : Prop where
  an : ∀ a ∈ c, AnOk res states a
  up : c.Pairwise ltA
  few : c.length ≤ 8
structure RowOk (args res states : Int) (r : Row) : Prop where
  len : (r.length : Int) = args
  cells : ∀ c ∈ r, CellOk res states c
structure MethOk (states : Int) (m : Meth) : Prop where
  a1 : 1 ≤ m.args
  a4 : m.args ≤ 4
  r1 : 1 ≤ m.res
  r4 : m.res ≤ 4
  len : (m.rows.length : Int) = states
  rows : ∀ r ∈ m.rows, RowOk m.args m.res states r
theorem ltA_ne {a b : An} (h : ltA a b) : a ≠ b := by
  rintro rfl
  rcases h with h | ⟨_, h⟩ <;> omega
theorem map_get {α : Type} {f : α → PyData} {l : List α} {i : Nat} {d : PyData} (h : (l.map f)[i]? = some d) : ∃ a, l[i]? = some a ∧ d = f a := by
  rw [List.getElem?_map] at h
  cases e : l[i]? with
  | none => rw [e] at h; cases h
  | some a => rw [e] at h; exact ⟨a, rfl, (Option.some.inj h).symm⟩
theorem mem_of_get {α : Type} {l : List α} {i : Nat} {a : α} (h : l[i]? = some a) : a ∈ l := List.mem_of_getElem? h
theorem hu65 {k : Nat} {A : Around} (r : Room k A) : A.units + 65 < cLine := by have := r.un; omega

section
variable {P : Program} {w : World} {K : PySem.W.Frag} {mg : Str → Option Value} {base : Heap}
def spAnswers (K : PySem.W.Frag) : Sp := fun vs H Q _ => ∃ (v : V) (k : Bool) (c : Cell) (res states : Int), vs = [v, .int res, .int states] ∧ Dp K H v (cellD k c) ∧ CellOk res states c ∧ ∀ H', Same H H' → Q (.bl true) H'
theorem ok_are_answers (T : Tx K mg) : FnOk P w K mg base CX0 3 T.are_answers.f T.are_answers.d ["value", "results", "states"] (spAnswers K) := by
  refine T.are_answers.F.ok sc_are_answers (fun vs H Q E h => ?_) (fun cdv A outer s H vs Q E hr h => ?_)
  · obtain ⟨v, k, c, res, states, rfl, _⟩ := h; rfl
  · obtain ⟨v, k, c, res, states, rfl, hd, hc, q⟩ := h
    obtain ⟨a, xs, rfl, hx, hds⟩ := Dp.sq_inv hd
    have hlen : xs.length = c.length := by rw [DpAll.length hds, List.length_map]
    obtain ⟨tM, gM⟩ := T.c_MOST_ANSWERS
    have nd := sc_are_answers.nd
    refine ⟨_, pss_cons (ps_if (pt_not (pt_val (pcall T.is_row_of (ok_is_row_of T) hr (pa_cons (pv 0) (pa_cons pe_int (pa_cons (pe_glob (v := .int 8) (by rfl) gM ⟨tM, rfl⟩) pa_nil)))))) (pss_one (ps_ret pe_bl)) pss_nil)
      (pss_cons (ps_set (i := 3) nd rfl (Or.inl rfl) (pe_lst pa_nil))
      (pss_cons (ps_for PassesOwn.never rfl (pi_sq k (pv 0)) (pg_name (i := 4) nd rfl (Or.inl rfl))
        (pss_cons (ps_if (pt_not (pt_val (pcall T.is_row_of (ok_is_row_of T) hr (pa_cons (pv 4) (pa_cons pe_int (pa_cons pe_int pa_nil)))))) (pss_one (ps_ret pe_bl)) pss_nil)
        (pss_cons (ps_if (PW.pt (pw_or (pt_not (pt_val (pcall T.is_between (ok_is_between T) hr (pa_cons (pe_ix ix_tup (pv 4) pe_int (fun _ _ => rfl)) (pa_cons pe_int (pa_cons (pe_op op_sub (pv 1) pe_int) pa_nil))))))
            (pw_or1 (pt_not (pt_val (pcall T.is_between (ok_is_between T) hr (pa_cons (pe_ix ix_tup (pv 4) pe_int (fun _ _ => rfl)) (pa_cons pe_int (pa_cons (pe_op op_sub (pv 2) pe_int) pa_nil))))))))) (pss_one (ps_ret pe_bl)) pss_nil)
        (pss_cons (ps_if (pt_cmpR (op_inD (hu65 hr)) (pe_callTy call_tuple_of (by rfl) T.z_tuple bt_tuple (pa_cons (pv 4) pa_nil)) (pv 3) (by rfl)) (pss_one (ps_ret pe_bl)) pss_nil)
        (pss_one (ps_expr (pe_bm PySem.F.plainAttrs_list PySem.F.slot_list_append PySem.F.type_list_append mt_append (pv 3) (pa_cons (pe_callTy call_tuple_of (by rfl) T.z_tuple bt_tuple (pa_cons (pv 4) pa_nil)) pa_nil)))))))
      )
      (pss_one (ps_ret pe_bl)))), ?_⟩
    -- if not is_row_of(value, 0, MOST_ANSWERS)
    refine ⟨_, rfl, a, k, xs, 0, 8, rfl, hx, fun H1 s1 => ⟨true, ?_, iteF ?_⟩⟩
    · have := hc.few
      exact congrArg V.bl (decide_eq_true (by omega))
    -- met = []
    refine ⟨Nat.zero_le _, fun l hl => ?_⟩
    have l0 : H l = none := s1.free hl
    refine for_sq (K := K) (k := k) (a := a) (xs := xs) rfl (fun i σ H' => ∃ y, σ = [some (.ref a), some (.int res), some (.int states), some (.ref l), y] ∧ Same H H' ∧ H' l = some (.lst (xs.take i)))
      ⟨none, rfl, same_at s1 l0, upd_same⟩ (fun i σ H' _ ⟨_, _, s2, _⟩ => hx.same s2) ?_ ?_
    · rintro i x σ H2 hi ⟨y, rfl, s2, h2⟩
      obtain ⟨d, hd1, hd2⟩ := DpAll.get hds hi
      obtain ⟨b, hb, rfl⟩ := map_get hd1
      obtain ⟨t, rfl, ht⟩ := an_inv hd2
      have hbo := hc.an b (mem_of_get hb)
      -- if not is_row_of(answer, 2, 2)
      refine ⟨_, rfl, t, false, _, 2, 2, rfl, SqT.same s2 ht, fun H3 s3 => ⟨true, rfl, iteF ?_⟩⟩
      have s23 := s2.trans s3
      -- if not is_between(answer[0], 0, results - 1) or ..
      refine ⟨_, rfl, _, _, _, _, rfl, rfl, SqT.same s23 ht, rfl, _, rfl, _, _, rfl, rfl, b.1, 0, res - 1, rfl, true, ?_, iteF ?_⟩
      · exact congrArg V.bl (decide_eq_true ⟨hbo.1, by have := hbo.2.1; omega⟩)
      refine ⟨_, rfl, _, _, _, _, rfl, rfl, SqT.same s23 ht, rfl, _, rfl, _, _, rfl, rfl, b.2, 0, states - 1, rfl, true, ?_, iteF ?_⟩
      · exact congrArg V.bl (decide_eq_true ⟨hbo.2.2.1, by have := hbo.2.2.2; omega⟩)
      -- if tuple(answer) in met
      have h3 := s3 _ _ h2
      refine ⟨_, rfl, t, _, rfl, .inr ⟨SqT.same s23 ht, ?_⟩⟩
      have dmet : Dp K H3 (.ref l) (.list ((c.take i).map anD)) := by
        refine .lst (SqL.of h3) ?_
        rw [List.map_take]
        exact DpAll.same s23 _ _ (DpAll.take i hds)
      refine ⟨_, rfl, _, _, Dp.same s23 _ _ hd2, dmet, shaped_an b, shaped_ans _, false, ?_, iteF ?_⟩
      · refine congrArg V.bl ?_
        rw [List.any_eq_false]
        intro z hz
        obtain ⟨e, he, rfl⟩ := List.mem_map.mp hz
        rw [eqv_an]
        obtain ⟨j, hj, ej⟩ := List.getElem_of_mem he
        have hji : j < i ∧ j < c.length := by
          rw [List.length_take] at hj; omega
        have hil : i < c.length := (List.getElem?_eq_some_iff.mp hb).1
        have e1 : c[j] = e := by rw [← ej, List.getElem_take]
        have e2 : c[i] = b := (List.getElem?_eq_some_iff.mp hb).2
        have lt := List.pairwise_iff_getElem.mp hc.up j i hji.2 hil hji.1
        rw [e1, e2] at lt
        simpa using ltA_ne lt
      -- met.append(tuple(answer))
      refine ⟨_, rfl, .inl ⟨rfl, _, SqL.of h3⟩, _, rfl, t, _, rfl, .inr ⟨SqT.same s23 ht, ?_⟩⟩
      refine ⟨l, _, _, rfl, rfl, h3, ?_, ?_⟩
      · have := hc.few
        rw [List.length_take, sizeLine_eq]; omega
      · refine ⟨_, rfl, same_at s23 l0, ?_⟩
        rw [upd_same, List.take_add_one, hi]
        rfl
    · rintro σ H2 ⟨y, rfl, s2, _⟩
      exact q _ s2
end
end Tw
/-! ## Tw6: kinds, their methods checked and put in order -/
namespace Tw
open PySem L2
section
variable {P : Program} {w : World} {K : PySem.W.Frag} {mg : Str → Option Value} {base : Heap}
def spMethod (K : PySem.W.Frag) : Sp := fun vs H Q _ => ∃ (v : V) (k : Bool) (m : Meth) (states : Int), vs = [v, .int states] ∧ Dp K H v (methD k m) ∧ MethOk states m ∧ ∀ H', Same H H' → Q (.bl true) H'
theorem all_true {n : Nat} : (List.replicate n true).all id = true := by
  rw [List.all_eq_true]
  intro x hx
  rw [List.eq_of_mem_replicate hx]; rfl
theorem ok_is_method (T : Tx K mg) : FnOk P w K mg base CX0 4 T.is_method.f T.is_method.d ["value", "states"] (spMethod K) := by
  refine T.is_method.F.ok sc_is_method (fun vs H Q E h => ?_) (fun cdv A outer s H vs Q E hr h => ?_)
  · obtain ⟨v, k, m, states, rfl, _⟩ := h; rfl
  · obtain ⟨v, k, m, states, rfl, hd, hm, q⟩ := h
    obtain ⟨t, r, rfl, ht, hrows⟩ := meth_inv hd
    obtain ⟨a, xs, rfl, hx, hds⟩ := Dp.sq_inv hrows
    have hlen : xs.length = m.rows.length := by rw [DpAll.length hds, List.length_map]
    obtain ⟨tV, gV⟩ := T.c_MOST_VALUES
    have nd := sc_is_method.nd
    refine ⟨_, pss_cons (ps_if (pt_not (pt_val (pcall T.is_row_of (ok_is_row_of T) hr (pa_cons (pv 0) (pa_cons pe_int (pa_cons pe_int pa_nil)))))) (pss_one (ps_ret pe_bl)) pss_nil)
      (pss_cons (ps_asg (pv 0) (pg_tup (by rfl) (pgs_cons (pg_name (i := 2) nd rfl (Or.inl rfl)) (pgs_cons (pg_name (i := 3) nd rfl (Or.inr rfl)) (pgs_cons (pg_name (i := 4) nd rfl (Or.inl rfl)) pgs_nil)))))
      (pss_cons (ps_if (PW.pt (pw_or (pt_not (pt_val (pcall T.is_between (ok_is_between T) hr (pa_cons (pv 2) (pa_cons pe_int (pa_cons (pe_glob (v := .int 4) (by rfl) gV ⟨tV, rfl⟩) pa_nil))))))
          (pw_or1 (pt_not (pt_val (pcall T.is_between (ok_is_between T) hr (pa_cons (pv 3) (pa_cons pe_int (pa_cons (pe_glob (v := .int 4) (by rfl) gV ⟨tV, rfl⟩) pa_nil))))))))) (pss_one (ps_ret pe_bl)) pss_nil)
      (pss_cons (ps_if (pt_not (pt_val (pcall T.is_row_of (ok_is_row_of T) hr (pa_cons (pv 4) (pa_cons (pv 1) (pa_cons (pv 1) pa_nil)))))) (pss_one (ps_ret pe_bl)) pss_nil)
      (pss_cons (ps_for PassesOwn.never rfl (pi_sq k (pv 4)) (pg_name (i := 5) nd rfl (Or.inl rfl))
        (pss_cons (ps_if (pt_not (pt_val (pcall T.is_row_of (ok_is_row_of T) hr (pa_cons (pv 5) (pa_cons (pv 2) (pa_cons (pv 2) pa_nil)))))) (pss_one (ps_ret pe_bl)) pss_nil)
        (pss_one (ps_if (pt_not (pt_val (pe_callB (cr_all rfl) (by rfl) T.z_all bt_all (pa_cons (pe_lc (own := [("answers", 6)]) (g := gName 6) (tt := tYes) rfl nd (pi_sq k (pv 5))
            (blkOk_by (own := [("answers", 6)]) (N := ["value", "states", "arguments", "results", "rows", "row", "answers"]) (sc := defScope s_is_method) (by decide +kernel))
            (fun _ _ _ _ _ => pg_name (i := 6) nd rfl (Or.inl rfl)) (fun _ _ _ _ _ => pts_nil) (fun _ _ _ _ _ => pcall T.are_answers (ok_are_answers T) hr (pa_cons (pv 6) (pa_cons (pv 3) (pa_cons (pv 1) pa_nil))))) pa_nil)))) (pss_one (ps_ret pe_bl)) pss_nil))))
      (pss_one (ps_ret pe_bl)))))), ?_⟩
    -- if not is_row_of(value, 3, 3); arguments, results, rows = value
    refine ⟨_, rfl, t, false, _, 3, 3, rfl, ht, fun H1 s1 => ⟨true, rfl, iteF ?_⟩⟩
    refine ⟨_, rfl, t, _, rfl, SqT.same s1 ht, rfl, _, _, rfl, _, _, rfl, _, _, rfl, rfl, ?_⟩
    -- the numbers
    refine ⟨_, rfl, m.args, 1, 4, rfl, true, congrArg V.bl (decide_eq_true ⟨hm.a1, hm.a4⟩), iteF ?_⟩
    refine ⟨_, rfl, m.res, 1, 4, rfl, true, congrArg V.bl (decide_eq_true ⟨hm.r1, hm.r4⟩), iteF ?_⟩
    refine ⟨_, rfl, _, rfl, _, rfl, a, k, xs, states, states, rfl, hx.same s1, fun H2 s2 => ⟨true, ?_, iteF ?_⟩⟩
    · have := hm.len
      exact congrArg V.bl (decide_eq_true (by rw [hlen]; omega))
    have s12 := s1.trans s2
    -- for row in rows
    refine for_sq (K := K) (k := k) (a := a) (xs := xs) rfl (fun i σ H' => ∃ y z, σ = [some (.ref t), some (.int states), some (.int m.args), some (.int m.res), some (.ref a), y, z] ∧ Same H H')
      ⟨none, none, rfl, s12⟩ (fun i σ H' _ ⟨_, _, _, s3⟩ => hx.same s3) ?_ ?_
    · rintro i x σ H3 hi ⟨y, z, rfl, s3⟩
      obtain ⟨d, hd1, hd2⟩ := DpAll.get hds hi
      obtain ⟨row, hrow, rfl⟩ := map_get hd1
      obtain ⟨b, ys, rfl, hy, hes⟩ := Dp.sq_inv hd2
      have hylen : ys.length = row.length := by rw [DpAll.length hes, List.length_map]
      have hro := hm.rows row (mem_of_get hrow)
      refine ⟨_, rfl, _, rfl, _, rfl, b, k, ys, m.args, m.args, rfl, hy.same s3, fun H4 s4 => ⟨true, ?_, iteF ?_⟩⟩
      · have := hro.len
        exact congrArg V.bl (decide_eq_true (by rw [hylen]; omega))
      have s34 := s3.trans s4
      dsimp only [tNext, tIfS, tNot, tB, tCB, tCons]
      refine lc_sq (K := K) (k := k) (a := b) (xs := ys) rfl (hy.same s34) fun D hD => ⟨fun j H' => Same H4 H' ∧ H' D = some (.lst ((List.replicate j true).map V.bl)), ⟨same_new hD, upd_same⟩, fun j H' _ ⟨s5, _⟩ => hy.same (s34.trans s5), ?_, ?_⟩
      · rintro j u H5 hj ⟨s5, h5⟩
        obtain ⟨d', he1, he2⟩ := DpAll.get hes hj
        obtain ⟨cell, hcell, rfl⟩ := map_get he1
        refine ⟨rfl, ?_⟩
        refine ⟨_, rfl, _, rfl, _, rfl, u, k, cell, m.res, states, rfl, Dp.same (s34.trans s5) _ _ he2, hro.cells cell (mem_of_get hcell), fun H6 s6 => ?_⟩
        refine ⟨_, s6 _ _ h5, ?_, same_at (s5.trans s6) hD, ?_⟩
        · have : j < ys.length := (List.getElem?_eq_some_iff.mp hj).1
          have := hro.len
          have := hm.a4
          rw [List.length_map, List.length_replicate, sizeLine_eq]; omega
        · rw [upd_same, List.replicate_succ', List.map_append]; rfl
      · rintro H5 ⟨s5, h5⟩
        refine ⟨D, List.replicate ys.length true, rfl, SqL.of h5, true, ?_, iteF ?_⟩
        · rw [all_true]
        · exact ⟨_, _, rfl, s34.trans s5⟩
    · rintro σ H3 ⟨y, z, rfl, s3⟩
      exact q _ s3

/-! ### a dict of methods checked -/
def spMethods (K : PySem.W.Frag) : Sp := fun vs H Q _ => ∃ (a : Addr) (k : Bool) (ms : List (Str × Meth)) (states : Int), vs = [.ref a, .int states] ∧ DictAt K H k a ms ∧ 1 ≤ ms.length ∧ ms.length ≤ 4 ∧ (ms.map (·.1)).Nodup ∧
  (∀ p ∈ ms, NameOk p.1 ∧ MethOk states p.2) ∧ ∀ H', Same H H' → Q (.bl true) H'
theorem paired_get {α β : Type} {F : α → β → Prop} : ∀ {l : List α} {m : List β} {i : Nat} {x : α}, Paired F l m → l[i]? = some x → ∃ y, m[i]? = some y ∧ F x y
  | _, _, _, _, .nil, e => by simp at e
  | _, _, 0, _, .cons r _, e => by simp at e; subst e; exact ⟨_, rfl, r⟩
  | _, _, i + 1, x, .cons _ t, e => by
    obtain ⟨d, h1, h2⟩ := paired_get (i := i) (x := x) t (by simpa using e)
    exact ⟨d, by simpa using h1, h2⟩
theorem valV_mem {kvs : List (Key × V)} {x : Key} {v : V} : ∀ {kvs : List (Key × V)}, (kvs.map (·.1)).Nodup → (x, v) ∈ kvs → valV kvs x = some v
  | [], _, h => by cases h
  | p :: r, hn, h => by
    have hn : (p.1 :: r.map (·.1)).Nodup := hn
    obtain ⟨h1, h2⟩ := List.nodup_cons.mp hn
    rcases List.mem_cons.mp h with e | h
    · rw [← e]; exact valV_pos rfl
    · rw [valV_neg fun e => h1 (by rw [e]; exact List.mem_map.mpr ⟨(x, v), h, rfl⟩)]
      exact valV_mem (kvs := []) h2 h
theorem nodup_inr {l : List Str} (h : l.Nodup) : (l.map (Sum.inr : Str → Key)).Nodup := by
  rw [List.nodup_iff_pairwise_ne] at *
  rw [List.pairwise_map]
  exact h.imp fun hne e => hne (Sum.inr.inj e)
theorem ok_are_methods (T : Tx K mg) : FnOk P w K mg base CX0 5 T.are_methods.f T.are_methods.d ["value", "states"] (spMethods K) := by
  refine T.are_methods.F.ok sc_are_methods (fun vs H Q E h => ?_) (fun cdv A outer s H vs Q E hr h => ?_)
  · obtain ⟨a, k, ms, states, rfl, _⟩ := h; rfl
  · obtain ⟨a, k, ms, states, rfl, ⟨kvs, ea, hms⟩, h1, h4, hnd, hok, q⟩ := h
    have hlen := hms.length
    obtain ⟨tM, gM⟩ := T.c_MOST_METHODS
    have nd := sc_are_methods.nd
    have hu := hu_of hr
    refine ⟨_, pss_cons (ps_if (PW.pt (pw_or (pt_not (pt_val (pe_callB call_isi (by rfl) T.z_isinstance bt_isinstance (pa_cons (pv 0) (pa_cons (pe_bltn (v := .ty "dict") (by rfl) T.z_dict bt_dict rfl) pa_nil)))))
        (pw_or1 (pt_not (pt_chain op_le op_le pe_int (pe_callB call_lenD (by rfl) T.z_len bt_len (pa_cons (pv 0) pa_nil)) (pe_glob (v := .int 4) (by rfl) gM ⟨tM, rfl⟩)))))) (pss_one (ps_ret pe_bl)) pss_nil)
      (pss_one (ps_ret (pe_callB (cr_all rfl) (by rfl) T.z_all bt_all (pa_cons (pe_lock (pe_lc (own := [("name", 2)]) (g := gName 2) (tt := tYes) rfl nd (pi_keys (pv 0)) (blkOk_by (own := [("name", 2)]) (N := ["value", "states", "name"]) (sc := defScope s_are_methods) (by decide +kernel))
        (fun _ _ _ _ _ => pg_name (i := 2) nd rfl (Or.inl rfl)) (fun _ _ _ _ _ => pts_nil) (fun _ _ _ _ _ => pe_and (pcall T.is_name (ok_is_name T) hr (pa_cons (pv 2) pa_nil)) (pe_one (pcall T.is_method (ok_is_method T) hr (pa_cons (pe_dget hu (pv 0) (pv 2) (fun _ _ => rfl)) (pa_cons (pv 1) pa_nil))))))) pa_nil)))), ?_⟩
    refine ⟨_, rfl, _, _, _, _, true, rfl, .ty _, .base (.dK ea), kit_ty ki_dict_dict, true, rfl, iteF ?_⟩
    refine ⟨_, rfl, a, kvs, rfl, ea, _, _, rfl, rfl, true, congrArg V.bl (decide_eq_true (by omega)), iteT ⟨_, _, rfl, rfl, true, congrArg V.bl (decide_eq_true (by omega)), iteF ?_⟩⟩
    refine ⟨a, .dK kvs, ea, trivial, fun od => ?_⟩
    have b0 : But a H (upd H a (.frz od (.dK kvs))) := But.at_
    refine ⟨_, rfl, a, od, rfl, .inl ⟨kvs, upd_same, fun D hD => lc_it walk_keys (fun i H' => Same (upd H a (.frz od (.dK kvs))) H' ∧ H' D = some (.lst ((List.replicate i true).map V.bl))) ⟨same_new hD, upd_same⟩ (fun i H' _ ⟨s1, _⟩ => s1 _ _ upd_same) ?_ ?_⟩⟩
    · rintro i x H1 H' hi ⟨s1, h1'⟩ ⟨rfl, kk, v, hkv, rfl⟩
      obtain ⟨p, hp, e1, e2⟩ := paired_get hms hkv
      have hpo := hok p (mem_of_get hp)
      have e1 : kk = Sum.inr p.1 := e1
      subst e1
      refine ⟨rfl, ?_⟩
      refine ⟨_, rfl, p.1, rfl, hpo.1, fun H2 s2 => ⟨true, rfl, iteT ?_⟩⟩
      have hv : valV kvs (Sum.inr p.1) = some v := valV_mem (kvs := []) (by rw [hms.keys]; exact nodup_inr hnd) (mem_of_get hkv)
      refine ⟨_, rfl, _, rfl, a, v, rfl, .inl ⟨kvs, Sum.inr p.1, .inr ⟨od, s2 _ _ (s1 _ _ upd_same)⟩, rfl, hv.symm⟩, ?_⟩
      refine ⟨_, rfl, v, k, p.2, states, rfl, Dp.same (s1.trans s2) _ _ (Dp.butI b0 ea trivial _ _ e2), hpo.2, fun H3 s3 => ?_⟩
      refine ⟨_, s3 _ _ (s2 _ _ h1'), ?_, same_at ((s1.trans s2).trans s3) hD, ?_⟩
      · rw [List.length_map, List.length_replicate, sizeLine_eq]; omega
      · rw [upd_same, List.replicate_succ', List.map_append]; rfl
    · rintro H1 ⟨s1, h1'⟩
      have hDa : D ≠ a := fun e => by rw [e, upd_same] at hD; cases hD
      refine ⟨s1 _ _ upd_same, D, List.replicate kvs.length true, rfl, SqL.of ?_, ?_⟩
      · rw [upd_ne hDa]; exact h1'
      · rw [all_true]
        refine q _ fun b o e => ?_
        by_cases hb : b = a
        · subst hb; rw [upd_same]; rw [ea] at e; exact e
        · rw [upd_ne hb]; exact s1 _ _ (by rw [upd_ne hb]; exact e)
end
end Tw
/-! ## Tw7: kinds, their methods put in order -/
namespace Tw
open PySem L2
/-! ### sorted lists are one -/
theorem sorted_unique {α : Type} (key : α → Int) : ∀ {l m : List α}, l.Perm m → l.Pairwise (fun a b => key a ≤ key b) → m.Pairwise (fun a b => key a < key b) → l = m
  | l, [], p, _, _ => p.eq_nil
  | [], y :: m, p, _, _ => absurd p.symm.eq_nil (by simp)
  | x :: l, y :: m, p, h1, h2 => by
    have hx : x ∈ y :: m := p.mem_iff.mp List.mem_cons_self
    have hy : y ∈ x :: l := p.mem_iff.mpr List.mem_cons_self
    obtain ⟨a1, a2⟩ := List.pairwise_cons.mp h1
    obtain ⟨b1, b2⟩ := List.pairwise_cons.mp h2
    have e : x = y := by
      rcases List.mem_cons.mp hx with e | hx
      · exact e
      · rcases List.mem_cons.mp hy with e | hy
        · exact e.symm
        · have q1 := b1 x hx
          have q2 := a1 y hy
          omega
    subst e
    rw [sorted_unique key p.cons_inv a2 b2]
theorem paired_perm {α β : Type} {F : α → β → Prop} {xs ys : List α} (p : ys.Perm xs) : ∀ {ds : List β}, Paired F xs ds → ∃ es, es.Perm ds ∧ Paired F ys es := by
  induction p with
  | nil => intro ds h; exact ⟨ds, .refl _, h⟩
  | cons x _ ih =>
    intro ds h
    cases h with
    | cons h1 h2 =>
      obtain ⟨es, p, e⟩ := ih h2
      exact ⟨_ :: es, p.cons _, .cons h1 e⟩
  | swap x y l =>
    intro ds h
    cases h with
    | cons h1 h2 =>
      cases h2 with
      | cons h2 h3 => exact ⟨_ :: _ :: _, List.Perm.swap .., .cons h2 (.cons h1 h3)⟩
  | trans _ _ ih1 ih2 =>
    intro ds h
    obtain ⟨es, p, e⟩ := ih2 h
    obtain ⟨fs, q, f⟩ := ih1 e
    exact ⟨fs, q.trans p, f⟩
theorem DpAll.paired {α : Type} {K : PySem.W.Frag} {H : Hp} {f : α → PyData} : ∀ {xs : List V} {l : List α}, DpAll K H xs (l.map f) → Paired (fun v a => Dp K H v (f a)) xs l
  | _, [], h => by cases h; exact .nil
  | _, a :: l, h => by
    cases h with
    | cons h1 h2 => exact .cons h1 (DpAll.paired h2)
theorem DpAll.of_paired {α : Type} {K : PySem.W.Frag} {H : Hp} {f : α → PyData} : ∀ {xs : List V} {l : List α}, Paired (fun v a => Dp K H v (f a)) xs l → DpAll K H xs (l.map f)
  | _, _, .nil => .nil
  | _, _, .cons h1 h2 => .cons h1 (DpAll.of_paired h2)
theorem paired_both {α β : Type} {F : α → β → Prop} : ∀ {l : List α} {m : List β} {i : Nat} (h : Paired F l m) (h1 : i < l.length) (h2 : i < m.length), F l[i] m[i]
  | _, _, _, .nil, h1, _ => by simp at h1
  | _, _, 0, .cons r _, _, _ => r
  | _, _, i + 1, .cons _ t, h1, h2 => paired_both (i := i) t (by simpa using h1) (by simpa using h2)
theorem paired_len {α β : Type} {F : α → β → Prop} : ∀ {l : List α} {m : List β}, Paired F l m → l.length = m.length
  | _, _, .nil => rfl
  | _, _, .cons _ t => by rw [List.length_cons, List.length_cons, paired_len t]
def keyA (a : An) : Int := a.1 * 64 + a.2
/-- sorted of a list of answers that stand in order -/
theorem sort_cell {K : PySem.W.Frag} {H : Hp} {xs ys : List V} {c : Cell} (hd : DpAll K H xs (c.map anD)) (hb : ∀ a ∈ c, AnOk 64 64 a) (up : c.Pairwise ltA) (p : ys.Perm xs)
    (hs : ys.Pairwise (fun x y => ∀ n m, TupI K H x n → TupI K H y m → TS.code 64 n ≤ TS.code 64 m)) : DpAll K H ys (c.map anD) := by
  obtain ⟨es, pe, he⟩ := paired_perm p (DpAll.paired hd)
  have hl := paired_len he
  have e : es = c := by
    refine sorted_unique keyA pe ?_ ?_
    · rw [List.pairwise_iff_getElem] at hs ⊢
      intro i j h1 h2 hij
      have q := hs i j (by omega) (by omega) hij
      have d1 := paired_both (i := i) he (by omega) h1
      have d2 := paired_both (i := j) he (by omega) h2
      obtain ⟨t1, e1, k1⟩ := an_inv d1
      obtain ⟨t2, e2, k2⟩ := an_inv d2
      have q := q [es[i].1, es[i].2] [es[j].1, es[j].2] ⟨t1, e1, k1⟩ ⟨t2, e2, k2⟩
      rw [code_pair, code_pair] at q
      exact q
    · refine up.imp_of_mem fun {a b} ha hb' h => ?_
      have h1 := hb a ha
      have h2 := hb b hb'
      obtain ⟨p1, p2, p3, p4⟩ := h1
      obtain ⟨q1, q2, q3, q4⟩ := h2
      show a.1 * 64 + a.2 < b.1 * 64 + b.2
      rcases h with h | ⟨h, h'⟩ <;> omega
  rw [e] at he
  exact DpAll.of_paired he
theorem bd_an {a : An} (h : AnOk 64 64 a) : TS.Bd 64 [a.1, a.2] := by
  obtain ⟨p1, p2, p3, p4⟩ := h
  intro n hn
  rcases List.mem_cons.mp hn with e | hn
  · rw [e]; exact ⟨p1, p2⟩
  · rw [List.mem_singleton.mp hn]; exact ⟨p3, p4⟩

section
variable {P : Program} {w : World} {K : PySem.W.Frag} {mg : Str → Option Value} {base : Heap}
def spOrdered (K : PySem.W.Frag) : Sp := fun vs H Q _ => ∃ (v : V) (k : Bool) (m : Meth) (states : Int), vs = [v] ∧ Dp K H v (methD k m) ∧ MethOk states m ∧ states ≤ 8 ∧ ∀ H' p, Same H H' → Dp K H' (.ref p) (methD false m) → Q (.ref p) H'
theorem ok_ordered_method (T : Tx K mg) : FnOk P w K mg base CX0 1 T.ordered_method.f T.ordered_method.d ["value"] (spOrdered K) := by
  refine T.ordered_method.F.ok sc_ordered_method (fun vs H Q E h => ?_) (fun cdv A outer s H vs Q E hr h => ?_)
  · obtain ⟨v, k, m, states, rfl, _⟩ := h; rfl
  · obtain ⟨v, k, m, states, rfl, hd, hm, hs8, q⟩ := h
    obtain ⟨t, r, rfl, ht, hrows⟩ := meth_inv hd
    obtain ⟨a, xs, rfl, hx, hds⟩ := Dp.sq_inv hrows
    have hlen : xs.length = m.rows.length := by rw [DpAll.length hds, List.length_map]
    have nd := sc_ordered_method.nd
    refine ⟨_, pss_cons (ps_asg (pv 0) (pg_tup (by rfl) (pgs_cons (pg_name (i := 1) nd rfl (Or.inl rfl)) (pgs_cons (pg_name (i := 2) nd rfl (Or.inl rfl)) (pgs_cons (pg_name (i := 3) nd rfl (Or.inl rfl)) pgs_nil)))))
      (pss_cons (ps_set (i := 4) nd rfl (Or.inl rfl) (pe_lst pa_nil))
      (pss_cons (ps_for PassesOwn.never rfl (pi_sq k (pv 3)) (pg_name (i := 5) nd rfl (Or.inl rfl))
        (pss_one (ps_expr (pe_bm PySem.F.plainAttrs_list PySem.F.slot_list_append PySem.F.type_list_append mt_append (pv 4) (pa_cons
          (pe_callTy (call_tuple_K K) (by rfl) T.z_tuple bt_tuple (pa_cons
            (pe_lc (own := [("answers", 6)]) (g := gName 6) (tt := tYes) rfl nd (pi_sqK K k (pv 5)) (blkOk_by (own := [("answers", 6)]) (N := ["value", "arguments", "results", "rows", "ordered", "row", "answers", "answer"]) (sc := defScope s_ordered_method) (by decide +kernel))
              (fun _ _ _ _ _ => pg_name (i := 6) nd rfl (Or.inl rfl)) (fun _ _ _ _ _ => pts_nil) (fun _ _ _ _ _ =>
                pe_callTy (call_tuple_K K) (by rfl) T.z_tuple bt_tuple (pa_cons (pe_callB (cr_sortT_K K) (by rfl) T.z_sorted bt_sorted (pa_cons
                  (pe_lc (own := [("answer", 7)]) (g := gName 7) (tt := tYes) rfl nd (pi_sqK K k (pv 6)) (blkOk_by (own := [("answer", 7)]) (N := ["value", "arguments", "results", "rows", "ordered", "row", "answers", "answer"])
                    (sc := { kind := .function, names := [(".0", .local), ("answers", .local), ("tuple", .globalImplicit), ("sorted", .globalImplicit)], isGenerator := false, isCoroutine := false, more := [] }) (by decide +kernel))
                    (fun _ _ _ _ _ => pg_name (i := 7) nd rfl (Or.inl rfl)) (fun _ _ _ _ _ => pts_nil) (fun _ _ _ _ _ => pe_callTy (call_tuple_K K) (by rfl) T.z_tuple bt_tuple (pa_cons (pv 7) pa_nil))) pa_nil)) pa_nil))) pa_nil)) pa_nil)))))
      (pss_one (ps_ret (pe_tup (pa_cons (pv 1) (pa_cons (pv 2) (pa_cons (pe_callTy (call_tuple_K K) (by rfl) T.z_tuple bt_tuple (pa_cons (pv 4) pa_nil)) pa_nil)))))))), ?_⟩
    -- arguments, results, rows = value; ordered = []
    refine ⟨_, rfl, t, _, rfl, ht, rfl, _, _, rfl, _, _, rfl, _, _, rfl, rfl, ?_⟩
    refine ⟨Nat.zero_le _, fun l hl => ?_⟩
    refine for_sq (K := K) (k := k) (a := a) (xs := xs) rfl (fun i σ H' => ∃ y z1 z2, σ = [some (.ref t), some (.int m.args), some (.int m.res), some (.ref a), some (.ref l), y, z1, z2] ∧ Same H H' ∧ ∃ rs, H' l = some (.lst rs) ∧ DpAll K H' rs ((m.rows.take i).map (rowD false)))
      ⟨none, none, none, rfl, same_new hl, [], upd_same, .nil⟩ (fun i σ H' _ ⟨_, _, _, _, s3, _⟩ => hx.same s3) ?_ ?_
    · rintro i x σ H1 hi ⟨y, z1, z2, rfl, s1, rs, h1, hrs⟩
      obtain ⟨d, hd1, hd2⟩ := DpAll.get hds hi
      obtain ⟨row, hrow, rfl⟩ := map_get hd1
      obtain ⟨b, ys, rfl, hy, hes⟩ := Dp.sq_inv hd2
      have hylen : ys.length = row.length := by rw [DpAll.length hes, List.length_map]
      have hro := hm.rows row (mem_of_get hrow)
      have hr4 := hro.len
      have ha4 := hm.a4
      refine ⟨_, rfl, .inl ⟨rfl, _, SqL.of h1⟩, ?_⟩
      dsimp only [tCons, tCB]
      refine lc_sq (K := K) (k := k) (a := b) (xs := ys) rfl (hy.same s1) fun D hD => ⟨fun j H' => Same H1 H' ∧ ∃ cs, H' D = some (.lst cs) ∧ DpAll K H' cs ((row.take j).map (cellD false)), ⟨same_new hD, [], upd_same, .nil⟩, fun j H' _ ⟨s2, _⟩ => hy.same (s1.trans s2), ?_, ?_⟩
      · -- tuple(sorted([tuple(answer) for answer in answers]))
        rintro j u H2 hj ⟨s2, cs, h2, hcs⟩
        obtain ⟨d', he1, he2⟩ := DpAll.get hes hj
        obtain ⟨cell, hcell, rfl⟩ := map_get he1
        have hco := hro.cells cell (mem_of_get hcell)
        have hbd : ∀ a ∈ cell, AnOk 64 64 a := fun a ha => by
          have z := hco.an a ha
          have z4 := hm.r4
          exact ⟨z.1, by have := z.2.1; omega, z.2.2.1, by have := z.2.2.2; omega⟩
        obtain ⟨c, us, rfl, hu, hus⟩ := Dp.sq_inv he2
        have hulen : us.length = cell.length := by rw [DpAll.length hus, List.length_map]
        have s12 := s1.trans s2
        refine ⟨rfl, ?_⟩
        dsimp only [tYes]
        refine iteT ?_
        dsimp only [tCons, tCB]
        refine lc_sq (K := K) (k := k) (a := c) (xs := us) rfl (hu.same s12) fun D2 hD2 => ⟨fun j' H' => Same H2 H' ∧ H' D2 = some (.lst (us.take j')), ⟨same_new hD2, upd_same⟩, fun j' H' _ ⟨s3, _⟩ => hu.same (s12.trans s3), ?_, ?_⟩
        · rintro j' x' H3 hj' ⟨s3, h3⟩
          obtain ⟨d'', hu1, hu2⟩ := DpAll.get hus hj'
          obtain ⟨an, han, rfl⟩ := map_get hu1
          obtain ⟨q', rfl, hq'⟩ := an_inv hu2
          refine ⟨rfl, ?_⟩
          refine ⟨_, rfl, q', _, rfl, .inr ⟨SqT.same (s12.trans s3) hq', _, h3, ?_, same_at s3 hD2, ?_⟩⟩
          · have := hco.few
            rw [List.length_take, sizeLine_eq]; omega
          · rw [upd_same, List.take_add_one, hj']; rfl
        · rintro H3 ⟨s3, h3⟩
          have hall : DpAll K H3 us (cell.map anD) := DpAll.same (s12.trans s3) _ _ hus
          rw [List.take_length] at h3
          refine ⟨D2, us, rfl, SqL.of h3, by have := hco.few; omega, ?_, ?_⟩
          · intro x' hx'
            obtain ⟨j', hj', ej'⟩ := List.getElem_of_mem hx'
            have : us[j']? = some x' := by rw [← ej']; exact List.getElem?_eq_getElem hj'
            obtain ⟨d'', hu1, hu2⟩ := DpAll.get hall this
            obtain ⟨an, han, rfl⟩ := map_get hu1
            obtain ⟨q', rfl, hq'⟩ := an_inv hu2
            exact ⟨[an.1, an.2], ⟨q', rfl, hq'⟩, rfl, bd_an (hbd an (mem_of_get han))⟩
          · intro ws p1 hp hsort hp1
            have hws := sort_cell hall hbd hco.up hp hsort
            have s4 : Same H3 (upd H3 p1 (.lst ws)) := same_new hp1
            refine ⟨p1, ws, rfl, .inl ⟨SqL.of upd_same, fun p2 hp2 => ?_⟩⟩
            have s5 : Same (upd H3 p1 (.lst ws)) (upd (upd H3 p1 (.lst ws)) p2 (.tup ws)) := same_new hp2
            have s25 : Same H2 (upd (upd H3 p1 (.lst ws)) p2 (.tup ws)) := (s3.trans s4).trans s5
            have dcell : Dp K (upd (upd H3 p1 (.lst ws)) p2 (.tup ws)) (.ref p2) (cellD false cell) := .tup (SqT.of upd_same) (DpAll.same (s4.trans s5) _ _ hws)
            refine ⟨cs, s25 _ _ h2, ?_, same_at (s2.trans s25) hD, cs ++ [.ref p2], upd_same, ?_⟩
            · rw [DpAll.length hcs, List.length_map, List.length_take, sizeLine_eq]; omega
            · have b1 : But D (upd (upd H3 p1 (.lst ws)) p2 (.tup ws)) (upd (upd (upd H3 p1 (.lst ws)) p2 (.tup ws)) D (.lst (cs ++ [.ref p2]))) := But.at_
              rw [List.take_add_one, hcell, List.map_append]
              refine DpAll.snoc (Dp.but b1 (s25 _ _ h2) trivial _ _ (noList_cell cell) dcell) ?_
              exact DpAll.but b1 (s25 _ _ h2) trivial _ _ (noListAll_map noList_cell _) (DpAll.same s25 _ _ hcs)
      · rintro H2 ⟨s2, cs, h2, hcs⟩
        rw [hylen, List.take_length] at hcs
        refine ⟨D, cs, rfl, .inl ⟨SqL.of h2, fun p2 hp2 => ?_⟩⟩
        have s5 : Same H2 (upd H2 p2 (.tup cs)) := same_new hp2
        have s15 := s2.trans s5
        have drow : Dp K (upd H2 p2 (.tup cs)) (.ref p2) (rowD false row) := .tup (SqT.of upd_same) (DpAll.same s5 _ _ hcs)
        refine ⟨l, rs, _, rfl, rfl, s15 _ _ h1, ?_, _, _, _, rfl, same_at (s1.trans s15) hl, rs ++ [.ref p2], upd_same, ?_⟩
        · have : i < xs.length := (List.getElem?_eq_some_iff.mp hi).1
          have := hm.len
          rw [DpAll.length hrs, List.length_map, List.length_take, sizeLine_eq]; omega
        · have b1 : But l (upd H2 p2 (.tup cs)) (upd (upd H2 p2 (.tup cs)) l (.lst (rs ++ [.ref p2]))) := But.at_
          rw [List.take_add_one, hrow, List.map_append]
          refine DpAll.snoc (Dp.but b1 (s15 _ _ h1) trivial _ _ (noList_row row) drow) ?_
          exact DpAll.but b1 (s15 _ _ h1) trivial _ _ (noListAll_map noList_row _) (DpAll.same s15 _ _ hrs)
    · rintro σ H1 ⟨y, z1, z2, rfl, s1, rs, h1, hrs⟩
      rw [hlen, List.take_length] at hrs
      refine ⟨_, rfl, _, rfl, _, rfl, l, rs, rfl, .inl ⟨SqL.of h1, fun p2 hp2 => ?_⟩⟩
      have s5 : Same H1 (upd H1 p2 (.tup rs)) := same_new hp2
      refine ⟨by show 3 ≤ sizeLine; decide, fun p3 hp3 => ?_⟩
      have s6 : Same (upd H1 p2 (.tup rs)) (upd (upd H1 p2 (.tup rs)) p3 (.tup [.int m.args, .int m.res, .ref p2])) := same_new hp3
      refine q _ p3 ((s1.trans s5).trans s6) (meth_mk (SqT.of upd_same) (.tup (SqT.of (s6 _ _ upd_same)) (DpAll.same (s5.trans s6) _ _ hrs)))
end
end Tw
/-! ## Tw8: Kind -/
namespace Tw
open PySem L2
/-- a kind as plain data -/
structure Kd where
  states : Int
  start : Int
  meths : List (Str × Meth)
structure KdOk (k : Kd) : Prop where
  s1 : 1 ≤ k.states
  s8 : k.states ≤ 8
  t0 : 0 ≤ k.start
  t1 : k.start < k.states
  m1 : 1 ≤ k.meths.length
  m4 : k.meths.length ≤ 4
  nd : (k.meths.map (·.1)).Nodup
  ok : ∀ p ∈ k.meths, NameOk p.1 ∧ MethOk k.states p.2
/-- the fields of a Kind -/
def kf (s t : Int) (d : Addr) : List (Str × V) := putF "_methods" (.ref d) (putF "start" (.int t) (putF "states" (.int s) []))
theorem n_sm : ¬ (("states" : Str) = "_methods") := by decide +kernel
theorem n_ss : ¬ (("states" : Str) = "start") := by decide +kernel
theorem n_tm : ¬ (("start" : Str) = "_methods") := by decide +kernel
theorem kf_states (s t : Int) (d : Addr) : (kf s t d).lookup ("states" : Str) = some (.int s) := by
  unfold kf
  rw [lookup_putF, if_neg n_sm, lookup_putF, if_neg n_ss, lookup_putF, if_pos rfl]
theorem kf_start (s t : Int) (d : Addr) : (kf s t d).lookup ("start" : Str) = some (.int t) := by
  unfold kf
  rw [lookup_putF, if_neg n_tm, lookup_putF, if_pos rfl]
theorem kf_methods (s t : Int) (d : Addr) : (kf s t d).lookup ("_methods" : Str) = some (.ref d) := by
  unfold kf
  rw [lookup_putF, if_pos rfl]
theorem kf_no (s t : Int) (d : Addr) {m : Str} (h1 : ¬ m = "_methods") (h2 : ¬ m = "start") (h3 : ¬ m = "states") : (kf s t d).lookup m = none := by
  unfold kf
  rw [lookup_putF, if_neg h1, lookup_putF, if_neg h2, lookup_putF, if_neg h3]
  rfl
def KindAt (K : PySem.W.Frag) (C : Addr) (H : Hp) (p : Addr) (k : Kd) : Prop := ∃ dx d, H p = some (.ins C dx (kf k.states k.start d)) ∧ DictAt K H false d k.meths
theorem KindAt.same {K : PySem.W.Frag} {C p : Addr} {H H' : Hp} {k : Kd} (s : Same H H') (h : KindAt K C H p k) : KindAt K C H' p k := by
  obtain ⟨dx, d, e, m⟩ := h
  exact ⟨dx, d, s _ _ e, m.same s⟩
/-- the same methods, by their names -/
def SortOf (ms ms' : List (Str × Meth)) : Prop := ms'.Perm ms ∧ PyProof.Rows.sortedS (ms'.map (·.1)) = true
/-- the turn of a dict comprehension, told by what is to hold behind it -/
abbrev dcTurn (g : TG) (tt : TT) (tk tv : TE) (vs : List Nat) (σ : St) (D : Addr) (Nx : Hp → Prop) (x : V) (H' : Hp) : Prop :=
  g x (wipe σ vs) H' fun σ2 H2 => wipe σ2 vs = wipe σ vs ∧ tt σ2 H2 fun b H3 => if b = true then tk σ2 H3 fun y H4 => tv σ2 H4 fun z H5 => ∃ kvs k, y = kV k ∧ H5 D = some (.dK kvs) ∧ kvs.length < sizeLine ∧ Nx (upd H5 D (.dK (putK kvs k z))) else Nx H3
/-- a dict comprehension over what is walked: Pv by the turn and the heap -/
theorem dc_it {J : It} {n : Nat} {G : Hp → Prop} {Y : Nat → Hp → V → Hp → Prop} (wk : Walk J n G Y) {g : TG} {tt : TT} {tk tv : TE} {vs : List Nat} {σ : St} {H1 : Hp} {D : Addr} {Z : Hp → Prop} (Pv : Nat → Hp → Prop)
    (first : Pv 0 (upd H1 D (.dK []))) (stays : ∀ i H, i ≤ n → Pv i H → G H) (turn : ∀ i x H H', i < n → Pv i H → Y i H x H' → dcTurn g tt tk tv vs σ D (Pv (i + 1)) x H') (last : ∀ H, Pv n H → Z H) :
    ∃ W : Nat → Nat → Hp → Prop, (∃ m, W 0 m (upd H1 D (.dK []))) ∧ ∀ i m H, W i m H → (J.stop i H ∧ Z H) ∨
      (J.go i H ∧ ∃ Nx : Hp → Prop, (∀ H', Nx H' → ∃ m', m' < m ∧ W (i + 1) m' H') ∧ ∀ x H', J.yld i H x H' → dcTurn g tt tk tv vs σ D Nx x H') := by
  refine ⟨fun i m H => i + m = n ∧ Pv i H, ⟨n, Nat.zero_add n, first⟩, fun i m H ⟨e, p⟩ => ?_⟩
  cases m with
  | zero =>
    have e : i = n := e
    rw [e] at p ⊢
    exact .inl ⟨wk.stops H (stays n H (Nat.le_refl _) p), last H p⟩
  | succ m =>
    have hi : i < n := by omega
    have q := stays i H (Nat.le_of_lt hi) p
    exact .inr ⟨wk.goes i H hi q, Pv (i + 1), fun H' z => ⟨m, Nat.lt_succ_self m, by omega, z⟩, fun x H' y => turn i x H H' hi p (wk.yields i H x H' hi q y)⟩
theorem MsAt.snoc {K : PySem.W.Frag} {H : Hp} {k : Bool} {v : V} {x : Str} {m : Meth} (h : Dp K H v (methD k m)) : ∀ {kvs : List (Key × V)} {ms : List (Str × Meth)}, MsAt K H k kvs ms → MsAt K H k (kvs ++ [(Sum.inr x, v)]) (ms ++ [(x, m)])
  | _, _, .nil => .cons ⟨rfl, h⟩ .nil
  | _, _, .cons r t => .cons r (MsAt.snoc h t)
theorem valV_no {kvs : List (Key × V)} {k : Key} (h : k ∉ kvs.map (·.1)) : valV kvs k = none := by
  cases e : valV kvs k with
  | none => rfl
  | some v => exact absurd (valV_in e) h
def mOf (ms : List (Str × Meth)) (x : Str) : Meth := (getM ms x).getD ⟨0, 0, []⟩
theorem map_mOf {ms : List (Str × Meth)} (hn : (ms.map (·.1)).Nodup) : (ms.map (·.1)).map (fun x => (x, mOf ms x)) = ms := by
  rw [List.map_map]
  have : ∀ p ∈ ms, ((fun x => (x, mOf ms x)) ∘ fun p : Str × Meth => p.1) p = p := by
    intro p hp
    show (p.1, mOf ms p.1) = p
    unfold mOf
    rw [getM_mem hn (show (p.1, p.2) ∈ ms from hp)]
    rfl
  exact (List.map_congr_left this).trans (List.map_id ms)

section
variable {P : Program} {w : World} {K : PySem.W.Frag} {mg : Str → Option Value} {base : Heap}
def spKInit (K : PySem.W.Frag) (C : Addr) : Sp := fun vs H Q _ => ∃ (p dx a : Addr) (k : Bool) (kd : Kd), vs = [.ref p, .int kd.states, .int kd.start, .ref a] ∧ H p = some (.ins C dx []) ∧ DictAt K H k a kd.meths ∧ KdOk kd ∧
  ∀ H' ms', But p H H' → SortOf kd.meths ms' → KindAt K C H' p ⟨kd.states, kd.start, ms'⟩ → Q .non H'
theorem ok_Kind_init (T : Tx K mg) : FnOk P w K mg base CX0 6 T.Kind_init.f T.Kind_init.d ["self", "states", "start", "methods"] (spKInit K T.CKind) := by
  refine T.Kind_init.F.ok sc_Kind_init (fun vs H Q E h => ?_) (fun cdv A outer s H vs Q E hr h => ?_)
  · obtain ⟨p, dx, a, k, kd, rfl, _⟩ := h; rfl
  · obtain ⟨p, dx, a, k, kd, rfl, hp, hd, hk, q⟩ := h
    have nd := sc_Kind_init.nd
    have hu := hu_of hr
    obtain ⟨tM, gM⟩ := T.c_MOST_STATES
    refine ⟨_, pss_cons (ps_if (pt_not (pt_val (pcall T.is_between (ok_is_between T) hr (pa_cons (pv 1) (pa_cons pe_int (pa_cons (pe_glob (v := .int 8) (by rfl) gM ⟨tM, rfl⟩) pa_nil)))))) pss_never pss_nil)
      (pss_cons (ps_if (pt_not (pt_val (pcall T.is_between (ok_is_between T) hr (pa_cons (pv 2) (pa_cons pe_int (pa_cons (pe_op op_sub (pv 1) pe_int) pa_nil)))))) pss_never pss_nil)
      (pss_cons (ps_if (pt_not (pt_val (pcall T.are_methods (ok_are_methods T) hr (pa_cons (pv 3) (pa_cons (pv 1) pa_nil))))) pss_never pss_nil)
      (pss_cons (ps_fld (pv 0) (pv 1) rfl) (pss_cons (ps_fld (pv 0) (pv 2) rfl)
      (pss_one (ps_fld (pv 0) (pe_dc (own := [("name", 4)]) (g := gName 4) (tt := tYes) rfl nd
          (pi_list (pe_callB cr_sortedS (by rfl) T.z_sorted bt_sorted (pa_cons (pe_callTy (call_list_dK rfl) (by rfl) T.z_list bt_list (pa_cons (pv 3) pa_nil)) pa_nil)))
          (blkOk_by (own := [("name", 4)]) (N := ["self", "states", "start", "methods", "name"]) (sc := defScope s_Kind_init) (by decide +kernel))
          (fun _ _ _ _ _ => pg_name (i := 4) nd rfl (Or.inl rfl)) (fun _ _ _ _ _ => pts_nil) (fun _ _ _ _ _ => pv 4)
          (fun _ _ _ _ _ => pcall T.ordered_method (ok_ordered_method T) hr (pa_cons (pe_dget hu (pv 3) (pv 4) (fun _ _ => rfl)) pa_nil))) rfl)))))), ?_⟩
    refine ⟨_, rfl, kd.states, 1, 8, rfl, true, congrArg V.bl (decide_eq_true ⟨hk.s1, hk.s8⟩), iteF ?_⟩
    refine ⟨_, rfl, _, rfl, _, _, rfl, rfl, kd.start, 0, kd.states - 1, rfl, true, congrArg V.bl (decide_eq_true ⟨hk.t0, by have := hk.t1; omega⟩), iteF ?_⟩
    refine ⟨_, rfl, _, rfl, a, k, kd.meths, kd.states, rfl, hd, hk.m1, hk.m4, hk.nd, hk.ok, fun H1 s1 => ⟨true, rfl, iteF ?_⟩⟩
    -- self.states = states; self.start = start
    have h1 := s1 _ _ hp
    refine ⟨_, rfl, _, rfl, p, _, dx, [], rfl, h1, T.clKind, T.nKind_states, by show 0 < 1000; decide, ?_⟩
    refine ⟨_, rfl, _, rfl, p, _, dx, _, rfl, upd_same, T.clKind, T.nKind_start, by have := length_putF "states" (.int kd.states) ([] : List (Str × V)); show _ < 1000; simp only [List.length_nil] at this; omega, ?_⟩
    rw [upd_upd]
    have b1 : But p H1 (upd H1 p (.ins T.CKind dx (putF "start" (.int kd.start) (putF "states" (.int kd.states) [])))) := But.at_
    generalize hH2 : upd H1 p (.ins T.CKind dx (putF "start" (.int kd.start) (putF "states" (.int kd.states) []))) = H2 at b1 ⊢
    have h2 : H2 p = some (.ins T.CKind dx (putF "start" (.int kd.start) (putF "states" (.int kd.states) []))) := by rw [← hH2, upd_same]
    obtain ⟨kvs, ea0, hms0⟩ := hd
    have ea1 := s1 _ _ ea0
    have hap : a ≠ p := ne_of ea1 h1 (by intro z; cases z)
    have ea2 := b1 _ _ hap ea1
    have hms2 : MsAt K H2 k kvs kd.meths := MsAt.butI b1 h1 trivial (hms0.same s1)
    have hlen := hms0.length
    -- sorted(list(methods))
    refine ⟨_, rfl, a, kvs, rfl, ea2, fun l hl => ?_⟩
    have s3 : Same H2 (upd H2 l (.lst (kvs.map fun kv => kV kv.1))) := same_new hl
    have ekeys : (kvs.map fun kv => kV kv.1) = (kd.meths.map (·.1)).map V.str := by
      have := congrArg (List.map kV) hms0.keys
      rw [List.map_map, List.map_map] at this
      exact this
    refine ⟨l, kd.meths.map (·.1), rfl, SqL.of (by rw [upd_same, ekeys]), by rw [List.length_map]; have := hk.m4; omega, fun ys l2 hperm hsort hl2 => ?_⟩
    have s4 : Same (upd H2 l (.lst (kvs.map fun kv => kV kv.1))) (upd (upd H2 l (.lst (kvs.map fun kv => kV kv.1))) l2 (.lst (ys.map V.str))) := same_new hl2
    have s24 := s3.trans s4
    generalize hH4 : upd (upd H2 l (.lst (kvs.map fun kv => kV kv.1))) l2 (.lst (ys.map V.str)) = H4 at s4 s24 ⊢
    have h4 : H4 l2 = some (.lst (ys.map V.str)) := by rw [← hH4, upd_same]
    have hynd : ys.Nodup := hperm.nodup_iff.mpr hk.nd
    have hylen : ys.length = kd.meths.length := by rw [hperm.length_eq, List.length_map]
    refine ⟨l2, rfl, ⟨_, SqL.of h4⟩, fun D hD => dc_it (walk_list (K := K) (a := l2) (xs := ys.map V.str)) (fun i H' => Same H4 H' ∧ ∃ ds, H' D = some (.dK ds) ∧ MsAt K H' false ds ((ys.take i).map fun y => (y, mOf kd.meths y)))
      ⟨same_new hD, [], upd_same, .nil⟩ (fun i H' _ ⟨s5, _⟩ => SqL.of (s5 _ _ h4)) ?_ ?_⟩
    · rintro i x H5 H' hi ⟨s5, ds, h5, hds⟩ ⟨rfl, hx⟩
      rw [List.length_map] at hi
      obtain ⟨y, hy, rfl⟩ : ∃ y, ys[i]? = some y ∧ x = .str y := by
        rw [List.getElem?_map] at hx
        cases e : ys[i]? with
        | none => rw [e] at hx; cases hx
        | some y => rw [e] at hx; exact ⟨y, rfl, (Option.some.inj hx).symm⟩
      have hmem : y ∈ kd.meths.map (·.1) := hperm.mem_iff.mp (mem_of_get hy)
      obtain ⟨pm, hpm, epm⟩ := List.mem_map.mp hmem
      have hgm : getM kd.meths y = some pm.2 := getM_mem hk.nd (by rw [← epm]; exact hpm)
      have hmo : mOf kd.meths y = pm.2 := by unfold mOf; rw [hgm]; rfl
      have s25 := s24.trans s5
      rcases MsAt.val (x := y) (hms2.same s25) with ⟨e1, _⟩ | ⟨m, v, e1, e2, dv⟩
      · rw [hgm] at e1; cases e1
      · rw [hgm] at e1
        have e1 := Option.some.inj e1
        subst e1
        refine ⟨rfl, ?_⟩
        refine ⟨_, rfl, _, rfl, _, rfl, a, v, rfl, ?_, v, k, pm.2, kd.states, rfl, dv, (hk.ok pm hpm).2, hk.s8, fun H6 q6 s6 dq => ?_⟩
        · rw [← e2]; exact DGet.k (k := Sum.inr y) (s25 _ _ ea2)
        · have hno : valV ds (Sum.inr y) = none := by
            refine valV_no ?_
            rw [hds.keys, List.map_map]
            intro hm
            obtain ⟨z, hz, ez⟩ := List.mem_map.mp hm
            obtain ⟨z', hz', ez'⟩ := List.mem_map.mp hz
            have e : z' = y := by
              rw [← ez'] at ez
              exact Sum.inr.inj ez
            rw [e] at hz'
            obtain ⟨j, hj, ej⟩ := List.getElem_of_mem hz'
            rw [List.getElem_take] at ej
            have hji : j < i ∧ j < ys.length := by rw [List.length_take] at hj; omega
            have e2 : ys[i] = y := (List.getElem?_eq_some_iff.mp hy).2
            exact absurd (ej.trans e2.symm) (List.pairwise_iff_getElem.mp (List.nodup_iff_pairwise_ne.mp hynd) j i hji.2 hi hji.1)
          refine ⟨ds, Sum.inr y, rfl, s6 _ _ h5, ?_, same_at (s5.trans s6) hD, ds ++ [(Sum.inr y, .ref q6)], ?_, ?_⟩
          · rw [hds.length, List.length_map, List.length_take, sizeLine_eq]; have := hk.m4; omega
          · rw [upd_same, putK_new _ hno]
          · rw [putK_new _ hno]
            have b6 : But D H6 (upd H6 D (.dK (ds ++ [(Sum.inr y, .ref q6)]))) := But.at_
            rw [List.take_add_one, hy, List.map_append]
            have dq' := Dp.but b6 (s6 _ _ h5) trivial _ _ (noList_meth _) dq
            rw [← hmo] at dq'
            exact MsAt.snoc dq' (MsAt.but b6 (s6 _ _ h5) trivial (hds.same s6))
    · rintro H5 ⟨s5, ds, h5, hds⟩
      rw [List.length_map, List.take_length] at hds
      have h5p := s5 _ _ (s24 _ _ h2)
      refine ⟨_, rfl, p, _, dx, _, rfl, h5p, T.clKind, T.nKind_methods, ?_, ?_⟩
      · have l1 := length_putF "start" (.int kd.start) (putF "states" (.int kd.states) ([] : List (Str × V)))
        have l2 := length_putF "states" (.int kd.states) ([] : List (Str × V))
        simp only [List.length_nil] at l2
        show _ < 1000
        omega
      · have b6 : But p H5 (upd H5 p (.ins T.CKind dx (kf kd.states kd.start D))) := But.at_
        have hDp : D ≠ p := ne_of h5 h5p (by intro z; cases z)
        refine q _ (ys.map fun y => (y, mOf kd.meths y)) ((((But.of_same s1).trans b1).trans (But.of_same (s24.trans s5))).trans b6) ⟨?_, ?_⟩ ⟨dx, D, upd_same, ds, b6 _ _ hDp h5, MsAt.butI b6 h5p trivial hds⟩
        · have := hperm.map fun y => (y, mOf kd.meths y)
          rw [map_mOf hk.nd] at this
          exact this
        · rw [List.map_map]
          have : (ys.map ((fun p : Str × Meth => p.1) ∘ fun y => (y, mOf kd.meths y))) = ys := by
            rw [show ((fun p : Str × Meth => p.1) ∘ fun y => (y, mOf kd.meths y)) = id from rfl, List.map_id]
          rw [this]; exact hsort
/-! ### its methods -/
def spContains (K : PySem.W.Frag) (C : Addr) : Sp := fun vs H Q _ => ∃ (p : Addr) (kd : Kd) (x : Str), vs = [.ref p, .str x] ∧ KindAt K C H p kd ∧ (getM kd.meths x).isSome = true ∧ Q (.bl true) H
theorem ok_Kind_contains (T : Tx K mg) : FnOk P w K mg base CX0 1 T.Kind_contains.f T.Kind_contains.d ["self", "method"] (spContains K T.CKind) := by
  refine T.Kind_contains.F.ok sc_Kind_contains (fun vs H Q E h => ?_) (fun cdv A outer s H vs Q E hr h => ?_)
  · obtain ⟨p, kd, x, rfl, _⟩ := h; rfl
  · obtain ⟨p, kd, x, rfl, ⟨dx, d, ep, kvs, ed, hms⟩, hx, q⟩ := h
    have hu := hu_of hr
    refine ⟨_, pss_one (ps_ret (pe_and (pe_callB call_isi (by rfl) T.z_isinstance bt_isinstance (pa_cons (pv 1) (pa_cons (pe_bltn (v := .ty "str") (by rfl) T.z_str bt_str rfl) pa_nil)))
      (pe_one (pe_cmp (pc_din hu (pv 1) (pe_fld (pv 0) rfl)) (by rfl))))), ?_⟩
    refine ⟨_, rfl, _, _, _, _, true, rfl, .ty _, .base (.str _), kit_ty ki_str_str, true, rfl, iteT ?_⟩
    refine ⟨_, rfl, _, rfl, p, _, dx, _, _, rfl, ep, T.clKind, T.nKind_methods, kf_methods _ _ _, d, _, rfl, DGet.k (k := Sum.inr x) ed, ?_⟩
    rcases MsAt.val (x := x) hms with ⟨e1, _⟩ | ⟨m, v, _, e2, _⟩
    · rw [e1] at hx; cases hx
    · rw [e2]; exact q
def spMethOf (K : PySem.W.Frag) (C : Addr) : Sp := fun vs H Q _ => ∃ (p : Addr) (kd : Kd) (x : Str) (m : Meth), vs = [.ref p, .str x] ∧ KindAt K C H p kd ∧ getM kd.meths x = some m ∧ ∀ v, Dp K H v (methD false m) → Q v H
theorem ok_Kind_method (T : Tx K mg) : FnOk P w K mg base CX0 2 T.Kind_method.f T.Kind_method.d ["self", "method"] (spMethOf K T.CKind) := by
  refine T.Kind_method.F.ok sc_Kind_method (fun vs H Q E h => ?_) (fun cdv A outer s H vs Q E hr h => ?_)
  · obtain ⟨p, kd, x, m, rfl, _⟩ := h; rfl
  · obtain ⟨p, kd, x, m, rfl, hk, hx, q⟩ := h
    have hu := hu_of hr
    obtain ⟨dx, d, ep, kvs, ed, hms⟩ := id hk
    refine ⟨_, pss_cons (ps_if (pt_cmpR (op_notInOwn (ok_Kind_contains T) hr T.Kind_contains.at_ T.Kind_contains.fn T.Kind_contains.b) (pv 1) (pv 0) (by rfl)) pss_never pss_nil)
      (pss_one (ps_ret (pe_dget hu (pe_fld (pv 0) rfl) (pv 1) (fun _ _ => rfl)))), ?_⟩
    refine ⟨_, rfl, _, rfl, p, dx, _, rfl, ep, p, kd, x, rfl, hk, by rw [hx]; rfl, true, rfl, false, rfl, iteF ?_⟩
    rcases MsAt.val (x := x) hms with ⟨e1, _⟩ | ⟨m', v, e1, e2, dv⟩
    · rw [e1] at hx; cases hx
    · rw [e1] at hx; cases hx
      exact ⟨_, rfl, p, _, dx, _, _, rfl, ep, T.clKind, T.nKind_methods, kf_methods _ _ _, _, rfl, d, v, rfl, by rw [← e2]; exact DGet.k (k := Sum.inr x) ed, q v dv⟩
theorem no_method : ¬ (("_method" : Str) = "_methods") ∧ ¬ (("_method" : Str) = "start") ∧ ¬ (("_method" : Str) = "states") := by decide +kernel
def spArgs (K : PySem.W.Frag) (C : Addr) (f : Meth → Int) : Sp := fun vs H Q _ => ∃ (p : Addr) (kd : Kd) (x : Str) (m : Meth), vs = [.ref p, .str x] ∧ KindAt K C H p kd ∧ getM kd.meths x = some m ∧ Q (.int (f m)) H
theorem ok_Kind_arguments (T : Tx K mg) : FnOk P w K mg base CX0 3 T.Kind_arguments.f T.Kind_arguments.d ["self", "method"] (spArgs K T.CKind (·.args)) := by
  refine T.Kind_arguments.F.ok sc_Kind_arguments (fun vs H Q E h => ?_) (fun cdv A outer s H vs Q E hr h => ?_)
  · obtain ⟨p, kd, x, m, rfl, _⟩ := h; rfl
  · obtain ⟨p, kd, x, m, rfl, hk, hx, q⟩ := h
    obtain ⟨dx, d, ep, _⟩ := id hk
    refine ⟨_, pss_one (ps_ret (pe_ix ix_tup (pe_meth (pv 0) T.clKind T.Kind_method.me (ok_Kind_method T) hr T.Kind_method.b .nil pass0 (pa_cons (pv 1) pa_nil)) pe_int (fun _ _ => rfl))), ?_⟩
    refine ⟨_, rfl, p, dx, _, rfl, ep, kf_no _ _ _ no_method.1 no_method.2.1 no_method.2.2, _, rfl, p, kd, x, m, rfl, hk, hx, fun v dv => ?_⟩
    obtain ⟨t, r, rfl, ht, _⟩ := meth_inv dv
    exact ⟨t, _, 0, _, rfl, rfl, ht, rfl, q⟩
theorem ok_Kind_results (T : Tx K mg) : FnOk P w K mg base CX0 3 T.Kind_results.f T.Kind_results.d ["self", "method"] (spArgs K T.CKind (·.res)) := by
  refine T.Kind_results.F.ok sc_Kind_results (fun vs H Q E h => ?_) (fun cdv A outer s H vs Q E hr h => ?_)
  · obtain ⟨p, kd, x, m, rfl, _⟩ := h; rfl
  · obtain ⟨p, kd, x, m, rfl, hk, hx, q⟩ := h
    obtain ⟨dx, d, ep, _⟩ := id hk
    refine ⟨_, pss_one (ps_ret (pe_ix ix_tup (pe_meth (pv 0) T.clKind T.Kind_method.me (ok_Kind_method T) hr T.Kind_method.b .nil pass0 (pa_cons (pv 1) pa_nil)) pe_int (fun _ _ => rfl))), ?_⟩
    refine ⟨_, rfl, p, dx, _, rfl, ep, kf_no _ _ _ no_method.1 no_method.2.1 no_method.2.2, _, rfl, p, kd, x, m, rfl, hk, hx, fun v dv => ?_⟩
    obtain ⟨t, r, rfl, ht, _⟩ := meth_inv dv
    exact ⟨t, _, 1, _, rfl, rfl, ht, rfl, q⟩
def spNames (K : PySem.W.Frag) (C : Addr) : Sp := fun vs H Q _ => ∃ (p : Addr) (kd : Kd), vs = [.ref p] ∧ KindAt K C H p kd ∧ ∀ l, H l = none → Q (.ref l) (upd H l (.lst ((kd.meths.map (·.1)).map V.str)))
theorem ok_Kind_names (T : Tx K mg) : FnOk P w K mg base CX0 1 T.Kind_names.f T.Kind_names.d ["self"] (spNames K T.CKind) := by
  refine T.Kind_names.F.ok sc_Kind_names (fun vs H Q E h => ?_) (fun cdv A outer s H vs Q E hr h => ?_)
  · obtain ⟨p, kd, rfl, _⟩ := h; rfl
  · obtain ⟨p, kd, rfl, ⟨dx, d, ep, kvs, ed, hms⟩, q⟩ := h
    refine ⟨_, pss_one (ps_ret (pe_callTy (call_list_dK rfl) (by rfl) T.z_list bt_list (pa_cons (pe_fld (pv 0) rfl) pa_nil))), ?_⟩
    refine ⟨_, rfl, p, _, dx, _, _, rfl, ep, T.clKind, T.nKind_methods, kf_methods _ _ _, d, kvs, rfl, ed, fun l hl => ?_⟩
    have ekeys : (kvs.map fun kv => kV kv.1) = (kd.meths.map (·.1)).map V.str := by
      have := congrArg (List.map kV) hms.keys
      rw [List.map_map, List.map_map] at this
      exact this
    rw [ekeys]
    exact q l hl
/-- the answers of a state and an argument -/
def cellAt (m : Meth) (i j : Nat) : Cell := (m.rows.getD i []).getD j []
def spKAnswers (K : PySem.W.Frag) (C : Addr) : Sp := fun vs H Q _ => ∃ (p : Addr) (kd : Kd) (x : Str) (m : Meth) (i j : Nat), vs = [.ref p, .int i, .str x, .int j] ∧ KindAt K C H p kd ∧ getM kd.meths x = some m ∧ MethOk kd.states m ∧ (i : Int) < kd.states ∧ (j : Int) < m.args ∧
  ∀ v, Dp K H v (cellD false (cellAt m i j)) → Q v H
theorem ok_Kind_answers (T : Tx K mg) : FnOk P w K mg base CX0 3 T.Kind_answers.f T.Kind_answers.d ["self", "state", "method", "argument"] (spKAnswers K T.CKind) := by
  refine T.Kind_answers.F.ok sc_Kind_answers (fun vs H Q E h => ?_) (fun cdv A outer s H vs Q E hr h => ?_)
  · obtain ⟨p, kd, x, m, i, j, rfl, _⟩ := h; rfl
  · obtain ⟨p, kd, x, m, i, j, rfl, hk, hx, hm, hi, hj, q⟩ := h
    obtain ⟨dx, d, ep, _⟩ := id hk
    have nd := sc_Kind_answers.nd
    refine ⟨_, pss_cons (ps_if (pt_not (pt_val (pcall T.is_between (ok_is_between T) hr (pa_cons (pv 1) (pa_cons pe_int (pa_cons (pe_op op_sub (pe_fld (pv 0) rfl) pe_int) pa_nil)))))) pss_never pss_nil)
      (pss_cons (ps_asg (pe_meth (pv 0) T.clKind T.Kind_method.me (ok_Kind_method T) hr T.Kind_method.b .nil pass0 (pa_cons (pv 2) pa_nil)) (pg_tup (by rfl) (pgs_cons (pg_name (i := 4) nd rfl (Or.inl rfl)) (pgs_cons (pg_name (i := 5) nd rfl (Or.inl rfl)) (pgs_cons (pg_name (i := 6) nd rfl (Or.inl rfl)) pgs_nil)))))
      (pss_cons (ps_if (pt_not (pt_val (pcall T.is_between (ok_is_between T) hr (pa_cons (pv 3) (pa_cons pe_int (pa_cons (pe_op op_sub (pv 4) pe_int) pa_nil)))))) pss_never pss_nil)
      (pss_one (ps_ret (pe_ix ix_tup (pe_ix ix_tup (pv 6) (pv 1) (fun _ _ => rfl)) (pv 3) (fun _ _ => rfl)))))), ?_⟩
    refine ⟨_, rfl, _, rfl, p, _, dx, _, _, rfl, ep, T.clKind, T.nKind_states, kf_states _ _ _, _, _, rfl, rfl, i, 0, kd.states - 1, rfl, true, congrArg V.bl (decide_eq_true ⟨by omega, by omega⟩), iteF ?_⟩
    refine ⟨_, rfl, p, dx, _, rfl, ep, kf_no _ _ _ no_method.1 no_method.2.1 no_method.2.2, _, rfl, p, kd, x, m, rfl, hk, hx, fun v dv => ?_⟩
    obtain ⟨t, r, rfl, ht, hrows⟩ := meth_inv dv
    obtain ⟨a, xs, rfl, hxs, hds⟩ := Dp.sq_inv hrows
    refine ⟨t, _, rfl, ht, rfl, _, _, rfl, _, _, rfl, _, _, rfl, rfl, ?_⟩
    refine ⟨_, rfl, _, rfl, _, _, rfl, rfl, j, 0, m.args - 1, rfl, true, congrArg V.bl (decide_eq_true ⟨by omega, by omega⟩), iteF ?_⟩
    have hl := hm.len
    have hil : i < m.rows.length := by omega
    obtain ⟨u, hu1, hu2⟩ := DpAll.getD hds (i := i) (d := rowD false m.rows[i]) (by rw [List.getElem?_map, List.getElem?_eq_getElem hil]; rfl)
    obtain ⟨b, ys, rfl, hys, hes⟩ := Dp.sq_inv hu2
    have hrl := (hm.rows m.rows[i] (List.getElem_mem hil)).len
    have hjl : j < (m.rows[i]).length := by omega
    obtain ⟨u2, hv1, hv2⟩ := DpAll.getD hes (i := j) (d := cellD false (m.rows[i])[j]) (by rw [List.getElem?_map, List.getElem?_eq_getElem hjl]; rfl)
    refine ⟨_, rfl, _, rfl, a, xs, i, _, rfl, rfl, hxs, atI_nat hu1, _, rfl, b, ys, j, _, rfl, rfl, hys, atI_nat hv1, q u2 ?_⟩
    have e : cellAt m i j = (m.rows[i])[j] := by
      unfold cellAt
      rw [List.getD_eq_getElem?_getD, List.getD_eq_getElem?_getD, List.getElem?_eq_getElem hil]
      show ((m.rows[i])[j]?).getD [] = _
      rw [List.getElem?_eq_getElem hjl]; rfl
    rw [e]; exact hv2
/-- what == of two kinds answers -/
def eqKd (a b : Kd) : Bool := decide (a.states = b.states) && (decide (a.start = b.start) && eqDs a.meths b.meths)
def spKEq (K : PySem.W.Frag) (C : Addr) : Sp := fun vs H Q _ => ∃ (p p' : Addr) (kd kd' : Kd), vs = [.ref p, .ref p'] ∧ KindAt K C H p kd ∧ KindAt K C H p' kd' ∧ (kd.meths.map (·.1)).Nodup ∧ Q (.bl (eqKd kd kd')) H
theorem ok_Kind_eq (T : Tx K mg) : FnOk P w K mg base CX0 1 T.Kind_eq.f T.Kind_eq.d ["self", "other"] (spKEq K T.CKind) := by
  refine T.Kind_eq.F.ok sc_Kind_eq (fun vs H Q E h => ?_) (fun cdv A outer s H vs Q E hr h => ?_)
  · obtain ⟨p, p', kd, kd', rfl, _⟩ := h; rfl
  · obtain ⟨p, p', kd, kd', rfl, ⟨dx, d, ep, hd⟩, ⟨dx', d', ep', hd'⟩, hnd, q⟩ := h
    refine ⟨_, pss_cons (ps_if (pt_not (pt_val (pe_callB call_isi (by rfl) T.z_isinstance bt_isinstance (pa_cons (pv 1) (pa_cons (pe_glob (v := .ref T.CKind) (by rfl) T.gKind rfl) pa_nil))))) (pss_one (ps_ret pe_bl)) pss_nil)
      (pss_one (ps_ret (pe_and (pe_cmpR op_eq (pe_fld (pv 0) rfl) (pe_fld (pv 1) rfl) (nomark _)) (pe_and (pe_cmpR op_eq (pe_fld (pv 0) rfl) (pe_fld (pv 1) rfl) (nomark _))
        (pe_one (pe_cmpR (op_eqDD hr) (pe_fld (pv 0) rfl) (pe_fld (pv 1) rfl) (nomark _))))))), ?_⟩
    refine ⟨_, rfl, _, _, _, _, true, rfl, .own _, .base (.ins ep' T.clKind T.isKind_ha T.isKind_hn T.isKind_tk T.isKind_hm), T.isKind_one, true, rfl, iteF ?_⟩
    refine ⟨_, rfl, p, _, dx, _, _, rfl, ep, T.clKind, T.nKind_states, kf_states _ _ _, _, rfl, p', _, dx', _, _, rfl, ep', T.clKind, T.nKind_states, kf_states _ _ _, rfl, _, rfl, ?_⟩
    have e1 : decide (V.int kd.states = V.int kd'.states) = decide (kd.states = kd'.states) := by simp
    have e2 : decide (V.int kd.start = V.int kd'.start) = decide (kd.start = kd'.start) := by simp
    rw [e1]
    by_cases h1 : kd.states = kd'.states
    · rw [decide_eq_true h1]
      refine iteT ?_
      refine ⟨_, rfl, p, _, dx, _, _, rfl, ep, T.clKind, T.nKind_start, kf_start _ _ _, _, rfl, p', _, dx', _, _, rfl, ep', T.clKind, T.nKind_start, kf_start _ _ _, rfl, _, rfl, ?_⟩
      rw [e2]
      by_cases h2 : kd.start = kd'.start
      · rw [decide_eq_true h2]
        refine iteT ?_
        refine ⟨_, rfl, p, _, dx, _, _, rfl, ep, T.clKind, T.nKind_methods, kf_methods _ _ _, _, rfl, p', _, dx', _, _, rfl, ep', T.clKind, T.nKind_methods, kf_methods _ _ _, d, d', _, _, rfl, rfl, hd, hd', hnd, ?_⟩
        have e : eqKd kd kd' = eqDs kd.meths kd'.meths := by simp [eqKd, h1, h2]
        rw [← e]; exact q
      · rw [decide_eq_false h2]
        refine iteF ?_
        have e : eqKd kd kd' = false := by simp [eqKd, h2]
        rw [← e]; exact q
    · rw [decide_eq_false h1]
      refine iteF ?_
      have e : eqKd kd kd' = false := by simp [eqKd, h1]
      rw [← e]; exact q
end
end Tw
/-! ## Tw9: the text of a kind -/
namespace Tw
open PySem L2 TL
/-- the one sign of a number -/
def dg (i : Int) : Str := Str.ofString (toString i)
def sp1 : Str := Str.ofString " "
def nl1 : Str := Str.ofString "\n"
def sl1 : Str := Str.ofString "/"
def ansT (a : An) : Str := dg a.1 ++ sl1 ++ dg a.2
def lineT (i j : Int) (c : Cell) : Str := Txt.join sp1 (dg i :: dg j :: c.map ansT)
def headT (s t : Int) : Str := Str.ofString "kind " ++ dg s ++ sp1 ++ dg t
def methT (x : Str) (m : Meth) : Str := Str.ofString "method " ++ x ++ sp1 ++ dg m.args ++ sp1 ++ dg m.res
def stateLines (m : Meth) (n : Nat) (i : Nat) : List Str := (List.range n).map fun (j : Nat) => lineT (i : Int) (j : Int) (cellAt m i j)
def methLines (states : Int) (p : Str × Meth) : List Str := methT p.1 p.2 :: (List.range states.toNat).flatMap (stateLines p.2 p.2.args.toNat)
def kindLines (k : Kd) : List Str := headT k.states k.start :: k.meths.flatMap (methLines k.states)
def kindText (k : Kd) : Str := Txt.join nl1 (kindLines k)
theorem tl_dg {i : Int} (h0 : 0 ≤ i) (h : i < 10) : tl (dg i) = [48 + i.toNat] := by
  obtain ⟨n, rfl⟩ := Int.eq_ofNat_of_zero_le h0
  show tl (Str.ofString (toString ((n : Nat) : Int))) = _
  rw [tl_num, numL_lt (by omega)]
  simp
theorem len_dg {i : Int} (h0 : 0 ≤ i) (h : i < 10) : (dg i).length = 1 := by
  rw [len_tl, tl_dg h0 h]; rfl
theorem len_app (x y : Str) : (x ++ y).length = x.length + y.length := Str.length_append x y
theorem emp_app (x : Str) : Str.empty ++ x = x := ext_tl (by rw [tl_append]; rfl)
theorem log_small {i : Int} (h0 : 0 ≤ i) (h : i < 10) : i.natAbs.log2 < 1920 := by
  have : i.natAbs < 10 := by omega
  have : ∀ n : Nat, n < 10 → n.log2 < 1920 := by decide
  exact this _ (by omega)
theorem len_ans {a : An} (h : AnOk 10 10 a) : (ansT a).length = 3 := by
  obtain ⟨a1, a2, a3, a4⟩ := h
  unfold ansT
  rw [len_app, len_app, len_dg a1 a2, len_dg a3 a4]
  decide +kernel
theorem sum_le {l : List Str} {n : Nat} (h : ∀ x ∈ l, x.length ≤ n) : (l.map (·.length)).sum ≤ l.length * n := by
  induction l with
  | nil => simp
  | cons x l ih =>
    have h1 := h x List.mem_cons_self
    have h2 := ih fun y hy => h y (List.mem_cons_of_mem _ hy)
    simp only [List.map_cons, List.sum_cons, List.length_cons, Nat.succ_mul]
    omega
theorem an10 {res states : Int} {a : An} (h : AnOk res states a) (hr : res ≤ 10) (hs : states ≤ 10) : AnOk 10 10 a := by
  obtain ⟨a1, a2, a3, a4⟩ := h
  exact ⟨a1, by omega, a3, by omega⟩
theorem len_line {i j res states : Int} {c : Cell} (hi : 0 ≤ i ∧ i < 10) (hj : 0 ≤ j ∧ j < 10) (hc : CellOk res states c) (hr : res ≤ 10) (hs : states ≤ 10) : (((dg i :: dg j :: c.map ansT).map (·.length)).sum + (dg i :: dg j :: c.map ansT).length * sp1.length ≤ 60) := by
  have h1 : ∀ x ∈ dg i :: dg j :: c.map ansT, x.length ≤ 3 := by
    intro x hx
    rcases List.mem_cons.mp hx with e | hx
    · rw [e, len_dg hi.1 hi.2]; decide
    rcases List.mem_cons.mp hx with e | hx
    · rw [e, len_dg hj.1 hj.2]; decide
    obtain ⟨a, ha, rfl⟩ := List.mem_map.mp hx
    rw [len_ans (an10 (hc.an a ha) hr hs)]; decide
  have h2 := sum_le h1
  have h3 : (dg i :: dg j :: c.map ansT).length = c.length + 2 := by simp
  have h4 : sp1.length = 1 := by decide +kernel
  have h5 := hc.few
  rw [h3] at h2 ⊢
  rw [h4]
  omega
theorem len_lineT {i j res states : Int} {c : Cell} (hi : 0 ≤ i ∧ i < 10) (hj : 0 ≤ j ∧ j < 10) (hc : CellOk res states c) (hr : res ≤ 10) (hs : states ≤ 10) : (lineT i j c).length ≤ 60 := by
  have h := len_line hi hj hc hr hs
  unfold lineT
  rw [join_eq]
  exact Nat.le_trans (StrLaws.join_length_le _ _) h

section
variable {P : Program} {w : World} {K : PySem.W.Frag} {mg : Str → Option Value} {base : Heap}
theorem pg_tupK {X : Cx} (K : PySem.W.Frag) {pos : Pos} {es : List Expr} {k : Nat} {t : TGs} {n : Nat} (hc : X.calm = true) (h : PGs X es t) (hK : X.K = K := by rfl)
    (hn : (assignEach es X.env).length = n := by rfl) (hst : (assignEach es X.env).findIdx? (·.1) = none := by rfl) : PG X (.Tuple es k pos) (gTup K n t) := by
  subst hK
  exact pg_tup hc h hn hst
/-- f'..', its reading by a name -/
def tFS (ts : List TE) : TE := fun σ H Q => tJs ts Str.empty σ H fun out H1 => Q (.str out) H1
theorem pe_fs {X : Cx} {v1 v2 : Expr} {rest : List Expr} {ts : List TE} {pos : Pos} (h : PJ X (v1 :: v2 :: rest) ts) : PE X (.JoinedStr (v1 :: v2 :: rest) pos) (tFS ts) := pe_joined h
def spLine (K : PySem.W.Frag) : Sp := fun vs H Q _ => ∃ (i j res states : Int) (v : V) (c : Cell), vs = [.int i, .int j, v] ∧ Dp K H v (cellD false c) ∧ CellOk res states c ∧ res ≤ 10 ∧ states ≤ 10 ∧ (0 ≤ i ∧ i < 10) ∧ (0 ≤ j ∧ j < 10) ∧ ∀ H', Same H H' → Q (.str (lineT i j c)) H'
theorem ok_answers_line (T : Tx K mg) : FnOk P w K mg base CX0 1 T.answers_line.f T.answers_line.d ["state", "argument", "answers"] (spLine K) := by
  refine T.answers_line.F.ok sc_answers_line (fun vs H Q E h => ?_) (fun cdv A outer s H vs Q E hr h => ?_)
  · obtain ⟨i, j, res, states, v, c, rfl, _⟩ := h; rfl
  · obtain ⟨i, j, res, states, v, c, rfl, hd, hc, hr10, hs10, hi, hj, q⟩ := h
    obtain ⟨a, xs, rfl, hx, hds⟩ := Dp.sq_inv hd
    have hx : SqT K H a xs := hx
    have hlen : xs.length = c.length := by rw [DpAll.length hds, List.length_map]
    have nd := sc_answers_line.nd
    refine ⟨_, pss_one (ps_ret (pe_join pe_str (pe_lst (pa_cons (pe_callTy call_str_int (by rfl) T.z_str bt_str (pa_cons (pv 0) pa_nil)) (pa_cons (pe_callTy call_str_int (by rfl) T.z_str bt_str (pa_cons (pv 1) pa_nil))
      (StX.pa_star (pe_lc (own := [("result", 3), ("following", 4)]) (g := gTup K 2 (gCons (gName 3) (gCons (gName 4) gNil))) (tt := tYes) rfl nd (pi_tup (pv 2)) (blkOk_by (own := [("result", 3), ("following", 4)]) (N := ["state", "argument", "answers", "result", "following"]) (sc := defScope s_answers_line) (by decide +kernel))
        (fun _ _ _ _ _ => pg_tupK (n := 2) K (by rfl) (pgs_cons (pg_name (i := 3) nd rfl (Or.inl rfl)) (pgs_cons (pg_name (i := 4) nd rfl (Or.inl rfl)) pgs_nil))) (fun _ _ _ _ _ => pts_nil)
        (fun _ _ _ _ _ => pe_fs (.cons (pe_fmt (pv 3)) (.cons pe_str (.cons (pe_fmt (pv 4)) .nil))))) pa_nil)))))), ?_⟩
    refine ⟨⟨_, rfl⟩, ?_⟩
    refine ⟨_, rfl, i, rfl, log_small hi.1 hi.2, _, rfl, j, rfl, log_small hj.1 hj.2, ?_⟩
    refine ⟨_, rfl, a, rfl, ⟨xs, hx⟩, fun D hD => lc_it (walk_tup (K := K) (a := a) (xs := xs)) (fun n H' => Same H H' ∧ H' D = some (.lst (((c.take n).map ansT).map V.str))) ⟨same_new hD, upd_same⟩ (fun n H' _ ⟨s1, _⟩ => SqT.same s1 hx) ?_ ?_⟩
    · rintro n x H1 H' hn ⟨s1, h1⟩ ⟨rfl, hxn⟩
      obtain ⟨d, hd1, hd2⟩ := DpAll.get hds hxn
      obtain ⟨b, hb, rfl⟩ := map_get hd1
      obtain ⟨t, rfl, ht⟩ := an_inv hd2
      have hb10 := an10 (hc.an b (mem_of_get hb)) hr10 hs10
      obtain ⟨b1, b2, b3, b4⟩ := id hb10
      refine ⟨t, _, rfl, SqT.same s1 ht, rfl, _, _, rfl, _, _, rfl, rfl, rfl, ?_⟩
      refine ⟨_, rfl, .inr ⟨b.1, rfl, log_small b1 b2, _, rfl, ?_, _, rfl, ?_, _, rfl, .inr ⟨b.2, rfl, log_small b3 b4, _, rfl, ?_, ?_⟩⟩⟩
      · show (Str.empty ++ dg b.1).length ≤ sizeLine
        rw [emp_app, len_dg b1 b2]; decide
      · show (Str.empty ++ dg b.1 ++ sl1).length ≤ sizeLine
        rw [emp_app, len_app, len_dg b1 b2]; decide +kernel
      · show (Str.empty ++ dg b.1 ++ sl1 ++ dg b.2).length ≤ sizeLine
        rw [emp_app, len_app, len_app, len_dg b1 b2, len_dg b3 b4]; decide +kernel
      · refine ⟨_, h1, ?_, same_at s1 hD, ?_⟩
        · have := hc.few
          rw [List.length_map, List.length_map, List.length_take, sizeLine_eq]; omega
        · rw [upd_same, List.take_add_one, hb, List.map_append, List.map_append]
          show some (HO.lst (_ ++ [V.str (Str.empty ++ dg b.1 ++ sl1 ++ dg b.2)])) = _
          rw [emp_app]
          rfl
    · rintro H1 ⟨s1, h1⟩
      rw [hlen, List.take_length] at h1
      have hfew := hc.few
      refine ⟨D, _, rfl, .inr (SqL.of h1), ?_, fun l hl => ?_⟩
      · simp only [List.length_cons, List.length_append, List.length_map, List.length_nil]
        rw [sizeLine_eq]; omega
      · have hll := len_line hi hj hc hr10 hs10
        refine ⟨sp1, l, dg i :: dg j :: c.map ansT, rfl, rfl, .inl (SqL.of ?_), by omega, q _ (s1.trans (same_new hl))⟩
        rw [upd_same]
        simp only [List.map_cons, List.append_nil]
        rfl
end
end Tw
/-! ## Tw10: kind_text -/
namespace Tw
open PySem L2 TL
theorem flat_len {α : Type} {f : α → List Str} {n : Nat} : ∀ {l : List α}, (∀ x ∈ l, (f x).length ≤ n) → (l.flatMap f).length ≤ l.length * n
  | [], _ => by simp
  | x :: l, h => by
    have h1 := h x List.mem_cons_self
    have h2 := flat_len (l := l) fun y hy => h y (List.mem_cons_of_mem _ hy)
    simp only [List.flatMap_cons, List.length_append, List.length_cons, Nat.succ_mul]
    omega
theorem stateLines_len (m : Meth) (n i : Nat) : (stateLines m n i).length = n := by simp [stateLines]
theorem methLines_len {states : Int} {p : Str × Meth} (h8 : states ≤ 8) (hm : MethOk states p.2) : (methLines states p).length ≤ 33 := by
  have h := flat_len (l := List.range states.toNat) (f := stateLines p.2 p.2.args.toNat) (n := 4) fun x _ => by rw [stateLines_len]; have := hm.a4; omega
  rw [List.length_range] at h
  show (_ :: _).length ≤ 33
  rw [List.length_cons]
  omega
theorem kindLines_len {k : Kd} (hk : KdOk k) : (kindLines k).length ≤ 133 := by
  have h := flat_len (l := k.meths) (f := methLines k.states) (n := 33) fun p hp => methLines_len hk.s8 (hk.ok p hp).2
  have := hk.m4
  show (_ :: _).length ≤ 133
  rw [List.length_cons]
  omega
theorem cellAt_ok {states : Int} {m : Meth} (hm : MethOk states m) {i j : Nat} (hi : (i : Int) < states) (hj : (j : Int) < m.args) : CellOk m.res states (cellAt m i j) := by
  have hil : i < m.rows.length := by have := hm.len; omega
  have hr := hm.rows m.rows[i] (List.getElem_mem hil)
  have hjl : j < (m.rows[i]).length := by have := hr.len; omega
  have e : cellAt m i j = (m.rows[i])[j] := by
    unfold cellAt
    rw [List.getD_eq_getElem?_getD, List.getD_eq_getElem?_getD, List.getElem?_eq_getElem hil]
    show ((m.rows[i])[j]?).getD [] = _
    rw [List.getElem?_eq_getElem hjl]; rfl
  rw [e]
  exact hr.cells _ (List.getElem_mem hjl)
theorem len_head {s t : Int} (hs : 0 ≤ s ∧ s < 10) (ht : 0 ≤ t ∧ t < 10) : (headT s t).length = 8 := by
  unfold headT
  rw [len_app, len_app, len_app, len_dg hs.1 hs.2, len_dg ht.1 ht.2]
  decide +kernel
theorem len_meth {x : Str} {m : Meth} (hx : NameOk x) (ha : 0 ≤ m.args ∧ m.args < 10) (hr : 0 ≤ m.res ∧ m.res < 10) : (methT x m).length ≤ 19 := by
  unfold methT
  rw [len_app, len_app, len_app, len_app, len_app, len_dg ha.1 ha.2, len_dg hr.1 hr.2]
  have e1 : (Str.ofString "method ").length = 7 := by decide +kernel
  have e2 : sp1.length = 1 := by decide +kernel
  have := hx.2.1
  omega
theorem lines_short {k : Kd} (hk : KdOk k) : ∀ x ∈ kindLines k, x.length ≤ 60 := by
  intro x hx
  rcases List.mem_cons.mp hx with e | hx
  · rw [e, len_head ⟨by have := hk.s1; omega, by have := hk.s8; omega⟩ ⟨hk.t0, by have := hk.t1; have := hk.s8; omega⟩]; decide
  · obtain ⟨p, hp, hx⟩ := List.mem_flatMap.mp hx
    obtain ⟨hn, hm⟩ := hk.ok p hp
    rcases List.mem_cons.mp hx with e | hx
    · have := len_meth (m := p.2) hn ⟨by have := hm.a1; omega, by have := hm.a4; omega⟩ ⟨by have := hm.r1; omega, by have := hm.r4; omega⟩
      rw [e]; omega
    · obtain ⟨i, hi, hx⟩ := List.mem_flatMap.mp hx
      obtain ⟨j, hj, e⟩ := List.mem_map.mp hx
      have hi := List.mem_range.mp hi
      have hj := List.mem_range.mp hj
      rw [← e]
      exact len_lineT (res := p.2.res) (states := k.states) ⟨by omega, by have := hk.s8; omega⟩ ⟨by omega, by have := hm.a4; omega⟩ (cellAt_ok hm (by omega) (by omega)) (by have := hm.r4; omega) (by have := hk.s8; omega)
theorem text_fits {k : Kd} (hk : KdOk k) : ((kindLines k).map (·.length)).sum + (kindLines k).length * nl1.length ≤ 16777216 := by
  have h1 := sum_le (lines_short hk)
  have h2 := kindLines_len hk
  have h3 : nl1.length = 1 := by decide +kernel
  have h4 : (kindLines k).length * 60 ≤ 133 * 60 := Nat.mul_le_mul_right _ h2
  rw [h3]
  omega
theorem flat_take {α : Type} {f : α → List Str} {l : List α} {i : Nat} {x : α} (h : l[i]? = some x) : (l.take (i + 1)).flatMap f = (l.take i).flatMap f ++ f x := by
  rw [List.take_add_one, h, List.flatMap_append]
  simp
theorem flat_range {f : Nat → List Str} {i : Nat} : (List.range (i + 1)).flatMap f = (List.range i).flatMap f ++ f i := by
  rw [List.range_succ, List.flatMap_append]
  simp
theorem state_succ (m : Meth) (j i : Nat) : stateLines m (j + 1) i = stateLines m j i ++ [lineT i j (cellAt m i j)] := by
  unfold stateLines
  rw [List.range_succ, List.map_append]
  rfl

section
variable {P : Program} {w : World} {K : PySem.W.Frag} {mg : Str → Option Value} {base : Heap}
theorem no_kind {m : Str} (h : m = "names" ∨ m = "arguments" ∨ m = "results" ∨ m = "answers") : ¬ (m = "_methods") ∧ ¬ (m = "start") ∧ ¬ (m = "states") := by
  rcases h with rfl | rfl | rfl | rfl <;> decide +kernel
theorem kf_not {s t : Int} {d : Addr} {m : Str} (h : m = "names" ∨ m = "arguments" ∨ m = "results" ∨ m = "answers") : (kf s t d).lookup m = none :=
  kf_no s t d (no_kind h).1 (no_kind h).2.1 (no_kind h).2.2
def spText (K : PySem.W.Frag) (C : Addr) : Sp := fun vs H Q _ => ∃ (p : Addr) (kd : Kd), vs = [.ref p] ∧ KindAt K C H p kd ∧ KdOk kd ∧ ∀ H', Same H H' → Q (.str (kindText kd)) H'
theorem ok_kind_text (T : Tx K mg) : FnOk P w K mg base CX0 4 T.kind_text.f T.kind_text.d ["kind"] (spText K T.CKind) := by
  refine T.kind_text.F.ok sc_kind_text (fun vs H Q E h => ?_) (fun cdv A outer s H vs Q E hr h => ?_)
  · obtain ⟨p, kd, rfl, _⟩ := h; rfl
  · obtain ⟨p, kd, rfl, hkd, hk, q⟩ := h
    have nd := sc_kind_text.nd
    have hs : 0 ≤ kd.states ∧ kd.states < 10 := ⟨by have := hk.s1; omega, by have := hk.s8; omega⟩
    have ht : 0 ≤ kd.start ∧ kd.start < 10 := ⟨hk.t0, by have := hk.t1; omega⟩
    refine ⟨_, pss_cons (ps_set (i := 1) nd rfl (Or.inl rfl) (pe_lst (pa_cons (pe_fs (.cons pe_str (.cons (pe_fmt (pe_fld (pv 0) rfl)) (.cons pe_str (.cons (pe_fmt (pe_fld (pv 0) rfl)) .nil))))) pa_nil)))
      (pss_cons (ps_for PassesOwn.never rfl (pi_list (pe_meth0 (pv 0) T.clKind T.Kind_names.me (ok_Kind_names T) (hr.mono (by decide)) T.Kind_names.b .nil pass0)) (pg_name (i := 2) nd rfl (Or.inl rfl))
        (pss_cons (ps_expr (pe_bm PySem.F.plainAttrs_list PySem.F.slot_list_append PySem.F.type_list_append mt_append (pv 1) (pa_cons (pe_fs (.cons pe_str (.cons (pe_fmt (pv 2)) (.cons pe_str
            (.cons (pe_fmt (pe_meth (pv 0) T.clKind T.Kind_arguments.me (ok_Kind_arguments T) hr T.Kind_arguments.b .nil pass0 (pa_cons (pv 2) pa_nil))) (.cons pe_str
            (.cons (pe_fmt (pe_meth (pv 0) T.clKind T.Kind_results.me (ok_Kind_results T) hr T.Kind_results.b .nil pass0 (pa_cons (pv 2) pa_nil))) .nil))))))) pa_nil)))
        (pss_one (ps_for PassesOwn.never rfl (pi_range1 (by rfl) T.z_range (pa_cons (pe_fld (pv 0) rfl) pa_nil)) (pg_name (i := 3) nd rfl (Or.inl rfl))
          (pss_one (ps_for PassesOwn.never rfl (pi_range1 (by rfl) T.z_range (pa_cons (pe_meth (pv 0) T.clKind T.Kind_arguments.me (ok_Kind_arguments T) hr T.Kind_arguments.b .nil pass0 (pa_cons (pv 2) pa_nil)) pa_nil)) (pg_name (i := 4) nd rfl (Or.inl rfl))
            (pss_one (ps_expr (pe_bm PySem.F.plainAttrs_list PySem.F.slot_list_append PySem.F.type_list_append mt_append (pv 1) (pa_cons (pcall T.answers_line (ok_answers_line T) hr (pa_cons (pv 3) (pa_cons (pv 4)
              (pa_cons (pe_meth (pv 0) T.clKind T.Kind_answers.me (ok_Kind_answers T) hr T.Kind_answers.b .nil pass0 (pa_cons (pv 3) (pa_cons (pv 2) (pa_cons (pv 4) pa_nil)))) pa_nil)))) pa_nil))))))))))
      (pss_one (ps_ret (pe_join pe_str (pv 1))))), ?_⟩
    obtain ⟨dx, d, ep, _⟩ := id hkd
    -- lines = [f'kind {kind.states} {kind.start}']
    refine ⟨_, rfl, ?_, _, rfl, p, _, dx, _, _, rfl, ep, T.clKind, T.nKind_states, kf_states _ _ _, .inr ⟨_, rfl, log_small hs.1 hs.2, _, rfl, ?_, _, rfl, ?_, _, rfl, p, _, dx, _, _, rfl, ep, T.clKind, T.nKind_start, kf_start _ _ _, .inr ⟨_, rfl, log_small ht.1 ht.2, _, rfl, ?_, ?_⟩⟩⟩
    · rw [emp_app]; decide +kernel
    · show (Str.empty ++ Str.ofString "kind " ++ dg kd.states).length ≤ sizeLine
      rw [emp_app, len_app, len_dg hs.1 hs.2]; decide +kernel
    · show (Str.empty ++ Str.ofString "kind " ++ dg kd.states ++ sp1).length ≤ sizeLine
      rw [emp_app, len_app, len_app, len_dg hs.1 hs.2]; decide +kernel
    · show (Str.empty ++ Str.ofString "kind " ++ dg kd.states ++ sp1 ++ dg kd.start).length ≤ sizeLine
      rw [emp_app]
      show (headT kd.states kd.start).length ≤ _
      rw [len_head hs ht]; decide +kernel
    refine ⟨by show 1 ≤ sizeLine; decide, fun l hl => ?_⟩
    have eh : Str.empty ++ Str.ofString "kind " ++ dg kd.states ++ sp1 ++ dg kd.start = headT kd.states kd.start := by rw [emp_app]; rfl
    have s1 : Same H (upd H l (.lst ([headT kd.states kd.start].map V.str))) := same_new hl
    have h1 : (upd H l (.lst [.str (Str.empty ++ Str.ofString "kind " ++ dg kd.states ++ sp1 ++ dg kd.start)])) l = some (.lst ([headT kd.states kd.start].map V.str)) := by rw [upd_same, eh]; rfl
    have s1 : Same H (upd H l (.lst [.str (Str.empty ++ Str.ofString "kind " ++ dg kd.states ++ sp1 ++ dg kd.start)])) := same_new hl
    show tSeq _ _ _ _ (upd H l (.lst [.str (Str.empty ++ Str.ofString "kind " ++ dg kd.states ++ sp1 ++ dg kd.start)]))
    generalize upd H l (.lst [.str (Str.empty ++ Str.ofString "kind " ++ dg kd.states ++ sp1 ++ dg kd.start)]) = H1 at h1 s1 ⊢
    -- for method in kind.names()
    obtain ⟨dx1, d1, ep1, _⟩ := id (hkd.same s1)
    refine ⟨_, rfl, p, dx1, _, rfl, ep1, kf_not (.inl rfl), p, kd, rfl, hkd.same s1, fun l2 hl2 => ?_⟩
    have s2 : Same H1 (upd H1 l2 (.lst ((kd.meths.map (·.1)).map V.str))) := same_new hl2
    have h2 : (upd H1 l2 (.lst ((kd.meths.map (·.1)).map V.str))) l2 = some (.lst ((kd.meths.map (·.1)).map V.str)) := upd_same
    generalize upd H1 l2 (.lst ((kd.meths.map (·.1)).map V.str)) = H2 at s2 h2 ⊢
    have hl2n : l2 ≠ l := fun e => by rw [e, h1] at hl2; cases hl2
    have s12 := s1.trans s2
    refine ⟨l2, rfl, ⟨_, SqL.of h2⟩, for_list (K := K) (a := l2) (xs := (kd.meths.map (·.1)).map V.str) (fun n σ H' => ∃ y2 y3 y4, σ = [some (.ref p), some (.ref l), y2, y3, y4] ∧ Same H H' ∧ H' l2 = some (.lst ((kd.meths.map (·.1)).map V.str)) ∧
        H' l = some (.lst ((headT kd.states kd.start :: (kd.meths.take n).flatMap (methLines kd.states)).map V.str)))
      ⟨none, none, none, rfl, s12, h2, s2 _ _ h1⟩ (fun n σ H' _ ⟨_, _, _, _, _, h3, _⟩ => SqL.of h3) ?_ ?_⟩
    · rintro n x σ H3 hn ⟨y2, y3, y4, rfl, s3, h3, h4⟩
      obtain ⟨pm, hpm, rfl⟩ : ∃ pm, kd.meths[n]? = some pm ∧ x = .str pm.1 := by
        rw [List.map_map, List.getElem?_map] at hn
        cases e : kd.meths[n]? with
        | none => rw [e] at hn; cases hn
        | some y => rw [e] at hn; exact ⟨y, rfl, (Option.some.inj hn).symm⟩
      have hmem := mem_of_get hpm
      obtain ⟨hname, hm⟩ := hk.ok pm hmem
      have hg : getM kd.meths pm.1 = some pm.2 := getM_mem hk.nd hmem
      have ha : 0 ≤ pm.2.args ∧ pm.2.args < 10 := ⟨by have := hm.a1; omega, by have := hm.a4; omega⟩
      have hre : 0 ≤ pm.2.res ∧ pm.2.res < 10 := ⟨by have := hm.r1; omega, by have := hm.r4; omega⟩
      obtain ⟨dx3, d3, ep3, _⟩ := id (hkd.same s3)
      have hlm := len_meth (m := pm.2) hname ha hre
      have hn8 := hname.2.1
      have hnl : n < kd.meths.length := (List.getElem?_eq_some_iff.mp hpm).1
      have hm4 := hk.m4
      obtain ⟨L0, hL0⟩ : ∃ L0, L0 = headT kd.states kd.start :: (kd.meths.take n).flatMap (methLines kd.states) := ⟨_, rfl⟩
      rw [← hL0] at h4
      have hL0len : L0.length ≤ 133 := by
        have h := flat_len (l := kd.meths.take n) (f := methLines kd.states) (n := 33) fun p hp => methLines_len hk.s8 (hk.ok p (List.mem_of_mem_take hp)).2
        rw [List.length_take] at h
        rw [hL0, List.length_cons]
        omega
      -- lines.append(f'method ..')
      refine ⟨_, rfl, .inl ⟨rfl, _, SqL.of h4⟩, ?_⟩
      refine ⟨_, rfl, ?_, _, rfl, .inl ⟨pm.1, rfl, by rw [sizeLine_eq]; omega, _, rfl, ?_, _, rfl, ?_, _, rfl, p, dx3, _, rfl, ep3, kf_not (.inr (.inl rfl)), _, rfl, p, kd, pm.1, pm.2, rfl, hkd.same s3, hg, ?_⟩⟩
      · rw [emp_app]; decide +kernel
      · rw [emp_app, len_app, sizeLine_eq]
        have e1 : (Str.ofString "method ").length = 7 := by decide +kernel
        omega
      · rw [emp_app, len_app, len_app, sizeLine_eq]
        have e1 : (Str.ofString "method ").length = 7 := by decide +kernel
        have e2 : (Str.ofString " ").length = 1 := by decide +kernel
        omega
      refine .inr ⟨_, rfl, log_small ha.1 ha.2, _, rfl, ?_, _, rfl, ?_, _, rfl, p, dx3, _, rfl, ep3, kf_not (.inr (.inr (.inl rfl))), _, rfl, p, kd, pm.1, pm.2, rfl, hkd.same s3, hg, .inr ⟨_, rfl, log_small hre.1 hre.2, _, rfl, ?_, ?_⟩⟩
      · show (Str.empty ++ Str.ofString "method " ++ pm.1 ++ sp1 ++ dg pm.2.args).length ≤ _
        rw [emp_app, len_app, len_app, len_app, len_dg ha.1 ha.2, sizeLine_eq]
        have e1 : (Str.ofString "method ").length = 7 := by decide +kernel
        have e2 : sp1.length = 1 := by decide +kernel
        omega
      · show (Str.empty ++ Str.ofString "method " ++ pm.1 ++ sp1 ++ dg pm.2.args ++ sp1).length ≤ _
        rw [emp_app, len_app, len_app, len_app, len_app, len_dg ha.1 ha.2, sizeLine_eq]
        have e1 : (Str.ofString "method ").length = 7 := by decide +kernel
        have e2 : sp1.length = 1 := by decide +kernel
        omega
      · show (Str.empty ++ Str.ofString "method " ++ pm.1 ++ sp1 ++ dg pm.2.args ++ sp1 ++ dg pm.2.res).length ≤ _
        rw [emp_app]
        show (methT pm.1 pm.2).length ≤ _
        rw [sizeLine_eq]; omega
      have em : Str.empty ++ Str.ofString "method " ++ pm.1 ++ sp1 ++ dg pm.2.args ++ sp1 ++ dg pm.2.res = methT pm.1 pm.2 := by rw [emp_app]; rfl
      refine ⟨l, _, _, rfl, rfl, h4, ?_, ?_⟩
      · rw [List.length_map, sizeLine_eq]; omega
      -- the lines so far
      have s4 : Same H (upd H3 l (.lst (L0.map V.str ++ [.str (Str.empty ++ Str.ofString "method " ++ pm.1 ++ sp1 ++ dg pm.2.args ++ sp1 ++ dg pm.2.res)]))) := same_at s3 hl
      have h5 : (upd H3 l (.lst (L0.map V.str ++ [.str (Str.empty ++ Str.ofString "method " ++ pm.1 ++ sp1 ++ dg pm.2.args ++ sp1 ++ dg pm.2.res)]))) l = some (.lst ((L0 ++ [methT pm.1 pm.2]).map V.str)) := by
        rw [upd_same, em, List.map_append]; rfl
      have h6 : (upd H3 l (.lst (L0.map V.str ++ [.str (Str.empty ++ Str.ofString "method " ++ pm.1 ++ sp1 ++ dg pm.2.args ++ sp1 ++ dg pm.2.res)]))) l2 = some (.lst ((kd.meths.map (·.1)).map V.str)) := by
        rw [upd_ne hl2n]; exact h3
      obtain ⟨dx4, d4, ep4, _⟩ := id (hkd.same s4)
      -- for state in range(kind.states)
      refine ⟨_, rfl, p, _, dx4, _, _, rfl, ep4, T.clKind, T.nKind_states, kf_states _ _ _, kd.states, rfl, by omega, by omega, for_range (lo := 0) (n := kd.states.toNat) (fun i σ H' => ∃ y3 y4, σ = [some (.ref p), some (.ref l), some (.str pm.1), y3, y4] ∧ Same H H' ∧
          H' l2 = some (.lst ((kd.meths.map (·.1)).map V.str)) ∧ H' l = some (.lst (((L0 ++ [methT pm.1 pm.2]) ++ (List.range i).flatMap (stateLines pm.2 pm.2.args.toNat)).map V.str)))
        ⟨_, _, rfl, s4, h6, by
          rw [show (List.range 0).flatMap (stateLines pm.2 pm.2.args.toNat) = [] from rfl, List.append_nil]
          exact h5⟩ ?_ ?_⟩
      · rintro i σ H5 hi ⟨y3, y4, rfl, s5, g2, g1⟩
        rw [Int.zero_add]
        obtain ⟨dx5, d5, ep5, _⟩ := id (hkd.same s5)
        have hsl : ((List.range i).flatMap (stateLines pm.2 pm.2.args.toNat)).length ≤ 32 := by
          have h := flat_len (l := List.range i) (f := stateLines pm.2 pm.2.args.toNat) (n := 4) fun x _ => by rw [stateLines_len]; have := hm.a4; omega
          rw [List.length_range] at h; omega
        -- for argument in range(kind.arguments(method))
        refine ⟨_, rfl, p, dx5, _, rfl, ep5, kf_not (.inr (.inl rfl)), _, rfl, p, kd, pm.1, pm.2, rfl, hkd.same s5, hg, pm.2.args, rfl, by omega, by omega, for_range (lo := 0) (n := pm.2.args.toNat) (fun j σ H' => ∃ y4, σ = [some (.ref p), some (.ref l), some (.str pm.1), some (.int i), y4] ∧ Same H H' ∧
            H' l2 = some (.lst ((kd.meths.map (·.1)).map V.str)) ∧ H' l = some (.lst ((((L0 ++ [methT pm.1 pm.2]) ++ (List.range i).flatMap (stateLines pm.2 pm.2.args.toNat)) ++ stateLines pm.2 j i).map V.str)))
          ⟨_, rfl, s5, g2, by
            have e : stateLines pm.2 0 i = [] := rfl
            rw [e, List.append_nil]; exact g1⟩ ?_ ?_⟩
        · rintro j σ H6 hj ⟨y4, rfl, s6, k2, k1⟩
          rw [Int.zero_add]
          obtain ⟨dx6, d6, ep6, _⟩ := id (hkd.same s6)
          have hi' : (i : Int) < kd.states := by omega
          have hj' : (j : Int) < pm.2.args := by omega
          refine ⟨_, rfl, .inl ⟨rfl, _, SqL.of k1⟩, ?_⟩
          refine ⟨_, rfl, _, rfl, _, rfl, p, dx6, _, rfl, ep6, kf_not (.inr (.inr (.inr rfl))), _, rfl, _, rfl, _, rfl, p, kd, pm.1, pm.2, i, j, rfl, hkd.same s6, hg, hm, hi', hj', fun v dv => ?_⟩
          refine ⟨i, j, pm.2.res, kd.states, v, _, rfl, dv, cellAt_ok hm hi' hj', by omega, by omega, ⟨by omega, by omega⟩, ⟨by omega, by omega⟩, fun H7 s7 => ?_⟩
          refine ⟨l, _, _, rfl, rfl, s7 _ _ k1, ?_, ?_⟩
          · rw [List.length_map, List.length_append, List.length_append, List.length_append, List.length_singleton, stateLines_len, sizeLine_eq]
            have := hm.a4
            omega
          · refine ⟨_, rfl, same_at (s6.trans s7) hl, by rw [upd_ne hl2n]; exact s7 _ _ k2, ?_⟩
            rw [upd_same, state_succ, ← List.append_assoc, List.map_append (l₂ := [lineT _ _ _])]
            rfl
        · rintro σ H6 ⟨y4, rfl, s6, k2, k1⟩
          refine ⟨_, _, rfl, s6, k2, ?_⟩
          rw [k1, flat_range, ← List.append_assoc]
      · rintro σ H5 ⟨y3, y4, rfl, s5, g2, g1⟩
        refine ⟨_, _, _, rfl, s5, g2, ?_⟩
        have e : (L0 ++ [methT pm.1 pm.2]) ++ (List.range kd.states.toNat).flatMap (stateLines pm.2 pm.2.args.toNat) = headT kd.states kd.start :: (kd.meths.take (n + 1)).flatMap (methLines kd.states) := by
          rw [flat_take hpm, hL0, List.append_assoc]
          rfl
        rw [g1, e]
    · rintro σ H3 ⟨y2, y3, y4, rfl, s3, h3, h4⟩
      rw [List.length_map, List.length_map, List.take_length] at h4
      exact ⟨⟨_, rfl⟩, _, rfl, nl1, l, kindLines kd, rfl, rfl, .inl (SqL.of h4), text_fits hk, q _ s3⟩
end
end Tw
/-! ## Tw11: plain facts of texts: what splitting gives back, the order of names -/
namespace Tw
open PySem L2 TL
def kw : Str := Str.ofString "kind"
def mw : Str := Str.ofString "method"
theorem tl_sp : tl sp1 = [32] := by decide +kernel
theorem tl_nl : tl nl1 = [10] := by decide +kernel
theorem tl_sl : tl sl1 = [47] := by decide +kernel
theorem dg_eq {i : Int} (h0 : 0 ≤ i) (h : i < 10) : dg i = ⟨#[48 + i.toNat]⟩ := ext_tl (by rw [tl_dg h0 h])
theorem join2 (s a b : Str) : Txt.join s [a, b] = a ++ s ++ b := by rw [join_eq]; rfl
theorem join3 (s a b c : Str) : Txt.join s [a, b, c] = a ++ s ++ b ++ s ++ c := by
  rw [join_eq]
  refine ext_tl ?_
  show tl (a ++ s ++ (b ++ s ++ c)) = _
  simp only [tl_append, List.append_assoc]
theorem join4 (s a b c d : Str) : Txt.join s [a, b, c, d] = a ++ s ++ b ++ s ++ c ++ s ++ d := by
  rw [join_eq]
  refine ext_tl ?_
  show tl (a ++ s ++ (b ++ s ++ (c ++ s ++ d))) = _
  simp only [tl_append, List.append_assoc]
theorem app_assoc (a b c : Str) : a ++ b ++ c = a ++ (b ++ c) := ext_tl (by simp only [tl_append, List.append_assoc])
theorem head_join (s t : Int) : headT s t = Txt.join sp1 [kw, dg s, dg t] := by
  rw [join3]
  have e : Str.ofString "kind " = kw ++ sp1 := by decide +kernel
  unfold headT
  rw [e]
theorem meth_join (x : Str) (m : Meth) : methT x m = Txt.join sp1 [mw, x, dg m.args, dg m.res] := by
  rw [join4]
  have e : Str.ofString "method " = mw ++ sp1 := by decide +kernel
  unfold methT
  rw [e]
theorem ans_join (a : An) : ansT a = Txt.join sl1 [dg a.1, dg a.2] := by rw [join2]; rfl
theorem no_sp_dg {i : Int} (h0 : 0 ≤ i) (h : i < 10) {c : Nat} (hc : c < 48) : c ∉ tl (dg i) := by
  rw [tl_dg h0 h]
  intro hm
  have := List.mem_singleton.mp hm
  omega
theorem name_free {x : Str} (hx : NameOk x) {c : Nat} (hc : c < 97) : c ∉ tl x := fun hm => by
  have := (hx.2.2 c hm).1
  omega
theorem ans_free {a : An} (h : AnOk 10 10 a) {c : Nat} (hc : c < 47) : c ∉ tl (ansT a) := by
  obtain ⟨a1, a2, a3, a4⟩ := h
  unfold ansT
  rw [tl_append, tl_append, tl_sl]
  intro hm
  rcases List.mem_append.mp hm with hm | hm
  · rcases List.mem_append.mp hm with hm | hm
    · exact no_sp_dg a1 a2 (by omega) hm
    · have := List.mem_singleton.mp hm; omega
  · exact no_sp_dg a3 a4 (by omega) hm
theorem split_head {s t : Int} (hs : 0 ≤ s ∧ s < 10) (ht : 0 ≤ t ∧ t < 10) : Txt.split (headT s t) sp1 = [kw, dg s, dg t] := by
  rw [head_join]
  refine split_join tl_sp (by decide +kernel) (by simp) fun p hp => ?_
  simp only [List.mem_cons, List.not_mem_nil, or_false] at hp
  rcases hp with rfl | rfl | rfl
  · decide +kernel
  · exact no_sp_dg hs.1 hs.2 (by decide)
  · exact no_sp_dg ht.1 ht.2 (by decide)
theorem split_meth {x : Str} {m : Meth} (hx : NameOk x) (ha : 0 ≤ m.args ∧ m.args < 10) (hr : 0 ≤ m.res ∧ m.res < 10) : Txt.split (methT x m) sp1 = [mw, x, dg m.args, dg m.res] := by
  rw [meth_join]
  refine split_join tl_sp (by decide +kernel) (by simp) fun p hp => ?_
  simp only [List.mem_cons, List.not_mem_nil, or_false] at hp
  rcases hp with rfl | rfl | rfl | rfl
  · decide +kernel
  · exact name_free hx (by decide)
  · exact no_sp_dg ha.1 ha.2 (by decide)
  · exact no_sp_dg hr.1 hr.2 (by decide)
theorem split_line {i j res states : Int} {c : Cell} (hi : 0 ≤ i ∧ i < 10) (hj : 0 ≤ j ∧ j < 10) (hc : CellOk res states c) (hr : res ≤ 10) (hs : states ≤ 10) : Txt.split (lineT i j c) sp1 = dg i :: dg j :: c.map ansT := by
  refine split_join tl_sp (by decide +kernel) (by simp) fun p hp => ?_
  rcases List.mem_cons.mp hp with rfl | hp
  · exact no_sp_dg hi.1 hi.2 (by decide)
  rcases List.mem_cons.mp hp with rfl | hp
  · exact no_sp_dg hj.1 hj.2 (by decide)
  obtain ⟨a, ha, rfl⟩ := List.mem_map.mp hp
  exact ans_free (an10 (hc.an a ha) hr hs) (by decide)
theorem split_ans {a : An} (h : AnOk 10 10 a) : Txt.split (ansT a) sl1 = [dg a.1, dg a.2] := by
  obtain ⟨a1, a2, a3, a4⟩ := h
  rw [ans_join]
  refine split_join tl_sl (by decide +kernel) (by simp) fun p hp => ?_
  simp only [List.mem_cons, List.not_mem_nil, or_false] at hp
  rcases hp with rfl | rfl
  · exact no_sp_dg a1 a2 (by decide)
  · exact no_sp_dg a3 a4 (by decide)
theorem mem_joinL {c : Nat} {S : List Nat} : ∀ {ps : List (List Nat)}, c ∈ joinL S ps → c ∈ S ∨ ∃ p ∈ ps, c ∈ p
  | [], h => by simp [joinL] at h
  | [p], h => .inr ⟨p, List.mem_singleton.mpr rfl, h⟩
  | p :: q :: r, h => by
    have h : c ∈ p ++ (S ++ joinL S (q :: r)) := h
    rcases List.mem_append.mp h with h | h
    · exact .inr ⟨p, List.mem_cons_self, h⟩
    rcases List.mem_append.mp h with h | h
    · exact .inl h
    rcases mem_joinL h with h | ⟨z, hz, h⟩
    · exact .inl h
    · exact .inr ⟨z, List.mem_cons_of_mem _ hz, h⟩
theorem join_free {c : Nat} {s : Str} {ps : List Str} (h : c ∉ tl s) (hp : ∀ p ∈ ps, c ∉ tl p) : c ∉ tl (Txt.join s ps) := by
  rw [join_eq, tl_join]
  intro hm
  rcases mem_joinL hm with hm | ⟨q, hq, hm⟩
  · exact h hm
  · obtain ⟨p, hp', rfl⟩ := List.mem_map.mp hq
    exact hp p hp' hm
theorem line_free {i j res states : Int} {c : Cell} (hi : 0 ≤ i ∧ i < 10) (hj : 0 ≤ j ∧ j < 10) (hc : CellOk res states c) (hr : res ≤ 10) (hs : states ≤ 10) : 10 ∉ tl (lineT i j c) := by
  refine join_free (by rw [tl_sp]; decide) fun p hp => ?_
  rcases List.mem_cons.mp hp with rfl | hp
  · exact no_sp_dg hi.1 hi.2 (by decide)
  rcases List.mem_cons.mp hp with rfl | hp
  · exact no_sp_dg hj.1 hj.2 (by decide)
  obtain ⟨a, ha, rfl⟩ := List.mem_map.mp hp
  exact ans_free (an10 (hc.an a ha) hr hs) (by decide)
theorem lines_free {k : Kd} (hk : KdOk k) : ∀ z ∈ kindLines k, 10 ∉ tl z := by
  intro x hx
  rcases List.mem_cons.mp hx with e | hx
  · rw [e, head_join]
    refine join_free (by rw [tl_sp]; decide) fun p hp => ?_
    simp only [List.mem_cons, List.not_mem_nil, or_false] at hp
    rcases hp with rfl | rfl | rfl
    · decide +kernel
    · exact no_sp_dg (by have := hk.s1; omega) (by have := hk.s8; omega) (by decide)
    · exact no_sp_dg hk.t0 (by have := hk.t1; have := hk.s8; omega) (by decide)
  · obtain ⟨p, hp, hx⟩ := List.mem_flatMap.mp hx
    obtain ⟨hn, hm⟩ := hk.ok p hp
    rcases List.mem_cons.mp hx with e | hx
    · rw [e, meth_join]
      refine join_free (by rw [tl_sp]; decide) fun z hz => ?_
      simp only [List.mem_cons, List.not_mem_nil, or_false] at hz
      rcases hz with rfl | rfl | rfl | rfl
      · decide +kernel
      · exact name_free hn (by decide)
      · exact no_sp_dg (by have := hm.a1; omega) (by have := hm.a4; omega) (by decide)
      · exact no_sp_dg (by have := hm.r1; omega) (by have := hm.r4; omega) (by decide)
    · obtain ⟨i, hi, hx⟩ := List.mem_flatMap.mp hx
      obtain ⟨j, hj, e⟩ := List.mem_map.mp hx
      have hi := List.mem_range.mp hi
      have hj := List.mem_range.mp hj
      rw [← e]
      exact line_free (res := p.2.res) (states := k.states) ⟨by omega, by have := hk.s8; omega⟩ ⟨by omega, by have := hm.a4; omega⟩ (cellAt_ok hm (by omega) (by omega)) (by have := hm.r4; omega) (by have := hk.s8; omega)
theorem split_text {k : Kd} (hk : KdOk k) : Txt.split (kindText k) nl1 = kindLines k :=
  split_join tl_nl (by decide +kernel) (by simp [kindLines]) (lines_free hk)
theorem text_len {k : Kd} (hk : KdOk k) : (kindText k).length ≤ 16777000 := by
  have h1 := sum_le (lines_short hk)
  have h2 := kindLines_len hk
  have h3 : nl1.length = 1 := by decide +kernel
  have h4 : (kindLines k).length * 60 ≤ 133 * 60 := Nat.mul_le_mul_right _ h2
  unfold kindText
  rw [join_eq]
  have := StrLaws.join_length_le nl1 (kindLines k)
  rw [h3] at this
  omega

/-! ### the order of names -/
def ltS (a b : Str) : Prop := tl a < tl b
theorem ltS_irrefl (a : Str) : ¬ ltS a a := List.lt_irrefl _
theorem ltS_trans {a b c : Str} (h : ltS a b) (h' : ltS b c) : ltS a c := List.lt_trans h h'
theorem ltS_tri (a b : Str) : ltS a b ∨ a = b ∨ ltS b a := by
  by_cases h : tl a < tl b
  · exact .inl h
  · by_cases h' : tl b < tl a
    · exact .inr (.inr h')
    · exact .inr (.inl (ext_tl (List.le_antisymm (by exact h') (by exact h))))
theorem rising_of : ∀ (l : List Str) (p : Str), PyProof.Rows.risingS p l = true → (p :: l).Nodup → (p :: l).Pairwise ltS
  | [], p, _, _ => by simp
  | x :: r, p, h, hn => by
    have h : (!PySem.Spec.ltCps x.cps.toList p.cps.toList && PyProof.Rows.risingS x r) = true := h
    rw [Bool.and_eq_true] at h
    obtain ⟨h1, h2⟩ := h
    obtain ⟨n1, n2⟩ := List.nodup_cons.mp hn
    have ih := rising_of r x h2 n2
    have hpx : ltS p x := by
      rw [PyProof.Rows.ltCps_eq] at h1
      have h1 : ¬ ltS x p := by
        intro h'
        rw [decide_eq_true (show x.cps.toList < p.cps.toList from h')] at h1
        cases h1
      rcases ltS_tri p x with h | h | h
      · exact h
      · exact absurd (by rw [h]; exact List.mem_cons_self) n1
      · exact absurd h h1
    refine List.pairwise_cons.mpr ⟨fun z hz => ?_, ih⟩
    rcases List.mem_cons.mp hz with e | hz
    · rw [e]; exact hpx
    · exact ltS_trans hpx ((List.pairwise_cons.mp ih).1 z hz)
theorem sorted_of {l : List Str} (h : PyProof.Rows.sortedS l = true) (hn : l.Nodup) : l.Pairwise ltS := by
  cases l with
  | nil => simp
  | cons p l => exact rising_of l p h hn
theorem rising_to : ∀ (l : List Str) (p : Str), (p :: l).Pairwise ltS → PyProof.Rows.risingS p l = true
  | [], _, _ => rfl
  | x :: r, p, h => by
    obtain ⟨h1, h2⟩ := List.pairwise_cons.mp h
    show (!PySem.Spec.ltCps x.cps.toList p.cps.toList && PyProof.Rows.risingS x r) = true
    rw [rising_to r x h2, PyProof.Rows.ltCps_eq, Bool.and_true]
    have : ¬ ltS x p := fun h' => ltS_irrefl p (ltS_trans (h1 x List.mem_cons_self) h')
    rw [decide_eq_false (show ¬ x.cps.toList < p.cps.toList from this)]
    rfl
theorem sorted_to {l : List Str} (h : l.Pairwise ltS) : PyProof.Rows.sortedS l = true := by
  cases l with
  | nil => rfl
  | cons p l => exact rising_to l p h
/-- two lists in order with the same items are one -/
theorem order_unique {α : Type} (R : α → α → Prop) (irr : ∀ a, ¬ R a a) (tr : ∀ a b c, R a b → R b c → R a c) : ∀ {l m : List α}, l.Perm m → l.Pairwise R → m.Pairwise R → l = m
  | l, [], p, _, _ => p.eq_nil
  | [], y :: m, p, _, _ => absurd p.symm.eq_nil (by simp)
  | x :: l, y :: m, p, h1, h2 => by
    have hx : x ∈ y :: m := p.mem_iff.mp List.mem_cons_self
    have hy : y ∈ x :: l := p.mem_iff.mpr List.mem_cons_self
    obtain ⟨a1, a2⟩ := List.pairwise_cons.mp h1
    obtain ⟨b1, b2⟩ := List.pairwise_cons.mp h2
    have e : x = y := by
      rcases List.mem_cons.mp hx with e | hx
      · exact e
      · rcases List.mem_cons.mp hy with e | hy
        · exact e.symm
        · exact absurd (tr _ _ _ (b1 x hx) (a1 y hy)) (irr _)
    subst e
    rw [order_unique R irr tr p.cons_inv a2 b2]
/-- methods in the order of their names -/
def Up (ms : List (Str × Meth)) : Prop := ms.Pairwise fun p q => ltS p.1 q.1
theorem up_of {ms ms' : List (Str × Meth)} (hn : (ms.map (·.1)).Nodup) (h : SortOf ms ms') : Up ms' := by
  have hn' : (ms'.map (·.1)).Nodup := (h.1.map _).nodup_iff.mpr hn
  have := sorted_of h.2 hn'
  rw [List.pairwise_map] at this
  exact this
theorem sort_one {ms ms1 ms2 : List (Str × Meth)} (hn : (ms.map (·.1)).Nodup) (h1 : SortOf ms ms1) (h2 : SortOf ms ms2) : ms1 = ms2 :=
  order_unique (fun (p q : Str × Meth) => ltS p.1 q.1) (fun _ => ltS_irrefl _) (fun _ _ _ => ltS_trans) (h1.1.trans h2.1.symm) (up_of hn h1) (up_of hn h2)
theorem sort_self {ms : List (Str × Meth)} (h : Up ms) : SortOf ms ms := ⟨.refl _, sorted_to (by rw [List.pairwise_map]; exact h)⟩
theorem up_nodup {ms : List (Str × Meth)} (h : Up ms) : (ms.map (·.1)).Nodup := by
  rw [List.nodup_iff_pairwise_ne, List.pairwise_map]
  refine List.Pairwise.imp (fun {a b} hab e => ?_) h
  rw [e] at hab
  exact ltS_irrefl _ hab
theorem KdOk.perm {k : Kd} {ms : List (Str × Meth)} (hk : KdOk k) (h : ms.Perm k.meths) : KdOk ⟨k.states, k.start, ms⟩ :=
  ⟨hk.s1, hk.s8, hk.t0, hk.t1, by rw [h.length_eq]; exact hk.m1, by rw [h.length_eq]; exact hk.m4, (h.map _).nodup_iff.mpr hk.nd, fun p hp => hk.ok p (h.mem_iff.mp hp)⟩
/-- no name stands behind the last one -/
def zw : Str := Str.ofString "zzzzzzzz"
theorem not_above : ∀ (n : Nat) (l : List Nat), l.length ≤ n → (∀ c ∈ l, c ≤ 122) → ¬ List.replicate n 122 < l
  | 0, [], _, _ => by simp
  | 0, _ :: _, h, _ => by simp at h
  | n + 1, [], _, _ => by simp
  | n + 1, c :: l, h, hc => by
    intro hlt
    rw [List.replicate_succ, List.cons_lt_cons_iff] at hlt
    have := hc c List.mem_cons_self
    rcases hlt with h1 | ⟨_, h2⟩
    · omega
    · exact not_above n l (by simpa using h) (fun d hd => hc d (List.mem_cons_of_mem _ hd)) h2
theorem zw_top {x : Str} (hx : NameOk x) : ¬ ltS zw x := by
  have e : tl zw = List.replicate 8 122 := by decide +kernel
  unfold ltS
  rw [e]
  exact not_above 8 _ (by have := hx.2.1; rw [len_tl] at this; exact this) fun c hc => (hx.2.2 c hc).2
end Tw
/-! ## Tw12: numbers and answers read -/
namespace Tw
open PySem L2 TL
theorem digit_mem {i : Int} (h0 : 0 ≤ i) (h : i < 10) : 48 + i.toNat ∈ (Str.ofString "0123456789").cps.toList := by
  have e : (Str.ofString "0123456789").cps.toList = [48, 49, 50, 51, 52, 53, 54, 55, 56, 57] := by decide +kernel
  rw [e]
  have : ∀ n : Nat, n < 10 → 48 + n ∈ [48, 49, 50, 51, 52, 53, 54, 55, 56, 57] := by decide
  exact this _ (by omega)
theorem int_dg {i : Int} (h0 : 0 ≤ i) (h : i < 10) : PySem.intText? (dg i) = some i := by
  obtain ⟨n, rfl⟩ := Int.eq_ofNat_of_zero_le h0
  show PySem.intText? (Str.ofString (toString ((n : Nat) : Int))) = _
  exact int_num (by rw [numL_lt (by omega)]; show 1 ≤ 4300; decide)
section
variable {P : Program} {w : World} {K : PySem.W.Frag} {mg : Str → Option Value} {base : Heap}
def spNum : Sp := fun vs H Q _ => ∃ i lo hi : Int, vs = [.str (dg i), .int lo, .int hi] ∧ (0 ≤ i ∧ i < 10) ∧ lo ≤ i ∧ i ≤ hi ∧ Q (.int i) H
theorem ok_number_of (T : Tx K mg) : FnOk P w K mg base CX0 1 T.number_of.f T.number_of.d ["word", "low", "high"] spNum := by
  refine T.number_of.F.ok sc_number_of (fun vs H Q E h => ?_) (fun cdv A outer s H vs Q E hr h => ?_)
  · obtain ⟨i, lo, hi, rfl, _⟩ := h; rfl
  · obtain ⟨i, lo, hi, rfl, hi10, h1, h2, q⟩ := h
    obtain ⟨tD, gD⟩ := T.c_DIGITS
    refine ⟨_, pss_cons (ps_if (PW.pt (pw_or (pt_cmpR op_ne (pe_callB call_len (by rfl) T.z_len bt_len (pa_cons (pv 0) pa_nil)) pe_int (nomark _))
        (pw_or (pt_cmpR op_notIn_sign (pv 0) (pe_glob (v := .str (Str.ofString "0123456789")) (by rfl) gD ⟨tD, rfl⟩) (by rfl))
        (pw_or1 (pt_not (pt_chain op_le op_le (pv 1) (pe_callTy call_int_str (by rfl) T.z_int bt_int (pa_cons (pv 0) pa_nil)) (pv 2))))))) pss_never pss_nil)
      (pss_one (ps_ret (pe_callTy call_int_str (by rfl) T.z_int bt_int (pa_cons (pv 0) pa_nil)))), ?_⟩
    have hl := len_dg hi10.1 hi10.2
    refine ⟨_, rfl, _, 1, rfl, ⟨by rw [hl]; decide, hl.symm⟩, rfl, false, rfl, iteF ?_⟩
    refine ⟨_, rfl, 48 + i.toNat, _, congrArg V.str (dg_eq hi10.1 hi10.2), rfl, false, ?_, iteF ?_⟩
    · rw [decide_eq_true (digit_mem hi10.1 hi10.2)]; rfl
    refine ⟨_, rfl, _, rfl, _, i, rfl, int_dg hi10.1 hi10.2, by rw [hl]; decide, _, _, rfl, rfl, true, congrArg V.bl (decide_eq_true h1), iteT ⟨_, rfl, _, _, rfl, rfl, true, congrArg V.bl (decide_eq_true h2), iteF ?_⟩⟩
    exact ⟨_, rfl, _, i, rfl, int_dg hi10.1 hi10.2, by rw [hl]; decide, q⟩
theorem atI_last {xs : List V} {v : V} (h : xs[xs.length - 1]? = some v) : atI xs (-1) = some v := by
  have hl := (List.getElem?_eq_some_iff.mp h).1
  unfold atI ixN
  rw [if_neg (by decide), if_pos (by omega)]
  show xs[((-1 : Int) + (xs.length : Int)).toNat]? = some v
  rw [show ((-1 : Int) + (xs.length : Int)).toNat = xs.length - 1 by omega]
  exact h
theorem lex_false {a b : An} (h : ltA a b) : Ob.lexAt (fun j => decide (([b.1, b.2] : List Int).getD j 0 = ([a.1, a.2] : List Int).getD j 0)) (fun j => decide (([b.1, b.2] : List Int).getD j 0 ≤ ([a.1, a.2] : List Int).getD j 0)) (decide (([b.1, b.2] : List Int).length ≤ ([a.1, a.2] : List Int).length)) 0 (min ([b.1, b.2] : List Int).length ([a.1, a.2] : List Int).length) = false := by
  show Ob.lexAt _ _ _ 0 2 = false
  rw [Ob.lexAt_succ]
  rcases h with h | ⟨h, h'⟩
  · rw [if_neg (by show ¬ decide (b.1 = a.1) = true; rw [decide_eq_true_eq]; omega)]
    show decide (b.1 ≤ a.1) = false
    exact decide_eq_false (by omega)
  · rw [if_pos (by show decide (b.1 = a.1) = true; rw [decide_eq_true_eq]; omega), Ob.lexAt_succ, if_neg (by show ¬ decide (b.2 = a.2) = true; rw [decide_eq_true_eq]; omega)]
    show decide (b.2 ≤ a.2) = false
    exact decide_eq_false (by omega)
def spAnsOf (K : PySem.W.Frag) : Sp := fun vs H Q _ => ∃ (a : Addr) (res states : Int) (c : Cell), vs = [.ref a, .int res, .int states] ∧ SqL K H a ((c.map ansT).map V.str) ∧ CellOk res states c ∧ res ≤ 10 ∧ states ≤ 10 ∧ ∀ H' p, Same H H' → H p = none → Dp K H' (.ref p) (cellD true c) → Q (.ref p) H'
theorem ok_answers_of (T : Tx K mg) : FnOk P w K mg base CX0 2 T.answers_of.f T.answers_of.d ["words", "results", "states"] (spAnsOf K) := by
  refine T.answers_of.F.ok sc_answers_of (fun vs H Q E h => ?_) (fun cdv A outer s H vs Q E hr h => ?_)
  · obtain ⟨a, res, states, c, rfl, _⟩ := h; rfl
  · obtain ⟨a, res, states, c, rfl, ha, hc, hr10, hs10, q⟩ := h
    have nd := sc_answers_of.nd
    refine ⟨_, pss_cons (ps_set (i := 3) nd rfl (Or.inl rfl) (pe_lst pa_nil))
      (pss_cons (ps_for PassesOwn.never rfl (pi_list (pv 0)) (pg_name (i := 4) nd rfl (Or.inl rfl))
        (pss_cons (ps_set (i := 5) nd rfl (Or.inl rfl) (pe_split (pv 4) pe_str))
        (pss_cons (ps_setLc (i := 6) (own := [("part", 7)]) (g := gName 7) (tt := tYes) rfl nd rfl rfl (sw_true rfl rfl rfl (by decide +kernel)) (pi_list (pv 5))
          (blkOk_by (own := [("part", 7)]) (N := ["words", "results", "states", "answers", "word", "parts", "numbers", "part"]) (sc := defScope s_answers_of) (by decide +kernel))
          (fun _ _ _ _ _ => pg_name (i := 7) nd rfl (Or.inl rfl)) (fun _ _ _ _ _ => pts_nil) (fun _ _ _ _ _ => pcall T.number_of (ok_number_of T) hr (pa_cons (pv 7) (pa_cons pe_int (pa_cons pe_int pa_nil)))))
        (pss_cons (ps_if (PW.pt (pw_or (pt_cmpR op_ne (pe_callB call_len_seq (by rfl) T.z_len bt_len (pa_cons (pv 5) pa_nil)) pe_int (nomark _))
            (pw_or (pt_cmpR op_in_seq pe_non (pv 6) (by rfl))
            (pw_or (pt_cmpR op_ge (pe_ix ix_list (pv 6) pe_int (fun _ _ => rfl)) (pv 1) (nomark _))
            (pw_or1 (pt_cmpR op_ge (pe_ix ix_list (pv 6) pe_int (fun _ _ => rfl)) (pv 2) (nomark _))))))) pss_never pss_nil)
        (pss_cons (ps_if (PW.pt (pw_and (pt_cmpR op_gt (pe_callB call_len_seq (by rfl) T.z_len bt_len (pa_cons (pv 3) pa_nil)) pe_int (nomark _))
            (pw_and1 (pt_cmpR (op_leT hr.units0) (pe_callTy call_tuple_of (by rfl) T.z_tuple bt_tuple (pa_cons (pv 6) pa_nil)) (pe_ix ix_list (pv 3) (pe_un un_neg pe_int) (fun _ _ => rfl)) (nomark _))))) pss_never pss_nil)
        (pss_one (ps_expr (pe_bm PySem.F.plainAttrs_list PySem.F.slot_list_append PySem.F.type_list_append mt_append (pv 3) (pa_cons (pe_callTy call_tuple_of (by rfl) T.z_tuple bt_tuple (pa_cons (pv 6) pa_nil)) pa_nil)))))))))
      (pss_one (ps_ret (pv 3)))), ?_⟩
    refine ⟨Nat.zero_le _, fun l hl => ?_⟩
    have s0 : Same H (upd H l (.lst [])) := same_new hl
    refine ⟨_, rfl, a, rfl, ⟨_, s0.seq ha⟩, for_list (K := K) (a := a) (xs := (c.map ansT).map V.str) (fun n σ H' => ∃ y4 y5 y6, σ = [some (.ref a), some (.int res), some (.int states), some (.ref l), y4, y5, y6, none] ∧ Same H H' ∧ ∃ rs, H' l = some (.lst rs) ∧ DpAll K H' rs ((c.take n).map anD))
      ⟨none, none, none, rfl, s0, [], upd_same, .nil⟩ (fun n σ H' _ ⟨_, _, _, _, s1, _⟩ => s1.seq ha) ?_ ?_⟩
    · rintro n x σ H1 hn ⟨y4, y5, y6, rfl, s1, rs, h1, hrs⟩
      obtain ⟨b, hb, rfl⟩ : ∃ b, c[n]? = some b ∧ x = .str (ansT b) := by
        rw [List.map_map, List.getElem?_map] at hn
        cases e : c[n]? with
        | none => rw [e] at hn; cases hn
        | some y => rw [e] at hn; exact ⟨y, rfl, (Option.some.inj hn).symm⟩
      have hbo := hc.an b (mem_of_get hb)
      have hb10 := an10 hbo hr10 hs10
      obtain ⟨b1, b2, b3, b4⟩ := id hb10
      have hfew := hc.few
      have hnl : n < c.length := (List.getElem?_eq_some_iff.mp hb).1
      have hrsl : rs.length = n := by rw [DpAll.length hrs, List.length_map, List.length_take]; omega
      -- parts = word.split('/')
      refine ⟨_, rfl, ⟨_, rfl⟩, ansT b, sl1, rfl, rfl, by decide +kernel, by rw [len_ans hb10]; decide, fun p5 hp5 => ?_⟩
      have s2 : Same H1 (upd H1 p5 (.lst ((Txt.split (ansT b) sl1).map V.str))) := same_new hp5
      have h5 : (upd H1 p5 (.lst ((Txt.split (ansT b) sl1).map V.str))) p5 = some (.lst [.str (dg b.1), .str (dg b.2)]) := by rw [upd_same, split_ans hb10]; rfl
      -- numbers = [number_of(part, 0, 9) for part in parts]
      refine ⟨_, rfl, p5, rfl, ⟨_, SqL.of h5⟩, fun D hD => lc_it (walk_list (K := K) (a := p5) (xs := [.str (dg b.1), .str (dg b.2)])) (fun j H' => Same (upd H1 p5 (.lst ((Txt.split (ansT b) sl1).map V.str))) H' ∧ H' D = some (.lst (([b.1, b.2].take j).map V.int)))
        ⟨same_new hD, upd_same⟩ (fun j H' _ ⟨s3, _⟩ => SqL.of (s3 _ _ h5)) ?_ ?_⟩
      · rintro j x H2 H' hj ⟨s3, h3⟩ ⟨rfl, hx⟩
        have hj2 : j < 2 := hj
        match j, hj2 with
        | 0, _ =>
          cases hx
          refine ⟨rfl, _, rfl, b.1, 0, 9, rfl, ⟨b1, b2⟩, b1, by omega, _, h3, by show 0 < sizeLine; decide, same_at s3 hD, by rw [upd_same]; rfl⟩
        | 1, _ =>
          cases hx
          refine ⟨rfl, _, rfl, b.2, 0, 9, rfl, ⟨b3, b4⟩, b3, by omega, _, h3, by show 1 < sizeLine; decide, same_at s3 hD, by rw [upd_same]; rfl⟩
      · rintro H2 ⟨s3, h3⟩
        have h3 : H2 D = some (.lst ([b.1, b.2].map V.int)) := h3
        have s12 := s2.trans s3
        have hrs2 := DpAll.same s12 _ _ hrs
        have h2l := s12 _ _ h1
        -- if len(parts) != 2 or None in numbers or ..
        refine ⟨_, rfl, p5, _, rfl, .inl (SqL.of (s3 _ _ h5)), rfl, false, rfl, iteF ?_⟩
        refine ⟨_, rfl, D, _, rfl, .inl (SqL.of h3), rfl, rfl, false, rfl, iteF ?_⟩
        refine ⟨_, rfl, D, _, 0, _, rfl, rfl, SqL.of h3, rfl, _, rfl, _, _, rfl, rfl, false, congrArg V.bl (decide_eq_false (by have := hbo.2.1; omega)), iteF ?_⟩
        refine ⟨_, rfl, D, _, 1, _, rfl, rfl, SqL.of h3, rfl, _, rfl, _, _, rfl, rfl, false, congrArg V.bl (decide_eq_false (by have := hbo.2.2.2; omega)), iteF ?_⟩
        -- the end of the turn: answers.append(tuple(numbers))
        have fin : ∀ H3, Same H2 H3 → tDrop (tBM K "list" rAppend (tVar 3) (tCons (tCB (fun xs H Q => ∃ p ys, xs = [V.ref p] ∧ ((SqL K H p ys ∧ ∀ l, H l = none → Q (.ref l) (upd H l (.tup ys))) ∨ (SqT K H p ys ∧ Q (.ref p) H))) (tCons (tVar 6) tNil)) tNil))
            { nx := fun σ H' => ∃ y4 y5 y6, σ = [some (.ref a), some (.int res), some (.int states), some (.ref l), y4, y5, y6, none] ∧ Same H H' ∧ ∃ rs, H' l = some (.lst rs) ∧ DpAll K H' rs ((c.take (n + 1)).map anD), rt := Q }
            [some (.ref a), some (.int res), some (.int states), some (.ref l), some (.str (ansT b)), some (.ref p5), some (.ref D), none] H3 := by
          intro H3 s4
          refine ⟨_, rfl, .inl ⟨rfl, _, SqL.of (s4 _ _ h2l)⟩, _, rfl, D, _, rfl, .inl ⟨SqL.of (s4 _ _ h3), fun p6 hp6 => ?_⟩⟩
          have s5 : Same H3 (upd H3 p6 (.tup ([b.1, b.2].map V.int))) := same_new hp6
          refine ⟨l, _, _, rfl, rfl, s5 _ _ (s4 _ _ h2l), by rw [hrsl, sizeLine_eq]; omega, ?_⟩
          have s25 := (s12.trans s4).trans s5
          have b1 : But l (upd H3 p6 (.tup ([b.1, b.2].map V.int))) (upd (upd H3 p6 (.tup ([b.1, b.2].map V.int))) l (.lst (rs ++ [.ref p6]))) := But.at_
          refine ⟨_, _, _, rfl, same_at (s1.trans s25) hl, rs ++ [.ref p6], upd_same, ?_⟩
          rw [List.take_add_one, hb, List.map_append]
          refine DpAll.snoc (Dp.but b1 (s25 _ _ h1) trivial _ _ (noList_an b) (an_mk (SqT.of upd_same))) ?_
          exact DpAll.but b1 (s25 _ _ h1) trivial _ _ (noListAll_map noList_an _) (DpAll.same s25 _ _ hrs)
        -- if len(answers) > 0 and tuple(numbers) <= answers[-1]
        refine ⟨_, rfl, l, rs, rfl, .inl (SqL.of h2l), _, _, rfl, rfl, _, rfl, ?_⟩
        by_cases h0 : n = 0
        · rw [decide_eq_false (by omega)]
          exact iteF (iteF (fin H2 (Same.refl _)))
        · rw [decide_eq_true (by omega)]
          refine iteT ?_
          refine ⟨_, rfl, D, _, rfl, .inl ⟨SqL.of h3, fun p6 hp6 => ?_⟩⟩
          have s4 : Same H2 (upd H2 p6 (.tup ([b.1, b.2].map V.int))) := same_new hp6
          have hn1 : n - 1 < c.length := by omega
          obtain ⟨v, hv1, hv2⟩ := DpAll.getD (DpAll.same s4 _ _ hrs2) (i := n - 1) (d := anD c[n - 1]) (by
            rw [List.getElem?_map, List.getElem?_take_of_lt (by omega), List.getElem?_eq_getElem hn1]; rfl)
          obtain ⟨t, rfl, ht⟩ := an_inv hv2
          refine ⟨_, rfl, 1, rfl, l, rs, -1, .ref t, rfl, rfl, SqL.of (s4 _ _ h2l), atI_last (by rw [hrsl]; exact hv1), p6, t, [b.1, b.2], [c[n - 1].1, c[n - 1].2], rfl, rfl, SqT.of upd_same, ht, false, ?_, iteF (fin _ s4)⟩
          have e : c[n] = b := (List.getElem?_eq_some_iff.mp hb).2
          have lt := List.pairwise_iff_getElem.mp hc.up (n - 1) n hn1 hnl (by omega)
          rw [e] at lt
          exact congrArg V.bl (lex_false lt)
    · rintro σ H1 ⟨y4, y5, y6, rfl, s1, rs, h1, hrs⟩
      rw [List.length_map, List.length_map, List.take_length] at hrs
      exact ⟨_, rfl, q _ l s1 hl (.lst (SqL.of h1) hrs)⟩
end
end Tw
/-! ## Tw13: Reader -/
namespace Tw
open PySem L2 TL
def rf (l : Addr) (n : Nat) : List (Str × V) := putF "many" (.int n) (putF "lines" (.ref l) [])
theorem n_lm : ¬ (("lines" : Str) = "many") := by decide +kernel
theorem rf_lines (l : Addr) (n : Nat) : (rf l n).lookup ("lines" : Str) = some (.ref l) := by
  unfold rf
  rw [lookup_putF, if_neg n_lm, lookup_putF, if_pos rfl]
theorem rf_many (l : Addr) (n : Nat) : (rf l n).lookup ("many" : Str) = some (.int n) := by
  unfold rf
  rw [lookup_putF, if_pos rfl]
theorem rf_no (l : Addr) (n : Nat) {m : Str} (h1 : ¬ m = "many") (h2 : ¬ m = "lines") : (rf l n).lookup m = none := by
  unfold rf
  rw [lookup_putF, if_neg h1, lookup_putF, if_neg h2]
  rfl
theorem rf_eq (l : Addr) (n : Nat) : rf l n = ([("lines", V.ref l), ("many", V.int n)] : List (Str × V)) := by
  show (if ("lines" : Str) = "many" then [(("lines" : Str), V.int n)] else (("lines" : Str), V.ref l) :: putF "many" (V.int n) []) = ([("lines", V.ref l), ("many", V.int n)] : List (Str × V))
  rw [if_neg n_lm]
  rfl
theorem rf_put (l : Addr) (n m : Nat) : putF "many" (.int m) (rf l n) = rf l m := by
  rw [rf_eq, rf_eq]
  show (if ("lines" : Str) = "many" then _ else (("lines" : Str), V.ref l) :: (if ("many" : Str) = "many" then [(("many" : Str), V.int m)] else _)) = ([("lines", V.ref l), ("many", V.int m)] : List (Str × V))
  rw [if_neg n_lm, if_pos rfl]
theorem rf_len (l : Addr) (n : Nat) : (rf l n).length < 1000 := by rw [rf_eq]; show 2 < 1000; decide
/-- a reader that has read n of the lines L -/
def RdAt (K : PySem.W.Frag) (C : Addr) (H : Hp) (r l : Addr) (L : List Str) (n : Nat) : Prop := ∃ dx, H r = some (.ins C dx (rf l n)) ∧ SqL K H l (L.map V.str)
theorem RdAt.same {K : PySem.W.Frag} {C r l : Addr} {H H' : Hp} {L : List Str} {n : Nat} (s : Same H H') (h : RdAt K C H r l L n) : RdAt K C H' r l L n := by
  obtain ⟨dx, e, q⟩ := h
  exact ⟨dx, s _ _ e, s.seq q⟩
theorem no_rd {m : Str} (h : m = "is_done" ∨ m = "words" ∨ m = "answers" ∨ m = "head" ∨ m = "read_method") : ¬ (m = "many") ∧ ¬ (m = "lines") := by
  rcases h with rfl | rfl | rfl | rfl | rfl <;> decide +kernel
theorem rf_not {l : Addr} {n : Nat} {m : Str} (h : m = "is_done" ∨ m = "words" ∨ m = "answers" ∨ m = "head" ∨ m = "read_method") : (rf l n).lookup m = none := rf_no l n (no_rd h).1 (no_rd h).2
section
variable {P : Program} {w : World} {K : PySem.W.Frag} {mg : Str → Option Value} {base : Heap}
def spRInit (K : PySem.W.Frag) (C : Addr) : Sp := fun vs H Q _ => ∃ (r dx l : Addr) (L : List Str), vs = [.ref r, .ref l] ∧ H r = some (.ins C dx []) ∧ SqL K H l (L.map V.str) ∧ ∀ H', But r H H' → RdAt K C H' r l L 0 → Q .non H'
theorem ok_Reader_init (T : Tx K mg) : FnOk P w K mg base CX0 1 T.Reader_init.f T.Reader_init.d ["self", "lines"] (spRInit K T.CReader) := by
  refine T.Reader_init.F.ok sc_Reader_init (fun vs H Q E h => ?_) (fun cdv A outer s H vs Q E hr h => ?_)
  · obtain ⟨r, dx, l, L, rfl, _⟩ := h; rfl
  · obtain ⟨r, dx, l, L, rfl, hx, hl, q⟩ := h
    refine ⟨_, pss_cons (ps_fld (pv 0) (pv 1) rfl) (pss_one (ps_fld (pv 0) pe_int rfl)), ?_⟩
    refine ⟨_, rfl, _, rfl, r, _, dx, [], rfl, hx, T.clReader, T.nReader_lines, by show 0 < 1000; decide, ?_⟩
    refine ⟨_, rfl, r, _, dx, _, rfl, upd_same, T.clReader, T.nReader_many, by have := length_putF "lines" (.ref l) ([] : List (Str × V)); show _ < 1000; simp only [List.length_nil] at this; omega, ?_⟩
    rw [upd_upd]
    have b1 : But r H (upd H r (.ins T.CReader dx (rf l 0))) := But.at_
    exact q _ b1 ⟨dx, upd_same, SqL.but b1 hx trivial hl⟩
def spDone (K : PySem.W.Frag) (C : Addr) : Sp := fun vs H Q _ => ∃ (r l : Addr) (L : List Str) (n : Nat), vs = [.ref r] ∧ RdAt K C H r l L n ∧ Q (.bl (decide (n = L.length))) H
theorem ok_Reader_is_done (T : Tx K mg) : FnOk P w K mg base CX0 1 T.Reader_is_done.f T.Reader_is_done.d ["self"] (spDone K T.CReader) := by
  refine T.Reader_is_done.F.ok sc_Reader_is_done (fun vs H Q E h => ?_) (fun cdv A outer s H vs Q E hr h => ?_)
  · obtain ⟨r, l, L, n, rfl, _⟩ := h; rfl
  · obtain ⟨r, l, L, n, rfl, ⟨dx, e, hl⟩, q⟩ := h
    refine ⟨_, pss_one (ps_ret (pe_cmpR op_eq (pe_fld (pv 0) rfl) (pe_callB call_len_seq (by rfl) T.z_len bt_len (pa_cons (pe_fld (pv 0) rfl) pa_nil)) (nomark _))), ?_⟩
    refine ⟨_, rfl, r, _, dx, _, _, rfl, e, T.clReader, T.nReader_many, rf_many _ _, _, rfl, r, _, dx, _, _, rfl, e, T.clReader, T.nReader_lines, rf_lines _ _, l, _, rfl, .inl hl, rfl, ?_⟩
    have ed : decide (V.int n = V.int ((L.map V.str).length : Int)) = decide (n = L.length) := by
      rw [List.length_map]
      by_cases h : n = L.length
      · rw [h]; simp
      · rw [decide_eq_false h]
        exact decide_eq_false fun e => h (by injection e with e; omega)
    rw [← ed] at q
    exact q
def spWords (K : PySem.W.Frag) (C : Addr) : Sp := fun vs H Q _ => ∃ (r l : Addr) (L : List Str) (n : Nat) (z : Str), vs = [.ref r] ∧ RdAt K C H r l L n ∧ L[n]? = some z ∧ z.length ≤ 1000 ∧
  ∀ H' p, But r H H' → RdAt K C H' r l L (n + 1) → H' p = some (.lst ((Txt.split z sp1).map V.str)) → Q (.ref p) H'
theorem ok_Reader_words (T : Tx K mg) : FnOk P w K mg base CX0 2 T.Reader_words.f T.Reader_words.d ["self"] (spWords K T.CReader) := by
  refine T.Reader_words.F.ok sc_Reader_words (fun vs H Q E h => ?_) (fun cdv A outer s H vs Q E hr h => ?_)
  · obtain ⟨r, l, L, n, z, rfl, _⟩ := h; rfl
  · obtain ⟨r, l, L, n, z, rfl, hrd, hz, hzl, q⟩ := h
    obtain ⟨dx, e, hl⟩ := id hrd
    have hn : n < L.length := (List.getElem?_eq_some_iff.mp hz).1
    refine ⟨_, pss_cons (ps_if (pt_val (pe_meth0 (pv 0) T.clReader T.Reader_is_done.me (ok_Reader_is_done T) hr T.Reader_is_done.b .nil pass0)) pss_never pss_nil)
      (pss_cons (ps_fldaug (pv 0) pe_int in_add)
      (pss_one (ps_ret (pe_split (pe_ix ix_list (pe_fld (pv 0) rfl) (pe_op op_sub (pe_fld (pv 0) rfl) pe_int) (fun _ _ => rfl)) pe_str)))), ?_⟩
    refine ⟨_, rfl, r, dx, _, rfl, e, rf_not (.inl rfl), r, l, L, n, rfl, hrd, false, congrArg V.bl (decide_eq_false (by omega)), iteF ?_⟩
    refine ⟨_, rfl, r, _, dx, _, _, rfl, e, T.clReader, T.nReader_many, rf_many _ _, _, _, rfl, rfl, dx, _, e, rf_len _ _, ?_⟩
    have e1 : (upd H r (.ins T.CReader dx (putF "many" (.int ((n : Int) + 1)) (rf l n)))) r = some (.ins T.CReader dx (rf l (n + 1))) := by
      rw [upd_same, ← rf_put l n (n + 1)]
      rfl
    have b1 : But r H (upd H r (.ins T.CReader dx (putF "many" (.int ((n : Int) + 1)) (rf l n)))) := But.at_
    have hl1 := SqL.but b1 e trivial hl
    refine ⟨_, rfl, r, _, dx, _, _, rfl, e1, T.clReader, T.nReader_lines, rf_lines _ _, _, rfl, r, _, dx, _, _, rfl, e1, T.clReader, T.nReader_many, rf_many _ _, _, _, rfl, rfl, l, _, (n : Int), .str z, rfl, ?_, hl1, atI_nat ?_, ⟨z, rfl⟩, z, sp1, rfl, rfl, by decide +kernel, by rw [sizeLine_eq]; omega, fun p hp => ?_⟩
    · exact congrArg V.int (by show ((n + 1 : Nat) : Int) - 1 = n; omega)
    · rw [List.getElem?_map, hz]; rfl
    · have s2 := same_new (o := .lst ((Txt.split z sp1).map V.str)) hp
      exact q _ p (b1.trans (But.of_same s2)) ⟨dx, s2 _ _ e1, s2.seq hl1⟩ upd_same
def spHead (K : PySem.W.Frag) (C : Addr) : Sp := fun vs H Q _ => ∃ (r l : Addr) (L : List Str) (s t : Int), vs = [.ref r] ∧ RdAt K C H r l L 0 ∧ L[0]? = some (headT s t) ∧ (1 ≤ s ∧ s ≤ 8) ∧ (0 ≤ t ∧ t < s) ∧
  ∀ H' p, But r H H' → RdAt K C H' r l L 1 → H' p = some (.tup [.int s, .int t]) → Q (.ref p) H'
theorem ok_Reader_head (T : Tx K mg) : FnOk P w K mg base CX0 3 T.Reader_head.f T.Reader_head.d ["self"] (spHead K T.CReader) := by
  refine T.Reader_head.F.ok sc_Reader_head (fun vs H Q E h => ?_) (fun cdv A outer s H vs Q E hr h => ?_)
  · obtain ⟨r, l, L, n, z, rfl, _⟩ := h; rfl
  · obtain ⟨r, l, L, s', t, rfl, hrd, h0, hs, ht, q⟩ := h
    obtain ⟨dx, e, hl⟩ := id hrd
    have nd := sc_Reader_head.nd
    obtain ⟨tM, gM⟩ := T.c_MOST_STATES
    have hs10 : 0 ≤ s' ∧ s' < 10 := ⟨by omega, by omega⟩
    have ht10 : 0 ≤ t ∧ t < 10 := ⟨by omega, by omega⟩
    refine ⟨_, pss_cons (ps_set (i := 1) nd rfl (Or.inl rfl) (pe_meth0 (pv 0) T.clReader T.Reader_words.me (ok_Reader_words T) hr T.Reader_words.b .nil pass0))
      (pss_cons (ps_if (PW.pt (pw_or (pt_cmpR op_ne (pe_callB call_len_seq (by rfl) T.z_len bt_len (pa_cons (pv 1) pa_nil)) pe_int (nomark _))
          (pw_or1 (pt_cmpR op_ne (pe_ix ix_list (pv 1) pe_int (fun _ _ => rfl)) pe_str (nomark _))))) pss_never pss_nil)
      (pss_cons (ps_set (i := 2) nd rfl (Or.inl rfl) (pcall T.number_of (ok_number_of T) hr (pa_cons (pe_ix ix_list (pv 1) pe_int (fun _ _ => rfl)) (pa_cons pe_int (pa_cons (pe_glob (v := .int 8) (by rfl) gM ⟨tM, rfl⟩) pa_nil)))))
      (pss_cons (ps_if (PW.pt (pw_or (pt_cmpR op_isN (pv 2) pe_non (nomark _))
          (pw_or1 (pt_cmpR op_isN (pcall T.number_of (ok_number_of T) hr (pa_cons (pe_ix ix_list (pv 1) pe_int (fun _ _ => rfl)) (pa_cons pe_int (pa_cons (pe_op op_sub (pv 2) pe_int) pa_nil)))) pe_non (nomark _))))) pss_never pss_nil)
      (pss_one (ps_ret (pe_tup (pa_cons (pv 2) (pa_cons (pe_callTy call_int_str (by rfl) T.z_int bt_int (pa_cons (pe_ix ix_list (pv 1) pe_int (fun _ _ => rfl)) pa_nil)) pa_nil)))))))), ?_⟩
    refine ⟨_, rfl, r, dx, _, rfl, e, rf_not (.inr (.inl rfl)), r, l, L, 0, headT s' t, rfl, hrd, h0, by rw [len_head hs10 ht10]; decide, fun H1 p b1 hrd1 h1 => ?_⟩
    rw [split_head hs10 ht10] at h1
    have h1 : H1 p = some (.lst [.str kw, .str (dg s'), .str (dg t)]) := h1
    refine ⟨_, rfl, p, _, rfl, .inl (SqL.of h1), rfl, false, rfl, iteF ?_⟩
    refine ⟨_, rfl, p, _, 0, _, rfl, rfl, SqL.of h1, rfl, rfl, false, ?_, iteF ?_⟩
    · show V.bl (!decide (V.str kw = V.str kw)) = V.bl false
      rw [decide_eq_true rfl]; rfl
    refine ⟨_, rfl, p, _, 1, _, rfl, rfl, SqL.of h1, rfl, s', 1, 8, rfl, hs10, hs.1, hs.2, ?_⟩
    refine ⟨_, rfl, rfl, false, rfl, iteF ?_⟩
    refine ⟨_, rfl, p, _, 2, _, rfl, rfl, SqL.of h1, rfl, _, rfl, _, _, rfl, rfl, t, 0, s' - 1, rfl, ht10, ht.1, by omega, rfl, false, rfl, iteF ?_⟩
    refine ⟨_, rfl, _, rfl, p, _, 2, _, rfl, rfl, SqL.of h1, rfl, _, t, rfl, int_dg ht10.1 ht10.2, by rw [len_dg ht10.1 ht10.2]; decide, by show 2 ≤ sizeLine; decide, fun p2 hp2 => ?_⟩
    have s2 := same_new (o := .tup [.int s', .int t]) hp2
    exact q _ p2 (b1.trans (But.of_same s2)) (hrd1.same s2) upd_same
end
end Tw
/-! ## Tw14: Reader.answers, Reader.read_method -/
namespace Tw
open PySem L2 TL
/-- without what stands at b -/
def rm (b : Addr) (H : Hp) : Hp := fun a => if a = b then none else H a
theorem rm_ne {a b : Addr} {H : Hp} (h : a ≠ b) : rm b H a = H a := by unfold rm; rw [if_neg h]
theorem rm_at {b : Addr} {H : Hp} : rm b H b = none := by unfold rm; rw [if_pos rfl]
theorem rm_same {b : Addr} {H : Hp} : Same (rm b H) H := fun a o e => by
  by_cases h : a = b
  · rw [h, rm_at] at e; cases e
  · rw [rm_ne h] at e; exact e
theorem rm_upd {b : Addr} {H : Hp} {o : HO} : rm b (upd H b o) = rm b H := by
  funext a
  by_cases h : a = b
  · rw [h, rm_at, rm_at]
  · rw [rm_ne h, rm_ne h, upd_ne h]
theorem rm_but {b : Addr} {H : Hp} : But b H (rm b H) := fun a o h e => by rw [rm_ne h]; exact e
theorem rm_mono {b : Addr} {H H' : Hp} (s : Same H H') : Same (rm b H) (rm b H') := fun a o e => by
  by_cases h : a = b
  · rw [h, rm_at] at e; cases e
  · rw [rm_ne h] at e ⊢; exact s _ _ e
theorem rm_butm {b r : Addr} {H H' : Hp} (s : But r H H') : But r (rm b H) (rm b H') := fun a o hr e => by
  by_cases h : a = b
  · rw [h, rm_at] at e; cases e
  · rw [rm_ne h] at e ⊢; exact s _ _ hr e
/-- a new cell is not what is taken away -/
theorem cell_rm {K : PySem.W.Frag} {H : Hp} {b p : Addr} {c : Cell} {xs : List V} (h : Dp K H (.ref p) (cellD true c)) (hb : H b = some (.lst xs)) (hp : p ≠ b) : Dp K (rm b H) (.ref p) (cellD true c) := by
  cases h with
  | lst q a =>
    refine .lst ?_ (DpAll.but rm_but hb trivial _ _ (noListAll_map noList_an c) a)
    rcases q with (q | ⟨o, q⟩) | q
    · exact .inl (.inl (by rw [rm_ne hp]; exact q))
    · exact .inl (.inr ⟨o, by rw [rm_ne hp]; exact q⟩)
    · exact .inr q
theorem cut_lo {x y : V} {r : List V} : cutV (x :: y :: r) none (some 2) = [x, y] := by
  unfold cutV
  rw [HT.sIx_none, show (some (2 : Int)) = some ((2 : Nat) : Int) from rfl, HT.sIx_nat, List.drop_zero, List.length_cons, List.length_cons, Nat.min_eq_left (by omega)]
  rfl
theorem cut_hi {x y : V} {r : List V} : cutV (x :: y :: r) (some 2) none = r := by
  unfold cutV
  rw [HT.sIx_none, show (some (2 : Int)) = some ((2 : Nat) : Int) from rfl, HT.sIx_nat, List.length_cons, List.length_cons, Nat.min_eq_left (by omega)]
  show r.take _ = r
  exact List.take_of_length_le (by omega)
theorem strOk_dg {i : Int} (h0 : 0 ≤ i) (h : i < 10) : PySem.PyData.canLay0 (.str (dg i)) = true := by
  rw [dg_eq h0 h]
  show (#[48 + i.toNat].all (· < 0x110000)) = true
  simp
  omega
theorem eqv_strs (l m : List Str) : PyData.eqv (.list (l.map PyData.str)) (.list (m.map PyData.str)) = decide (l = m) :=
  eqvAll_map (fun x y => by
    show (x == y) = decide (x = y)
    by_cases h : x = y <;> simp [h]) l m
theorem shaped_two {x y : Str} (hx : PySem.PyData.canLay0 (.str x) = true) (hy : PySem.PyData.canLay0 (.str y) = true) : SeqAt.shaped (.list ([x, y].map PyData.str)) = true := by
  refine shaped_of (n := 1) ?_ ?_ (by decide)
  · simp only [List.map_cons, List.map_nil, PyData.canLay0, PyData.canLayAll0] at hx hy ⊢
    rw [hx, hy]; rfl
  · simp [PyData.depth, PyData.depthAll]
section
variable {P : Program} {w : World} {K : PySem.W.Frag} {mg : Str → Option Value} {base : Heap}
def spRAns (K : PySem.W.Frag) (C : Addr) : Sp := fun vs H Q _ => ∃ (r l : Addr) (L : List Str) (n : Nat) (i j res states : Int) (c : Cell), vs = [.ref r, .int i, .int j, .int res, .int states] ∧ RdAt K C H r l L n ∧ L[n]? = some (lineT i j c) ∧
  CellOk res states c ∧ res ≤ 10 ∧ states ≤ 10 ∧ (0 ≤ i ∧ i < 10) ∧ (0 ≤ j ∧ j < 10) ∧ ∀ H' p, But r H H' → RdAt K C H' r l L (n + 1) → H p = none → Dp K H' (.ref p) (cellD true c) → Q (.ref p) H'
theorem ok_Reader_answers (T : Tx K mg) : FnOk P w K mg base CX0 3 T.Reader_answers.f T.Reader_answers.d ["self", "state", "argument", "results", "states"] (spRAns K T.CReader) := by
  refine T.Reader_answers.F.ok sc_Reader_answers (fun vs H Q E h => ?_) (fun cdv A outer s H vs Q E hr h => ?_)
  · obtain ⟨r, l, L, n, i, j, res, states, c, rfl, _⟩ := h; rfl
  · obtain ⟨r, l, L, n, i, j, res, states, c, rfl, hrd, hz, hc, hr10, hs10, hi, hj, q⟩ := h
    obtain ⟨dx, e, hl⟩ := id hrd
    have nd := sc_Reader_answers.nd
    obtain ⟨tM, gM⟩ := T.c_MOST_ANSWERS
    refine ⟨_, pss_cons (ps_set (i := 5) nd rfl (Or.inl rfl) (pe_meth0 (pv 0) T.clReader T.Reader_words.me (ok_Reader_words T) hr T.Reader_words.b .nil pass0))
      (pss_cons (ps_set (i := 6) nd rfl (Or.inl rfl) pe_non)
      (pss_cons (ps_if (PW.pt (pw_and (pt_cmpR (op_eqD hr.units) (pe_slice sl_list (pv 5) po_none (po_some pe_int)) (pe_lst (pa_cons (pe_callTy call_str_int (by rfl) T.z_str bt_str (pa_cons (pv 1) pa_nil)) (pa_cons (pe_callTy call_str_int (by rfl) T.z_str bt_str (pa_cons (pv 2) pa_nil)) pa_nil))) (nomark _))
          (pw_and1 (pt_cmpR op_le (pe_callB call_len_seq (by rfl) T.z_len bt_len (pa_cons (pv 5) pa_nil)) (pe_op op_add pe_int (pe_glob (v := .int 8) (by rfl) gM ⟨tM, rfl⟩)) (nomark _)))))
        (pss_one (ps_set (i := 6) nd rfl (Or.inl rfl) (pcall T.answers_of (ok_answers_of T) hr (pa_cons (pe_slice sl_list (pv 5) (po_some pe_int) po_none) (pa_cons (pv 3) (pa_cons (pv 4) pa_nil)))))) pss_nil)
      (pss_cons (ps_if (pt_cmpR op_isN (pv 6) pe_non (nomark _)) pss_never pss_nil)
      (pss_one (ps_ret (pv 6)))))), ?_⟩
    refine ⟨_, rfl, r, dx, _, rfl, e, rf_not (.inr (.inl rfl)), r, l, L, n, _, rfl, hrd, hz, by have := len_lineT hi hj hc hr10 hs10; omega, fun H1 p b1 hrd1 h1 => ?_⟩
    rw [split_line hi hj hc hr10 hs10] at h1
    have h1 : H1 p = some (.lst (.str (dg i) :: .str (dg j) :: (c.map ansT).map V.str)) := h1
    -- words[:2] == [str(state), str(argument)]
    refine ⟨_, rfl, 2, rfl, p, _, rfl, SqL.of h1, fun p2 hp2 => ?_⟩
    rw [cut_lo]
    refine ⟨_, rfl, i, rfl, log_small hi.1 hi.2, _, rfl, j, rfl, log_small hj.1 hj.2, by show 2 ≤ sizeLine; decide, fun p3 hp3 => ?_⟩
    have s2 : Same H1 (upd H1 p2 (.lst [.str (dg i), .str (dg j)])) := same_new hp2
    have s3 : Same (upd H1 p2 (.lst [.str (dg i), .str (dg j)])) (upd (upd H1 p2 (.lst [.str (dg i), .str (dg j)])) p3 (.lst [.str (dg i), .str (dg j)])) := same_new hp3
    have s23 := s2.trans s3
    have sh := shaped_two (strOk_dg hi.1 hi.2) (strOk_dg hj.1 hj.2)
    refine ⟨.list ([dg i, dg j].map PyData.str), .list ([dg i, dg j].map PyData.str), .lst (SqL.of (s3 _ _ upd_same)) (DpAll.strs [dg i, dg j]), .lst (SqL.of upd_same) (DpAll.strs [dg i, dg j]), sh, sh, true, ?_, iteT ?_⟩
    · rw [eqv_strs, decide_eq_true rfl]
    have h1' := s23 _ _ h1
    have hfew := hc.few
    refine ⟨_, rfl, p, _, rfl, .inl (SqL.of h1'), _, _, rfl, rfl, _, _, rfl, rfl, true, congrArg V.bl (decide_eq_true ?_), iteT ?_⟩
    · rw [List.length_cons, List.length_cons, List.length_map, List.length_map]; omega
    -- answers = answers_of(words[2:], results, states)
    refine ⟨_, rfl, 2, rfl, p, _, rfl, SqL.of h1', fun p4 hp4 => ?_⟩
    rw [cut_hi]
    have s4 := same_new (o := .lst ((c.map ansT).map V.str)) hp4
    have bAll := b1.trans (But.of_same (s23.trans s4))
    refine ⟨_, rfl, _, rfl, p4, res, states, c, rfl, SqL.of upd_same, hc, hr10, hs10, fun H5 p5 s5 hp5 d5 => ?_⟩
    refine ⟨_, rfl, rfl, false, rfl, iteF ?_⟩
    refine ⟨_, rfl, q _ p5 (bAll.trans (But.of_same s5)) (hrd1.same ((s23.trans s4).trans s5)) ?_ d5⟩
    obtain ⟨dx1, e1, _⟩ := hrd1
    exact But.ne (o := .lst []) bAll ⟨_, (s23.trans s4) _ _ e1⟩ hp5
end
end Tw
/-! ## Tw15: Reader.read_method -/
namespace Tw
open PySem L2 TL
theorem flat_count (m : Meth) (A : Nat) : ∀ S : Nat, ((List.range S).flatMap (stateLines m A)).length = S * A
  | 0 => by simp
  | S + 1 => by rw [flat_range, List.length_append, flat_count m A S, stateLines_len, Nat.succ_mul]
theorem flat_at (m : Meth) (A : Nat) : ∀ (S i j : Nat), i < S → j < A → ((List.range S).flatMap (stateLines m A))[i * A + j]? = some (lineT i j (cellAt m i j))
  | 0, _, _, h, _ => by omega
  | S + 1, i, j, hi, hj => by
    rw [flat_range]
    have hl := flat_count m A S
    by_cases h : i < S
    · have hlt : i * A + j < S * A := by
        have : (i + 1) * A ≤ S * A := Nat.mul_le_mul_right _ h
        rw [Nat.succ_mul] at this
        omega
      rw [List.getElem?_append_left (by omega)]
      exact flat_at m A S i j h hj
    · have e : i = S := by omega
      subst e
      rw [List.getElem?_append_right (by omega), hl, Nat.add_sub_cancel_left]
      unfold stateLines
      rw [List.getElem?_map, List.getElem?_range hj]
      rfl
theorem ns_ins {C dx : Addr} {fs : List (Str × V)} : NoSeq (.ins C dx fs) := trivial
theorem SqL.away {K : PySem.W.Frag} {H3 : Hp} {l D : Addr} {xs : List V} (h : SqL K H3 l xs) (hD : H3 D = none) {H4 : Hp} {o : HO} (h4 : SqL K H4 l xs) : SqL K (upd H4 D o) l xs := by
  have go : l ≠ D → SqL K (upd H4 D o) l xs := fun n => by
    rcases h4 with (h | ⟨u, h⟩) | h
    · exact .inl (.inl (by rw [upd_ne n]; exact h))
    · exact .inl (.inr ⟨u, by rw [upd_ne n]; exact h⟩)
    · exact .inr h
  rcases h with (h | ⟨u, h⟩) | h
  · exact go (ne_of_none h hD)
  · exact go (ne_of_none h hD)
  · exact .inr h
theorem rm_rm_upd {b D : Addr} {H : Hp} {o : HO} : rm D (rm b (upd H D o)) = rm D (rm b H) := by
  funext a
  by_cases h : a = D
  · rw [h, rm_at, rm_at]
  · rw [rm_ne h, rm_ne h]
    by_cases h' : a = b
    · rw [h', rm_at, rm_at]
    · rw [rm_ne h', rm_ne h', upd_ne h]
theorem drop_at {α : Type} {L M : List α} {n k : Nat} (h : L.drop n = M) : L[n + k]? = M[k]? := by
  rw [← h, List.getElem?_drop]
section
variable {P : Program} {w : World} {K : PySem.W.Frag} {mg : Str → Option Value} {base : Heap}
def spRMeth (K : PySem.W.Frag) (C : Addr) : Sp := fun vs H Q _ => ∃ (r l : Addr) (L : List Str) (n : Nat) (states : Int) (last x : Str) (m : Meth) (more : List Str), vs = [.ref r, .int states, .str last] ∧ RdAt K C H r l L n ∧ L.drop n = methLines states (x, m) ++ more ∧
  (1 ≤ states ∧ states ≤ 8) ∧ NameOk x ∧ MethOk states m ∧ ltS last x ∧ ∀ H' p q, But r H H' → RdAt K C H' r l L (n + (methLines states (x, m)).length) → H' p = some (.tup [.str x, q]) → Dp K H' q (methD true m) → Q (.ref p) H'
theorem ok_Reader_read_method (T : Tx K mg) : FnOk P w K mg base CX0 4 T.Reader_read_method.f T.Reader_read_method.d ["self", "states", "last"] (spRMeth K T.CReader) := by
  refine T.Reader_read_method.F.ok sc_Reader_read_method (fun vs H Q E h => ?_) (fun cdv A outer s H vs Q E hr h => ?_)
  · obtain ⟨r, l, L, n, states, last, x, m, more, rfl, _⟩ := h; rfl
  · obtain ⟨r, l, L, n, states, last, x, m, more, rfl, hrd, hdrop, hst, hx, hm, hlast, q⟩ := h
    obtain ⟨dx, e, hl⟩ := id hrd
    have nd := sc_Reader_read_method.nd
    obtain ⟨tV, gV⟩ := T.c_MOST_VALUES
    have ha10 : 0 ≤ m.args ∧ m.args < 10 := ⟨by have := hm.a1; omega, by have := hm.a4; omega⟩
    have hr10 : 0 ≤ m.res ∧ m.res < 10 := ⟨by have := hm.r1; omega, by have := hm.r4; omega⟩
    have L0 : L[n]? = some (methT x m) := by
      have := drop_at (k := 0) hdrop
      simpa [methLines] using this
    have Lij : ∀ i j : Nat, (i : Int) < states → (j : Int) < m.args → L[n + 1 + (i * m.args.toNat + j)]? = some (lineT i j (cellAt m i j)) := by
      intro i j hi hj
      have := drop_at (k := 1 + (i * m.args.toNat + j)) hdrop
      rw [Nat.add_assoc, this]
      show (methT x m :: ((List.range states.toNat).flatMap (stateLines m m.args.toNat) ++ more))[1 + (i * m.args.toNat + j)]? = _
      rw [Nat.add_comm 1, List.getElem?_cons_succ, List.getElem?_append_left]
      · exact flat_at m m.args.toNat states.toNat i j (by omega) (by omega)
      · rw [flat_count]
        have h1 : (i + 1) * m.args.toNat ≤ states.toNat * m.args.toNat := Nat.mul_le_mul_right _ (by omega)
        rw [Nat.succ_mul] at h1
        omega
    refine ⟨_, pss_cons (ps_set (i := 3) nd rfl (Or.inl rfl) (pe_meth0 (pv 0) T.clReader T.Reader_words.me (ok_Reader_words T) (hr.mono (by decide)) T.Reader_words.b .nil pass0))
      (pss_cons (ps_if (PW.pt (pw_or (pt_cmpR op_ne (pe_callB call_len_seq (by rfl) T.z_len bt_len (pa_cons (pv 3) pa_nil)) pe_int (nomark _))
          (pw_or (pt_cmpR op_ne (pe_ix ix_list (pv 3) pe_int (fun _ _ => rfl)) pe_str (nomark _))
          (pw_or (pt_not (pt_val (pcall T.is_name (ok_is_name T) hr (pa_cons (pe_ix ix_list (pv 3) pe_int (fun _ _ => rfl)) pa_nil))))
          (pw_or1 (pt_cmpR op_le_str (pe_ix ix_list (pv 3) pe_int (fun _ _ => rfl)) (pv 2) (nomark _))))))) pss_never pss_nil)
      (pss_cons (ps_set (i := 4) nd rfl (Or.inl rfl) (pcall T.number_of (ok_number_of T) hr (pa_cons (pe_ix ix_list (pv 3) pe_int (fun _ _ => rfl)) (pa_cons pe_int (pa_cons (pe_glob (v := .int 4) (by rfl) gV ⟨tV, rfl⟩) pa_nil)))))
      (pss_cons (ps_set (i := 5) nd rfl (Or.inr rfl) (pcall T.number_of (ok_number_of T) hr (pa_cons (pe_ix ix_list (pv 3) pe_int (fun _ _ => rfl)) (pa_cons pe_int (pa_cons (pe_glob (v := .int 4) (by rfl) gV ⟨tV, rfl⟩) pa_nil)))))
      (pss_cons (ps_if (PW.pt (pw_or (pt_cmpR op_isN (pv 4) pe_non (nomark _)) (pw_or1 (pt_cmpR op_isN (pv 5) pe_non (nomark _))))) pss_never pss_nil)
      (pss_cons (ps_set (i := 6) nd rfl (Or.inl rfl) (pe_lst pa_nil))
      (pss_cons (ps_for PassesOwn.never rfl (pi_range1 (by rfl) T.z_range (pa_cons (pv 1) pa_nil)) (pg_name (i := 7) nd rfl (Or.inr rfl))
        (pss_one (ps_expr (pe_bm PySem.F.plainAttrs_list PySem.F.slot_list_append PySem.F.type_list_append mt_append (pv 6) (pa_cons
          (pe_lc (own := [("argument", 8)]) (g := gName 8) (tt := tYes) rfl nd (pi_range1 (by rfl) T.z_range (pa_cons (pv 4) pa_nil))
            (blkOk_by (own := [("argument", 8)]) (N := ["self", "states", "last", "words", "arguments", "results", "rows", "state", "argument"]) (sc := defScope s_Reader_read_method) (by decide +kernel))
            (fun _ _ _ _ _ => pg_name (i := 8) nd rfl (Or.inl rfl)) (fun _ _ _ _ _ => pts_nil)
            (fun _ _ _ _ _ => pe_meth (pv 0) T.clReader T.Reader_answers.me (ok_Reader_answers T) hr T.Reader_answers.b .nil pass0 (pa_cons (pv 7) (pa_cons (pv 8) (pa_cons (pv 5) (pa_cons (pv 1) pa_nil)))))) pa_nil)))))
      (pss_one (ps_ret (pe_tup (pa_cons (pe_ix ix_list (pv 3) pe_int (fun _ _ => rfl)) (pa_cons (pe_tup (pa_cons (pv 4) (pa_cons (pv 5) (pa_cons (pv 6) pa_nil)))) pa_nil))))))))))), ?_⟩
    -- words = self.words()
    refine ⟨_, rfl, r, dx, _, rfl, e, rf_not (.inr (.inl rfl)), r, l, L, n, _, rfl, hrd, L0, by have := len_meth hx ha10 hr10; omega, fun H1 p b1 hrd1 h1 => ?_⟩
    rw [split_meth hx ha10 hr10] at h1
    have h1 : H1 p = some (.lst [.str mw, .str x, .str (dg m.args), .str (dg m.res)]) := h1
    refine ⟨_, rfl, p, _, rfl, .inl (SqL.of h1), rfl, false, rfl, iteF ?_⟩
    refine ⟨_, rfl, p, _, 0, _, rfl, rfl, SqL.of h1, rfl, rfl, false, ?_, iteF ?_⟩
    · show V.bl (!decide (V.str mw = V.str mw)) = V.bl false
      rw [decide_eq_true rfl]; rfl
    refine ⟨_, rfl, p, _, 1, _, rfl, rfl, SqL.of h1, rfl, x, rfl, hx, fun H2 s2 => ⟨true, rfl, iteF ?_⟩⟩
    have h2 := s2 _ _ h1
    have hrd2 := hrd1.same s2
    obtain ⟨dx2, e2, hl2⟩ := id hrd2
    have hpr : p ≠ r := ne_of h2 e2 (by intro z; cases z)
    refine ⟨_, rfl, p, _, 1, _, rfl, rfl, SqL.of h2, rfl, _, rfl, x, last, rfl, rfl, false, ?_, iteF ?_⟩
    · rw [decide_eq_true (show last.cps.toList < x.cps.toList from hlast)]; rfl
    refine ⟨_, rfl, p, _, 2, _, rfl, rfl, SqL.of h2, rfl, m.args, 1, 4, rfl, ha10, hm.a1, hm.a4, ?_⟩
    refine ⟨_, rfl, p, _, 3, _, rfl, rfl, SqL.of h2, rfl, m.res, 1, 4, rfl, hr10, hm.r1, hm.r4, ?_⟩
    refine ⟨_, rfl, rfl, false, rfl, iteF ⟨_, rfl, rfl, false, rfl, iteF ?_⟩⟩
    -- rows = []
    refine ⟨Nat.zero_le _, fun lr hlr => ?_⟩
    have s3 : Same H2 (upd H2 lr (.lst [])) := same_new hlr
    have b2 : But r H H2 := b1.trans (But.of_same s2)
    have hlr0 : H lr = none := But.ne (o := .lst []) b2 ⟨_, e2⟩ hlr
    have hrd3 := hrd2.same s3
    have hlrr : lr ≠ r := (ne_of_none e2 hlr).symm
    have hplr : p ≠ lr := ne_of_none h2 hlr
    -- for state in range(states)
    refine ⟨_, rfl, states, rfl, by omega, by omega, for_range (lo := 0) (n := states.toNat) (fun i σ H' => ∃ y7, σ = [some (.ref r), some (.int states), some (.str last), some (.ref p), some (.int m.args), some (.int m.res), some (.ref lr), y7, none] ∧ But r H H' ∧
        RdAt K T.CReader H' r l L (n + 1 + i * m.args.toNat) ∧ H' p = some (.lst [.str mw, .str x, .str (dg m.args), .str (dg m.res)]) ∧ ∃ rs, H' lr = some (.lst rs) ∧ DpAll K (rm lr H') rs ((m.rows.take i).map (rowD true)))
      ⟨none, rfl, b2.trans (But.of_same s3), by rw [Nat.zero_mul]; exact hrd3, s3 _ _ h2, [], upd_same, .nil⟩ ?_ ?_⟩
    · rintro i σ H3 hi ⟨y7, rfl, b4, hrd4, h4p, rs, h4, hrs⟩
      rw [Int.zero_add]
      have hi' : (i : Int) < states := by omega
      have hil : i < m.rows.length := by have := hm.len; omega
      have hro := hm.rows m.rows[i] (List.getElem_mem hil)
      have hrl := hro.len
      have ha4 := hm.a4
      obtain ⟨dx4, e4, hl4⟩ := id hrd4
      refine ⟨_, rfl, .inl ⟨rfl, _, SqL.of h4⟩, ?_⟩
      -- [self.answers(state, argument, results, states) for argument in range(arguments)]
      refine ⟨_, rfl, m.args, rfl, by omega, by omega, fun D hD => lc_range (lo := 0) (n := m.args.toNat) (fun j H' => But r H3 H' ∧ RdAt K T.CReader H' r l L (n + 1 + (i * m.args.toNat + j)) ∧ ∃ cs, H' D = some (.lst cs) ∧ DpAll K (rm D (rm lr H')) cs ((m.rows[i].take j).map (cellD true)))
        ⟨But.of_same (same_new hD), by rw [Nat.add_zero]; exact hrd4.same (same_new hD), [], upd_same, .nil⟩ ?_ ?_⟩
      · rintro j H4 hj ⟨b5, hrd5, cs, h5, hcs⟩
        rw [Int.zero_add]
        have hj' : (j : Int) < m.args := by omega
        have hjl : j < (m.rows[i]).length := by omega
        have hco := cellAt_ok hm hi' hj'
        have ecell : cellAt m i j = (m.rows[i])[j] := by
          unfold cellAt
          rw [List.getD_eq_getElem?_getD, List.getD_eq_getElem?_getD, List.getElem?_eq_getElem hil]
          show ((m.rows[i])[j]?).getD [] = _
          rw [List.getElem?_eq_getElem hjl]; rfl
        obtain ⟨dx5, e5, hl5⟩ := id hrd5
        have hDr : D ≠ r := fun z => by rw [z, e5] at h5; cases h5
        have h4l := b5 _ _ hlrr h4
        refine ⟨rfl, ?_⟩
        refine ⟨_, rfl, r, dx5, _, rfl, e5, rf_not (.inr (.inr (.inl rfl))), _, rfl, _, rfl, _, rfl, _, rfl, r, l, L, _, i, j, m.res, states, cellAt m i j, rfl, hrd5, Lij i j hi' hj', hco, by omega, by omega, ⟨by omega, by omega⟩, ⟨by omega, by omega⟩, fun H6 p6 b6 hrd6 hp6 d6 => ?_⟩
        have hp6D : p6 ≠ D := fun z => by rw [z, h5] at hp6; cases hp6
        have hp6l : p6 ≠ lr := fun z => by rw [z, h4l] at hp6; cases hp6
        have hDl : D ≠ lr := fun z => by rw [z, h4] at hD; cases hD
        have h6 := b6 _ _ hDr h5
        have h6l := b6 _ _ hlrr h4l
        obtain ⟨dx6, e6, hq6⟩ := id hrd6
        have d6b : Dp K (rm D (rm lr H6)) (.ref p6) (cellD true (cellAt m i j)) := cell_rm (cell_rm d6 h6l hp6l) (by rw [rm_ne hDl]; exact h6) hp6D
        refine ⟨cs, h6, ?_, ?_, ?_, cs ++ [.ref p6], upd_same, ?_⟩
        · rw [DpAll.length hcs, List.length_map, List.length_take, sizeLine_eq]; omega
        · intro a o har ea
          have haD : a ≠ D := fun z => by rw [z, hD] at ea; cases ea
          rw [upd_ne haD]
          exact b6 _ _ har (b5 _ _ har ea)
        · exact ⟨dx6, by rw [upd_ne hDr.symm]; exact e6, SqL.away hl4 hD hq6⟩
        · rw [rm_rm_upd, List.take_add_one, List.getElem?_eq_getElem hjl, ← ecell]
          show DpAll K _ _ ((List.take j m.rows[i] ++ [cellAt m i j]).map (cellD true))
          rw [List.map_append]
          exact DpAll.snoc d6b (DpAll.butI (rm_butm (rm_butm b6)) (by rw [rm_ne hDr.symm, rm_ne hlrr.symm]; exact e5) ns_ins _ _ hcs)
      · rintro H4 ⟨b5, hrd5, cs, h5, hcs⟩
        have hDl : D ≠ lr := fun z => by rw [z, h4] at hD; cases hD
        rw [List.take_of_length_le (by omega)] at hcs
        obtain ⟨dx5, e5, hl5⟩ := id hrd5
        have h4l := b5 _ _ hlrr h4
        have drow : Dp K (rm lr H4) (.ref D) (rowD true m.rows[i]) := .lst (SqL.of (by rw [rm_ne hDl]; exact h5)) (DpAll.same rm_same _ _ hcs)
        refine ⟨lr, rs, _, rfl, rfl, h4l, ?_, _, rfl, ?_, ?_, ?_, rs ++ [.ref D], upd_same, ?_⟩
        · rw [DpAll.length hrs, List.length_map, List.length_take, sizeLine_eq]; omega
        · intro a o har ea
          have : a ≠ lr := fun z => by rw [z, hlr0] at ea; cases ea
          rw [upd_ne this]
          exact b5 _ _ har (b4 _ _ har ea)
        · have ei : n + 1 + (i + 1) * m.args.toNat = n + 1 + (i * m.args.toNat + m.args.toNat) := by rw [Nat.succ_mul]
          rw [ei]
          exact ⟨dx5, by rw [upd_ne hlrr.symm]; exact e5, SqL.away hl2 hlr hl5⟩
        · rw [upd_ne hplr]
          exact b5 _ _ hpr h4p
        · rw [rm_upd, List.take_add_one, List.getElem?_eq_getElem hil]
          show DpAll K _ _ ((List.take i m.rows ++ [m.rows[i]]).map (rowD true))
          rw [List.map_append]
          exact DpAll.snoc drow (DpAll.butI (rm_butm b5) (by rw [rm_ne hlrr.symm]; exact e4) ns_ins _ _ hrs)
    · rintro σ H3 ⟨y7, rfl, b4, hrd4, h4p, rs, h4, hrs⟩
      have hS : states.toNat = m.rows.length := by have := hm.len; omega
      rw [hS, List.take_length] at hrs
      have hrs3 := DpAll.same rm_same _ _ hrs
      refine ⟨_, rfl, p, _, 1, _, rfl, rfl, SqL.of h4p, rfl, ?_⟩
      refine ⟨_, rfl, _, rfl, _, rfl, by show 3 ≤ sizeLine; decide, fun p8 hp8 => ⟨by show 2 ≤ sizeLine; decide, fun p9 hp9 => ?_⟩⟩
      have s8 : Same H3 (upd H3 p8 (.tup [.int m.args, .int m.res, .ref lr])) := same_new hp8
      have s9 : Same (upd H3 p8 (.tup [.int m.args, .int m.res, .ref lr])) (upd (upd H3 p8 (.tup [.int m.args, .int m.res, .ref lr])) p9 (.tup [.str x, .ref p8])) := same_new hp9
      refine q _ p9 (.ref p8) (b4.trans (But.of_same (s8.trans s9))) ?_ upd_same (meth_mk (SqT.of (s9 _ _ upd_same)) (Dp.same (s8.trans s9) _ _ (.lst (SqL.of h4) hrs3)))
      have en : n + (methLines states (x, m)).length = n + 1 + states.toNat * m.args.toNat := by
        show n + (_ :: _).length = _
        rw [List.length_cons, flat_count]
        show n + (states.toNat * m.args.toNat + 1) = _
        omega
      rw [en]
      exact hrd4.same (s8.trans s9)
end
end Tw
/-! ## Tw16: read_kind -/
namespace Tw
open PySem L2 TL
theorem ite_or {c A B : Prop} [Decidable c] (h : A) (hB : ¬ c → A → B) : if c then A else B := by
  by_cases hc : c
  · rw [if_pos hc]; exact h
  · rw [if_neg hc]; exact hB hc h
theorem methLines_pos {s : Int} {p : Str × Meth} : 1 ≤ (methLines s p).length := by
  show 1 ≤ (_ :: _).length
  rw [List.length_cons]; omega
theorem flat_nil {s : Int} {ms : List (Str × Meth)} (h : ms.flatMap (methLines s) = []) : ms = [] := by
  cases ms with
  | nil => rfl
  | cons p r =>
    rw [List.flatMap_cons] at h
    have := congrArg List.length h
    rw [List.length_append] at this
    have h1 := methLines_pos (s := s) (p := p)
    simp only [List.length_nil] at this
    omega
section
variable {P : Program} {w : World} {K : PySem.W.Frag} {mg : Str → Option Value} {base : Heap}
def mkReader (T : Tx K mg) : Mk K T.CReader T.Reader_init.f := ⟨T.mkReader, T.Reader_init.at_, T.Reader_init.fn, T.kcReader⟩
def mkKind (T : Tx K mg) : Mk K T.CKind T.Kind_init.f := ⟨T.mkKind, T.Kind_init.at_, T.Kind_init.fn, T.kcKind⟩
def spRead (K : PySem.W.Frag) (C : Addr) : Sp := fun vs H Q _ => ∃ kd : Kd, vs = [.str (kindText kd)] ∧ KdOk kd ∧ Up kd.meths ∧ ∀ H' p, Same H H' → KindAt K C H' p kd → Q (.ref p) H'
theorem ok_read_kind (T : Tx K mg) : FnOk P w K mg base CX0 8 T.read_kind.f T.read_kind.d ["text"] (spRead K T.CKind) := by
  refine T.read_kind.F.ok sc_read_kind (fun vs H Q E h => ?_) (fun cdv A outer s H vs Q E hr h => ?_)
  · obtain ⟨kd, rfl, _⟩ := h; rfl
  · obtain ⟨kd, rfl, hk, hup, q⟩ := h
    have nd := sc_read_kind.nd
    have hu := hu_of hr
    obtain ⟨tM, gM⟩ := T.c_MOST_METHODS
    obtain ⟨tZ, gZ⟩ := T.c_LAST_NAME
    refine ⟨_, pss_cons (ps_if (pt_not (pt_val (pe_callB call_isi (by rfl) T.z_isinstance bt_isinstance (pa_cons (pv 0) (pa_cons (pe_bltn (v := .ty "str") (by rfl) T.z_str bt_str rfl) pa_nil))))) pss_never pss_nil)
      (pss_cons (ps_set (i := 1) nd rfl (Or.inl rfl) (pe_make (mkReader T) (ok_Reader_init T) (hr.mono (by decide)) (by rfl) T.gReader T.Reader_init.b .nil pass0 (pa_cons (pe_split (pv 0) pe_str) pa_nil)))
      (pss_cons (ps_asg (pe_meth0 (pv 1) T.clReader T.Reader_head.me (ok_Reader_head T) (hr.mono (by decide)) T.Reader_head.b .nil pass0) (pg_tup (by rfl) (pgs_cons (pg_name (i := 2) nd rfl (Or.inl rfl)) (pgs_cons (pg_name (i := 3) nd rfl (Or.inl rfl)) pgs_nil))))
      (pss_cons (ps_set (i := 4) nd rfl (Or.inl rfl) pe_dnewK)
      (pss_cons (ps_set (i := 5) nd rfl (Or.inl rfl) pe_str)
      (pss_cons (ps_while PassesOwn.never (PW.pt (pw_or (pt_cmpR op_eq (pe_callB call_lenD (by rfl) T.z_len bt_len (pa_cons (pv 4) pa_nil)) pe_int (nomark _))
            (pw_or1 (pt_not (pt_val (pe_meth0 (pv 1) T.clReader T.Reader_is_done.me (ok_Reader_is_done T) (hr.mono (by decide)) T.Reader_is_done.b .nil pass0))))))
          (pss_cons (ps_if (PW.pt (pw_or (pt_cmpR op_eq (pe_callB call_lenD (by rfl) T.z_len bt_len (pa_cons (pv 4) pa_nil)) (pe_glob (v := .int 4) (by rfl) gM ⟨tM, rfl⟩) (nomark _))
              (pw_or1 (pt_cmpR op_eq (pv 5) (pe_glob (v := .str (Str.ofString "zzzzzzzz")) (by rfl) gZ ⟨tZ, rfl⟩) (nomark _))))) pss_never pss_nil)
          (pss_cons (ps_asg (pe_meth (pv 1) T.clReader T.Reader_read_method.me (ok_Reader_read_method T) (hr.mono (by decide)) T.Reader_read_method.b .nil pass0 (pa_cons (pv 2) (pa_cons (pv 5) pa_nil)))
              (pg_tup (by rfl) (pgs_cons (pg_name (i := 5) nd rfl (Or.inl rfl)) (pgs_cons (pg_name (i := 6) nd rfl (Or.inl rfl)) pgs_nil))))
          (pss_one (ps_dput hu (pv 4) (pv 5) (pv 6) rfl)))))
      (pss_one (ps_ret (pe_make (mkKind T) (ok_Kind_init T) hr (by rfl) T.gKind T.Kind_init.b .nil pass0 (pa_cons (pv 2) (pa_cons (pv 3) (pa_cons (pv 4) pa_nil))))))))))), ?_⟩
    refine ⟨_, rfl, _, _, _, _, true, rfl, .ty _, .base (.str _), kit_ty ki_str_str, true, rfl, iteF ?_⟩
    -- reader = Reader(text.split('\\n'))
    refine ⟨_, rfl, ⟨_, rfl⟩, kindText kd, nl1, rfl, rfl, by decide +kernel, by have := text_len hk; rw [sizeLine_eq]; omega, fun l hl => ?_⟩
    rw [split_text hk]
    have s1 : Same H (upd H l (.lst ((kindLines kd).map V.str))) := same_new hl
    have h1 : (upd H l (.lst ((kindLines kd).map V.str))) l = some (.lst ((kindLines kd).map V.str)) := upd_same
    generalize upd H l (.lst ((kindLines kd).map V.str)) = H1 at s1 h1 ⊢
    intro r dr hr0 hdr0 hdne
    have s2 : Same H1 (upd (upd H1 dr (.own r)) r (.ins T.CReader dr [])) := fun b o e => by
      rw [upd_ne (ne_of_none e hr0), upd_ne (ne_of_none e hdr0)]; exact e
    refine ⟨r, dr, l, kindLines kd, rfl, upd_same, s2.seq (SqL.of h1), fun H3 b3 hrd3 => ⟨rfl, ?_⟩⟩
    have hHr : H r = none := s1.free hr0
    have s3 : Same H H3 := fun b o e => b3 b o (ne_of_none e hHr) (s2 _ _ (s1 _ _ e))
    -- states, start = reader.head()
    obtain ⟨dx3, e3, hl3⟩ := id hrd3
    refine ⟨_, rfl, r, dx3, _, rfl, e3, rf_not (.inr (.inr (.inr (.inl rfl)))), r, l, kindLines kd, kd.states, kd.start, rfl, hrd3, rfl, ⟨hk.s1, hk.s8⟩, ⟨hk.t0, hk.t1⟩, fun H4 p4 b4 hrd4 h4 => ?_⟩
    have s4 : Same H H4 := fun b o e => b4 b o (ne_of_none e hHr) (s3 _ _ e)
    refine ⟨p4, _, rfl, SqT.of h4, rfl, _, _, rfl, _, _, rfl, rfl, ?_⟩
    -- methods = {}; last = ''
    intro md hmd
    have s5 : Same H4 (upd H4 md (.dK [])) := same_new hmd
    have hHmd : H md = none := s4.free hmd
    refine ⟨fun m σ H' => ∃ (i n : Nat) (last : Str) (y : Option V), m = kd.meths.length - i ∧ i ≤ kd.meths.length ∧ σ = [some (.str (kindText kd)), some (.ref r), some (.int kd.states), some (.int kd.start), some (.ref md), some (.str last), y] ∧ Same H H' ∧
        RdAt K T.CReader H' r l (kindLines kd) n ∧ n ≤ (kindLines kd).length ∧ (kindLines kd).drop n = (kd.meths.drop i).flatMap (methLines kd.states) ∧ (∀ p ∈ kd.meths.drop i, ltS last p.1) ∧ DictAt K H' true md (kd.meths.take i),
      ⟨_, 0, 1, _, none, rfl, Nat.zero_le _, rfl, s4.trans s5, hrd4.same s5, by show 1 ≤ (_ :: _).length; rw [List.length_cons]; omega, rfl, ?_, [], upd_same, .nil⟩, ?_⟩
    · intro p hp
      have := (hk.ok p hp).1.1
      show tl (Str.ofString "") < tl p.1
      have e : tl (Str.ofString "") = [] := by decide +kernel
      rw [e]
      rw [len_tl] at this
      cases hq : tl p.1 with
      | nil => rw [hq] at this; simp at this
      | cons a b => exact List.nil_lt_cons _ _
    · rintro m σ H5 ⟨i, n, last, y, rfl, hi, rfl, s6, hrd6, hn, hdrop, hlast, kvs, ed, hms⟩
      have hkl : kvs.length = i := by rw [hms.length, List.length_take]; omega
      obtain ⟨dx6, e6, hl6⟩ := id hrd6
      refine ⟨_, rfl, md, kvs, rfl, ed, rfl, _, rfl, ?_⟩
      have hm4 := hk.m4
      have hm1 := hk.m1
      by_cases hlt : i < kd.meths.length
      · obtain ⟨x, m, hxm⟩ : ∃ x m, kd.meths[i] = (x, m) := ⟨_, _, rfl⟩
        have hdi : kd.meths.drop i = (x, m) :: kd.meths.drop (i + 1) := by rw [← hxm]; exact List.drop_eq_getElem_cons hlt
        have hmem : (x, m) ∈ kd.meths := by rw [← hxm]; exact List.getElem_mem hlt
        obtain ⟨hxo, hmo⟩ := hk.ok _ hmem
        have hlx : ltS last x := hlast (x, m) (by rw [hdi]; exact List.mem_cons_self)
        rw [hdi, List.flatMap_cons] at hdrop
        have hlen := congrArg List.length hdrop
        rw [List.length_drop, List.length_append] at hlen
        have hpos := methLines_pos (s := kd.states) (p := (x, m))
        refine ite_or (iteT ?_) fun hc hA => ⟨_, rfl, r, dx6, _, rfl, e6, rf_not (.inl rfl), r, l, _, n, rfl, hrd6, false, congrArg V.bl (decide_eq_false (by omega)), hA⟩
        refine ⟨fun σ' H' => ∃ (n : Nat) (last : Str) (y : Option V), σ' = [some (.str (kindText kd)), some (.ref r), some (.int kd.states), some (.int kd.start), some (.ref md), some (.str last), y] ∧ Same H H' ∧
            RdAt K T.CReader H' r l (kindLines kd) n ∧ n ≤ (kindLines kd).length ∧ (kindLines kd).drop n = (kd.meths.drop (i + 1)).flatMap (methLines kd.states) ∧ (∀ p ∈ kd.meths.drop (i + 1), ltS last p.1) ∧ DictAt K H' true md (kd.meths.take (i + 1)),
          fun σ' H' ⟨n, last, y, z1, z2, z3, z4, z5, z6, z7⟩ => ⟨kd.meths.length - (i + 1), by omega, i + 1, n, last, y, rfl, hlt, z1, z2, z3, z4, z5, z6, z7⟩, ?_⟩
        -- if len(methods) == MOST_METHODS or last == LAST_NAME
        refine ⟨_, rfl, md, kvs, rfl, ed, rfl, false, ?_, iteF ?_⟩
        · refine congrArg V.bl (decide_eq_false fun z => ?_)
          injection z with z
          omega
        refine ⟨_, rfl, rfl, false, ?_, iteF ?_⟩
        · refine congrArg V.bl (decide_eq_false fun z => ?_)
          injection z with z
          rw [z] at hlx
          exact zw_top hxo hlx
        -- last, value = reader.read_method(states, last)
        refine ⟨_, rfl, r, dx6, _, rfl, e6, rf_not (.inr (.inr (.inr (.inr rfl)))), _, rfl, _, rfl, r, l, kindLines kd, n, kd.states, last, x, m, _, rfl, hrd6, hdrop, ⟨hk.s1, hk.s8⟩, hxo, hmo, hlx, fun H7 p7 v7 b7 hrd7 h7 d7 => ?_⟩
        refine ⟨p7, _, rfl, SqT.of h7, rfl, _, _, rfl, _, _, rfl, rfl, ?_⟩
        have hmdr : md ≠ r := fun z => by rw [z, e6] at ed; cases ed
        have ed7 := b7 _ _ hmdr ed
        have hms7 : MsAt K H7 true kvs (kd.meths.take i) := MsAt.butI b7 e6 trivial hms
        -- methods[last] = value
        have hno : valV kvs (Sum.inr x) = none := by
          refine valV_no ?_
          rw [hms.keys]
          intro hm'
          obtain ⟨z, hz, ez⟩ := List.mem_map.mp hm'
          obtain ⟨p, hp, ep⟩ := List.mem_map.mp hz
          have ezx : z = x := Sum.inr.inj ez
          obtain ⟨j, hj, ej⟩ := List.getElem_of_mem hp
          rw [List.getElem_take] at ej
          have hji : j < i ∧ j < kd.meths.length := by rw [List.length_take] at hj; omega
          have := List.pairwise_iff_getElem.mp hup j i hji.2 hlt hji.1
          rw [ej, hxm, ep, ezx] at this
          exact ltS_irrefl _ this
        refine ⟨_, rfl, _, rfl, _, rfl, md, _, rfl, DPut.k (k := Sum.inr x) ed7 (by rw [hkl, sizeLine_eq]; omega), n + (methLines kd.states (x, m)).length, x, _, rfl, ?_, ?_, ?_, ?_, ?_, ?_⟩
        · intro b o e
          rw [upd_ne (ne_of_none e hHmd)]
          exact b7 b o (ne_of_none e hHr) (s6 _ _ e)
        · obtain ⟨dx7, e7, hl7⟩ := hrd7
          exact ⟨dx7, by rw [upd_ne hmdr.symm]; exact e7, SqL.but (o := .dK kvs) But.at_ ed7 trivial hl7⟩
        · omega
        · rw [← List.drop_drop, hdrop, List.drop_left]
        · intro p hp
          obtain ⟨j, hj, ej⟩ := List.getElem_of_mem hp
          rw [List.getElem_drop] at ej
          rw [List.length_drop] at hj
          have := List.pairwise_iff_getElem.mp hup i (i + 1 + j) hlt (by omega) (by omega)
          rw [hxm, ej] at this
          exact this
        · rw [putK_new _ hno]
          refine ⟨_, upd_same, ?_⟩
          have b8 : But md H7 (upd H7 md (.dK (kvs ++ [(Sum.inr x, v7)]))) := But.at_
          rw [List.take_add_one, List.getElem?_eq_getElem hlt, hxm]
          exact MsAt.snoc (Dp.butI b8 ed7 trivial _ _ d7) (MsAt.butI b8 ed7 trivial hms7)
      · have ei : i = kd.meths.length := by omega
        subst ei
        rw [List.drop_length] at hdrop
        have hnl : n = (kindLines kd).length := by
          have := congrArg List.length hdrop
          rw [List.length_drop] at this
          simp only [List.flatMap_nil, List.length_nil] at this
          omega
        rw [List.take_length] at hms
        have hne : decide (V.int (kvs.length : Int) = V.int 0) = false := decide_eq_false fun z => by injection z with z; omega
        rw [hne]
        refine iteF ?_
        refine ⟨_, rfl, r, dx6, _, rfl, e6, rf_not (.inl rfl), r, l, _, n, rfl, hrd6, true, congrArg V.bl (decide_eq_true hnl), iteF ?_⟩
        -- return Kind(states, start, methods)
        refine ⟨_, rfl, _, rfl, _, rfl, ?_⟩
        intro p dp hp hdp hne2
        have s7 : Same H5 (upd (upd H5 dp (.own p)) p (.ins T.CKind dp [])) := fun b o e => by
          rw [upd_ne (ne_of_none e hp), upd_ne (ne_of_none e hdp)]; exact e
        refine ⟨p, dp, md, true, kd, rfl, upd_same, ⟨kvs, s7 _ _ ed, hms.same s7⟩, hk, fun H8 ms' b8 hso hkd => ⟨rfl, ?_⟩⟩
        have e : ms' = kd.meths := sort_one hk.nd hso (sort_self hup)
        rw [e] at hkd
        exact q H8 p (fun b o e => b8 b o (ne_of_none (s6 _ _ e) hp) (s7 _ _ (s6 _ _ e))) hkd
end
end Tw
/-! ## Tw17: the law's bag and its picks -/
namespace Tw
open PySem L2 TL
def BagAt (H : Hp) (b : Addr) : Prop := ∃ x y z : Int, H b = some (.lst [.int x, .int y, .int z])
theorem BagAt.same {H H' : Hp} {b : Addr} (s : Same H H') (h : BagAt H b) : BagAt H' b := by
  obtain ⟨x, y, z, e⟩ := h
  exact ⟨x, y, z, s _ _ e⟩
theorem BagAt.but {H H' : Hp} {b c : Addr} (s : But c H H') (n : b ≠ c) (h : BagAt H b) : BagAt H' b := by
  obtain ⟨x, y, z, e⟩ := h
  exact ⟨x, y, z, s _ _ n e⟩
theorem cut_first (ns : List Int) (i j : Option Int) : ∃ v : Int, ∃ r, cutV (ns.map V.int) i j ++ [.int 0] = .int v :: r := by
  have h : ∀ l : List V, (∀ x ∈ l, ∃ v, x = V.int v) → ∃ v : Int, ∃ r, l ++ [V.int 0] = .int v :: r := by
    intro l hl
    cases l with
    | nil => exact ⟨0, [], rfl⟩
    | cons x l =>
      obtain ⟨v, rfl⟩ := hl x List.mem_cons_self
      exact ⟨v, l ++ [.int 0], rfl⟩
  refine h _ fun x hx => ?_
  have hx : x ∈ ns.map V.int := List.mem_of_mem_drop (List.mem_of_mem_take hx)
  obtain ⟨v, _, e⟩ := List.mem_map.mp hx
  exact ⟨v, e.symm⟩
section
variable {P : Program} {w : World} {K : PySem.W.Frag} {mg : Str → Option Value} {base : Heap}
def spBag (K : PySem.W.Frag) : Sp := fun vs H Q _ => ∃ (a : Addr) (ns : List Int) (i : Int), vs = [.ref a, .int i] ∧ SqL K H a (ns.map V.int) ∧ ns.length ≤ 63 ∧ ∀ H' b, Same H H' → H b = none → BagAt H' b → Q (.ref b) H'
theorem ok_law_bag (T : Tx K mg) : FnOk P w K mg base CX0 1 T._law_bag.f T._law_bag.d ["_law_script", "_law_spot"] (spBag K) := by
  refine T._law_bag.F.ok sc__law_bag (fun vs H Q E h => ?_) (fun cdv A outer s H vs Q E hr h => ?_)
  · obtain ⟨a, ns, i, rfl, _⟩ := h; rfl
  · obtain ⟨a, ns, i, rfl, ha, hlen, q⟩ := h
    have nd := sc__law_bag.nd
    refine ⟨_, pss_cons (ps_set (i := 2) nd rfl (Or.inl rfl) (pe_ix ix_list (pe_op op_cat (pe_slice sl_list (pv 0) (po_some (pv 1)) (po_some (pe_op op_add (pv 1) pe_int))) (pe_lst (pa_cons pe_int pa_nil))) pe_int (fun _ _ => rfl)))
      (pss_cons (ps_set (i := 3) nd rfl (Or.inl rfl) (pe_op op_add (pe_op op_add (pe_op op_mod (pe_callTy call_int1 (by rfl) T.z_int bt_int (pa_cons (pv 2) pa_nil)) pe_int) (pe_op op_mul pe_int (pv 1))) pe_int))
      (pss_cons (ps_if (pt_cmpR op_ge (pv 2) (pe_op op_pow pe_int pe_int) (nomark _)) (pss_one (ps_ret (pe_lst (pa_cons (pv 2) (pa_cons (pv 3) (pa_cons pe_int pa_nil)))))) pss_nil)
      (pss_one (ps_ret (pe_lst (pa_cons pe_int (pa_cons (pv 3) (pa_cons pe_int pa_nil)))))))), ?_⟩
    refine ⟨_, rfl, _, rfl, i, rfl, _, rfl, _, _, rfl, rfl, _, rfl, a, _, rfl, ha, fun p1 hp1 => ?_⟩
    have s1 := same_new (o := .lst (cutV (ns.map V.int) (some i) (some (i + 1)))) hp1
    refine ⟨by show 1 ≤ sizeLine; decide, fun p2 hp2 => ?_⟩
    have s2 := same_new (o := .lst [.int 0]) hp2
    have hcl := cutV_length (ns.map V.int) (some i) (some (i + 1))
    rw [List.length_map] at hcl
    refine ⟨p1, p2, _, _, rfl, rfl, s2 _ _ upd_same, upd_same, by show _ + 1 ≤ sizeLine; rw [sizeLine_eq]; omega, fun p3 hp3 => ?_⟩
    have s3 := same_new (o := .lst (cutV (ns.map V.int) (some i) (some (i + 1)) ++ [.int 0])) hp3
    obtain ⟨v, r, ev⟩ := cut_first ns (some i) (some (i + 1))
    have s13 := (s1.trans s2).trans s3
    refine ⟨p3, _, 0, .int v, rfl, rfl, SqL.of upd_same, ?_, ?_⟩
    · rw [ev]
      exact atI_nat (j := 0) rfl
    refine ⟨_, rfl, .inl ⟨v, rfl, _, _, rfl, rfl, by show (0 : Int) < 2147483587; decide, _, rfl, _, _, rfl, rfl, .inl (by decide), _, _, rfl, rfl, _, _, rfl, rfl, ?_⟩⟩
    refine ⟨_, rfl, _, _, rfl, rfl, ⟨by decide, by decide, by decide⟩, _, _, rfl, rfl, _, rfl, ?_⟩
    refine ite2 (fun _ => ?_) (fun _ => ?_)
    · refine ⟨_, rfl, _, rfl, by show 3 ≤ sizeLine; decide, fun p4 hp4 => ?_⟩
      exact q _ p4 (s13.trans (same_new hp4)) (s13.free hp4) ⟨_, _, _, upd_same⟩
    · refine ⟨_, rfl, by show 3 ≤ sizeLine; decide, fun p4 hp4 => ?_⟩
      exact q _ p4 (s13.trans (same_new hp4)) (s13.free hp4) ⟨_, _, _, upd_same⟩
def spPick (K : PySem.W.Frag) : Sp := fun vs H Q _ => ∃ (b : Addr) (n : Int), vs = [.ref b, .int n] ∧ BagAt H b ∧ 1 ≤ n ∧ n ≤ 100 ∧ ∀ H' i, But b H H' → BagAt H' b → 0 ≤ i → i < n → Q (.int i) H'
theorem ok_law_pick (T : Tx K mg) : FnOk P w K mg base CX0 1 T._law_pick.f T._law_pick.d ["_law_bag_here", "_law_many"] (spPick K) := by
  refine T._law_pick.F.ok sc__law_pick (fun vs H Q E h => ?_) (fun cdv A outer s H vs Q E hr h => ?_)
  · obtain ⟨b, n, rfl, _⟩ := h; rfl
  · obtain ⟨b, n, rfl, ⟨x, y, z, e⟩, h1, h100, q⟩ := h
    have nd := sc__law_pick.nd
    refine ⟨_, pss_cons (ps_if (pt_cmpR op_gt (pe_ix ix_list (pv 0) pe_int (fun _ _ => rfl)) pe_int (nomark _))
        (pss_cons (ps_set (i := 2) nd rfl (Or.inl rfl) (pe_op op_mod (pe_callTy call_int1 (by rfl) T.z_int bt_int (pa_cons (pe_ix ix_list (pv 0) pe_int (fun _ _ => rfl)) pa_nil)) (pv 1)))
        (pss_cons (ps_asg (pe_op op_fdiv (pe_ix ix_list (pv 0) pe_int (fun _ _ => rfl)) (pv 1)) (pg_sub (pv 0) pe_int set_list))
        (pss_one (ps_ret (pv 2))))) pss_nil)
      (pss_cons (ps_asg (pe_op op_add (pe_ix ix_list (pv 0) pe_int (fun _ _ => rfl)) pe_int) (pg_sub (pv 0) pe_int set_list))
      (pss_cons (ps_set (i := 3) nd rfl (Or.inl rfl) (pe_op op_mod (pe_callTy call_int1 (by rfl) T.z_int bt_int (pa_cons (pe_op op_mul (pe_op op_add (pe_ix ix_list (pv 0) pe_int (fun _ _ => rfl)) (pe_op op_mul pe_int (pe_ix ix_list (pv 0) pe_int (fun _ _ => rfl)))) pe_int) pa_nil)) pe_int))
      (pss_cons (ps_set (i := 3) nd rfl (Or.inl rfl) (pe_op op_mod (pe_callTy call_int1 (by rfl) T.z_int bt_int (pa_cons (pe_op op_mul (pv 3) (pe_op op_add (pe_op op_fdiv (pv 3) pe_int) pe_int)) pa_nil)) pe_int))
      (pss_cons (ps_set (i := 3) nd rfl (Or.inl rfl) (pe_op op_mod (pe_callTy call_int1 (by rfl) T.z_int bt_int (pa_cons (pe_op op_mul (pv 3) (pe_op op_add (pe_op op_fdiv (pv 3) pe_int) pe_int)) pa_nil)) pe_int))
      (pss_one (ps_ret (pe_op op_mod (pe_callTy call_int1 (by rfl) T.z_int bt_int (pa_cons (pe_op op_fdiv (pv 3) pe_int) pa_nil)) (pv 1)))))))), ?_⟩
    have hn0 : n ≠ 0 := by omega
    refine ⟨_, rfl, b, _, 0, _, rfl, rfl, SqL.of e, rfl, _, _, rfl, rfl, _, rfl, ?_⟩
    refine ite2 (fun _ => ?_) (fun _ => ?_)
    · refine ⟨_, rfl, b, _, 0, _, rfl, rfl, SqL.of e, rfl, .inl ⟨x, rfl, _, rfl, _, _, rfl, rfl, by show 0 < n; omega, ?_⟩⟩
      refine ⟨_, rfl, b, _, 0, _, rfl, rfl, SqL.of e, rfl, _, rfl, _, _, rfl, rfl, ⟨by show 0 < n; omega, by show n < 1073741824; omega⟩, ?_⟩
      refine ⟨_, rfl, b, _, 0, 0, rfl, rfl, e, rfl, ?_⟩
      exact ⟨_, rfl, q _ _ But.at_ ⟨_, _, _, upd_same⟩ (Int.emod_nonneg _ hn0) (Int.emod_lt_of_pos _ (by omega))⟩
    · refine ⟨_, rfl, b, _, 2, _, rfl, rfl, SqL.of e, rfl, _, _, rfl, rfl, ?_⟩
      refine ⟨_, rfl, b, _, 2, 2, rfl, rfl, e, rfl, ?_⟩
      have e2 : (upd H b (.lst [.int x, .int y, .int (z + 1)])) b = some (.lst [.int x, .int y, .int (z + 1)]) := upd_same
      have b2 : But b H (upd H b (.lst [.int x, .int y, .int (z + 1)])) := But.at_
      refine ⟨_, rfl, b, _, 1, _, rfl, rfl, SqL.of e2, rfl, _, rfl, b, _, 2, _, rfl, rfl, SqL.of e2, rfl, _, _, rfl, rfl, .inl (by decide), _, _, rfl, rfl, _, _, rfl, rfl, .inr (by decide), .inl ⟨_, rfl, _, _, rfl, rfl, by show (0 : Int) < 2147483647; decide, ?_⟩⟩
      have m1 := Int.emod_nonneg ((y + 15485863 * (z + 1)) * 69621) (show (2147483647 : Int) ≠ 0 by decide)
      have m2 := Int.emod_lt_of_pos ((y + 15485863 * (z + 1)) * 69621) (show (0 : Int) < 2147483647 by decide)
      generalize ((y + 15485863 * (z + 1)) * 69621) % 2147483647 = u at m1 m2 ⊢
      refine ⟨_, rfl, _, rfl, _, _, rfl, rfl, ⟨by decide, by decide⟩, _, _, rfl, rfl, _, _, rfl, rfl, .inl ⟨by omega, by omega⟩, .inl ⟨_, rfl, _, _, rfl, rfl, by show (0 : Int) < 2147483647; decide, ?_⟩⟩
      have k1 := Int.emod_nonneg (u * (u / 1019 + 48271)) (show (2147483647 : Int) ≠ 0 by decide)
      have k2 := Int.emod_lt_of_pos (u * (u / 1019 + 48271)) (show (0 : Int) < 2147483647 by decide)
      generalize (u * (u / 1019 + 48271)) % 2147483647 = u2 at k1 k2 ⊢
      refine ⟨_, rfl, _, rfl, _, _, rfl, rfl, ⟨by decide, by decide⟩, _, _, rfl, rfl, _, _, rfl, rfl, .inl ⟨by omega, by omega⟩, .inl ⟨_, rfl, _, _, rfl, rfl, by show (0 : Int) < 2147483563; decide, ?_⟩⟩
      refine ⟨_, rfl, _, _, rfl, rfl, ⟨by decide, by decide⟩, .inl ⟨_, rfl, _, rfl, _, _, rfl, rfl, by show 0 < n; omega, ?_⟩⟩
      exact q _ _ b2 ⟨_, _, _, e2⟩ (Int.emod_nonneg _ hn0) (Int.emod_lt_of_pos _ (by omega))
end
end Tw
/-! ## Tw18: the law's rows -/
namespace Tw
open PySem L2 TL
theorem but_at {b l : Addr} {H H' : Hp} {o : HO} (s : But b H H') (h : H l = none) : But b H (upd H' l o) := fun a u n e => by
  rw [upd_ne (ne_of_none e h)]; exact s a u n e
theorem nodup_len {α : Type} : ∀ {l m : List α}, l.Nodup → (∀ x ∈ l, x ∈ m) → l.length ≤ m.length
  | [], m, _, _ => Nat.zero_le _
  | a :: l, m, hn, hs => by
    obtain ⟨h1, h2⟩ := List.nodup_cons.mp hn
    obtain ⟨m1, m2, rfl⟩ := List.append_of_mem (hs a List.mem_cons_self)
    have := nodup_len (l := l) (m := m1 ++ m2) h2 fun x hx => by
      have hx' := hs x (List.mem_cons_of_mem _ hx)
      rcases List.mem_append.mp hx' with h | h
      · exact List.mem_append_left _ h
      · rcases List.mem_cons.mp h with h | h
        · exact absurd (h ▸ hx) h1
        · exact List.mem_append_right _ h
    simp only [List.length_append, List.length_cons] at this ⊢
    omega
/-- tuples that are answers -/
def AnsL (K : PySem.W.Frag) (H : Hp) (res states : Int) (ks : List (Addr × List Int)) : Prop := ∀ p ∈ ks, SqT K H p.1 (p.2.map V.int) ∧ ∃ r n : Int, p.2 = [r, n] ∧ AnOk res states (r, n)
theorem AnsL.same {K : PySem.W.Frag} {H H' : Hp} {res states : Int} {ks : List (Addr × List Int)} (s : Same H H') (h : AnsL K H res states ks) : AnsL K H' res states ks := fun p hp => ⟨SqT.same s (h p hp).1, (h p hp).2⟩
theorem AnsL.but {K : PySem.W.Frag} {H H' : Hp} {b : Addr} {o : HO} {res states : Int} {ks : List (Addr × List Int)} (s : But b H H') (hb : H b = some o) (m : Mut (some o)) (h : AnsL K H res states ks) : AnsL K H' res states ks := fun p hp => ⟨SqT.but s hb m (h p hp).1, (h p hp).2⟩
def pairOf (p : Addr × List Int) : An := (p.2.getD 0 0, p.2.getD 1 0)
theorem cell_of {K : PySem.W.Frag} {H : Hp} {res states : Int} (hr : res ≤ 64) (hs : states ≤ 64) : ∀ {L : List (Addr × List Int)}, AnsL K H res states L → (L.map (·.2)).Nodup → L.length ≤ 8 → L.Pairwise (fun q r => TS.code 64 q.2 ≤ TS.code 64 r.2) →
    CellOk res states (L.map pairOf) ∧ DpAll K H (L.map fun q => V.ref q.1) ((L.map pairOf).map anD) := by
  intro L hL hn hl hp
  have hpair : ∀ p ∈ L, p.2 = [(pairOf p).1, (pairOf p).2] ∧ AnOk res states (pairOf p) := by
    intro p hp
    obtain ⟨_, r, n, e, ho⟩ := hL p hp
    have : pairOf p = (r, n) := by unfold pairOf; rw [e]; rfl
    rw [this]
    exact ⟨e, ho⟩
  refine ⟨⟨fun a ha => ?_, ?_, by rw [List.length_map]; exact hl⟩, ?_⟩
  · obtain ⟨p, hp, rfl⟩ := List.mem_map.mp ha
    exact (hpair p hp).2
  · rw [List.pairwise_map]
    have hn' : L.Pairwise fun q r => q.2 ≠ r.2 := by
      have := List.nodup_iff_pairwise_ne.mp hn
      rw [List.pairwise_map] at this
      exact this
    refine (hp.and hn').imp_of_mem fun {q r} hq hr' ⟨h1, h2⟩ => ?_
    obtain ⟨e1, o1⟩ := hpair q hq
    obtain ⟨e2, o2⟩ := hpair r hr'
    rw [e1, e2] at h1 h2
    exact pair_lt h1 h2 ⟨o1.1, by have := o1.2.1; omega⟩ ⟨o1.2.2.1, by have := o1.2.2.2; omega⟩ ⟨o2.1, by have := o2.2.1; omega⟩ ⟨o2.2.2.1, by have := o2.2.2.2; omega⟩
  · clear hn hl hp
    induction L with
    | nil => exact .nil
    | cons p L ih =>
      refine .cons (an_mk ?_) (ih (fun q hq => hL q (List.mem_cons_of_mem _ hq)) fun q hq => hpair q (List.mem_cons_of_mem _ hq))
      have := (hL p List.mem_cons_self).1
      rw [(hpair p List.mem_cons_self).1] at this
      exact this
theorem menu8 {i : Int} (h0 : 0 ≤ i) (h : i < 8) : ∃ v : Int, atI ([.int 1, .int 1, .int 1, .int 1, .int 2, .int 1, .int 1, .int 2] : List V) i = some (.int v) ∧ 0 ≤ v ∧ v ≤ 2 := by
  obtain ⟨n, rfl⟩ := Int.eq_ofNat_of_zero_le h0
  have hn : n < 8 := by omega
  match n, hn with
  | 0, _ => exact ⟨1, atI_nat rfl, by decide, by decide⟩
  | 1, _ => exact ⟨1, atI_nat rfl, by decide, by decide⟩
  | 2, _ => exact ⟨1, atI_nat rfl, by decide, by decide⟩
  | 3, _ => exact ⟨1, atI_nat rfl, by decide, by decide⟩
  | 4, _ => exact ⟨2, atI_nat rfl, by decide, by decide⟩
  | 5, _ => exact ⟨1, atI_nat rfl, by decide, by decide⟩
  | 6, _ => exact ⟨1, atI_nat rfl, by decide, by decide⟩
  | 7, _ => exact ⟨2, atI_nat rfl, by decide, by decide⟩
section
variable {P : Program} {w : World} {K : PySem.W.Frag} {mg : Str → Option Value} {base : Heap}
def spRows (K : PySem.W.Frag) : Sp := fun vs H Q _ => ∃ (b : Addr) (S A R : Int), vs = [.ref b, .int S, .int A, .int R] ∧ BagAt H b ∧ (1 ≤ S ∧ S ≤ 8) ∧ (1 ≤ A ∧ A ≤ 4) ∧ (1 ≤ R ∧ R ≤ 4) ∧
  ∀ H' p rows, But b H H' → BagAt H' b → Dp K H' p (rowsD false rows) → (rows.length : Int) = S → (∀ r ∈ rows, RowOk A R S r) → Q p H'
theorem ok_law_rows (T : Tx K mg) : FnOk P w K mg base CX0 2 T._law_rows.f T._law_rows.d ["_law_bag_here", "_law_states", "_law_places", "_law_results"] (spRows K) := by
  refine T._law_rows.F.ok sc__law_rows (fun vs H Q E h => ?_) (fun cdv A outer s H vs Q E hr h => ?_)
  · obtain ⟨b, S, A, R, rfl, _⟩ := h; rfl
  · obtain ⟨b, S, Pl, R, rfl, hbag, hS, hA, hR, q⟩ := h
    have nd := sc__law_rows.nd
    refine ⟨_, pss_cons (ps_set (i := 4) nd rfl (Or.inl rfl) (pcall T._law_pick (ok_law_pick T) hr (pa_cons (pv 0) (pa_cons pe_int pa_nil))))
      (pss_cons (ps_set (i := 5) nd rfl (Or.inl rfl) (pe_lst pa_nil))
      (pss_cons (ps_for PassesOwn.never rfl (pi_range1 (by rfl) T.z_range (pa_cons (pv 1) pa_nil)) (pg_name (i := 6) nd rfl (Or.inl rfl))
        (pss_cons (ps_set (i := 7) nd rfl (Or.inl rfl) (pe_lst pa_nil))
        (pss_cons (ps_for PassesOwn.never rfl (pi_range1 (by rfl) T.z_range (pa_cons (pv 2) pa_nil)) (pg_name (i := 8) nd rfl (Or.inl rfl))
          (pss_cons (ps_set (i := 9) nd rfl (Or.inl rfl) (pe_ix ix_list (pe_lst (pa_cons pe_int (pa_cons pe_int (pa_cons pe_int (pa_cons pe_int (pa_cons pe_int (pa_cons pe_int (pa_cons pe_int (pa_cons pe_int pa_nil)))))))))
              (pcall T._law_pick (ok_law_pick T) hr (pa_cons (pv 0) (pa_cons pe_int pa_nil))) (fun _ _ => rfl)))
          (C8.pss_cut (ps_if (PW.pt (pw_and (pt_cmpR op_eq (pv 4) pe_int (nomark _)) (pw_and1 (pt_cmpR op_eq (pcall T._law_pick (ok_law_pick T) hr (pa_cons (pv 0) (pa_cons pe_int pa_nil))) pe_int (nomark _)))))
              (pss_one (ps_set (i := 9) nd rfl (Or.inl rfl) pe_int)) pss_nil)
          (pss_cons (ps_setLc (i := 10) (own := [("_law_turn", 11)]) (g := gName 11) (tt := tYes) rfl nd rfl rfl (sw_true rfl rfl rfl (by decide +kernel)) (pi_range1 (by rfl) T.z_range (pa_cons (pv 9) pa_nil))
            (blkOk_by (own := [("_law_turn", 11)]) (N := ["_law_bag_here", "_law_states", "_law_places", "_law_results", "_law_missing", "_law_rows_here", "_law_state", "_law_row", "_law_place", "_law_many", "_law_answers", "_law_turn"]) (sc := defScope s__law_rows) (by decide +kernel))
            (fun _ _ _ _ _ => pg_name (i := 11) nd rfl (Or.inl rfl)) (fun _ _ _ _ _ => pts_nil)
            (fun _ _ _ _ _ => pe_tup (pa_cons (pcall T._law_pick (ok_law_pick T) hr (pa_cons (pv 0) (pa_cons (pv 3) pa_nil))) (pa_cons (pcall T._law_pick (ok_law_pick T) hr (pa_cons (pv 0) (pa_cons (pv 1) pa_nil))) pa_nil))))
          (pss_one (ps_expr (pe_bm PySem.F.plainAttrs_list PySem.F.slot_list_append PySem.F.type_list_append mt_append (pv 7) (pa_cons (pe_callTy call_tuple_of (by rfl) T.z_tuple bt_tuple (pa_cons
            (pe_callB (cr_sortedT rfl) (by rfl) T.z_sorted bt_sorted (pa_cons (pe_callTy (cr_setOfT rfl hr.units) (by rfl) T.z_set bt_set (pa_cons (pv 10) pa_nil)) pa_nil)) pa_nil)) pa_nil))))))))
        (pss_one (ps_expr (pe_bm PySem.F.plainAttrs_list PySem.F.slot_list_append PySem.F.type_list_append mt_append (pv 5) (pa_cons (pe_callTy call_tuple_of (by rfl) T.z_tuple bt_tuple (pa_cons (pv 7) pa_nil)) pa_nil)))))))
      (pss_one (ps_ret (pe_callTy call_tuple_of (by rfl) T.z_tuple bt_tuple (pa_cons (pv 5) pa_nil)))))), ?_⟩
    -- _law_missing = _law_pick(_law_bag_here, 3); _law_rows_here = []
    refine ⟨_, rfl, b, 3, rfl, hbag, by decide, by decide, fun H1 miss b1 hbag1 _ _ => ?_⟩
    refine ⟨Nat.zero_le _, fun lr hlr => ?_⟩
    have hlr0 : H lr = none := by
      obtain ⟨x, y, z, e⟩ := hbag1
      exact But.ne (o := .lst []) b1 ⟨_, e⟩ hlr
    have hlrb : lr ≠ b := by
      obtain ⟨x, y, z, e⟩ := hbag1
      exact fun w => by rw [w, e] at hlr; cases hlr
    -- for _law_state in range(_law_states)
    refine ⟨_, rfl, S, rfl, by omega, by omega, for_range (lo := 0) (n := S.toNat) (fun i σ H' => ∃ y6 y7 y8 y9 y10, σ = [some (.ref b), some (.int S), some (.int Pl), some (.int R), some (.int miss), some (.ref lr), y6, y7, y8, y9, y10, none] ∧ But b H H' ∧ BagAt H' b ∧
        ∃ rs rows, H' lr = some (.lst rs) ∧ rows.length = i ∧ DpAll K H' rs (rows.map (rowD false)) ∧ ∀ r ∈ rows, RowOk Pl R S r)
      ⟨none, none, none, none, none, rfl, but_at b1 hlr0, hbag1.same (same_new hlr), [], [], upd_same, rfl, .nil, fun _ h => by cases h⟩ ?_ ?_⟩
    · rintro i σ H2 hi ⟨y6, y7, y8, y9, y10, rfl, b2, hbag2, rs, rows, h2, hrl, hrs, hrows⟩
      rw [Int.zero_add]
      -- _law_row = []
      refine ⟨Nat.zero_le _, fun l2 hl2 => ?_⟩
      have hl2b : l2 ≠ b := by
        obtain ⟨x, y, z, e⟩ := hbag2
        exact fun w => by rw [w, e] at hl2; cases hl2
      have hl2r : l2 ≠ lr := fun w => by rw [w, h2] at hl2; cases hl2
      -- for _law_place in range(_law_places)
      refine ⟨_, rfl, Pl, rfl, by omega, by omega, for_range (lo := 0) (n := Pl.toNat) (fun j σ H' => ∃ y8 y9 y10, σ = [some (.ref b), some (.int S), some (.int Pl), some (.int R), some (.int miss), some (.ref lr), some (.int i), some (.ref l2), y8, y9, y10, none] ∧ But b H2 H' ∧ BagAt H' b ∧
          ∃ cs cells, H' l2 = some (.lst cs) ∧ cells.length = j ∧ DpAll K H' cs (cells.map (cellD false)) ∧ ∀ c ∈ cells, CellOk R S c)
        ⟨_, _, _, rfl, But.of_same (same_new hl2), hbag2.same (same_new hl2), [], [], upd_same, rfl, .nil, fun _ h => by cases h⟩ ?_ ?_⟩
      · rintro j σ H3 hj ⟨y8, y9, y10, rfl, b3, hbag3, cs, cells, h3, hcl, hcs, hcells⟩
        rw [Int.zero_add]
        -- _law_many = [..][_law_pick(_law_bag_here, 8)]
        refine ⟨by show 8 ≤ sizeLine; decide, fun pm hpm => ?_⟩
        have sm := same_new (o := .lst [.int 1, .int 1, .int 1, .int 1, .int 2, .int 1, .int 1, .int 2]) hpm
        have hpmb : pm ≠ b := by
          obtain ⟨x, y, z, e⟩ := hbag3
          exact fun w => by rw [w, e] at hpm; cases hpm
        refine ⟨_, rfl, b, 8, rfl, hbag3.same sm, by decide, by decide, fun H4 i4 b4 hbag4 hi40 hi48 => ?_⟩
        obtain ⟨many, hmany, hm0, hm2⟩ := menu8 hi40 hi48
        refine ⟨pm, _, i4, .int many, rfl, rfl, SqL.of (b4 _ _ hpmb upd_same), hmany, ?_⟩
        have b34 : But b H3 H4 := (But.of_same sm).trans b4
        -- if _law_missing == 0 and _law_pick(_law_bag_here, 4) == 0: _law_many = 0
        refine ⟨fun σ' H' => ∃ many : Int, 0 ≤ many ∧ many ≤ 2 ∧ σ' = [some (.ref b), some (.int S), some (.int Pl), some (.int R), some (.int miss), some (.ref lr), some (.int i), some (.ref l2), some (.int j), some (.int many), y10, none] ∧ But b H3 H' ∧ BagAt H' b, ?_, ?_⟩
        · refine ⟨_, rfl, rfl, _, rfl, ?_⟩
          refine ite2 (fun _ => ?_) (fun _ => ?_)
          · refine ⟨_, rfl, b, 4, rfl, hbag4, by decide, by decide, fun H5 i5 b5 hbag5 _ _ => ?_⟩
            refine ⟨rfl, _, rfl, ?_⟩
            refine ite2 (fun _ => ?_) (fun _ => ?_)
            · exact ⟨0, by decide, by decide, rfl, b34.trans b5, hbag5⟩
            · exact ⟨many, hm0, hm2, rfl, b34.trans b5, hbag5⟩
          · exact iteF ⟨many, hm0, hm2, rfl, b34, hbag4⟩
        · rintro σ' H5 ⟨many, hm0, hm2, rfl, b35, hbag5⟩
          have h5l2 := b35 _ _ hl2b h3
          -- _law_answers = [..]
          refine ⟨_, rfl, many, rfl, by omega, by omega, fun D hD => lc_range (lo := 0) (n := many.toNat) (fun t H' => But b H5 H' ∧ BagAt H' b ∧ ∃ ks, H' D = some (.lst (ks.map fun p : Addr × List Int => V.ref p.1)) ∧ ks.length = t ∧ AnsL K H' R S ks)
            ⟨But.of_same (same_new hD), hbag5.same (same_new hD), [], upd_same, rfl, fun _ h => by cases h⟩ ?_ ?_⟩
          · rintro t H6 ht ⟨b6, hbag6, ks, h6, hkl, hks⟩
            have hDb : D ≠ b := by
              obtain ⟨x, y, z, e⟩ := hbag5
              exact fun w => by rw [w, e] at hD; cases hD
            refine ⟨rfl, ?_⟩
            refine ⟨_, rfl, _, rfl, b, R, rfl, hbag6, hR.1, by omega, fun H7 r7 b7 hbag7 hr0 hr1 => ?_⟩
            refine ⟨_, rfl, _, rfl, b, S, rfl, hbag7, hS.1, by omega, fun H8 n8 b8 hbag8 hn0 hn1 => ?_⟩
            refine ⟨by show 2 ≤ sizeLine; decide, fun p9 hp9 => ?_⟩
            have s9 := same_new (o := .tup [.int r7, .int n8]) hp9
            have b69 : But b H6 (upd H8 p9 (.tup [.int r7, .int n8])) := (b7.trans b8).trans (But.of_same s9)
            obtain ⟨x6, y6', z6, e6⟩ := id hbag6
            have h9 := b69 _ _ hDb h6
            have k1 := AnsL.but b69 e6 trivial hks
            have b9 : But D (upd H8 p9 (.tup [.int r7, .int n8])) (upd (upd H8 p9 (.tup [.int r7, .int n8])) D (.lst (ks.map (fun p : Addr × List Int => V.ref p.1) ++ [.ref p9]))) := But.at_
            refine ⟨_, h9, ?_, ?_, ?_, ks ++ [(p9, [r7, n8])], ?_, ?_, ?_⟩
            · rw [List.length_map, hkl, sizeLine_eq]; omega
            · exact but_at (b6.trans b69) hD
            · exact (hbag8.same s9).but b9 hDb.symm
            · rw [upd_same, List.map_append]; rfl
            · rw [List.length_append, hkl]; rfl
            · intro p hp
              rcases List.mem_append.mp hp with hp | hp
              · exact AnsL.but b9 h9 trivial k1 p hp
              · rw [List.mem_singleton.mp hp]
                exact ⟨SqT.but b9 h9 trivial (SqT.of upd_same), r7, n8, rfl, hr0, hr1, hn0, hn1⟩
          · rintro H6 ⟨b6, hbag6, ks, h6, hkl, hks⟩
            have h6l2 := b6 _ _ hl2b h5l2
            -- _law_row.append(tuple(sorted(set(_law_answers))))
            refine ⟨_, rfl, .inl ⟨rfl, _, SqL.of h6l2⟩, ?_⟩
            refine ⟨_, rfl, D, ks, rfl, SqL.of h6, fun p hp => (hks p hp).1, by omega, fun a L ha hLk hkL => ?_⟩
            have s7 : Same H6 (upd H6 a (SetTO P w a L)) := same_new ha
            refine ⟨a, L, 2, 64, rfl, upd_same, fun p hp => SqT.same s7 (hks p (hLk p hp)).1, by decide, fun p hp => ?_, fun L' p8 hperm hnd hl64 hpw hp8 => ?_⟩
            · obtain ⟨_, r, n, e, ho⟩ := hks p (hLk p hp)
              rw [e]
              obtain ⟨o1, o2, o3, o4⟩ := ho
              exact ⟨rfl, bd_an (a := (r, n)) ⟨o1, by show r < 64; have : r < R := o2; omega, o3, by show n < 64; have : n < S := o4; omega⟩⟩
            · have hL'k : ∀ p ∈ L', p ∈ ks := fun p hp => hLk p (hperm.mem_iff.mp hp)
              have hl8 : L'.length ≤ 8 := by
                have := nodup_len hnd (m := ks.map (·.2)) fun x hx => by
                  obtain ⟨p, hp, e⟩ := List.mem_map.mp hx
                  exact List.mem_map.mpr ⟨p, hL'k p hp, e⟩
                rw [List.length_map, List.length_map, hkl] at this
                omega
              have s8 := same_new (o := .lst (L'.map fun q => V.ref q.1)) hp8
              have hans : AnsL K _ R S L' := AnsL.same (s7.trans s8) fun p hp => hks p (hL'k p hp)
              obtain ⟨hco, hdp⟩ := cell_of (by omega) (by omega) hans hnd hl8 hpw
              refine ⟨p8, _, rfl, .inl ⟨SqL.of upd_same, fun p9 hp9 => ?_⟩⟩
              have s9 := same_new (o := .tup (L'.map fun q => V.ref q.1)) hp9
              have s69 := (s7.trans s8).trans s9
              have b39 := (b35.trans b6).trans (But.of_same s69)
              obtain ⟨x3, y3, z3, e3⟩ := id hbag3
              have hcs9 := DpAll.but b39 e3 trivial _ _ (noListAll_map noList_cell cells) hcs
              have h9 := s69 _ _ h6l2
              refine ⟨l2, cs, _, rfl, rfl, h9, ?_, _, _, _, rfl, but_at (b3.trans b39) hl2, ?_, cs ++ [.ref p9], cells ++ [L'.map pairOf], upd_same, ?_, ?_, ?_⟩
              · rw [DpAll.length hcs, List.length_map, hcl, sizeLine_eq]; omega
              · exact (hbag6.same s69).but (c := l2) But.at_ hl2b.symm
              · rw [List.length_append, hcl]; rfl
              · rw [List.map_append]
                have b9 : But l2 (upd (upd (upd H6 a (SetTO P w a L)) p8 (.lst (L'.map fun q => V.ref q.1))) p9 (.tup (L'.map fun q => V.ref q.1))) (upd (upd (upd (upd H6 a (SetTO P w a L)) p8 (.lst (L'.map fun q => V.ref q.1))) p9 (.tup (L'.map fun q => V.ref q.1))) l2 (.lst (cs ++ [.ref p9]))) := But.at_
                refine DpAll.snoc (Dp.but b9 h9 trivial _ _ (noList_cell _) (.tup (SqT.of upd_same) (DpAll.same s9 _ _ hdp))) ?_
                exact DpAll.but b9 h9 trivial _ _ (noListAll_map noList_cell cells) hcs9
              · intro c hc
                rcases List.mem_append.mp hc with hc | hc
                · exact hcells c hc
                · rw [List.mem_singleton.mp hc]; exact hco
      · rintro σ H3 ⟨y8, y9, y10, rfl, b3, hbag3, cs, cells, h3, hcl, hcs, hcells⟩
        -- _law_rows_here.append(tuple(_law_row))
        have h3r := b3 _ _ hlrb h2
        refine ⟨_, rfl, .inl ⟨rfl, _, SqL.of h3r⟩, _, rfl, l2, cs, rfl, .inl ⟨SqL.of h3, fun p4 hp4 => ?_⟩⟩
        have s4 := same_new (o := .tup cs) hp4
        have b24 := b3.trans (But.of_same s4)
        obtain ⟨x2, y2, z2, e2⟩ := id hbag2
        have hrs4 := DpAll.but b24 e2 trivial _ _ (noListAll_map noList_row rows) hrs
        have h4 := s4 _ _ h3r
        refine ⟨lr, rs, _, rfl, rfl, h4, ?_, _, _, _, _, _, rfl, but_at (b2.trans b24) hlr0, ?_, rs ++ [.ref p4], rows ++ [cells], upd_same, ?_, ?_, ?_⟩
        · rw [DpAll.length hrs, List.length_map, hrl, sizeLine_eq]; omega
        · exact (hbag3.same s4).but (c := lr) But.at_ hlrb.symm
        · rw [List.length_append, hrl]; rfl
        · rw [List.map_append]
          have b9 : But lr (upd H3 p4 (.tup cs)) (upd (upd H3 p4 (.tup cs)) lr (.lst (rs ++ [.ref p4]))) := But.at_
          refine DpAll.snoc (Dp.but b9 h4 trivial _ _ (noList_row _) (.tup (SqT.of upd_same) (DpAll.same s4 _ _ hcs))) ?_
          exact DpAll.but b9 h4 trivial _ _ (noListAll_map noList_row rows) hrs4
        · intro r hr'
          rcases List.mem_append.mp hr' with hr' | hr'
          · exact hrows r hr'
          · rw [List.mem_singleton.mp hr']
            exact ⟨by rw [hcl]; omega, hcells⟩
    · rintro σ H2 ⟨y6, y7, y8, y9, y10, rfl, b2, hbag2, rs, rows, h2, hrl, hrs, hrows⟩
      refine ⟨_, rfl, lr, rs, rfl, .inl ⟨SqL.of h2, fun p4 hp4 => ?_⟩⟩
      have s4 := same_new (o := .tup rs) hp4
      exact q _ _ rows (b2.trans (But.of_same s4)) (hbag2.same s4) (.tup (SqT.of upd_same) (DpAll.same s4 _ _ hrs)) (by rw [hrl]; omega) hrows
end
end Tw
/-! ## Tw19: the law's raw kinds -/
namespace Tw
open PySem L2 TL
/-- a method put under a name -/
def putM (ms : List (Str × Meth)) (x : Str) (m : Meth) : List (Str × Meth) := if x ∈ ms.map (·.1) then ms.map (fun p => if p.1 = x then (p.1, m) else p) else ms ++ [(x, m)]
theorem msAt_map {K : PySem.W.Frag} {H : Hp} {k : Bool} {x : Str} {m : Meth} {v : V} (h : Dp K H v (methD k m)) : ∀ {kvs : List (Key × V)} {ms : List (Str × Meth)}, MsAt K H k kvs ms →
    MsAt K H k (kvs.map fun kv => if kv.1 = (Sum.inr x : Key) then (kv.1, v) else kv) (ms.map fun p => if p.1 = x then (p.1, m) else p)
  | _, _, .nil => .nil
  | _, _, .cons (a := p) (b := q) r t => by
    simp only [List.map_cons]
    refine .cons ?_ (msAt_map h t)
    by_cases e : q.1 = x
    · have e' : p.1 = (Sum.inr x : Key) := by rw [r.1, e]
      rw [if_pos e, if_pos e']
      exact ⟨r.1, h⟩
    · have e' : ¬ p.1 = (Sum.inr x : Key) := fun z => e (by rw [r.1] at z; exact Sum.inr.inj z)
      rw [if_neg e, if_neg e']
      exact r
theorem msAt_put {K : PySem.W.Frag} {H : Hp} {k : Bool} {x : Str} {m : Meth} {v : V} {kvs : List (Key × V)} {ms : List (Str × Meth)} (h : Dp K H v (methD k m)) (hm : MsAt K H k kvs ms) : MsAt K H k (putK kvs (Sum.inr x) v) (putM ms x m) := by
  have hk : (∃ kv ∈ kvs, kv.1 = (Sum.inr x : Key)) ↔ x ∈ ms.map (·.1) := by
    have e := hm.keys
    constructor
    · rintro ⟨kv, hkv, ek⟩
      have : (Sum.inr x : Key) ∈ kvs.map (·.1) := List.mem_map.mpr ⟨kv, hkv, ek⟩
      rw [e] at this
      obtain ⟨z, hz, ez⟩ := List.mem_map.mp this
      rw [← Sum.inr.inj ez]; exact hz
    · intro hx
      have : (Sum.inr x : Key) ∈ kvs.map (·.1) := by rw [e]; exact List.mem_map.mpr ⟨x, hx, rfl⟩
      obtain ⟨kv, hkv, ek⟩ := List.mem_map.mp this
      exact ⟨kv, hkv, ek⟩
  unfold putK putM
  by_cases hx : x ∈ ms.map (·.1)
  · obtain ⟨kv, hkv, ek⟩ := hk.mpr hx
    rw [if_pos hx, if_pos (List.any_eq_true.mpr ⟨kv, hkv, decide_eq_true ek⟩)]
    exact msAt_map h hm
  · rw [if_neg hx, if_neg ?_]
    · exact MsAt.snoc h hm
    · intro z
      obtain ⟨kv, hkv, ek⟩ := List.any_eq_true.mp z
      exact hx (hk.mp ⟨kv, hkv, of_decide_eq_true ek⟩)
theorem putM_keys {ms : List (Str × Meth)} {x : Str} {m : Meth} : (putM ms x m).map (·.1) = if x ∈ ms.map (·.1) then ms.map (·.1) else ms.map (·.1) ++ [x] := by
  unfold putM
  by_cases hx : x ∈ ms.map (·.1)
  · rw [if_pos hx, if_pos hx, List.map_map]
    refine List.map_congr_left fun p _ => ?_
    show (if p.1 = x then (p.1, m) else p).1 = p.1
    split <;> rfl
  · rw [if_neg hx, if_neg hx, List.map_append]; rfl
theorem putM_nodup {ms : List (Str × Meth)} {x : Str} {m : Meth} (h : (ms.map (·.1)).Nodup) : ((putM ms x m).map (·.1)).Nodup := by
  rw [putM_keys]
  by_cases hx : x ∈ ms.map (·.1)
  · rw [if_pos hx]; exact h
  · rw [if_neg hx]; exact nd_snoc h hx
theorem putM_len {ms : List (Str × Meth)} {x : Str} {m : Meth} : (putM ms x m).length ≤ ms.length + 1 ∧ 1 ≤ (putM ms x m).length := by
  unfold putM
  by_cases hx : x ∈ ms.map (·.1)
  · rw [if_pos hx, List.length_map]
    obtain ⟨p, hp, _⟩ := List.mem_map.mp hx
    have := List.length_pos_of_mem hp
    omega
  · rw [if_neg hx, List.length_append]
    simp
theorem putM_ok {R : Str × Meth → Prop} {ms : List (Str × Meth)} {x : Str} {m : Meth} (h : ∀ p ∈ ms, R p) (hx : R (x, m)) : ∀ p ∈ putM ms x m, R p := by
  intro p hp
  unfold putM at hp
  split at hp
  · obtain ⟨q, hq, e⟩ := List.mem_map.mp hp
    by_cases hqx : q.1 = x
    · rw [if_pos hqx, hqx] at e
      rw [← e]; exact hx
    · rw [if_neg hqx] at e
      rw [← e]; exact h q hq
  · rcases List.mem_append.mp hp with hp | hp
    · exact h p hp
    · rw [List.mem_singleton.mp hp]; exact hx
instance (z : Str) : Decidable (NameOk z) := by unfold NameOk; infer_instance
theorem nm0 : NameOk (Str.ofString "a") := by decide +kernel
theorem nm1 : NameOk (Str.ofString "zzzzzzzz") := by decide +kernel
theorem nm2 : NameOk (Str.ofString "zzzzzzzy") := by decide +kernel
theorem nm3 : NameOk (Str.ofString "go") := by decide +kernel
theorem nm4 : NameOk (Str.ofString "bb") := by decide +kernel
theorem nm5 : NameOk (Str.ofString "b") := by decide +kernel
def names6 : List V := [.str (Str.ofString "a"), .str (Str.ofString "zzzzzzzz"), .str (Str.ofString "zzzzzzzy"), .str (Str.ofString "go"), .str (Str.ofString "bb"), .str (Str.ofString "b")]
theorem menu6 {i : Int} (h0 : 0 ≤ i) (h : i < 6) : ∃ x : Str, atI names6 i = some (.str x) ∧ NameOk x := by
  obtain ⟨n, rfl⟩ := Int.eq_ofNat_of_zero_le h0
  have hn : n < 6 := by omega
  match n, hn with
  | 0, _ => exact ⟨_, atI_nat rfl, nm0⟩
  | 1, _ => exact ⟨_, atI_nat rfl, nm1⟩
  | 2, _ => exact ⟨_, atI_nat rfl, nm2⟩
  | 3, _ => exact ⟨_, atI_nat rfl, nm3⟩
  | 4, _ => exact ⟨_, atI_nat rfl, nm4⟩
  | 5, _ => exact ⟨_, atI_nat rfl, nm5⟩
theorem menu3 {i : Int} (h0 : 0 ≤ i) (h : i < 3) : ∃ v : Int, atI ([.int 3, .int 3, .int 8] : List V) i = some (.int v) ∧ 1 ≤ v ∧ v ≤ 8 := by
  obtain ⟨n, rfl⟩ := Int.eq_ofNat_of_zero_le h0
  have hn : n < 3 := by omega
  match n, hn with
  | 0, _ => exact ⟨3, atI_nat rfl, by decide, by decide⟩
  | 1, _ => exact ⟨3, atI_nat rfl, by decide, by decide⟩
  | 2, _ => exact ⟨8, atI_nat rfl, by decide, by decide⟩
theorem menu2 {i : Int} (h0 : 0 ≤ i) (h : i < 2) : ∃ v : Int, atI ([.int 2, .int 4] : List V) i = some (.int v) ∧ 1 ≤ v ∧ v ≤ 4 := by
  obtain ⟨n, rfl⟩ := Int.eq_ofNat_of_zero_le h0
  have hn : n < 2 := by omega
  match n, hn with
  | 0, _ => exact ⟨2, atI_nat rfl, by decide, by decide⟩
  | 1, _ => exact ⟨4, atI_nat rfl, by decide, by decide⟩
/-- a raw kind: a list of its states, its start and its dict of methods -/
def RawAt (K : PySem.W.Frag) (H : Hp) (l : Addr) (kd : Kd) : Prop := ∃ d, H l = some (.lst [.int kd.states, .int kd.start, .ref d]) ∧ DictAt K H false d kd.meths
theorem RawAt.same {K : PySem.W.Frag} {H H' : Hp} {l : Addr} {kd : Kd} (s : Same H H') (h : RawAt K H l kd) : RawAt K H' l kd := by
  obtain ⟨d, e, m⟩ := h
  exact ⟨d, s _ _ e, m.same s⟩
section
variable {P : Program} {w : World} {K : PySem.W.Frag} {mg : Str → Option Value} {base : Heap}
def spWide (K : PySem.W.Frag) : Sp := fun vs H Q _ => ∃ b : Addr, vs = [.ref b] ∧ BagAt H b ∧ ∀ H' l d kd, But b H H' → H' l = some (.lst [.int kd.states, .int kd.start, .ref d]) → DictAt K H' false d kd.meths → KdOk kd → H d = none → Q (.ref l) H'
theorem ok_law_wide (T : Tx K mg) : FnOk P w K mg base CX0 3 T._law_wide_kind.f T._law_wide_kind.d ["_law_bag_here"] (spWide K) := by
  refine T._law_wide_kind.F.ok sc__law_wide_kind (fun vs H Q E h => ?_) (fun cdv A outer s H vs Q E hr h => ?_)
  · obtain ⟨b, rfl, _⟩ := h; rfl
  · obtain ⟨b, rfl, hbag, q⟩ := h
    have nd := sc__law_wide_kind.nd
    have hu := hu_of hr
    refine ⟨_, pss_cons (ps_set (i := 1) nd rfl (Or.inl rfl) (pe_op op_add pe_int (pcall T._law_pick (ok_law_pick T) hr (pa_cons (pv 0) (pa_cons (pe_ix ix_list (pe_lst (pa_cons pe_int (pa_cons pe_int (pa_cons pe_int pa_nil))))
          (pcall T._law_pick (ok_law_pick T) hr (pa_cons (pv 0) (pa_cons pe_int pa_nil))) (fun _ _ => rfl)) pa_nil)))))
      (pss_cons (ps_set (i := 2) nd rfl (Or.inl rfl) (pe_lst (pa_cons pe_str (pa_cons pe_str (pa_cons pe_str (pa_cons pe_str (pa_cons pe_str (pa_cons pe_str pa_nil))))))))
      (pss_cons (ps_set (i := 3) nd rfl (Or.inl rfl) pe_dnewK)
      (pss_cons (ps_for PassesOwn.never rfl (pi_range1 (by rfl) T.z_range (pa_cons (pe_op op_add pe_int (pcall T._law_pick (ok_law_pick T) hr (pa_cons (pv 0) (pa_cons pe_int pa_nil)))) pa_nil)) (pg_name (i := 4) nd rfl (Or.inl rfl))
        (pss_cons (ps_set (i := 5) nd rfl (Or.inl rfl) (pe_op op_add pe_int (pcall T._law_pick (ok_law_pick T) hr (pa_cons (pv 0) (pa_cons (pe_ix ix_list (pe_lst (pa_cons pe_int (pa_cons pe_int pa_nil)))
            (pcall T._law_pick (ok_law_pick T) hr (pa_cons (pv 0) (pa_cons pe_int pa_nil))) (fun _ _ => rfl)) pa_nil)))))
        (pss_cons (ps_set (i := 6) nd rfl (Or.inl rfl) (pe_op op_add pe_int (pcall T._law_pick (ok_law_pick T) hr (pa_cons (pv 0) (pa_cons pe_int pa_nil)))))
        (pss_one (ps_dput hu (pv 3) (pe_ix ix_list (pv 2) (pcall T._law_pick (ok_law_pick T) hr (pa_cons (pv 0) (pa_cons pe_int pa_nil))) (fun _ _ => rfl))
          (pe_tup (pa_cons (pv 5) (pa_cons (pv 6) (pa_cons (pcall T._law_rows (ok_law_rows T) hr (pa_cons (pv 0) (pa_cons (pv 1) (pa_cons (pv 5) (pa_cons (pv 6) pa_nil))))) pa_nil)))) rfl)))))
      (pss_one (ps_ret (pe_lst (pa_cons (pv 1) (pa_cons (pcall T._law_pick (ok_law_pick T) hr (pa_cons (pv 0) (pa_cons (pv 1) pa_nil))) (pa_cons (pv 3) pa_nil))))))))), ?_⟩
    have bagne : ∀ {H1 : Hp} {l : Addr}, BagAt H1 b → H1 l = none → l ≠ b := fun {H1 l} ⟨x, y, z, e⟩ hl w => by rw [w, e] at hl; cases hl
    have bagno : ∀ {H1 : Hp} {l : Addr}, BagAt H1 b → But b H H1 → H1 l = none → H l = none := fun {H1 l} ⟨x, y, z, e⟩ k hl => But.ne (o := .lst []) k ⟨_, e⟩ hl
    -- _law_states = 1 + _law_pick(_law_bag_here, [3, 3, 8][_law_pick(_law_bag_here, 3)])
    refine ⟨_, rfl, by show 3 ≤ sizeLine; decide, fun p1 hp1 => ?_⟩
    have s1 := same_new (o := .lst [.int 3, .int 3, .int 8]) hp1
    refine ⟨_, rfl, b, 3, rfl, hbag.same s1, by decide, by decide, fun H2 i2 b2 hbag2 hi0 hi3 => ?_⟩
    obtain ⟨v3, hv3, hv31, hv38⟩ := menu3 hi0 hi3
    refine ⟨p1, _, i2, .int v3, rfl, rfl, SqL.of (b2 _ _ (bagne hbag hp1) upd_same), hv3, ?_⟩
    have b02 := (But.of_same s1).trans b2
    refine ⟨b, v3, rfl, hbag2, hv31, by omega, fun H3 s3 b3 hbag3 hs0 hs1 => ⟨_, _, rfl, rfl, ?_⟩⟩
    have b03 := b02.trans b3
    have hS : 1 ≤ 1 + s3 ∧ 1 + s3 ≤ 8 := ⟨by omega, by omega⟩
    dsimp only
    generalize 1 + s3 = S at hS ⊢
    -- _law_names = [..]; _law_methods = {}
    refine ⟨by show 6 ≤ sizeLine; decide, fun ln hln => ?_⟩
    have s4 := same_new (o := .lst names6) hln
    have b04 : But b H (upd H3 ln (.lst names6)) := b03.trans (But.of_same s4)
    have hbag4 := hbag3.same s4
    intro md hmd
    have s5 := same_new (o := .dK []) hmd
    have b05 : But b H _ := b04.trans (But.of_same s5)
    have hbag5 := hbag4.same s5
    have hlnb := bagne hbag3 hln
    have hmdb := bagne hbag4 hmd
    have hmd0 : H md = none := bagno hbag4 b04 hmd
    have hlnm : ln ≠ md := fun w => by rw [← w] at hmd; exact absurd hmd (by rw [upd_same]; intro z; cases z)
    -- for _law_turn in range(1 + _law_pick(_law_bag_here, 4))
    refine ⟨_, rfl, b, 4, rfl, hbag5, by decide, by decide, fun H6 c6 b6 hbag6 hc0 hc4 => ⟨_, _, rfl, rfl, ?_⟩⟩
    have b06 := b05.trans b6
    refine ⟨1 + c6, rfl, by omega, by omega, for_range (lo := 0) (n := (1 + c6).toNat) (fun i σ H' => ∃ y4 y5 y6, σ = [some (.ref b), some (.int S), some (.ref ln), some (.ref md), y4, y5, y6] ∧ But b H H' ∧ BagAt H' b ∧ H' ln = some (.lst names6) ∧
        ∃ kvs ms, H' md = some (.dK kvs) ∧ MsAt K H' false kvs ms ∧ ms.length ≤ i ∧ (0 < i → 1 ≤ ms.length) ∧ (ms.map (·.1)).Nodup ∧ ∀ p ∈ ms, NameOk p.1 ∧ MethOk S p.2)
      ⟨none, none, none, rfl, b06, hbag6, b6 _ _ hlnb (s5 _ _ upd_same), [], [], b6 _ _ hmdb upd_same, .nil, Nat.le_refl _, fun h => absurd h (Nat.lt_irrefl _), List.nodup_nil, fun _ h => by cases h⟩ ?_ ?_⟩
    · rintro i σ H7 hi ⟨y4, y5, y6, rfl, b07, hbag7, h7n, kvs, ms, h7m, hms, hml, hmp, hnd, hok⟩
      -- _law_places = 1 + ..
      refine ⟨_, rfl, by show 2 ≤ sizeLine; decide, fun p8 hp8 => ?_⟩
      have s8 := same_new (o := .lst [.int 2, .int 4]) hp8
      refine ⟨_, rfl, b, 2, rfl, hbag7.same s8, by decide, by decide, fun H9 i9 b9 hbag9 hi90 hi92 => ?_⟩
      obtain ⟨v9, hv9, hv91, hv94⟩ := menu2 hi90 hi92
      refine ⟨p8, _, i9, .int v9, rfl, rfl, SqL.of (b9 _ _ (bagne hbag7 hp8) upd_same), hv9, ?_⟩
      refine ⟨b, v9, rfl, hbag9, hv91, by omega, fun H10 a10 b10 hbag10 ha0 ha1 => ⟨_, _, rfl, rfl, ?_⟩⟩
      have hA : 1 ≤ 1 + a10 ∧ 1 + a10 ≤ 4 := ⟨by omega, by omega⟩
      dsimp only
      generalize 1 + a10 = Pl at hA ⊢
      -- _law_results = 1 + ..
      refine ⟨_, rfl, b, 4, rfl, hbag10, by decide, by decide, fun H11 r11 b11 hbag11 hr0 hr1 => ⟨_, _, rfl, rfl, ?_⟩⟩
      have hR : 1 ≤ 1 + r11 ∧ 1 + r11 ≤ 4 := ⟨by omega, by omega⟩
      dsimp only
      generalize 1 + r11 = R at hR ⊢
      have b711 : But b H7 H11 := (((But.of_same s8).trans b9).trans b10).trans b11
      -- _law_methods[..] = (.., .., _law_rows(..))
      refine ⟨_, rfl, _, rfl, _, rfl, _, rfl, _, rfl, _, rfl, b, S, Pl, R, rfl, hbag11, hS, hA, hR, fun H12 v12 rows b12 hbag12 dv hrl hrows => ?_⟩
      refine ⟨by show 3 ≤ sizeLine; decide, fun p13 hp13 => ?_⟩
      have s13 := same_new (o := .tup [.int Pl, .int R, v12]) hp13
      refine ⟨_, rfl, _, rfl, _, rfl, b, 6, rfl, hbag12.same s13, by decide, by decide, fun H14 i14 b14 hbag14 hi140 hi146 => ?_⟩
      obtain ⟨x, hx, hxo⟩ := menu6 hi140 hi146
      have b714 : But b H7 H14 := ((b711.trans b12).trans (But.of_same s13)).trans b14
      refine ⟨ln, names6, i14, .str x, rfl, rfl, SqL.of (b714 _ _ hlnb h7n), hx, ?_⟩
      obtain ⟨x7, z7, w7, e7⟩ := id hbag7
      obtain ⟨x12, z12, w12, e12⟩ := id (hbag12.same s13)
      have h14m := b714 _ _ hmdb h7m
      have hms14 : MsAt K H14 false kvs ms := MsAt.but b714 e7 trivial hms
      have dm : Dp K H14 (.ref p13) (methD false ⟨Pl, R, rows⟩) := Dp.but b14 e12 trivial _ _ (noList_meth _) (meth_mk (m := ⟨Pl, R, rows⟩) (SqT.of upd_same) (Dp.same s13 _ _ dv))
      have b15 : But md H14 (upd H14 md (.dK (putK kvs (Sum.inr x) (.ref p13)))) := But.at_
      have hmo : MethOk S ⟨Pl, R, rows⟩ := ⟨hA.1, hA.2, hR.1, hR.2, hrl, hrows⟩
      refine ⟨md, _, rfl, DPut.k (k := Sum.inr x) h14m (by rw [hms.length, sizeLine_eq]; omega), _, _, _, rfl, but_at (b07.trans b714) hmd0, hbag14.but b15 hmdb.symm, by rw [upd_ne hlnm]; exact b714 _ _ hlnb h7n, _, putM ms x ⟨Pl, R, rows⟩, upd_same, ?_, ?_, ?_, ?_, ?_⟩
      · exact msAt_put (Dp.but b15 h14m trivial _ _ (noList_meth _) dm) (MsAt.but b15 h14m trivial hms14)
      · have := (putM_len (ms := ms) (x := x) (m := ⟨Pl, R, rows⟩)).1; omega
      · exact fun _ => putM_len.2
      · exact putM_nodup hnd
      · exact putM_ok hok ⟨hxo, hmo⟩
    · rintro σ H7 ⟨y4, y5, y6, rfl, b07, hbag7, h7n, kvs, ms, h7m, hms, hml, hmp, hnd, hok⟩
      refine ⟨_, rfl, _, rfl, _, rfl, b, S, rfl, hbag7, hS.1, by omega, fun H8 t8 b8 hbag8 ht0 ht1 => ⟨_, rfl, by show 3 ≤ sizeLine; decide, fun p9 hp9 => ?_⟩⟩
      have s9 := same_new (o := .lst [.int S, .int t8, .ref md]) hp9
      obtain ⟨x7, z7, w7, e7⟩ := id hbag7
      have b79 := b8.trans (But.of_same s9)
      refine q _ p9 md ⟨S, t8, ms⟩ (b07.trans b79) upd_same ⟨kvs, b79 _ _ hmdb h7m, MsAt.but b79 e7 trivial hms⟩ ⟨hS.1, hS.2, ht0, ht1, hmp (by omega), by show ms.length ≤ 4; omega, hnd, hok⟩ hmd0
def spLKind (K : PySem.W.Frag) (C : Addr) : Sp := fun vs H Q _ => ∃ (l : Addr) (kd : Kd), vs = [.ref l] ∧ RawAt K H l kd ∧ KdOk kd ∧ ∀ H' p ms', Same H H' → SortOf kd.meths ms' → KindAt K C H' p ⟨kd.states, kd.start, ms'⟩ → Q (.ref p) H'
theorem ok_law_kind (T : Tx K mg) : FnOk P w K mg base CX0 8 T._law_kind.f T._law_kind.d ["_law_raw"] (spLKind K T.CKind) := by
  refine T._law_kind.F.ok sc__law_kind (fun vs H Q E h => ?_) (fun cdv A outer s H vs Q E hr h => ?_)
  · obtain ⟨l, kd, rfl, _⟩ := h; rfl
  · obtain ⟨l, kd, rfl, ⟨d, hl, hd⟩, hk, q⟩ := h
    refine ⟨_, pss_one (ps_ret (pe_make (mkKind T) (ok_Kind_init T) hr (by rfl) T.gKind T.Kind_init.b .nil pass0 (pa_cons (pe_ix ix_list (pv 0) pe_int (fun _ _ => rfl)) (pa_cons (pe_ix ix_list (pv 0) pe_int (fun _ _ => rfl)) (pa_cons (pe_ix ix_list (pv 0) pe_int (fun _ _ => rfl)) pa_nil))))), ?_⟩
    refine ⟨_, rfl, l, _, 0, _, rfl, rfl, SqL.of hl, rfl, _, rfl, l, _, 1, _, rfl, rfl, SqL.of hl, rfl, _, rfl, l, _, 2, _, rfl, rfl, SqL.of hl, rfl, ?_⟩
    intro p dp hp hdp hne
    have s7 : Same H (upd (upd H dp (.own p)) p (.ins T.CKind dp [])) := fun b o e => by
      rw [upd_ne (ne_of_none e hp), upd_ne (ne_of_none e hdp)]; exact e
    refine ⟨p, dp, d, false, kd, rfl, upd_same, hd.same s7, hk, fun H8 ms' b8 hso hkd => ⟨rfl, ?_⟩⟩
    exact q H8 p ms' (fun b o e => b8 b o (ne_of_none e hp) (s7 _ _ e)) hso hkd
end
end Tw
/-! ## Tw20: the law's own comparison -/
namespace Tw
open PySem L2 TL
theorem ki_str_list : kitB "str" "list" = some false := by decide +kernel
theorem ki_str_tuple : kitB "str" "tuple" = some false := by decide +kernel
theorem ki_str_bool : kitB "str" "bool" = some false := by decide +kernel
theorem ki_str_int : kitB "str" "int" = some false := by decide +kernel
theorem ki_list_tuple : kitB "list" "tuple" = some false := by decide +kernel
theorem ix_listK {X : Cx} (K : PySem.W.Frag) (h : X.K = K := by rfl) : IxR X (rIxL K) := by
  subst h
  exact ix_list
section
variable {P : Program} {w : World} {K : PySem.W.Frag} {mg : Str → Option Value} {base : Heap}
def spAlikeS : Sp := fun vs H Q _ => ∃ x : Str, vs = [.str x, .str x] ∧ Q (.bl true) H
theorem ok_alikeS (T : Tx K mg) : FnOk P w K mg base CX0 1 T._law_alike.f T._law_alike.d ["_law_told", "_law_due"] spAlikeS := by
  refine T._law_alike.F.ok sc__law_alike (fun vs H Q E h => ?_) (fun cdv A outer s H vs Q E hr h => ?_)
  · obtain ⟨x, rfl, _⟩ := h; rfl
  · obtain ⟨x, rfl, q⟩ := h
    refine ⟨_, pss_cons (ps_if (PW.pt (pw_or (pt_val (pe_callB call_isi (by rfl) T.z_isinstance bt_isinstance (pa_cons (pv 1) (pa_cons (pe_bltn (v := .ty "list") (by rfl) T.z_list bt_list rfl) pa_nil))))
        (pw_or1 (pt_val (pe_callB call_isi (by rfl) T.z_isinstance bt_isinstance (pa_cons (pv 1) (pa_cons (pe_bltn (v := .ty "tuple") (by rfl) T.z_tuple bt_tuple rfl) pa_nil))))))) pss_never pss_nil)
      (pss_cons (ps_if (PW.pt (pw_or (pt_cmpR op_ne (pe_callB call_isi (by rfl) T.z_isinstance bt_isinstance (pa_cons (pv 0) (pa_cons (pe_bltn (v := .ty "bool") (by rfl) T.z_bool bt_bool rfl) pa_nil)))
          (pe_callB call_isi (by rfl) T.z_isinstance bt_isinstance (pa_cons (pv 1) (pa_cons (pe_bltn (v := .ty "bool") (by rfl) T.z_bool bt_bool rfl) pa_nil))) (nomark _))
        (pw_or1 (pt_cmpR op_ne (pe_callB call_isi (by rfl) T.z_isinstance bt_isinstance (pa_cons (pv 0) (pa_cons (pe_bltn (v := .ty "int") (by rfl) T.z_int bt_int rfl) pa_nil)))
          (pe_callB call_isi (by rfl) T.z_isinstance bt_isinstance (pa_cons (pv 1) (pa_cons (pe_bltn (v := .ty "int") (by rfl) T.z_int bt_int rfl) pa_nil))) (nomark _))))) pss_never pss_nil)
      (pss_one (ps_ret (pe_cmpR op_eq (pv 0) (pv 1) (nomark _))))), ?_⟩
    refine ⟨_, rfl, _, _, _, _, false, rfl, .ty _, .base (.str _), kit_ty ki_str_list, false, rfl, iteF ?_⟩
    refine ⟨_, rfl, _, _, _, _, false, rfl, .ty _, .base (.str _), kit_ty ki_str_tuple, false, rfl, iteF ?_⟩
    refine ⟨_, rfl, _, _, _, _, false, rfl, .ty _, .base (.str _), kit_ty ki_str_bool, _, rfl, _, _, _, _, false, rfl, .ty _, .base (.str _), kit_ty ki_str_bool, rfl, false, rfl, iteF ?_⟩
    refine ⟨_, rfl, _, _, _, _, false, rfl, .ty _, .base (.str _), kit_ty ki_str_int, _, rfl, _, _, _, _, false, rfl, .ty _, .base (.str _), kit_ty ki_str_int, rfl, false, rfl, iteF ?_⟩
    refine ⟨_, rfl, _, rfl, rfl, ?_⟩
    rw [decide_eq_true rfl]
    exact q
def spAlikeL (K : PySem.W.Frag) : Sp := fun vs H Q _ => ∃ (a b : Addr) (l : List Str), vs = [.ref a, .ref b] ∧ SqL K H a (l.map V.str) ∧ SqL K H b (l.map V.str) ∧ l.length ≤ 1000 ∧ ∀ H', Same H H' → Q (.bl true) H'
theorem ok_alikeL (T : Tx K mg) : FnOk P w K mg base CX0 2 T._law_alike.f T._law_alike.d ["_law_told", "_law_due"] (spAlikeL K) := by
  refine T._law_alike.F.ok sc__law_alike (fun vs H Q E h => ?_) (fun cdv A outer s H vs Q E hr h => ?_)
  · obtain ⟨a, b, l, rfl, _⟩ := h; rfl
  · obtain ⟨a, b, l, rfl, ha, hb, hl, q⟩ := h
    have nd := sc__law_alike.nd
    refine ⟨_, pss_cons (ps_if (PW.pt (pw_or (pt_val (pe_callB call_isi (by rfl) T.z_isinstance bt_isinstance (pa_cons (pv 1) (pa_cons (pe_bltn (v := .ty "list") (by rfl) T.z_list bt_list rfl) pa_nil))))
        (pw_or1 (pt_val (pe_callB call_isi (by rfl) T.z_isinstance bt_isinstance (pa_cons (pv 1) (pa_cons (pe_bltn (v := .ty "tuple") (by rfl) T.z_tuple bt_tuple rfl) pa_nil)))))))
          (pss_cons (ps_if (PW.pt (pw_or (pt_cmpR op_ne (pe_callB call_isi (by rfl) T.z_isinstance bt_isinstance (pa_cons (pv 0) (pa_cons (pe_bltn (v := .ty "list") (by rfl) T.z_list bt_list rfl) pa_nil)))
              (pe_callB call_isi (by rfl) T.z_isinstance bt_isinstance (pa_cons (pv 1) (pa_cons (pe_bltn (v := .ty "list") (by rfl) T.z_list bt_list rfl) pa_nil))) (nomark _))
            (pw_or1 (pt_cmpR op_ne (pe_callB call_isi (by rfl) T.z_isinstance bt_isinstance (pa_cons (pv 0) (pa_cons (pe_bltn (v := .ty "tuple") (by rfl) T.z_tuple bt_tuple rfl) pa_nil)))
              (pe_callB call_isi (by rfl) T.z_isinstance bt_isinstance (pa_cons (pv 1) (pa_cons (pe_bltn (v := .ty "tuple") (by rfl) T.z_tuple bt_tuple rfl) pa_nil))) (nomark _))))) pss_never pss_nil)
          (pss_cons (ps_if (pt_cmpR op_ne (pe_callB call_len (by rfl) T.z_len bt_len (pa_cons (pv 0) pa_nil)) (pe_callB call_len (by rfl) T.z_len bt_len (pa_cons (pv 1) pa_nil)) (nomark _)) pss_never pss_nil)
          (pss_one (ps_ret (pe_cmpR op_eq (pe_callB call_len (by rfl) T.z_len bt_len (pa_cons (pe_lc (own := [("_law_k", 2)]) (g := gName 2) (tt := tNot (tB (tCall spAlikeS [] E0 (tCons (tOp (rIxL K) (tVar 0) (tVar 2)) (tCons (tOp (rIxL K) (tVar 1) (tVar 2)) tNil))))) (te := tVar 2) rfl nd
              (pi_range1 (by rfl) T.z_range (pa_cons (pe_callB call_len (by rfl) T.z_len bt_len (pa_cons (pv 1) pa_nil)) pa_nil))
              (blkOk_by (own := [("_law_k", 2)]) (N := ["_law_told", "_law_due", "_law_k"]) (sc := defScope s__law_alike) (by decide +kernel))
              (fun _ _ _ _ _ => pg_name (i := 2) nd rfl (Or.inl rfl))
              (fun _ _ _ _ _ => pts_one (pt_not (pt_val (pcall T._law_alike (ok_alikeS T) hr (pa_cons (pe_ix (ix_listK K) (pv 0) (pv 2) (fun _ _ => rfl)) (pa_cons (pe_ix (ix_listK K) (pv 1) (pv 2) (fun _ _ => rfl)) pa_nil))))))
              (fun _ _ _ _ _ => pv 2)) pa_nil)) pe_int (nomark _)))))) pss_nil)
      pss_never, ?_⟩
    refine ⟨_, rfl, _, _, _, _, true, rfl, .ty _, ty_L hb, kit_ty ki_list_list, true, rfl, iteT ?_⟩
    refine ⟨_, rfl, _, _, _, _, true, rfl, .ty _, ty_L ha, kit_ty ki_list_list, _, rfl, _, _, _, _, true, rfl, .ty _, ty_L hb, kit_ty ki_list_list, rfl, false, rfl, iteF ?_⟩
    refine ⟨_, rfl, _, _, _, _, false, rfl, .ty _, ty_L ha, kit_ty ki_list_tuple, _, rfl, _, _, _, _, false, rfl, .ty _, ty_L hb, kit_ty ki_list_tuple, rfl, false, rfl, iteF ?_⟩
    refine ⟨_, rfl, _, _, rfl, .inl ⟨_, ha, rfl⟩, _, rfl, _, _, rfl, .inl ⟨_, hb, rfl⟩, rfl, false, ?_, iteF ?_⟩
    · rw [decide_eq_true rfl]; rfl
    refine ⟨_, rfl, _, _, rfl, .inl ⟨_, hb, rfl⟩, _, rfl, by omega, by rw [List.length_map]; omega, fun D hD => lc_range (lo := 0) (n := ((l.map V.str).length : Int).toNat) (fun i H' => Same H H' ∧ H' D = some (.lst [])) ⟨same_new hD, upd_same⟩ ?_ ?_⟩
    · rintro i H1 hi ⟨s1, h1⟩
      rw [Int.zero_add]
      have hil : i < l.length := by rw [List.length_map] at hi; omega
      have hg : (l.map V.str)[i]? = some (.str l[i]) := by rw [List.getElem?_map, List.getElem?_eq_getElem hil]; rfl
      refine ⟨rfl, ?_⟩
      exact ⟨_, rfl, _, rfl, a, _, i, _, rfl, rfl, s1.seq ha, atI_nat hg, _, rfl, _, rfl, b, _, i, _, rfl, rfl, s1.seq hb, atI_nat hg, l[i], rfl, true, rfl, s1, h1⟩
    · rintro H1 ⟨s1, h1⟩
      refine ⟨_, 0, rfl, .inl ⟨_, SqL.of h1, rfl⟩, rfl, ?_⟩
      exact q _ s1
end
end Tw
/-! ## Tw21: the law's own lines -/
namespace Tw
open PySem L2 TL
theorem cell_at {K : PySem.W.Frag} {H : Hp} {r : V} {m : Meth} {states : Int} {i j : Nat} (h : Dp K H r (rowsD false m.rows)) (hm : MethOk states m) (hi : (i : Int) < states) (hj : (j : Int) < m.args) :
    ∃ a xs b ys v, r = .ref a ∧ SqT K H a xs ∧ xs[i]? = some (.ref b) ∧ SqT K H b ys ∧ ys[j]? = some v ∧ Dp K H v (cellD false (cellAt m i j)) := by
  obtain ⟨a, xs, rfl, hxs, hds⟩ := Dp.sq_inv h
  have hl := hm.len
  have hil : i < m.rows.length := by omega
  obtain ⟨u, hu1, hu2⟩ := DpAll.getD hds (i := i) (d := rowD false m.rows[i]) (by rw [List.getElem?_map, List.getElem?_eq_getElem hil]; rfl)
  obtain ⟨b, ys, rfl, hys, hes⟩ := Dp.sq_inv hu2
  have hrl := (hm.rows m.rows[i] (List.getElem_mem hil)).len
  have hjl : j < (m.rows[i]).length := by omega
  obtain ⟨u2, hv1, hv2⟩ := DpAll.getD hes (i := j) (d := cellD false (m.rows[i])[j]) (by rw [List.getElem?_map, List.getElem?_eq_getElem hjl]; rfl)
  refine ⟨a, xs, b, ys, u2, rfl, hxs, hu1, hys, hv1, ?_⟩
  have e : cellAt m i j = (m.rows[i])[j] := by
    unfold cellAt
    rw [List.getD_eq_getElem?_getD, List.getD_eq_getElem?_getD, List.getElem?_eq_getElem hil]
    show ((m.rows[i])[j]?).getD [] = _
    rw [List.getElem?_eq_getElem hjl]; rfl
  rw [e]; exact hv2
section
variable {P : Program} {w : World} {K : PySem.W.Frag} {mg : Str → Option Value} {base : Heap}
def spKLines (K : PySem.W.Frag) : Sp := fun vs H Q _ => ∃ (l : Addr) (kd : Kd), vs = [.ref l] ∧ RawAt K H l kd ∧ KdOk kd ∧ ∀ H' p ms', Same H H' → SortOf kd.meths ms' → H' p = some (.lst ((kindLines ⟨kd.states, kd.start, ms'⟩).map V.str)) → Q (.ref p) H'
theorem ok_law_kind_lines (T : Tx K mg) : FnOk P w K mg base CX0 1 T._law_kind_lines.f T._law_kind_lines.d ["_law_raw"] (spKLines K) := by
  refine T._law_kind_lines.F.ok sc__law_kind_lines (fun vs H Q E h => ?_) (fun cdv A outer s H vs Q E hr h => ?_)
  · obtain ⟨l, kd, rfl, _⟩ := h; rfl
  · obtain ⟨a, kd, rfl, ⟨d, ea, kvs, ed, hms⟩, hk, q⟩ := h
    have nd := sc__law_kind_lines.nd
    have hu := hu_of hr
    have hs : 0 ≤ kd.states ∧ kd.states < 10 := ⟨by have := hk.s1; omega, by have := hk.s8; omega⟩
    have ht : 0 ≤ kd.start ∧ kd.start < 10 := ⟨hk.t0, by have := hk.t1; omega⟩
    have ek : (Str.ofString "kind ").length = 5 := by decide +kernel
    have em : (Str.ofString "method ").length = 7 := by decide +kernel
    have es : (Str.ofString " ").length = 1 := by decide +kernel
    have esl : (Str.ofString "/").length = 1 := by decide +kernel
    refine ⟨_, pss_cons (ps_set (i := 1) nd rfl (Or.inl rfl) (pe_lst (pa_cons (pe_op op_add_str (pe_op op_add_str (pe_op op_add_str pe_str (pe_callTy call_str_int (by rfl) T.z_str bt_str (pa_cons (pe_ix ix_list (pv 0) pe_int (fun _ _ => rfl)) pa_nil))) pe_str)
          (pe_callTy call_str_int (by rfl) T.z_str bt_str (pa_cons (pe_ix ix_list (pv 0) pe_int (fun _ _ => rfl)) pa_nil))) pa_nil)))
      (pss_cons (ps_for PassesOwn.never rfl (pi_list (pe_callB (call_sortedD rfl) (by rfl) T.z_sorted bt_sorted (pa_cons (pe_ix ix_list (pv 0) pe_int (fun _ _ => rfl)) pa_nil))) (pg_name (i := 2) nd rfl (Or.inl rfl))
        (pss_cons (ps_set (i := 3) nd rfl (Or.inl rfl) (pe_dget hu (pe_ix ix_list (pv 0) pe_int (fun _ _ => rfl)) (pv 2) (fun _ _ => rfl)))
        (pss_cons (ps_expr (pe_bm PySem.F.plainAttrs_list PySem.F.slot_list_append PySem.F.type_list_append mt_append (pv 1) (pa_cons (pe_op op_add_str (pe_op op_add_str (pe_op op_add_str (pe_op op_add_str (pe_op op_add_str pe_str (pv 2)) pe_str)
            (pe_callTy call_str_int (by rfl) T.z_str bt_str (pa_cons (pe_ix ix_tup (pv 3) pe_int (fun _ _ => rfl)) pa_nil))) pe_str) (pe_callTy call_str_int (by rfl) T.z_str bt_str (pa_cons (pe_ix ix_tup (pv 3) pe_int (fun _ _ => rfl)) pa_nil))) pa_nil)))
        (pss_one (ps_for PassesOwn.never rfl (pi_range1 (by rfl) T.z_range (pa_cons (pe_ix ix_list (pv 0) pe_int (fun _ _ => rfl)) pa_nil)) (pg_name (i := 4) nd rfl (Or.inl rfl))
          (pss_one (ps_for PassesOwn.never rfl (pi_range1 (by rfl) T.z_range (pa_cons (pe_ix ix_tup (pv 3) pe_int (fun _ _ => rfl)) pa_nil)) (pg_name (i := 5) nd rfl (Or.inl rfl))
            (pss_cons (ps_set (i := 6) nd rfl (Or.inl rfl) (pe_lst (pa_cons (pe_callTy call_str_int (by rfl) T.z_str bt_str (pa_cons (pv 4) pa_nil)) (pa_cons (pe_callTy call_str_int (by rfl) T.z_str bt_str (pa_cons (pv 5) pa_nil)) pa_nil))))
            (pss_cons (ps_for PassesOwn.never rfl (pi_tup (pe_ix ix_tup (pe_ix ix_tup (pe_ix ix_tup (pv 3) pe_int (fun _ _ => rfl)) (pv 4) (fun _ _ => rfl)) (pv 5) (fun _ _ => rfl))) (pg_name (i := 7) nd rfl (Or.inl rfl))
              (pss_one (ps_expr (pe_bm PySem.F.plainAttrs_list PySem.F.slot_list_append PySem.F.type_list_append mt_append (pv 6) (pa_cons (pe_op op_add_str (pe_op op_add_str (pe_callTy call_str_int (by rfl) T.z_str bt_str (pa_cons (pe_ix ix_tup (pv 7) pe_int (fun _ _ => rfl)) pa_nil)) pe_str)
                (pe_callTy call_str_int (by rfl) T.z_str bt_str (pa_cons (pe_ix ix_tup (pv 7) pe_int (fun _ _ => rfl)) pa_nil))) pa_nil)))))
            (pss_one (ps_expr (pe_bm PySem.F.plainAttrs_list PySem.F.slot_list_append PySem.F.type_list_append mt_append (pv 1) (pa_cons (pe_join pe_str (pv 6)) pa_nil)))))))))))))
      (pss_one (ps_ret (pv 1)))), ?_⟩
    -- _law_lines = ['kind ' + str(_law_raw[0]) + ' ' + str(_law_raw[1])]
    refine ⟨_, rfl, a, _, 0, _, rfl, rfl, SqL.of ea, rfl, kd.states, rfl, log_small hs.1 hs.2, _, _, rfl, rfl, ?_, _, _, rfl, rfl, ?_, ?_⟩
    · show (Str.ofString "kind ").length + (dg kd.states).length ≤ _
      rw [ek, len_dg hs.1 hs.2]; decide
    · show (Str.ofString "kind " ++ dg kd.states).length + (Str.ofString " ").length ≤ _
      rw [len_app, ek, es, len_dg hs.1 hs.2]; decide
    refine ⟨_, rfl, a, _, 1, _, rfl, rfl, SqL.of ea, rfl, kd.start, rfl, log_small ht.1 ht.2, _, _, rfl, rfl, ?_, by show 1 ≤ sizeLine; decide, fun l hl => ?_⟩
    · show (Str.ofString "kind " ++ dg kd.states ++ Str.ofString " ").length + (dg kd.start).length ≤ _
      rw [len_app, len_app, ek, es, len_dg hs.1 hs.2, len_dg ht.1 ht.2]; decide
    have h1 : (upd H l (.lst [.str (Str.ofString "kind " ++ Str.ofString (toString kd.states) ++ Str.ofString " " ++ Str.ofString (toString kd.start))])) l = some (.lst ([headT kd.states kd.start].map V.str)) := by rw [upd_same]; rfl
    have s1 : Same H (upd H l (.lst [.str (Str.ofString "kind " ++ Str.ofString (toString kd.states) ++ Str.ofString " " ++ Str.ofString (toString kd.start))])) := same_new hl
    generalize upd H l (.lst [.str (Str.ofString "kind " ++ Str.ofString (toString kd.states) ++ Str.ofString " " ++ Str.ofString (toString kd.start))]) = H1 at h1 s1 ⊢
    -- for _law_name in sorted(_law_raw[2])
    refine ⟨_, rfl, a, _, 2, _, rfl, rfl, SqL.of (s1 _ _ ea), rfl, d, kvs, kd.meths.map (·.1), rfl, .inl (s1 _ _ ed), hms.keys, by rw [List.length_map]; have := hk.m4; omega, fun ys l2 hperm hsort hl2 => ?_⟩
    have s2 : Same H1 (upd H1 l2 (.lst (ys.map V.str))) := same_new hl2
    have h2 : (upd H1 l2 (.lst (ys.map V.str))) l2 = some (.lst (ys.map V.str)) := upd_same
    generalize upd H1 l2 (.lst (ys.map V.str)) = H2 at s2 h2 ⊢
    have hl2n : l2 ≠ l := fun e => by rw [e, h1] at hl2; cases hl2
    have s12 := s1.trans s2
    obtain ⟨ms', ems⟩ : ∃ ms', ms' = ys.map fun y => (y, mOf kd.meths y) := ⟨_, rfl⟩
    have hso : SortOf kd.meths ms' := by
      rw [ems]
      refine ⟨?_, ?_⟩
      · have := hperm.map fun y => (y, mOf kd.meths y)
        rw [map_mOf hk.nd] at this
        exact this
      · rw [List.map_map]
        have : (ys.map ((fun p : Str × Meth => p.1) ∘ fun y => (y, mOf kd.meths y))) = ys := by
          rw [show ((fun p : Str × Meth => p.1) ∘ fun y => (y, mOf kd.meths y)) = id from rfl, List.map_id]
        rw [this]; exact hsort
    have hy1 : ms'.map (·.1) = ys := by rw [ems, List.map_map]; exact List.map_id ys
    have hys : ys.map V.str = (ms'.map (·.1)).map V.str := by rw [hy1]
    rw [hys] at h2
    have hk' : KdOk ⟨kd.states, kd.start, ms'⟩ := hk.perm hso.1
    refine ⟨l2, rfl, ⟨_, SqL.of h2⟩, for_list (K := K) (a := l2) (xs := (ms'.map (·.1)).map V.str) (fun n σ H' => ∃ y2 y3 y4 y5 y6 y7, σ = [some (.ref a), some (.ref l), y2, y3, y4, y5, y6, y7] ∧ Same H H' ∧ H' l2 = some (.lst ((ms'.map (·.1)).map V.str)) ∧
        H' l = some (.lst ((headT kd.states kd.start :: (ms'.take n).flatMap (methLines kd.states)).map V.str)))
      ⟨none, none, none, none, none, none, rfl, s12, h2, s2 _ _ h1⟩ (fun n σ H' _ ⟨_, _, _, _, _, _, _, _, h3, _⟩ => SqL.of h3) ?_ ?_⟩
    · rintro n x σ H3 hn ⟨y2, y3, y4, y5, y6, y7, rfl, s3, h3, h4⟩
      obtain ⟨pm, hpm, rfl⟩ : ∃ pm, ms'[n]? = some pm ∧ x = .str pm.1 := by
        rw [List.map_map, List.getElem?_map] at hn
        cases e : ms'[n]? with
        | none => rw [e] at hn; cases hn
        | some y => rw [e] at hn; exact ⟨y, rfl, (Option.some.inj hn).symm⟩
      have hmem := mem_of_get hpm
      obtain ⟨hname, hm⟩ := hk'.ok pm hmem
      have hg : getM kd.meths pm.1 = some pm.2 := getM_mem hk.nd (hso.1.mem_iff.mp hmem)
      have ha : 0 ≤ pm.2.args ∧ pm.2.args < 10 := ⟨by have := hm.a1; omega, by have := hm.a4; omega⟩
      have hre : 0 ≤ pm.2.res ∧ pm.2.res < 10 := ⟨by have := hm.r1; omega, by have := hm.r4; omega⟩
      have hlm := len_meth (m := pm.2) hname ha hre
      have hn8 := hname.2.1
      have hnl : n < ms'.length := (List.getElem?_eq_some_iff.mp hpm).1
      have hm4 : ms'.length ≤ 4 := hk'.m4
      obtain ⟨L0, hL0⟩ : ∃ L0, L0 = headT kd.states kd.start :: (ms'.take n).flatMap (methLines kd.states) := ⟨_, rfl⟩
      rw [← hL0] at h4
      have hL0len : L0.length ≤ 133 := by
        have h := flat_len (l := ms'.take n) (f := methLines kd.states) (n := 33) fun p hp => methLines_len hk.s8 (hk'.ok p (List.mem_of_mem_take hp)).2
        rw [List.length_take] at h
        rw [hL0, List.length_cons]
        omega
      -- _law_method = _law_raw[2][_law_name]
      rcases MsAt.val (x := pm.1) (hms.same s3) with ⟨e1, _⟩ | ⟨m, v, e1, e2, dv⟩
      · rw [hg] at e1; cases e1
      rw [hg] at e1
      have e1 := Option.some.inj e1
      subst e1
      obtain ⟨t, r, rfl, htq, hrows⟩ := meth_inv dv
      refine ⟨_, rfl, a, _, 2, _, rfl, rfl, SqL.of (s3 _ _ ea), rfl, _, rfl, d, _, rfl, by rw [← e2]; exact DGet.k (k := Sum.inr pm.1) (s3 _ _ ed), ?_⟩
      -- _law_lines.append('method ' + ..)
      refine ⟨_, rfl, .inl ⟨rfl, _, SqL.of h4⟩, ?_⟩
      refine ⟨_, rfl, _, _, rfl, rfl, ?_, _, _, rfl, rfl, ?_, _, rfl, t, _, 0, _, rfl, rfl, htq, rfl, pm.2.args, rfl, log_small ha.1 ha.2, _, _, rfl, rfl, ?_, _, _, rfl, rfl, ?_, _, rfl, t, _, 1, _, rfl, rfl, htq, rfl, pm.2.res, rfl, log_small hre.1 hre.2, _, _, rfl, rfl, ?_, ?_⟩
      · rw [em, sizeLine_eq]; omega
      · rw [len_app, em, es, sizeLine_eq]; omega
      · show _ + (dg pm.2.args).length ≤ _
        rw [len_app, len_app, em, es, len_dg ha.1 ha.2, sizeLine_eq]; omega
      · show (_ ++ dg pm.2.args).length + _ ≤ _
        rw [len_app, len_app, len_app, em, es, len_dg ha.1 ha.2, sizeLine_eq]; omega
      · show (_ ++ dg pm.2.args ++ _).length + (dg pm.2.res).length ≤ _
        rw [len_app, len_app, len_app, len_app, em, es, len_dg ha.1 ha.2, len_dg hre.1 hre.2, sizeLine_eq]; omega
      refine ⟨l, _, _, rfl, rfl, h4, ?_, ?_⟩
      · rw [List.length_map, sizeLine_eq]; omega
      have s4 : Same H (upd H3 l (.lst (L0.map V.str ++ [.str (methT pm.1 pm.2)]))) := same_at s3 hl
      have h5 : (upd H3 l (.lst (L0.map V.str ++ [.str (methT pm.1 pm.2)]))) l = some (.lst ((L0 ++ [methT pm.1 pm.2]).map V.str)) := by
        rw [upd_same, List.map_append]; rfl
      have h6 : (upd H3 l (.lst (L0.map V.str ++ [.str (methT pm.1 pm.2)]))) l2 = some (.lst ((ms'.map (·.1)).map V.str)) := by
        rw [upd_ne hl2n]; exact h3
      dsimp only
      show tFor _ _ _ _ _ (upd H3 l (.lst (L0.map V.str ++ [.str (methT pm.1 pm.2)])))
      have htq4 : SqT K (upd H3 l (.lst (L0.map V.str ++ [.str (methT pm.1 pm.2)]))) t [.int pm.2.args, .int pm.2.res, r] := SqT.but (o := .lst (L0.map V.str)) But.at_ h4 trivial htq
      have hrows4 : Dp K (upd H3 l (.lst (L0.map V.str ++ [.str (methT pm.1 pm.2)]))) r (rowsD false pm.2.rows) := Dp.but (o := .lst (L0.map V.str)) But.at_ h4 trivial _ _ (noList_rows _) hrows
      generalize upd H3 l (.lst (L0.map V.str ++ [.str (methT pm.1 pm.2)])) = H4 at s4 h5 h6 htq4 hrows4 ⊢
      -- for _law_state in range(_law_raw[0])
      refine ⟨_, rfl, a, _, 0, _, rfl, rfl, SqL.of (s4 _ _ ea), rfl, kd.states, rfl, by omega, by omega, for_range (lo := 0) (n := kd.states.toNat) (fun i σ H' => ∃ y4 y5 y6 y7, σ = [some (.ref a), some (.ref l), some (.str pm.1), some (.ref t), y4, y5, y6, y7] ∧ Same H H' ∧ But l H4 H' ∧
          H' l2 = some (.lst ((ms'.map (·.1)).map V.str)) ∧ H' l = some (.lst (((L0 ++ [methT pm.1 pm.2]) ++ (List.range i).flatMap (stateLines pm.2 pm.2.args.toNat)).map V.str)))
        ⟨_, _, _, _, rfl, s4, But.refl _ _, h6, by
          rw [show (List.range 0).flatMap (stateLines pm.2 pm.2.args.toNat) = [] from rfl, List.append_nil]
          exact h5⟩ ?_ ?_⟩
      · rintro i σ H5 hi ⟨y4, y5, y6, y7, rfl, s5, b5, g2, g1⟩
        rw [Int.zero_add]
        have hsl : ((List.range i).flatMap (stateLines pm.2 pm.2.args.toNat)).length ≤ 32 := by
          have h := flat_len (l := List.range i) (f := stateLines pm.2 pm.2.args.toNat) (n := 4) fun x _ => by rw [stateLines_len]; have := hm.a4; omega
          rw [List.length_range] at h; omega
        -- for _law_place in range(_law_method[0])
        refine ⟨_, rfl, t, _, 0, _, rfl, rfl, SqT.but b5 h5 trivial htq4, rfl, pm.2.args, rfl, by omega, by omega, for_range (lo := 0) (n := pm.2.args.toNat) (fun j σ H' => ∃ y5 y6 y7, σ = [some (.ref a), some (.ref l), some (.str pm.1), some (.ref t), some (.int i), y5, y6, y7] ∧ Same H H' ∧ But l H4 H' ∧
            H' l2 = some (.lst ((ms'.map (·.1)).map V.str)) ∧ H' l = some (.lst ((((L0 ++ [methT pm.1 pm.2]) ++ (List.range i).flatMap (stateLines pm.2 pm.2.args.toNat)) ++ stateLines pm.2 j i).map V.str)))
          ⟨_, _, _, rfl, s5, b5, g2, by
            have e : stateLines pm.2 0 i = [] := rfl
            rw [e, List.append_nil]; exact g1⟩ ?_ ?_⟩
        · rintro j σ H6 hj ⟨y5, y6, y7, rfl, s6, b6, k2, k1⟩
          rw [Int.zero_add]
          have hi' : (i : Int) < kd.states := by omega
          have hj' : (j : Int) < pm.2.args := by omega
          have hi10 : 0 ≤ (i : Int) ∧ (i : Int) < 10 := ⟨by omega, by omega⟩
          have hj10 : 0 ≤ (j : Int) ∧ (j : Int) < 10 := ⟨by omega, by omega⟩
          have hc := cellAt_ok hm hi' hj'
          have hr10 : pm.2.res ≤ 10 := by omega
          have hs10 : kd.states ≤ 10 := by omega
          -- _law_words = [str(_law_state), str(_law_place)]
          refine ⟨_, rfl, i, rfl, log_small hi10.1 hi10.2, _, rfl, j, rfl, log_small hj10.1 hj10.2, by show 2 ≤ sizeLine; decide, fun lw hlw => ?_⟩
          have s7 : Same H6 (upd H6 lw (.lst [.str (dg i), .str (dg j)])) := same_new hlw
          have h7 : (upd H6 lw (.lst [.str (dg i), .str (dg j)])) lw = some (.lst ((dg i :: dg j :: ((cellAt pm.2 i j).take 0).map ansT).map V.str)) := upd_same
          show tSeq _ _ _ _ (upd H6 lw (.lst [.str (dg i), .str (dg j)]))
          generalize upd H6 lw (.lst [.str (dg i), .str (dg j)]) = H7 at s7 h7 ⊢
          have hlwl : lw ≠ l := fun e => by rw [e, k1] at hlw; cases hlw
          have hlwl2 : lw ≠ l2 := fun e => by rw [e, k2] at hlw; cases hlw
          have hHlw : H lw = none := s6.free hlw
          have b7 := b6.trans (But.of_same s7)
          obtain ⟨ta, xs, tb, zs, v, erow, hxs, hxi, hzs, hzj, dcell⟩ := cell_at (Dp.but b7 h5 trivial _ _ (noList_rows _) hrows4) hm hi' hj'
          obtain ⟨tc, cs, rfl, hcs, hcds⟩ := Dp.sq_inv dcell
          have hcs : SqT K H7 tc cs := hcs
          have hclen : cs.length = (cellAt pm.2 i j).length := by rw [DpAll.length hcds, List.length_map]
          -- for _law_answer in _law_method[2][_law_state][_law_place]
          refine ⟨_, rfl, t, _, 2, _, rfl, rfl, SqT.but b7 h5 trivial htq4, rfl, _, rfl, ta, xs, i, _, erow, rfl, hxs, atI_nat hxi, _, rfl, tb, zs, j, _, rfl, rfl, hzs, atI_nat hzj, tc, rfl, ⟨_, hcs⟩,
            for_tup (K := K) (a := tc) (xs := cs) (fun n σ H' => ∃ y7, σ = [some (.ref a), some (.ref l), some (.str pm.1), some (.ref t), some (.int i), some (.int j), some (.ref lw), y7] ∧ But lw H7 H' ∧
              H' lw = some (.lst ((dg i :: dg j :: ((cellAt pm.2 i j).take n).map ansT).map V.str)))
            ⟨_, rfl, But.refl _ _, h7⟩ (fun n σ H' _ ⟨_, _, b8, _⟩ => SqT.but b8 h7 trivial hcs) ?_ ?_⟩
          · rintro n x σ H8 hn ⟨y7, rfl, b8, h8⟩
            obtain ⟨dd, hd1, hd2⟩ := DpAll.get hcds hn
            obtain ⟨b, hb, rfl⟩ := map_get hd1
            obtain ⟨tt, rfl, htt⟩ := an_inv hd2
            have hb10 := an10 (hc.an b (mem_of_get hb)) hr10 hs10
            obtain ⟨b1, b2, b3, b4⟩ := id hb10
            have htt8 := SqT.but b8 h7 trivial htt
            refine ⟨_, rfl, .inl ⟨rfl, _, SqL.of h8⟩, ?_⟩
            refine ⟨_, rfl, tt, _, 0, _, rfl, rfl, htt8, rfl, b.1, rfl, log_small b1 b2, _, _, rfl, rfl, ?_, _, rfl, tt, _, 1, _, rfl, rfl, htt8, rfl, b.2, rfl, log_small b3 b4, _, _, rfl, rfl, ?_, ?_⟩
            · show (dg b.1).length + _ ≤ _
              rw [esl, len_dg b1 b2]; decide
            · show (dg b.1 ++ _).length + (dg b.2).length ≤ _
              rw [len_app, esl, len_dg b1 b2, len_dg b3 b4]; decide
            · refine ⟨lw, _, _, rfl, rfl, h8, ?_, _, rfl, b8.trans But.at_, ?_⟩
              · have := hc.few
                simp only [List.length_map, List.length_cons, List.length_take]
                rw [sizeLine_eq]; omega
              · rw [upd_same, List.take_add_one, hb, List.map_append]
                show _ = some (HO.lst ((dg i :: dg j :: (((cellAt pm.2 i j).take n).map ansT ++ [ansT b])).map V.str))
                simp only [List.map_cons, List.map_append, List.cons_append]
                rfl
          · rintro σ H8 ⟨y7, rfl, b8, h8⟩
            rw [hclen, List.take_length] at h8
            have k8 := b8 _ _ hlwl.symm (s7 _ _ k1)
            refine ⟨_, rfl, .inl ⟨rfl, _, SqL.of k8⟩, ?_⟩
            have hll := len_line hi10 hj10 hc hr10 hs10
            refine ⟨⟨_, rfl⟩, _, rfl, sp1, lw, dg i :: dg j :: (cellAt pm.2 i j).map ansT, rfl, rfl, .inl (SqL.of h8), by omega, ?_⟩
            refine ⟨l, _, _, rfl, rfl, k8, ?_, ?_⟩
            · rw [List.length_map, List.length_append, List.length_append, List.length_append, List.length_singleton, stateLines_len, sizeLine_eq]
              have := hm.a4
              omega
            · refine ⟨_, _, _, rfl, ?_, ?_, ?_, ?_⟩
              · refine same_at (H' := H8) (fun b o e => ?_) hl
                exact b8 b o (ne_of_none e hHlw) (s7 _ _ (s6 _ _ e))
              · intro b o n e
                rw [upd_ne n]
                have hb7 := b7 b o n e
                refine b8 b o (fun z => ?_) hb7
                have h6b := b6 b o n e
                rw [z, hlw] at h6b
                cases h6b
              · rw [upd_ne hl2n]
                exact b8 _ _ hlwl2.symm (s7 _ _ k2)
              · rw [upd_same, state_succ, ← List.append_assoc, List.map_append (l₂ := [lineT _ _ _])]
                rfl
        · rintro σ H6 ⟨y5, y6, y7, rfl, s6, b6, k2, k1⟩
          refine ⟨_, _, _, _, rfl, s6, b6, k2, ?_⟩
          rw [k1, flat_range, ← List.append_assoc]
      · rintro σ H5 ⟨y4, y5, y6, y7, rfl, s5, b5, g2, g1⟩
        refine ⟨_, _, _, _, _, _, rfl, s5, g2, ?_⟩
        have e : (L0 ++ [methT pm.1 pm.2]) ++ (List.range kd.states.toNat).flatMap (stateLines pm.2 pm.2.args.toNat) = headT kd.states kd.start :: (ms'.take (n + 1)).flatMap (methLines kd.states) := by
          rw [flat_take hpm, hL0, List.append_assoc]
          rfl
        rw [g1, e]
    · rintro σ H3 ⟨y2, y3, y4, y5, y6, y7, rfl, s3, h3, h4⟩
      rw [List.length_map, List.length_map, List.take_length] at h4
      exact ⟨_, rfl, q _ l ms' s3 hso h4⟩
end
end Tw
/-! ## Tw22: plain law: a text tells its kind, == tells the same -/
namespace Tw
open PySem L2 TL
theorem dg_inj {i j : Int} (hi : 0 ≤ i ∧ i < 10) (hj : 0 ≤ j ∧ j < 10) (h : dg i = dg j) : i = j := by
  have := congrArg tl h
  rw [tl_dg hi.1 hi.2, tl_dg hj.1 hj.2] at this
  have := (List.cons.inj this).1
  omega
theorem head_inj {s t s' t' : Int} (hs : 0 ≤ s ∧ s < 10) (ht : 0 ≤ t ∧ t < 10) (hs' : 0 ≤ s' ∧ s' < 10) (ht' : 0 ≤ t' ∧ t' < 10) (h : headT s t = headT s' t') : s = s' ∧ t = t' := by
  have e := split_head hs ht
  rw [h, split_head hs' ht'] at e
  have e1 := (List.cons.inj e).2
  obtain ⟨e2, e3⟩ := List.cons.inj e1
  exact ⟨(dg_inj hs' hs e2).symm, (dg_inj ht' ht (List.cons.inj e3).1).symm⟩
theorem meth_inj {x x' : Str} {m m' : Meth} (hx : NameOk x) (hx' : NameOk x') (ha : 0 ≤ m.args ∧ m.args < 10) (hr : 0 ≤ m.res ∧ m.res < 10) (ha' : 0 ≤ m'.args ∧ m'.args < 10) (hr' : 0 ≤ m'.res ∧ m'.res < 10) (h : methT x m = methT x' m') :
    x = x' ∧ m.args = m'.args ∧ m.res = m'.res := by
  have e := split_meth hx ha hr
  rw [h, split_meth hx' ha' hr'] at e
  obtain ⟨e2, e⟩ := List.cons.inj (List.cons.inj e).2
  obtain ⟨e3, e⟩ := List.cons.inj e
  exact ⟨e2.symm, (dg_inj ha' ha e3).symm, (dg_inj hr' hr (List.cons.inj e).1).symm⟩
theorem ans_inj {a b : An} (ha : AnOk 10 10 a) (hb : AnOk 10 10 b) (h : ansT a = ansT b) : a = b := by
  have e := split_ans ha
  rw [h, split_ans hb] at e
  obtain ⟨a1, a2, a3, a4⟩ := ha
  obtain ⟨b1, b2, b3, b4⟩ := hb
  obtain ⟨e1, e⟩ := List.cons.inj e
  exact Prod.ext (dg_inj ⟨b1, b2⟩ ⟨a1, a2⟩ e1).symm (dg_inj ⟨b3, b4⟩ ⟨a3, a4⟩ (List.cons.inj e).1).symm
theorem map_inj_on {α β : Type} {f : α → β} : ∀ {l m : List α}, (∀ a ∈ l, ∀ b ∈ m, f a = f b → a = b) → l.map f = m.map f → l = m
  | [], [], _, _ => rfl
  | [], _ :: _, _, h => by cases h
  | _ :: _, [], _, h => by cases h
  | a :: l, b :: m, hf, h => by
    simp only [List.map_cons] at h
    obtain ⟨h1, h2⟩ := List.cons.inj h
    rw [hf a List.mem_cons_self b List.mem_cons_self h1, map_inj_on (fun x hx y hy => hf x (List.mem_cons_of_mem _ hx) y (List.mem_cons_of_mem _ hy)) h2]
theorem line_inj {i j res states : Int} {c c' : Cell} (hi : 0 ≤ i ∧ i < 10) (hj : 0 ≤ j ∧ j < 10) (hc : CellOk res states c) (hc' : CellOk res states c') (hr : res ≤ 10) (hs : states ≤ 10) (h : lineT i j c = lineT i j c') : c = c' := by
  have e := split_line hi hj hc hr hs
  rw [h, split_line hi hj hc' hr hs] at e
  have e := (List.cons.inj (List.cons.inj e).2).2
  exact (map_inj_on (fun a ha b hb => ans_inj (an10 (hc'.an a ha) hr hs) (an10 (hc.an b hb) hr hs)) e).symm
theorem map_range_inj {β : Type} {f g : Nat → β} : ∀ {n : Nat}, (List.range n).map f = (List.range n).map g → ∀ i, i < n → f i = g i
  | n, h, i, hi => by
    have := congrArg (fun l : List β => l[i]?) h
    simp only [List.getElem?_map, List.getElem?_range hi] at this
    exact Option.some.inj this
theorem flat_range_len {f : Nat → List Str} {k : Nat} (hf : ∀ i, (f i).length = k) : ∀ n : Nat, ((List.range n).flatMap f).length = n * k
  | 0 => by simp
  | n + 1 => by rw [flat_range, List.length_append, flat_range_len hf n, hf, Nat.succ_mul]
theorem flat_range_inj {f g : Nat → List Str} {k : Nat} (hf : ∀ i, (f i).length = k) (hg : ∀ i, (g i).length = k) : ∀ {n : Nat}, (List.range n).flatMap f = (List.range n).flatMap g → ∀ i, i < n → f i = g i
  | 0, _, i, hi => absurd hi (Nat.not_lt_zero _)
  | n + 1, h, i, hi => by
    rw [flat_range, flat_range] at h
    obtain ⟨h1, h2⟩ := List.append_inj h (by rw [flat_range_len hf, flat_range_len hg])
    by_cases e : i = n
    · rw [e]; exact h2
    · exact flat_range_inj hf hg h1 i (by omega)
theorem rows_ext {states : Int} {m m' : Meth} (hm : MethOk states m) (hm' : MethOk states m') (ha : m.args = m'.args) (h : ∀ i j : Nat, (i : Int) < states → (j : Int) < m.args → cellAt m i j = cellAt m' i j) : m.rows = m'.rows := by
  have l1 := hm.len
  have l2 := hm'.len
  refine List.ext_getElem (by omega) fun i h1 h2 => ?_
  have r1 := (hm.rows m.rows[i] (List.getElem_mem h1)).len
  have r2 := (hm'.rows m'.rows[i] (List.getElem_mem h2)).len
  refine List.ext_getElem (by omega) fun j h3 h4 => ?_
  have e := h i j (by omega) (by omega)
  have a1 : cellAt m i j = (m.rows[i])[j] := by
    unfold cellAt
    rw [List.getD_eq_getElem?_getD, List.getD_eq_getElem?_getD, List.getElem?_eq_getElem h1]
    show ((m.rows[i])[j]?).getD [] = _
    rw [List.getElem?_eq_getElem h3]; rfl
  have a2 : cellAt m' i j = (m'.rows[i])[j] := by
    unfold cellAt
    rw [List.getD_eq_getElem?_getD, List.getD_eq_getElem?_getD, List.getElem?_eq_getElem h2]
    show ((m'.rows[i])[j]?).getD [] = _
    rw [List.getElem?_eq_getElem h4]; rfl
  rw [← a1, ← a2]; exact e
theorem methLines_len_eq (states : Int) (p : Str × Meth) : (methLines states p).length = states.toNat * p.2.args.toNat + 1 := by
  show (_ :: _).length = _
  rw [List.length_cons, flat_range_len (k := p.2.args.toNat) fun i => stateLines_len _ _ _]
theorem meths_inj {states : Int} (h1 : 1 ≤ states) (h8 : states ≤ 8) : ∀ {ms ms' : List (Str × Meth)}, (∀ p ∈ ms, NameOk p.1 ∧ MethOk states p.2) → (∀ p ∈ ms', NameOk p.1 ∧ MethOk states p.2) → ms.flatMap (methLines states) = ms'.flatMap (methLines states) → ms = ms'
  | [], [], _, _, _ => rfl
  | [], q :: ms', _, _, h => by
    rw [List.flatMap_cons, List.flatMap_nil] at h
    have := congrArg List.length h
    rw [List.length_append, methLines_len_eq, List.length_nil] at this
    omega
  | p :: ms, [], _, _, h => by
    rw [List.flatMap_cons, List.flatMap_nil] at h
    have := congrArg List.length h
    rw [List.length_append, methLines_len_eq, List.length_nil] at this
    omega
  | (x, m) :: ms, (x', m') :: ms', hp, hq, h => by
    obtain ⟨hx, hm⟩ : NameOk x ∧ MethOk states m := hp (x, m) List.mem_cons_self
    obtain ⟨hx', hm'⟩ : NameOk x' ∧ MethOk states m' := hq (x', m') List.mem_cons_self
    rw [List.flatMap_cons, List.flatMap_cons] at h
    have e1 : methT x m = methT x' m' := by
      have : methT x m :: _ = methT x' m' :: _ := h
      exact (List.cons.inj this).1
    obtain ⟨ex, ea, er⟩ := meth_inj hx hx' ⟨by have := hm.a1; omega, by have := hm.a4; omega⟩ ⟨by have := hm.r1; omega, by have := hm.r4; omega⟩ ⟨by have := hm'.a1; omega, by have := hm'.a4; omega⟩ ⟨by have := hm'.r1; omega, by have := hm'.r4; omega⟩ e1
    obtain ⟨h2, h3⟩ := List.append_inj h (by rw [methLines_len_eq, methLines_len_eq, ea])
    have ih := meths_inj h1 h8 (fun p h => hp p (List.mem_cons_of_mem _ h)) (fun p h => hq p (List.mem_cons_of_mem _ h)) h3
    have h4 : (List.range states.toNat).flatMap (stateLines m m.args.toNat) = (List.range states.toNat).flatMap (stateLines m' m'.args.toNat) := (List.cons.inj h2).2
    rw [← ea] at h4
    have er2 : m.rows = m'.rows := by
      refine rows_ext hm hm' ea fun i j hi hj => ?_
      have e2 := flat_range_inj (k := m.args.toNat) (fun i => stateLines_len _ _ _) (fun i => stateLines_len _ _ _) h4 i (by omega)
      have e3 := map_range_inj e2 j (by omega)
      have c2 := cellAt_ok hm' hi (by rw [← ea]; exact hj)
      rw [← er] at c2
      have a4 := hm.a4
      exact line_inj ⟨by omega, by omega⟩ ⟨by omega, by omega⟩ (cellAt_ok hm hi hj) c2 (by have := hm.r4; omega) (by omega) e3
    have em : m = m' := by
      obtain ⟨a, b, c⟩ := m
      obtain ⟨a', b', c'⟩ := m'
      simp only at ea er er2
      rw [ea, er, er2]
    rw [ex, em, ih]
theorem text_inj {k k' : Kd} (hk : KdOk k) (hk' : KdOk k') (h : kindText k = kindText k') : k = k' := by
  have e := split_text hk
  rw [h, split_text hk'] at e
  obtain ⟨e1, e2⟩ := List.cons.inj e
  obtain ⟨es, et⟩ := head_inj ⟨by have := hk'.s1; omega, by have := hk'.s8; omega⟩ ⟨hk'.t0, by have := hk'.t1; have := hk'.s8; omega⟩ ⟨by have := hk.s1; omega, by have := hk.s8; omega⟩ ⟨hk.t0, by have := hk.t1; have := hk.s8; omega⟩ e1
  rw [es] at e2
  have em := meths_inj hk.s1 hk.s8 (by rw [← es]; exact hk'.ok) hk.ok e2
  obtain ⟨a, b, c⟩ := k
  obtain ⟨a', b', c'⟩ := k'
  simp only at es et em
  rw [es, et, em]

/-! ### == -/
theorem perm_of {α : Type} [DecidableEq α] : ∀ {l m : List α}, l.Nodup → (∀ x ∈ l, x ∈ m) → m.length = l.length → l.Perm m
  | [], m, _, _, h => by
    have : m = [] := List.length_eq_zero_iff.mp h
    rw [this]
  | a :: l, m, hn, hs, h => by
    obtain ⟨h1, h2⟩ := List.nodup_cons.mp hn
    obtain ⟨m1, m2, rfl⟩ := List.append_of_mem (hs a List.mem_cons_self)
    have ih := perm_of (l := l) (m := m1 ++ m2) h2 (fun x hx => by
      have hx' := hs x (List.mem_cons_of_mem _ hx)
      rcases List.mem_append.mp hx' with h | h
      · exact List.mem_append_left _ h
      · rcases List.mem_cons.mp h with h | h
        · exact absurd (h ▸ hx) h1
        · exact List.mem_append_right _ h) (by
      simp only [List.length_append, List.length_cons] at h ⊢
      omega)
    exact (ih.cons a).trans List.perm_middle.symm
theorem getM_in {x : Str} {m : Meth} : ∀ {ms : List (Str × Meth)}, getM ms x = some m → (x, m) ∈ ms
  | [], h => by cases h
  | p :: ms, h => by
    rw [getM_cons] at h
    by_cases e : p.1 = x
    · rw [if_pos e] at h
      have := Option.some.inj h
      rw [← e, ← this]
      exact List.mem_cons_self
    · rw [if_neg e] at h
      exact List.mem_cons_of_mem _ (getM_in h)
theorem nodup_of_map {α β : Type} {f : α → β} : ∀ {l : List α}, (l.map f).Nodup → l.Nodup
  | [], _ => List.nodup_nil
  | a :: l, h => by
    have h : (f a :: l.map f).Nodup := h
    obtain ⟨h1, h2⟩ := List.nodup_cons.mp h
    exact List.nodup_cons.mpr ⟨fun hm => h1 (List.mem_map.mpr ⟨a, hm, rfl⟩), nodup_of_map h2⟩
theorem eqDs_perm {ms ns : List (Str × Meth)} (hm : (ms.map (·.1)).Nodup) (hn : (ns.map (·.1)).Nodup) : eqDs ms ns = true ↔ ms.Perm ns := by
  unfold eqDs
  rw [Bool.and_eq_true, List.all_eq_true]
  constructor
  · rintro ⟨h1, h2⟩
    have h1 : ms.length = ns.length := eq_of_beq h1
    refine perm_of (nodup_of_map hm) (fun p hp => ?_) h1.symm
    have h3 := h2 p hp
    rw [Bool.and_eq_true] at h3
    have h4 := of_decide_eq_true h3.2
    rw [getM_mem hm (show (p.1, p.2) ∈ ms from hp)] at h4
    exact getM_in h4.symm
  · intro h
    refine ⟨beq_iff_eq.mpr h.length_eq, fun p hp => ?_⟩
    have e1 := getM_mem hm (show (p.1, p.2) ∈ ms from hp)
    have e2 := getM_mem hn (show (p.1, p.2) ∈ ns from h.mem_iff.mp hp)
    rw [e1, e2]
    simp
theorem eqDs_up {ms ns : List (Str × Meth)} (hm : Up ms) (hn : Up ns) : eqDs ms ns = true ↔ ms = ns := by
  rw [eqDs_perm (up_nodup hm) (up_nodup hn)]
  constructor
  · intro h
    exact order_unique (fun (p q : Str × Meth) => ltS p.1 q.1) (fun _ => ltS_irrefl _) (fun _ _ _ => ltS_trans) h hm hn
  · rintro rfl
    exact .refl _
theorem eqKd_up {k k' : Kd} (hm : Up k.meths) (hn : Up k'.meths) : eqKd k k' = true ↔ k = k' := by
  unfold eqKd
  rw [Bool.and_eq_true, Bool.and_eq_true, decide_eq_true_eq, decide_eq_true_eq, eqDs_up hm hn]
  obtain ⟨a, b, c⟩ := k
  obtain ⟨a', b', c'⟩ := k'
  constructor
  · rintro ⟨rfl, rfl, rfl⟩; rfl
  · intro h
    injection h with h1 h2 h3
    exact ⟨h1, h2, h3⟩
/-- the raw kinds are == just where the kinds are -/
theorem eq_raw {k k' : Kd} {ms ms' : List (Str × Meth)} (hk : KdOk k) (hk' : KdOk k') (hs : SortOf k.meths ms) (hs' : SortOf k'.meths ms') :
    eqKd ⟨k'.states, k'.start, ms'⟩ ⟨k.states, k.start, ms⟩ = (decide (k.states = k'.states) && (decide (k.start = k'.start) && eqDs k.meths k'.meths)) := by
  have hu := up_of hk.nd hs
  have hu' := up_of hk'.nd hs'
  have e : eqDs ms' ms = eqDs k.meths k'.meths := by
    rw [Bool.eq_iff_iff, eqDs_perm (up_nodup hu') (up_nodup hu), eqDs_perm hk.nd hk'.nd]
    constructor
    · intro h; exact (hs.1.symm.trans h.symm).trans hs'.1
    · intro h; exact (hs'.1.trans h.symm).trans hs.1.symm
  unfold eqKd
  simp only [e]
  have e1 : decide (k'.states = k.states) = decide (k.states = k'.states) := by simp [eq_comm]
  have e2 : decide (k'.start = k.start) = decide (k.start = k'.start) := by simp [eq_comm]
  rw [e1, e2]
theorem eq_text {k k' : Kd} (hk : KdOk k) (hk' : KdOk k') (hu : Up k.meths) (hu' : Up k'.meths) : decide (kindText k = kindText k') = eqKd k k' := by
  rw [Bool.eq_iff_iff, decide_eq_true_eq, eqKd_up hu hu']
  exact ⟨text_inj hk hk', fun e => by rw [e]⟩
/-- names in order -/
theorem names_one {l m : List Str} (hn : m.Nodup) (hp : l.Perm m) (hs : PyProof.Rows.sortedS l = true) {n : List Str} (hp' : n.Perm m) (hs' : PyProof.Rows.sortedS n = true) : l = n :=
  order_unique ltS ltS_irrefl (fun _ _ _ => ltS_trans) (hp.trans hp'.symm) (sorted_of hs (hp.nodup_iff.mpr hn)) (sorted_of hs' (hp'.nodup_iff.mpr hn))
end Tw
/-! ## Tw23: the law -/
namespace Tw
open PySem L2 TL
theorem same_over {H H1 H2 : Hp} {b : Addr} (s : Same H H1) (hb : H b = none) (k : But b H1 H2) : Same H H2 := fun a o e => k a o (ne_of_none e hb) (s a o e)
section
variable {P : Program} {w : World} {K : PySem.W.Frag} {mg : Str → Option Value} {base : Heap}
def spLaw (K : PySem.W.Frag) : Sp := fun vs H Q _ => ∃ (a : Addr) (ns : List Int), vs = [.ref a] ∧ SqL K H a (ns.map V.int) ∧ ns.length ≤ 63 ∧ ∀ H', Q (.bl true) H'
theorem ok_law (T : Tx K mg) : FnOk P w K mg base CX0 9 T.law.f T.law.d ["_law_script"] (spLaw K) := by
  refine T.law.F.ok sc_law (fun vs H Q E h => ?_) (fun cdv A outer s H vs Q E hr h => ?_)
  · obtain ⟨a, ns, rfl, _⟩ := h; rfl
  · obtain ⟨a, ns, rfl, ha, hlen, q⟩ := h
    have nd := sc_law.nd
    refine ⟨_, pss_cons (ps_set (i := 1) nd rfl (Or.inl rfl) (pcall T._law_wide_kind (ok_law_wide T) hr (pa_cons (pcall T._law_bag (ok_law_bag T) hr (pa_cons (pv 0) (pa_cons pe_int pa_nil))) pa_nil)))
      (pss_cons (ps_set (i := 2) nd rfl (Or.inl rfl) (pcall T._law_wide_kind (ok_law_wide T) hr (pa_cons (pcall T._law_bag (ok_law_bag T) hr (pa_cons (pv 0) (pa_cons pe_int pa_nil))) pa_nil)))
      (pss_cons (ps_set (i := 3) nd rfl (Or.inl rfl) (pcall T._law_kind (ok_law_kind T) hr (pa_cons (pv 1) pa_nil)))
      (pss_cons (ps_set (i := 4) nd rfl (Or.inl rfl) (pcall T.kind_text (ok_kind_text T) hr (pa_cons (pv 3) pa_nil)))
      (pss_cons (ps_if (pt_not (pt_val (pcall T._law_alike (ok_alikeS T) hr (pa_cons (pv 4) (pa_cons (pe_join pe_str (pcall T._law_kind_lines (ok_law_kind_lines T) hr (pa_cons (pv 1) pa_nil))) pa_nil))))) pss_never pss_nil)
      (pss_cons (ps_set (i := 5) nd rfl (Or.inl rfl) (pcall T.read_kind (ok_read_kind T) hr (pa_cons (pv 4) pa_nil)))
      (pss_cons (ps_if (PW.pt (pw_or (pt_not (pt_cmpR (op_eqOwn (ok_Kind_eq T) (hr.mono (by decide)) T.Kind_eq.at_ T.Kind_eq.fn T.Kind_eq.b) (pv 5) (pv 3) (nomark _)))
          (pw_or (pt_not (pt_val (pcall T._law_alike (ok_alikeS T) hr (pa_cons (pcall T.kind_text (ok_kind_text T) hr (pa_cons (pv 5) pa_nil)) (pa_cons (pv 4) pa_nil)))))
          (pw_or1 (pt_not (pt_val (pcall T._law_alike (ok_alikeL T) hr (pa_cons (pe_meth0 (pv 5) T.clKind T.Kind_names.me (ok_Kind_names T) (hr.mono (by decide)) T.Kind_names.b .nil pass0)
            (pa_cons (pe_callB (call_sortedD rfl) (by rfl) T.z_sorted bt_sorted (pa_cons (pe_ix ix_list (pv 1) pe_int (fun _ _ => rfl)) pa_nil)) pa_nil))))))))) pss_never pss_nil)
      (pss_cons (ps_set (i := 6) nd rfl (Or.inl rfl) (pcall T._law_kind (ok_law_kind T) hr (pa_cons (pv 2) pa_nil)))
      (pss_one (ps_ret (pe_and (pe_cmpR op_eq (pe_cmpR op_eq (pcall T.kind_text (ok_kind_text T) hr (pa_cons (pv 6) pa_nil)) (pv 4) (nomark _)) (pe_cmpR (op_eqOwn (ok_Kind_eq T) (hr.mono (by decide)) T.Kind_eq.at_ T.Kind_eq.fn T.Kind_eq.b) (pv 6) (pv 3) (nomark _)) (nomark _))
        (pe_one (pe_cmpR op_eq (pe_cmpR (op_eqOwn (ok_Kind_eq T) (hr.mono (by decide)) T.Kind_eq.at_ T.Kind_eq.fn T.Kind_eq.b) (pcall T.read_kind (ok_read_kind T) hr (pa_cons (pcall T.kind_text (ok_kind_text T) hr (pa_cons (pv 6) pa_nil)) pa_nil)) (pv 3) (nomark _))
          (pe_cmpR (op_eqLID hr) (pv 1) (pv 2) (nomark _)) (nomark _)))))))))))))
      , ?_⟩
    -- _law_raw, _law_other
    refine ⟨_, rfl, a, ns, 0, rfl, ha, hlen, fun H1 b1 s1 hb1 hbag1 => ?_⟩
    refine ⟨b1, rfl, hbag1, fun H2 l1 d1 k1 u1 e1 hd1 hk1 hd1n => ?_⟩
    have s2 := same_over s1 hb1 u1
    refine ⟨_, rfl, a, ns, 1, rfl, s2.seq ha, hlen, fun H3 b2 s3 hb2 hbag2 => ?_⟩
    refine ⟨b2, rfl, hbag2, fun H4 l2 d2 k2 u2 e2 hd2 hk2 hd2n => ?_⟩
    have s24 := same_over s3 hb2 u2
    have hdne : d1 ≠ d2 := by
      obtain ⟨kvs, ek, _⟩ := hd1
      intro z
      have := s3 _ _ ek
      rw [z, hd2n] at this
      cases this
    have e1 := s24 _ _ e1
    have hd1 := hd1.same s24
    -- _law_kind_here = _law_kind(_law_raw)
    refine ⟨_, rfl, l1, k1, rfl, ⟨d1, e1, hd1⟩, hk1, fun H5 p1 ms1 s5 so1 hp1 => ?_⟩
    have hm1 : KdOk ⟨k1.states, k1.start, ms1⟩ := hk1.perm so1.1
    have up1 : Up ms1 := up_of hk1.nd so1
    -- _law_text = kind_text(_law_kind_here)
    refine ⟨_, rfl, p1, ⟨k1.states, k1.start, ms1⟩, rfl, hp1, hm1, fun H6 s6 => ?_⟩
    -- if not _law_alike(_law_text, '\n'.join(_law_kind_lines(_law_raw)))
    have s46 := s5.trans s6
    refine ⟨_, rfl, ⟨_, rfl⟩, _, rfl, l1, k1, rfl, ⟨d1, s46 _ _ e1, hd1.same s46⟩, hk1, fun H7 p7 ms7 s7 so7 e7 => ?_⟩
    have em7 : ms7 = ms1 := sort_one hk1.nd so7 so1
    subst em7
    refine ⟨nl1, p7, kindLines ⟨k1.states, k1.start, ms7⟩, rfl, rfl, .inl (SqL.of e7), text_fits hm1, ?_⟩
    refine ⟨kindText ⟨k1.states, k1.start, ms7⟩, rfl, true, rfl, iteF ?_⟩
    -- _law_again = read_kind(_law_text)
    have s47 := s46.trans s7
    refine ⟨_, rfl, ⟨k1.states, k1.start, ms7⟩, rfl, hm1, up1, fun H8 p8 s8 hp8 => ?_⟩
    have s48 := s47.trans s8
    have hp1 := hp1.same ((s6.trans s7).trans s8)
    -- if not _law_again == _law_kind_here or ..
    obtain ⟨dx8, d8, f8, _⟩ := id hp8
    obtain ⟨dx1, d1', f1, _⟩ := id hp1
    have ee : eqKd ⟨k1.states, k1.start, ms7⟩ ⟨k1.states, k1.start, ms7⟩ = true := (eqKd_up (k := ⟨k1.states, k1.start, ms7⟩) (k' := ⟨k1.states, k1.start, ms7⟩) up1 up1).mpr rfl
    refine ⟨_, rfl, _, rfl, p8, p1, _, _, _, _, rfl, rfl, f8, f1, p8, p1, _, _, rfl, hp8, hp1, up_nodup up1, ⟨_, rfl⟩, true, congrArg V.bl ee, iteF ?_⟩
    refine ⟨_, rfl, p8, ⟨k1.states, k1.start, ms7⟩, rfl, hp8, hm1, fun H9 s9 => ?_⟩
    refine ⟨_, rfl, kindText ⟨k1.states, k1.start, ms7⟩, rfl, true, rfl, iteF ?_⟩
    have hp8 := hp8.same s9
    have hp1 := hp1.same s9
    have s49 := s48.trans s9
    obtain ⟨dx9, d9, f9, _⟩ := id hp8
    obtain ⟨kvs, ek, hms⟩ := id (hd1.same s49)
    refine ⟨_, rfl, p8, _, _, rfl, f9, kf_not (.inl rfl), p8, _, rfl, hp8, fun l10 hl10 => ?_⟩
    have s10 : Same H9 (upd H9 l10 (.lst ((ms7.map (·.1)).map V.str))) := same_new hl10
    have e10 : (upd H9 l10 (.lst ((ms7.map (·.1)).map V.str))) l10 = some (.lst ((ms7.map (·.1)).map V.str)) := upd_same
    refine ⟨_, rfl, l1, _, 2, _, rfl, rfl, SqL.of ((s49.trans s10) _ _ e1), rfl, d1, kvs, k1.meths.map (·.1), rfl, .inl (s10 _ _ ek), hms.keys, by rw [List.length_map]; have := hk1.m4; omega, fun ys l11 hperm hsort hl11 => ?_⟩
    have eys : ys = ms7.map (·.1) := names_one hk1.nd hperm hsort (so7.1.map _) so7.2
    subst eys
    have s11 := same_new (o := .lst ((ms7.map (·.1)).map V.str)) hl11
    refine ⟨l10, l11, ms7.map (·.1), rfl, SqL.of (s11 _ _ e10), SqL.of upd_same, by rw [List.length_map]; have : ms7.length ≤ 4 := hm1.m4; omega, fun H12 s12 => ?_⟩
    refine ⟨true, rfl, iteF ?_⟩
    -- _law_second = _law_kind(_law_other)
    have s912 := (s10.trans s11).trans s12
    have s412 := s49.trans s912
    refine ⟨_, rfl, l2, k2, rfl, ⟨d2, s412 _ _ e2, hd2.same s412⟩, hk2, fun H13 p13 ms13 s13 so13 hp13 => ?_⟩
    have hm13 : KdOk ⟨k2.states, k2.start, ms13⟩ := hk2.perm so13.1
    have up13 : Up ms13 := up_of hk2.nd so13
    have hp1 := hp1.same (s912.trans s13)
    have s413 := s412.trans s13
    -- the first
    refine ⟨_, rfl, p13, ⟨k2.states, k2.start, ms13⟩, rfl, hp13, hm13, fun H14 s14 => ?_⟩
    have hp1 := hp1.same s14
    have hp13 := hp13.same s14
    have s414 := s413.trans s14
    obtain ⟨dx14, d14, f14, _⟩ := id hp13
    obtain ⟨dx15, d15, f15, _⟩ := id hp1
    refine ⟨_, rfl, rfl, _, rfl, _, rfl, p13, p1, _, _, _, _, rfl, rfl, f14, f15, p13, p1, _, _, rfl, hp13, hp1, up_nodup up13, ⟨_, rfl⟩, rfl, true, ?_, iteT ?_⟩
    · refine congrArg V.bl (decide_eq_true (congrArg V.bl ?_))
      have e := eq_text hm13 hm1 up13 up1
      rw [← e]
      simp
    -- the second
    refine ⟨_, rfl, p13, ⟨k2.states, k2.start, ms13⟩, rfl, hp13, hm13, fun H15 s15 => ?_⟩
    refine ⟨⟨k2.states, k2.start, ms13⟩, rfl, hm13, up13, fun H16 p16 s16 hp16 => ?_⟩
    have hp1 := hp1.same (s15.trans s16)
    have s416 := (s414.trans s15).trans s16
    obtain ⟨dx16, d16, f16, _⟩ := id hp16
    obtain ⟨dx17, d17, f17, _⟩ := id hp1
    refine ⟨_, rfl, p16, p1, _, _, _, _, rfl, rfl, f16, f17, p16, p1, _, _, rfl, hp16, hp1, up_nodup up13, ⟨_, rfl⟩, ?_⟩
    refine ⟨_, rfl, _, rfl, l1, l2, d1, d2, _, _, _, _, k1.meths, k2.meths, rfl, rfl, s416 _ _ e1, s416 _ _ e2, hdne, hd1.same s416, hd2.same s416, hk1.nd, rfl, ?_⟩
    have e := eq_raw hk1 hk2 so7 so13
    rw [e, decide_eq_true rfl]
    exact q _
end
end Tw
/-! ## Tw24: what the top has written (printed by gen.py) -/
namespace Tw
open PySem L2
theorem kit_self (K : PySem.W.Frag) (C : Addr) : PySem.W.kitOne K (.ref C) (.ref C) = some true := by
  unfold PySem.W.kitOne
  rw [if_pos (beq_self_eq_true _)]
theorem all_mk {l : PySem.W.OpenLaw} {w : World} {K : PySem.W.Frag} {h : Heap} {mg : Str → Option Value} {fa CK CR f1 f2 f3 f4 f5 f6 f7 f8 f9 f10 f11 f12 f13 f14 f15 f16 f17 f18 f19 f20 f21 f22 f23 f24 f25 f26 f27 f28 f29 f30 f31 f32 f33 f34 f35 f36 : Addr} (X : K.In h) (G : h.Ns mainGlobals mg) (hfa : mg "law" = some (.ref fa))
    {od1 an1 od2 an2 od3 an3 od4 an4 od5 an5 od6 an6 od7 an7 od8 an8 od9 an9 od10 an10 od11 an11 od12 an12 od13 an13 od14 an14 od15 an15 od16 an16 od17 an17 od18 an18 od19 an19 od20 an20 od21 an21 od22 an22 od23 an23 od24 an24 od25 an25 od26 an26 od27 an27 od28 an28 od29 an29 od30 an30 od31 an31 od32 an32 od33 an33 od34 an34 od35 an35 od36 an36 : Option Addr} {sl1 sl2 sl3 sl4 sl5 sl6 sl7 sl8 sl9 sl10 sl11 sl12 sl13 sl14 sl15 sl16 sl17 sl18 sl19 sl20 sl21 sl22 sl23 sl24 sl25 sl26 sl27 sl28 sl29 sl30 sl31 sl32 sl33 sl34 sl35 sl36 : Array (Option Value)} {oc1 kV1 dc1 pm1 cd1 ct1 oc2 kV2 dc2 pm2 cd2 ct2 oc3 kV3 dc3 pm3 cd3 ct3 oc4 kV4 dc4 pm4 cd4 ct4 oc5 kV5 dc5 pm5 cd5 ct5 oc6 kV6 dc6 pm6 cd6 ct6 oc7 kV7 dc7 pm7 cd7 ct7 oc8 kV8 dc8 pm8 cd8 ct8 oc9 kV9 dc9 pm9 cd9 ct9 oc10 kV10 dc10 pm10 cd10 ct10 oc11 kV11 dc11 pm11 cd11 ct11 oc12 kV12 dc12 pm12 cd12 ct12 oc13 kV13 dc13 pm13 cd13 ct13 oc14 kV14 dc14 pm14 cd14 ct14 oc15 kV15 dc15 pm15 cd15 ct15 oc16 kV16 dc16 pm16 cd16 ct16 oc17 kV17 dc17 pm17 cd17 ct17 oc18 kV18 dc18 pm18 cd18 ct18 oc19 kV19 dc19 pm19 cd19 ct19 oc20 kV20 dc20 pm20 cd20 ct20 oc21 kV21 dc21 pm21 cd21 ct21 oc22 kV22 dc22 pm22 cd22 ct22 oc23 kV23 dc23 pm23 cd23 ct23 oc24 kV24 dc24 pm24 cd24 ct24 oc25 kV25 dc25 pm25 cd25 ct25 oc26 kV26 dc26 pm26 cd26 ct26 oc27 kV27 dc27 pm27 cd27 ct27 oc28 kV28 dc28 pm28 cd28 ct28 oc29 kV29 dc29 pm29 cd29 ct29 oc30 kV30 dc30 pm30 cd30 ct30 oc31 kV31 dc31 pm31 cd31 ct31 oc32 kV32 dc32 pm32 cd32 ct32 oc33 kV33 dc33 pm33 cd33 ct33 oc34 kV34 dc34 pm34 cd34 ct34 oc35 kV35 dc35 pm35 cd35 ct35 oc36 kV36 dc36 pm36 cd36 ct36 : Value} {tk_LETTERS tk_LONGEST_NAME tk_MOST_STATES tk_MOST_METHODS tk_MOST_VALUES tk_MOST_ANSWERS tk_DIGITS tk_LAST_NAME : Tok}
    (aCK : PySem.W.nsIn K mainGlobals "Kind" = some (some (.ref CK)))
    (pgCK : PySem.W.plainGet K CK Str.empty = true)
    (hdCK : PySem.W.hasDictIn K CK = true)
    (poCK : PySem.W.plainOver K CK = true)
    (saCK : PySem.W.findIn K (.ref CK) "__setattr__" = some (some (.builtin "object.__setattr__")))
    (mkCK : PySem.W.makesIn K CK = true)
    (kcCK : PySem.W.keepIn K (.ref CK) = true)
    (nCK_states : PySem.W.findIn K (.ref CK) "states" = some none)
    (nCK_start : PySem.W.findIn K (.ref CK) "start" = some none)
    (nCK_methods : PySem.W.findIn K (.ref CK) "_methods" = some none)
    (aCR : PySem.W.nsIn K mainGlobals "Reader" = some (some (.ref CR)))
    (pgCR : PySem.W.plainGet K CR Str.empty = true)
    (hdCR : PySem.W.hasDictIn K CR = true)
    (poCR : PySem.W.plainOver K CR = true)
    (saCR : PySem.W.findIn K (.ref CR) "__setattr__" = some (some (.builtin "object.__setattr__")))
    (mkCR : PySem.W.makesIn K CR = true)
    (kcCR : PySem.W.keepIn K (.ref CR) = true)
    (nCR_lines : PySem.W.findIn K (.ref CR) "lines" = some none)
    (nCR_many : PySem.W.findIn K (.ref CR) "many" = some none)
    (qha : PySem.W.findIn K (.ref CK) "__class__" = some (some (.builtin "object.__class__")))
    (qhn : PySem.W.specialIn K (.builtin "object.__class__") "__get__" = some (some (.builtin "getset_descriptor.__get__")))
    (qtk : PySem.W.takesIn K (.builtin "object.__class__") = some true)
    (qhm : PySem.W.mroIn K CK (.type "object") = some true)
    (z_isinstance : PySem.W.nsIn K mainGlobals "isinstance" = some none)
    (z_len : PySem.W.nsIn K mainGlobals "len" = some none)
    (z_all : PySem.W.nsIn K mainGlobals "all" = some none)
    (z_sorted : PySem.W.nsIn K mainGlobals "sorted" = some none)
    (z_range : PySem.W.nsIn K mainGlobals "range" = some none)
    (z_int : PySem.W.nsIn K mainGlobals "int" = some none)
    (z_bool : PySem.W.nsIn K mainGlobals "bool" = some none)
    (z_list : PySem.W.nsIn K mainGlobals "list" = some none)
    (z_tuple : PySem.W.nsIn K mainGlobals "tuple" = some none)
    (z_str : PySem.W.nsIn K mainGlobals "str" = some none)
    (z_dict : PySem.W.nsIn K mainGlobals "dict" = some none)
    (z_set : PySem.W.nsIn K mainGlobals "set" = some none)
    (c_LETTERS : PySem.W.nsIn K mainGlobals "LETTERS" = some (some (.str (Str.ofString "abcdefghijklmnopqrstuvwxyz") tk_LETTERS)))
    (c_LONGEST_NAME : PySem.W.nsIn K mainGlobals "LONGEST_NAME" = some (some (.int 8 tk_LONGEST_NAME)))
    (c_MOST_STATES : PySem.W.nsIn K mainGlobals "MOST_STATES" = some (some (.int 8 tk_MOST_STATES)))
    (c_MOST_METHODS : PySem.W.nsIn K mainGlobals "MOST_METHODS" = some (some (.int 4 tk_MOST_METHODS)))
    (c_MOST_VALUES : PySem.W.nsIn K mainGlobals "MOST_VALUES" = some (some (.int 4 tk_MOST_VALUES)))
    (c_MOST_ANSWERS : PySem.W.nsIn K mainGlobals "MOST_ANSWERS" = some (some (.int 8 tk_MOST_ANSWERS)))
    (c_DIGITS : PySem.W.nsIn K mainGlobals "DIGITS" = some (some (.str (Str.ofString "0123456789") tk_DIGITS)))
    (c_LAST_NAME : PySem.W.nsIn K mainGlobals "LAST_NAME" = some (some (.str (Str.ofString "zzzzzzzz") tk_LAST_NAME)))
    (a1 : PySem.W.nsIn K mainGlobals "is_integer" = some (some (.ref f1)))
    (l1 : K.lookup f1 = some ⟨oc1, od1, .func (PySem.W.fnOf "is_integer" "is_integer" (defArgs s_is_integer) (defBody s_is_integer) (defScope s_is_integer) .none kV1 dc1 pm1 an1 cd1 ct1), sl1⟩)
    (c1 : PySem.W.codeIn K cd1 "is_integer" = true)
    (k1 : PySem.W.keepIn K (.ref f1) = true)
    (a2 : PySem.W.nsIn K mainGlobals "is_between" = some (some (.ref f2)))
    (l2 : K.lookup f2 = some ⟨oc2, od2, .func (PySem.W.fnOf "is_between" "is_between" (defArgs s_is_between) (defBody s_is_between) (defScope s_is_between) .none kV2 dc2 pm2 an2 cd2 ct2), sl2⟩)
    (c2 : PySem.W.codeIn K cd2 "is_between" = true)
    (k2 : PySem.W.keepIn K (.ref f2) = true)
    (a3 : PySem.W.nsIn K mainGlobals "is_row" = some (some (.ref f3)))
    (l3 : K.lookup f3 = some ⟨oc3, od3, .func (PySem.W.fnOf "is_row" "is_row" (defArgs s_is_row) (defBody s_is_row) (defScope s_is_row) .none kV3 dc3 pm3 an3 cd3 ct3), sl3⟩)
    (c3 : PySem.W.codeIn K cd3 "is_row" = true)
    (k3 : PySem.W.keepIn K (.ref f3) = true)
    (a4 : PySem.W.nsIn K mainGlobals "is_row_of" = some (some (.ref f4)))
    (l4 : K.lookup f4 = some ⟨oc4, od4, .func (PySem.W.fnOf "is_row_of" "is_row_of" (defArgs s_is_row_of) (defBody s_is_row_of) (defScope s_is_row_of) .none kV4 dc4 pm4 an4 cd4 ct4), sl4⟩)
    (c4 : PySem.W.codeIn K cd4 "is_row_of" = true)
    (k4 : PySem.W.keepIn K (.ref f4) = true)
    (a5 : PySem.W.nsIn K mainGlobals "is_name" = some (some (.ref f5)))
    (l5 : K.lookup f5 = some ⟨oc5, od5, .func (PySem.W.fnOf "is_name" "is_name" (defArgs s_is_name) (defBody s_is_name) (defScope s_is_name) .none kV5 dc5 pm5 an5 cd5 ct5), sl5⟩)
    (c5 : PySem.W.codeIn K cd5 "is_name" = true)
    (k5 : PySem.W.keepIn K (.ref f5) = true)
    (a6 : PySem.W.nsIn K mainGlobals "are_answers" = some (some (.ref f6)))
    (l6 : K.lookup f6 = some ⟨oc6, od6, .func (PySem.W.fnOf "are_answers" "are_answers" (defArgs s_are_answers) (defBody s_are_answers) (defScope s_are_answers) .none kV6 dc6 pm6 an6 cd6 ct6), sl6⟩)
    (c6 : PySem.W.codeIn K cd6 "are_answers" = true)
    (k6 : PySem.W.keepIn K (.ref f6) = true)
    (a7 : PySem.W.nsIn K mainGlobals "is_method" = some (some (.ref f7)))
    (l7 : K.lookup f7 = some ⟨oc7, od7, .func (PySem.W.fnOf "is_method" "is_method" (defArgs s_is_method) (defBody s_is_method) (defScope s_is_method) .none kV7 dc7 pm7 an7 cd7 ct7), sl7⟩)
    (c7 : PySem.W.codeIn K cd7 "is_method" = true)
    (k7 : PySem.W.keepIn K (.ref f7) = true)
    (a8 : PySem.W.nsIn K mainGlobals "are_methods" = some (some (.ref f8)))
    (l8 : K.lookup f8 = some ⟨oc8, od8, .func (PySem.W.fnOf "are_methods" "are_methods" (defArgs s_are_methods) (defBody s_are_methods) (defScope s_are_methods) .none kV8 dc8 pm8 an8 cd8 ct8), sl8⟩)
    (c8 : PySem.W.codeIn K cd8 "are_methods" = true)
    (k8 : PySem.W.keepIn K (.ref f8) = true)
    (a9 : PySem.W.nsIn K mainGlobals "ordered_method" = some (some (.ref f9)))
    (l9 : K.lookup f9 = some ⟨oc9, od9, .func (PySem.W.fnOf "ordered_method" "ordered_method" (defArgs s_ordered_method) (defBody s_ordered_method) (defScope s_ordered_method) .none kV9 dc9 pm9 an9 cd9 ct9), sl9⟩)
    (c9 : PySem.W.codeIn K cd9 "ordered_method" = true)
    (k9 : PySem.W.keepIn K (.ref f9) = true)
    (a10 : PySem.W.findIn K (.ref CK) "__init__" = some (some (.ref f10)))
    (i10 : PySem.W.isFn K (.ref f10) = true)
    (l10 : K.lookup f10 = some ⟨oc10, od10, .func (PySem.W.fnOf "__init__" "Kind.__init__" (defArgs s_Kind_init) (defBody s_Kind_init) (defScope s_Kind_init) .none kV10 dc10 pm10 an10 cd10 ct10), sl10⟩)
    (c10 : PySem.W.codeIn K cd10 "Kind.__init__" = true)
    (k10 : PySem.W.keepIn K (.ref f10) = true)
    (a11 : PySem.W.findIn K (.ref CK) "__contains__" = some (some (.ref f11)))
    (i11 : PySem.W.isFn K (.ref f11) = true)
    (l11 : K.lookup f11 = some ⟨oc11, od11, .func (PySem.W.fnOf "__contains__" "Kind.__contains__" (defArgs s_Kind_contains) (defBody s_Kind_contains) (defScope s_Kind_contains) .none kV11 dc11 pm11 an11 cd11 ct11), sl11⟩)
    (c11 : PySem.W.codeIn K cd11 "Kind.__contains__" = true)
    (k11 : PySem.W.keepIn K (.ref f11) = true)
    (a12 : PySem.W.findIn K (.ref CK) "__eq__" = some (some (.ref f12)))
    (i12 : PySem.W.isFn K (.ref f12) = true)
    (l12 : K.lookup f12 = some ⟨oc12, od12, .func (PySem.W.fnOf "__eq__" "Kind.__eq__" (defArgs s_Kind_eq) (defBody s_Kind_eq) (defScope s_Kind_eq) .none kV12 dc12 pm12 an12 cd12 ct12), sl12⟩)
    (c12 : PySem.W.codeIn K cd12 "Kind.__eq__" = true)
    (k12 : PySem.W.keepIn K (.ref f12) = true)
    (a13 : PySem.W.findIn K (.ref CK) "_method" = some (some (.ref f13)))
    (i13 : PySem.W.isFn K (.ref f13) = true)
    (l13 : K.lookup f13 = some ⟨oc13, od13, .func (PySem.W.fnOf "_method" "Kind._method" (defArgs s_Kind_method) (defBody s_Kind_method) (defScope s_Kind_method) .none kV13 dc13 pm13 an13 cd13 ct13), sl13⟩)
    (c13 : PySem.W.codeIn K cd13 "Kind._method" = true)
    (k13 : PySem.W.keepIn K (.ref f13) = true)
    (a14 : PySem.W.findIn K (.ref CK) "names" = some (some (.ref f14)))
    (i14 : PySem.W.isFn K (.ref f14) = true)
    (l14 : K.lookup f14 = some ⟨oc14, od14, .func (PySem.W.fnOf "names" "Kind.names" (defArgs s_Kind_names) (defBody s_Kind_names) (defScope s_Kind_names) .none kV14 dc14 pm14 an14 cd14 ct14), sl14⟩)
    (c14 : PySem.W.codeIn K cd14 "Kind.names" = true)
    (k14 : PySem.W.keepIn K (.ref f14) = true)
    (a15 : PySem.W.findIn K (.ref CK) "arguments" = some (some (.ref f15)))
    (i15 : PySem.W.isFn K (.ref f15) = true)
    (l15 : K.lookup f15 = some ⟨oc15, od15, .func (PySem.W.fnOf "arguments" "Kind.arguments" (defArgs s_Kind_arguments) (defBody s_Kind_arguments) (defScope s_Kind_arguments) .none kV15 dc15 pm15 an15 cd15 ct15), sl15⟩)
    (c15 : PySem.W.codeIn K cd15 "Kind.arguments" = true)
    (k15 : PySem.W.keepIn K (.ref f15) = true)
    (a16 : PySem.W.findIn K (.ref CK) "results" = some (some (.ref f16)))
    (i16 : PySem.W.isFn K (.ref f16) = true)
    (l16 : K.lookup f16 = some ⟨oc16, od16, .func (PySem.W.fnOf "results" "Kind.results" (defArgs s_Kind_results) (defBody s_Kind_results) (defScope s_Kind_results) .none kV16 dc16 pm16 an16 cd16 ct16), sl16⟩)
    (c16 : PySem.W.codeIn K cd16 "Kind.results" = true)
    (k16 : PySem.W.keepIn K (.ref f16) = true)
    (a17 : PySem.W.findIn K (.ref CK) "answers" = some (some (.ref f17)))
    (i17 : PySem.W.isFn K (.ref f17) = true)
    (l17 : K.lookup f17 = some ⟨oc17, od17, .func (PySem.W.fnOf "answers" "Kind.answers" (defArgs s_Kind_answers) (defBody s_Kind_answers) (defScope s_Kind_answers) .none kV17 dc17 pm17 an17 cd17 ct17), sl17⟩)
    (c17 : PySem.W.codeIn K cd17 "Kind.answers" = true)
    (k17 : PySem.W.keepIn K (.ref f17) = true)
    (a18 : PySem.W.nsIn K mainGlobals "answers_line" = some (some (.ref f18)))
    (l18 : K.lookup f18 = some ⟨oc18, od18, .func (PySem.W.fnOf "answers_line" "answers_line" (defArgs s_answers_line) (defBody s_answers_line) (defScope s_answers_line) .none kV18 dc18 pm18 an18 cd18 ct18), sl18⟩)
    (c18 : PySem.W.codeIn K cd18 "answers_line" = true)
    (k18 : PySem.W.keepIn K (.ref f18) = true)
    (a19 : PySem.W.nsIn K mainGlobals "kind_text" = some (some (.ref f19)))
    (l19 : K.lookup f19 = some ⟨oc19, od19, .func (PySem.W.fnOf "kind_text" "kind_text" (defArgs s_kind_text) (defBody s_kind_text) (defScope s_kind_text) .none kV19 dc19 pm19 an19 cd19 ct19), sl19⟩)
    (c19 : PySem.W.codeIn K cd19 "kind_text" = true)
    (k19 : PySem.W.keepIn K (.ref f19) = true)
    (a20 : PySem.W.nsIn K mainGlobals "number_of" = some (some (.ref f20)))
    (l20 : K.lookup f20 = some ⟨oc20, od20, .func (PySem.W.fnOf "number_of" "number_of" (defArgs s_number_of) (defBody s_number_of) (defScope s_number_of) .none kV20 dc20 pm20 an20 cd20 ct20), sl20⟩)
    (c20 : PySem.W.codeIn K cd20 "number_of" = true)
    (k20 : PySem.W.keepIn K (.ref f20) = true)
    (a21 : PySem.W.nsIn K mainGlobals "answers_of" = some (some (.ref f21)))
    (l21 : K.lookup f21 = some ⟨oc21, od21, .func (PySem.W.fnOf "answers_of" "answers_of" (defArgs s_answers_of) (defBody s_answers_of) (defScope s_answers_of) .none kV21 dc21 pm21 an21 cd21 ct21), sl21⟩)
    (c21 : PySem.W.codeIn K cd21 "answers_of" = true)
    (k21 : PySem.W.keepIn K (.ref f21) = true)
    (a22 : PySem.W.findIn K (.ref CR) "__init__" = some (some (.ref f22)))
    (i22 : PySem.W.isFn K (.ref f22) = true)
    (l22 : K.lookup f22 = some ⟨oc22, od22, .func (PySem.W.fnOf "__init__" "Reader.__init__" (defArgs s_Reader_init) (defBody s_Reader_init) (defScope s_Reader_init) .none kV22 dc22 pm22 an22 cd22 ct22), sl22⟩)
    (c22 : PySem.W.codeIn K cd22 "Reader.__init__" = true)
    (k22 : PySem.W.keepIn K (.ref f22) = true)
    (a23 : PySem.W.findIn K (.ref CR) "is_done" = some (some (.ref f23)))
    (i23 : PySem.W.isFn K (.ref f23) = true)
    (l23 : K.lookup f23 = some ⟨oc23, od23, .func (PySem.W.fnOf "is_done" "Reader.is_done" (defArgs s_Reader_is_done) (defBody s_Reader_is_done) (defScope s_Reader_is_done) .none kV23 dc23 pm23 an23 cd23 ct23), sl23⟩)
    (c23 : PySem.W.codeIn K cd23 "Reader.is_done" = true)
    (k23 : PySem.W.keepIn K (.ref f23) = true)
    (a24 : PySem.W.findIn K (.ref CR) "words" = some (some (.ref f24)))
    (i24 : PySem.W.isFn K (.ref f24) = true)
    (l24 : K.lookup f24 = some ⟨oc24, od24, .func (PySem.W.fnOf "words" "Reader.words" (defArgs s_Reader_words) (defBody s_Reader_words) (defScope s_Reader_words) .none kV24 dc24 pm24 an24 cd24 ct24), sl24⟩)
    (c24 : PySem.W.codeIn K cd24 "Reader.words" = true)
    (k24 : PySem.W.keepIn K (.ref f24) = true)
    (a25 : PySem.W.findIn K (.ref CR) "head" = some (some (.ref f25)))
    (i25 : PySem.W.isFn K (.ref f25) = true)
    (l25 : K.lookup f25 = some ⟨oc25, od25, .func (PySem.W.fnOf "head" "Reader.head" (defArgs s_Reader_head) (defBody s_Reader_head) (defScope s_Reader_head) .none kV25 dc25 pm25 an25 cd25 ct25), sl25⟩)
    (c25 : PySem.W.codeIn K cd25 "Reader.head" = true)
    (k25 : PySem.W.keepIn K (.ref f25) = true)
    (a26 : PySem.W.findIn K (.ref CR) "read_method" = some (some (.ref f26)))
    (i26 : PySem.W.isFn K (.ref f26) = true)
    (l26 : K.lookup f26 = some ⟨oc26, od26, .func (PySem.W.fnOf "read_method" "Reader.read_method" (defArgs s_Reader_read_method) (defBody s_Reader_read_method) (defScope s_Reader_read_method) .none kV26 dc26 pm26 an26 cd26 ct26), sl26⟩)
    (c26 : PySem.W.codeIn K cd26 "Reader.read_method" = true)
    (k26 : PySem.W.keepIn K (.ref f26) = true)
    (a27 : PySem.W.findIn K (.ref CR) "answers" = some (some (.ref f27)))
    (i27 : PySem.W.isFn K (.ref f27) = true)
    (l27 : K.lookup f27 = some ⟨oc27, od27, .func (PySem.W.fnOf "answers" "Reader.answers" (defArgs s_Reader_answers) (defBody s_Reader_answers) (defScope s_Reader_answers) .none kV27 dc27 pm27 an27 cd27 ct27), sl27⟩)
    (c27 : PySem.W.codeIn K cd27 "Reader.answers" = true)
    (k27 : PySem.W.keepIn K (.ref f27) = true)
    (a28 : PySem.W.nsIn K mainGlobals "read_kind" = some (some (.ref f28)))
    (l28 : K.lookup f28 = some ⟨oc28, od28, .func (PySem.W.fnOf "read_kind" "read_kind" (defArgs s_read_kind) (defBody s_read_kind) (defScope s_read_kind) .none kV28 dc28 pm28 an28 cd28 ct28), sl28⟩)
    (c28 : PySem.W.codeIn K cd28 "read_kind" = true)
    (k28 : PySem.W.keepIn K (.ref f28) = true)
    (a29 : PySem.W.nsIn K mainGlobals "_law_bag" = some (some (.ref f29)))
    (l29 : K.lookup f29 = some ⟨oc29, od29, .func (PySem.W.fnOf "_law_bag" "_law_bag" (defArgs s__law_bag) (defBody s__law_bag) (defScope s__law_bag) .none kV29 dc29 pm29 an29 cd29 ct29), sl29⟩)
    (c29 : PySem.W.codeIn K cd29 "_law_bag" = true)
    (k29 : PySem.W.keepIn K (.ref f29) = true)
    (a30 : PySem.W.nsIn K mainGlobals "_law_pick" = some (some (.ref f30)))
    (l30 : K.lookup f30 = some ⟨oc30, od30, .func (PySem.W.fnOf "_law_pick" "_law_pick" (defArgs s__law_pick) (defBody s__law_pick) (defScope s__law_pick) .none kV30 dc30 pm30 an30 cd30 ct30), sl30⟩)
    (c30 : PySem.W.codeIn K cd30 "_law_pick" = true)
    (k30 : PySem.W.keepIn K (.ref f30) = true)
    (a31 : PySem.W.nsIn K mainGlobals "_law_rows" = some (some (.ref f31)))
    (l31 : K.lookup f31 = some ⟨oc31, od31, .func (PySem.W.fnOf "_law_rows" "_law_rows" (defArgs s__law_rows) (defBody s__law_rows) (defScope s__law_rows) .none kV31 dc31 pm31 an31 cd31 ct31), sl31⟩)
    (c31 : PySem.W.codeIn K cd31 "_law_rows" = true)
    (k31 : PySem.W.keepIn K (.ref f31) = true)
    (a32 : PySem.W.nsIn K mainGlobals "_law_kind" = some (some (.ref f32)))
    (l32 : K.lookup f32 = some ⟨oc32, od32, .func (PySem.W.fnOf "_law_kind" "_law_kind" (defArgs s__law_kind) (defBody s__law_kind) (defScope s__law_kind) .none kV32 dc32 pm32 an32 cd32 ct32), sl32⟩)
    (c32 : PySem.W.codeIn K cd32 "_law_kind" = true)
    (k32 : PySem.W.keepIn K (.ref f32) = true)
    (a33 : PySem.W.nsIn K mainGlobals "_law_alike" = some (some (.ref f33)))
    (l33 : K.lookup f33 = some ⟨oc33, od33, .func (PySem.W.fnOf "_law_alike" "_law_alike" (defArgs s__law_alike) (defBody s__law_alike) (defScope s__law_alike) .none kV33 dc33 pm33 an33 cd33 ct33), sl33⟩)
    (c33 : PySem.W.codeIn K cd33 "_law_alike" = true)
    (k33 : PySem.W.keepIn K (.ref f33) = true)
    (a34 : PySem.W.nsIn K mainGlobals "_law_kind_lines" = some (some (.ref f34)))
    (l34 : K.lookup f34 = some ⟨oc34, od34, .func (PySem.W.fnOf "_law_kind_lines" "_law_kind_lines" (defArgs s__law_kind_lines) (defBody s__law_kind_lines) (defScope s__law_kind_lines) .none kV34 dc34 pm34 an34 cd34 ct34), sl34⟩)
    (c34 : PySem.W.codeIn K cd34 "_law_kind_lines" = true)
    (k34 : PySem.W.keepIn K (.ref f34) = true)
    (a35 : PySem.W.nsIn K mainGlobals "_law_wide_kind" = some (some (.ref f35)))
    (l35 : K.lookup f35 = some ⟨oc35, od35, .func (PySem.W.fnOf "_law_wide_kind" "_law_wide_kind" (defArgs s__law_wide_kind) (defBody s__law_wide_kind) (defScope s__law_wide_kind) .none kV35 dc35 pm35 an35 cd35 ct35), sl35⟩)
    (c35 : PySem.W.codeIn K cd35 "_law_wide_kind" = true)
    (k35 : PySem.W.keepIn K (.ref f35) = true)
    (a36 : PySem.W.nsIn K mainGlobals "law" = some (some (.ref f36)))
    (l36 : K.lookup f36 = some ⟨oc36, od36, .func (PySem.W.fnOf "law" "law" (defArgs s_law) (defBody s_law) (defScope s_law) .none kV36 dc36 pm36 an36 cd36 ct36), sl36⟩)
    (c36 : PySem.W.codeIn K cd36 "law" = true)
    (k36 : PySem.W.keepIn K (.ref f36) = true) :
    ∃ fd : FuncData, (∀ (s : Shared) (v : Value), BindsTo s fd ⟨[v], []⟩ [("_law_script", v)]) ∧ ∀ base : Heap, K.In base → base.Ns mainGlobals mg → FnOk l.prog w K mg base CX0 9 fa fd ["_law_script"] (spLaw K) := by
  have e := hfa.symm.trans (PySem.W.mg_of X G a36)
  cases e
  have F1 := fun_mk (st := s_is_integer) l1 c1 k1
  have F2 := fun_mk (st := s_is_between) l2 c2 k2
  have F3 := fun_mk (st := s_is_row) l3 c3 k3
  have F4 := fun_mk (st := s_is_row_of) l4 c4 k4
  have F5 := fun_mk (st := s_is_name) l5 c5 k5
  have F6 := fun_mk (st := s_are_answers) l6 c6 k6
  have F7 := fun_mk (st := s_is_method) l7 c7 k7
  have F8 := fun_mk (st := s_are_methods) l8 c8 k8
  have F9 := fun_mk (st := s_ordered_method) l9 c9 k9
  have F10 := fun_mk (st := s_Kind_init) l10 c10 k10
  have F11 := fun_mk (st := s_Kind_contains) l11 c11 k11
  have F12 := fun_mk (st := s_Kind_eq) l12 c12 k12
  have F13 := fun_mk (st := s_Kind_method) l13 c13 k13
  have F14 := fun_mk (st := s_Kind_names) l14 c14 k14
  have F15 := fun_mk (st := s_Kind_arguments) l15 c15 k15
  have F16 := fun_mk (st := s_Kind_results) l16 c16 k16
  have F17 := fun_mk (st := s_Kind_answers) l17 c17 k17
  have F18 := fun_mk (st := s_answers_line) l18 c18 k18
  have F19 := fun_mk (st := s_kind_text) l19 c19 k19
  have F20 := fun_mk (st := s_number_of) l20 c20 k20
  have F21 := fun_mk (st := s_answers_of) l21 c21 k21
  have F22 := fun_mk (st := s_Reader_init) l22 c22 k22
  have F23 := fun_mk (st := s_Reader_is_done) l23 c23 k23
  have F24 := fun_mk (st := s_Reader_words) l24 c24 k24
  have F25 := fun_mk (st := s_Reader_head) l25 c25 k25
  have F26 := fun_mk (st := s_Reader_read_method) l26 c26 k26
  have F27 := fun_mk (st := s_Reader_answers) l27 c27 k27
  have F28 := fun_mk (st := s_read_kind) l28 c28 k28
  have F29 := fun_mk (st := s__law_bag) l29 c29 k29
  have F30 := fun_mk (st := s__law_pick) l30 c30 k30
  have F31 := fun_mk (st := s__law_rows) l31 c31 k31
  have F32 := fun_mk (st := s__law_kind) l32 c32 k32
  have F33 := fun_mk (st := s__law_alike) l33 c33 k33
  have F34 := fun_mk (st := s__law_kind_lines) l34 c34 k34
  have F35 := fun_mk (st := s__law_wide_kind) l35 c35 k35
  have F36 := fun_mk (st := s_law) l36 c36 k36
  obtain ⟨T, e1, e2⟩ : ∃ T : Tx K mg, T.law.f = fa ∧ T.law.d = PySem.W.fnOf "law" "law" (defArgs s_law) (defBody s_law) (defScope s_law) .none kV36 dc36 pm36 an36 cd36 ct36 := ⟨{
      CKind := CK
      CReader := CR
      clKind := ⟨pgCK, hdCK, poCK, saCK⟩
      mkKind := mkCK
      kcKind := kcCK
      gKind := PySem.W.mg_of X G aCK
      nKind_states := nCK_states
      nKind_start := nCK_start
      nKind_methods := nCK_methods
      clReader := ⟨pgCR, hdCR, poCR, saCR⟩
      mkReader := mkCR
      kcReader := kcCR
      gReader := PySem.W.mg_of X G aCR
      nReader_lines := nCR_lines
      nReader_many := nCR_many
      isKind_ha := qha
      isKind_hn := qhn
      isKind_tk := qtk
      isKind_hm := qhm
      isKind_one := kit_self K CK
      z_isinstance := PySem.W.mg_none_of X G z_isinstance
      z_len := PySem.W.mg_none_of X G z_len
      z_all := PySem.W.mg_none_of X G z_all
      z_sorted := PySem.W.mg_none_of X G z_sorted
      z_range := PySem.W.mg_none_of X G z_range
      z_int := PySem.W.mg_none_of X G z_int
      z_bool := PySem.W.mg_none_of X G z_bool
      z_list := PySem.W.mg_none_of X G z_list
      z_tuple := PySem.W.mg_none_of X G z_tuple
      z_str := PySem.W.mg_none_of X G z_str
      z_dict := PySem.W.mg_none_of X G z_dict
      z_set := PySem.W.mg_none_of X G z_set
      c_LETTERS := ⟨_, PySem.W.mg_of X G c_LETTERS⟩
      c_LONGEST_NAME := ⟨_, PySem.W.mg_of X G c_LONGEST_NAME⟩
      c_MOST_STATES := ⟨_, PySem.W.mg_of X G c_MOST_STATES⟩
      c_MOST_METHODS := ⟨_, PySem.W.mg_of X G c_MOST_METHODS⟩
      c_MOST_VALUES := ⟨_, PySem.W.mg_of X G c_MOST_VALUES⟩
      c_MOST_ANSWERS := ⟨_, PySem.W.mg_of X G c_MOST_ANSWERS⟩
      c_DIGITS := ⟨_, PySem.W.mg_of X G c_DIGITS⟩
      c_LAST_NAME := ⟨_, PySem.W.mg_of X G c_LAST_NAME⟩
      is_integer := ⟨f1, _, F1, PySem.W.mg_of X G a1, F1.binds (ps := ["value"]) fun _ _ _ _ _ _ us hl => match us, hl with | [_], _ => rfl⟩
      is_between := ⟨f2, _, F2, PySem.W.mg_of X G a2, F2.binds (ps := ["value", "low", "high"]) fun _ _ _ _ _ _ us hl => match us, hl with | [_, _, _], _ => rfl⟩
      is_row := ⟨f3, _, F3, PySem.W.mg_of X G a3, F3.binds (ps := ["value"]) fun _ _ _ _ _ _ us hl => match us, hl with | [_], _ => rfl⟩
      is_row_of := ⟨f4, _, F4, PySem.W.mg_of X G a4, F4.binds (ps := ["value", "least", "most"]) fun _ _ _ _ _ _ us hl => match us, hl with | [_, _, _], _ => rfl⟩
      is_name := ⟨f5, _, F5, PySem.W.mg_of X G a5, F5.binds (ps := ["value"]) fun _ _ _ _ _ _ us hl => match us, hl with | [_], _ => rfl⟩
      are_answers := ⟨f6, _, F6, PySem.W.mg_of X G a6, F6.binds (ps := ["value", "results", "states"]) fun _ _ _ _ _ _ us hl => match us, hl with | [_, _, _], _ => rfl⟩
      is_method := ⟨f7, _, F7, PySem.W.mg_of X G a7, F7.binds (ps := ["value", "states"]) fun _ _ _ _ _ _ us hl => match us, hl with | [_, _], _ => rfl⟩
      are_methods := ⟨f8, _, F8, PySem.W.mg_of X G a8, F8.binds (ps := ["value", "states"]) fun _ _ _ _ _ _ us hl => match us, hl with | [_, _], _ => rfl⟩
      ordered_method := ⟨f9, _, F9, PySem.W.mg_of X G a9, F9.binds (ps := ["value"]) fun _ _ _ _ _ _ us hl => match us, hl with | [_], _ => rfl⟩
      Kind_init := ⟨f10, _, F10, a10, i10, F10.binds (ps := ["self", "states", "start", "methods"]) fun _ _ _ _ _ _ us hl => match us, hl with | [_, _, _, _], _ => rfl⟩
      Kind_contains := ⟨f11, _, F11, a11, i11, F11.binds (ps := ["self", "method"]) fun _ _ _ _ _ _ us hl => match us, hl with | [_, _], _ => rfl⟩
      Kind_eq := ⟨f12, _, F12, a12, i12, F12.binds (ps := ["self", "other"]) fun _ _ _ _ _ _ us hl => match us, hl with | [_, _], _ => rfl⟩
      Kind_method := ⟨f13, _, F13, a13, i13, F13.binds (ps := ["self", "method"]) fun _ _ _ _ _ _ us hl => match us, hl with | [_, _], _ => rfl⟩
      Kind_names := ⟨f14, _, F14, a14, i14, F14.binds (ps := ["self"]) fun _ _ _ _ _ _ us hl => match us, hl with | [_], _ => rfl⟩
      Kind_arguments := ⟨f15, _, F15, a15, i15, F15.binds (ps := ["self", "method"]) fun _ _ _ _ _ _ us hl => match us, hl with | [_, _], _ => rfl⟩
      Kind_results := ⟨f16, _, F16, a16, i16, F16.binds (ps := ["self", "method"]) fun _ _ _ _ _ _ us hl => match us, hl with | [_, _], _ => rfl⟩
      Kind_answers := ⟨f17, _, F17, a17, i17, F17.binds (ps := ["self", "state", "method", "argument"]) fun _ _ _ _ _ _ us hl => match us, hl with | [_, _, _, _], _ => rfl⟩
      answers_line := ⟨f18, _, F18, PySem.W.mg_of X G a18, F18.binds (ps := ["state", "argument", "answers"]) fun _ _ _ _ _ _ us hl => match us, hl with | [_, _, _], _ => rfl⟩
      kind_text := ⟨f19, _, F19, PySem.W.mg_of X G a19, F19.binds (ps := ["kind"]) fun _ _ _ _ _ _ us hl => match us, hl with | [_], _ => rfl⟩
      number_of := ⟨f20, _, F20, PySem.W.mg_of X G a20, F20.binds (ps := ["word", "low", "high"]) fun _ _ _ _ _ _ us hl => match us, hl with | [_, _, _], _ => rfl⟩
      answers_of := ⟨f21, _, F21, PySem.W.mg_of X G a21, F21.binds (ps := ["words", "results", "states"]) fun _ _ _ _ _ _ us hl => match us, hl with | [_, _, _], _ => rfl⟩
      Reader_init := ⟨f22, _, F22, a22, i22, F22.binds (ps := ["self", "lines"]) fun _ _ _ _ _ _ us hl => match us, hl with | [_, _], _ => rfl⟩
      Reader_is_done := ⟨f23, _, F23, a23, i23, F23.binds (ps := ["self"]) fun _ _ _ _ _ _ us hl => match us, hl with | [_], _ => rfl⟩
      Reader_words := ⟨f24, _, F24, a24, i24, F24.binds (ps := ["self"]) fun _ _ _ _ _ _ us hl => match us, hl with | [_], _ => rfl⟩
      Reader_head := ⟨f25, _, F25, a25, i25, F25.binds (ps := ["self"]) fun _ _ _ _ _ _ us hl => match us, hl with | [_], _ => rfl⟩
      Reader_read_method := ⟨f26, _, F26, a26, i26, F26.binds (ps := ["self", "states", "last"]) fun _ _ _ _ _ _ us hl => match us, hl with | [_, _, _], _ => rfl⟩
      Reader_answers := ⟨f27, _, F27, a27, i27, F27.binds (ps := ["self", "state", "argument", "results", "states"]) fun _ _ _ _ _ _ us hl => match us, hl with | [_, _, _, _, _], _ => rfl⟩
      read_kind := ⟨f28, _, F28, PySem.W.mg_of X G a28, F28.binds (ps := ["text"]) fun _ _ _ _ _ _ us hl => match us, hl with | [_], _ => rfl⟩
      _law_bag := ⟨f29, _, F29, PySem.W.mg_of X G a29, F29.binds (ps := ["_law_script", "_law_spot"]) fun _ _ _ _ _ _ us hl => match us, hl with | [_, _], _ => rfl⟩
      _law_pick := ⟨f30, _, F30, PySem.W.mg_of X G a30, F30.binds (ps := ["_law_bag_here", "_law_many"]) fun _ _ _ _ _ _ us hl => match us, hl with | [_, _], _ => rfl⟩
      _law_rows := ⟨f31, _, F31, PySem.W.mg_of X G a31, F31.binds (ps := ["_law_bag_here", "_law_states", "_law_places", "_law_results"]) fun _ _ _ _ _ _ us hl => match us, hl with | [_, _, _, _], _ => rfl⟩
      _law_kind := ⟨f32, _, F32, PySem.W.mg_of X G a32, F32.binds (ps := ["_law_raw"]) fun _ _ _ _ _ _ us hl => match us, hl with | [_], _ => rfl⟩
      _law_alike := ⟨f33, _, F33, PySem.W.mg_of X G a33, F33.binds (ps := ["_law_told", "_law_due"]) fun _ _ _ _ _ _ us hl => match us, hl with | [_, _], _ => rfl⟩
      _law_kind_lines := ⟨f34, _, F34, PySem.W.mg_of X G a34, F34.binds (ps := ["_law_raw"]) fun _ _ _ _ _ _ us hl => match us, hl with | [_], _ => rfl⟩
      _law_wide_kind := ⟨f35, _, F35, PySem.W.mg_of X G a35, F35.binds (ps := ["_law_bag_here"]) fun _ _ _ _ _ _ us hl => match us, hl with | [_], _ => rfl⟩
      law := ⟨fa, _, F36, PySem.W.mg_of X G a36, F36.binds (ps := ["_law_script"]) fun _ _ _ _ _ _ us hl => match us, hl with | [_], _ => rfl⟩ }, rfl, rfl⟩
  refine ⟨PySem.W.fnOf "law" "law" (defArgs s_law) (defBody s_law) (defScope s_law) .none kV36 dc36 pm36 an36 cd36 ct36, fun s v => .of_eq rfl, fun base _ _ => ?_⟩
  rw [← e1, ← e2]
  exact ok_law T
theorem walk {l : PySem.W.OpenLaw} {q : Program} {loose : List Str} {XP : (Str → Option Value) → Heap → Prop} {YP : World → Heap → Prop} {d : DefRec} {K : Params → PySem.W.Frag} (hn : l.most = some 63) (hdf : d.params.defaults = [])
    (hY : ∀ (w : World) (h : Heap), YP w h → (K w.params).In h)
    (F : ∀ (w : World) (mg : Str → Option Value) (fa : Addr) (h : Heap), (K w.params).In h → h.Ns mainGlobals mg → mg d.name = some (.ref fa) →
      ∃ fd : FuncData, (∀ (s : Shared) (u : Value), BindsTo s fd ⟨[u], []⟩ [("_law_script", u)]) ∧ ∀ base : Heap, (K w.params).In base → base.Ns mainGlobals mg → FnOk l.prog w (K w.params) mg base CX0 9 fa fd ["_law_script"] (spLaw (K w.params))) :
    PySem.W.WalkO q loose XP YP l.row.toRowW d [] (fun f vs => PySem.call f vs) :=
  L2.walk_of (n := 63) (k := 9) (x := "_law_script") (CX := fun _ => CX0) (sp := fun w => spLaw (K w.params)) hn (by decide) hdf ⟨rfl, by decide, by decide⟩ hY F (fun _ _ a ns hl _ hS => ⟨a, ns, rfl, hS, hl, fun _ => rfl⟩) fun _ _ _ _ _ z => z
end Tw
open PySem PySem.W PyProof.Rows in
set_option maxRecDepth 100000 in
set_option maxHeartbeats 0 in
theorem PySem.Challenge.cw_towerup_k42_whole_kind_texts_holds : PySem.Challenge.rw_towerup_k42_whole_kind_texts.Holds := by
  w_on; o_law; k_head; (case hw => w_witness2)
  k_fill
  refine Tw.walk (l := PySem.Challenge.rw_towerup_k42_whole_kind_texts) rfl rfl (fun w h Y => PySem.W.kIn_of Y) ?F
  case F =>
    intro w mg fa h KX G hmg
    refine' Tw.all_mk KX G hmg ?aCK ?pgCK ?hdCK ?poCK ?saCK ?mkCK ?kcCK ?nCK_states ?nCK_start ?nCK_methods ?aCR ?pgCR ?hdCR ?poCR ?saCR ?mkCR ?kcCR ?nCR_lines ?nCR_many ?qha ?qhn ?qtk ?qhm ?z_isinstance ?z_len ?z_all ?z_sorted ?z_range ?z_int ?z_bool ?z_list ?z_tuple ?z_str ?z_dict ?z_set ?c_LETTERS ?c_LONGEST_NAME ?c_MOST_STATES ?c_MOST_METHODS ?c_MOST_VALUES ?c_MOST_ANSWERS ?c_DIGITS ?c_LAST_NAME ?a1 ?l1 ?c1 ?k1 ?a2 ?l2 ?c2 ?k2 ?a3 ?l3 ?c3 ?k3 ?a4 ?l4 ?c4 ?k4 ?a5 ?l5 ?c5 ?k5 ?a6 ?l6 ?c6 ?k6 ?a7 ?l7 ?c7 ?k7 ?a8 ?l8 ?c8 ?k8 ?a9 ?l9 ?c9 ?k9 ?a10 ?i10 ?l10 ?c10 ?k10 ?a11 ?i11 ?l11 ?c11 ?k11 ?a12 ?i12 ?l12 ?c12 ?k12 ?a13 ?i13 ?l13 ?c13 ?k13 ?a14 ?i14 ?l14 ?c14 ?k14 ?a15 ?i15 ?l15 ?c15 ?k15 ?a16 ?i16 ?l16 ?c16 ?k16 ?a17 ?i17 ?l17 ?c17 ?k17 ?a18 ?l18 ?c18 ?k18 ?a19 ?l19 ?c19 ?k19 ?a20 ?l20 ?c20 ?k20 ?a21 ?l21 ?c21 ?k21 ?a22 ?i22 ?l22 ?c22 ?k22 ?a23 ?i23 ?l23 ?c23 ?k23 ?a24 ?i24 ?l24 ?c24 ?k24 ?a25 ?i25 ?l25 ?c25 ?k25 ?a26 ?i26 ?l26 ?c26 ?k26 ?a27 ?i27 ?l27 ?c27 ?k27 ?a28 ?l28 ?c28 ?k28 ?a29 ?l29 ?c29 ?k29 ?a30 ?l30 ?c30 ?k30 ?a31 ?l31 ?c31 ?k31 ?a32 ?l32 ?c32 ?k32 ?a33 ?l33 ?c33 ?k33 ?a34 ?l34 ?c34 ?k34 ?a35 ?l35 ?c35 ?k35 ?a36 ?l36 ?c36 ?k36
    (case aCK => k_is)
    (case pgCK => k_is)
    (case hdCK => k_is)
    (case poCK => k_is)
    (case saCK => k_is)
    (case mkCK => k_is)
    (case kcCK => k_is)
    (case nCK_states => k_is)
    (case nCK_start => k_is)
    (case nCK_methods => k_is)
    (case aCR => k_is)
    (case pgCR => k_is)
    (case hdCR => k_is)
    (case poCR => k_is)
    (case saCR => k_is)
    (case mkCR => k_is)
    (case kcCR => k_is)
    (case nCR_lines => k_is)
    (case nCR_many => k_is)
    (case qha => k_is)
    (case qhn => k_is)
    (case qtk => k_is)
    (case qhm => k_is)
    (case z_isinstance => k_is)
    (case z_len => k_is)
    (case z_all => k_is)
    (case z_sorted => k_is)
    (case z_range => k_is)
    (case z_int => k_is)
    (case z_bool => k_is)
    (case z_list => k_is)
    (case z_tuple => k_is)
    (case z_str => k_is)
    (case z_dict => k_is)
    (case z_set => k_is)
    (case c_LETTERS => k_is)
    (case c_LONGEST_NAME => k_is)
    (case c_MOST_STATES => k_is)
    (case c_MOST_METHODS => k_is)
    (case c_MOST_VALUES => k_is)
    (case c_MOST_ANSWERS => k_is)
    (case c_DIGITS => k_is)
    (case c_LAST_NAME => k_is)
    (case a1 => k_is)
    (case l1 => k_is)
    (case c1 => k_is)
    (case k1 => k_is)
    (case a2 => k_is)
    (case l2 => k_is)
    (case c2 => k_is)
    (case k2 => k_is)
    (case a3 => k_is)
    (case l3 => k_is)
    (case c3 => k_is)
    (case k3 => k_is)
    (case a4 => k_is)
    (case l4 => k_is)
    (case c4 => k_is)
    (case k4 => k_is)
    (case a5 => k_is)
    (case l5 => k_is)
    (case c5 => k_is)
    (case k5 => k_is)
    (case a6 => k_is)
    (case l6 => k_is)
    (case c6 => k_is)
    (case k6 => k_is)
    (case a7 => k_is)
    (case l7 => k_is)
    (case c7 => k_is)
    (case k7 => k_is)
    (case a8 => k_is)
    (case l8 => k_is)
    (case c8 => k_is)
    (case k8 => k_is)
    (case a9 => k_is)
    (case l9 => k_is)
    (case c9 => k_is)
    (case k9 => k_is)
    (case a10 => k_is)
    (case i10 => k_is)
    (case l10 => k_is)
    (case c10 => k_is)
    (case k10 => k_is)
    (case a11 => k_is)
    (case i11 => k_is)
    (case l11 => k_is)
    (case c11 => k_is)
    (case k11 => k_is)
    (case a12 => k_is)
    (case i12 => k_is)
    (case l12 => k_is)
    (case c12 => k_is)
    (case k12 => k_is)
    (case a13 => k_is)
    (case i13 => k_is)
    (case l13 => k_is)
    (case c13 => k_is)
    (case k13 => k_is)
    (case a14 => k_is)
    (case i14 => k_is)
    (case l14 => k_is)
    (case c14 => k_is)
    (case k14 => k_is)
    (case a15 => k_is)
    (case i15 => k_is)
    (case l15 => k_is)
    (case c15 => k_is)
    (case k15 => k_is)
    (case a16 => k_is)
    (case i16 => k_is)
    (case l16 => k_is)
    (case c16 => k_is)
    (case k16 => k_is)
    (case a17 => k_is)
    (case i17 => k_is)
    (case l17 => k_is)
    (case c17 => k_is)
    (case k17 => k_is)
    (case a18 => k_is)
    (case l18 => k_is)
    (case c18 => k_is)
    (case k18 => k_is)
    (case a19 => k_is)
    (case l19 => k_is)
    (case c19 => k_is)
    (case k19 => k_is)
    (case a20 => k_is)
    (case l20 => k_is)
    (case c20 => k_is)
    (case k20 => k_is)
    (case a21 => k_is)
    (case l21 => k_is)
    (case c21 => k_is)
    (case k21 => k_is)
    (case a22 => k_is)
    (case i22 => k_is)
    (case l22 => k_is)
    (case c22 => k_is)
    (case k22 => k_is)
    (case a23 => k_is)
    (case i23 => k_is)
    (case l23 => k_is)
    (case c23 => k_is)
    (case k23 => k_is)
    (case a24 => k_is)
    (case i24 => k_is)
    (case l24 => k_is)
    (case c24 => k_is)
    (case k24 => k_is)
    (case a25 => k_is)
    (case i25 => k_is)
    (case l25 => k_is)
    (case c25 => k_is)
    (case k25 => k_is)
    (case a26 => k_is)
    (case i26 => k_is)
    (case l26 => k_is)
    (case c26 => k_is)
    (case k26 => k_is)
    (case a27 => k_is)
    (case i27 => k_is)
    (case l27 => k_is)
    (case c27 => k_is)
    (case k27 => k_is)
    (case a28 => k_is)
    (case l28 => k_is)
    (case c28 => k_is)
    (case k28 => k_is)
    (case a29 => k_is)
    (case l29 => k_is)
    (case c29 => k_is)
    (case k29 => k_is)
    (case a30 => k_is)
    (case l30 => k_is)
    (case c30 => k_is)
    (case k30 => k_is)
    (case a31 => k_is)
    (case l31 => k_is)
    (case c31 => k_is)
    (case k31 => k_is)
    (case a32 => k_is)
    (case l32 => k_is)
    (case c32 => k_is)
    (case k32 => k_is)
    (case a33 => k_is)
    (case l33 => k_is)
    (case c33 => k_is)
    (case k33 => k_is)
    (case a34 => k_is)
    (case l34 => k_is)
    (case c34 => k_is)
    (case k34 => k_is)
    (case a35 => k_is)
    (case l35 => k_is)
    (case c35 => k_is)
    (case k35 => k_is)
    (case a36 => k_is)
    (case l36 => k_is)
    (case c36 => k_is)
    (case k36 => k_is)
