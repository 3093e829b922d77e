import PyProof.Rows.All
import Wide.All
import OpenK.AllK
import Wide.FinOn
import HandS.ForMost
import HandS.ForExc
import HandS.Defaults
import HandS.IsInst
import HandS.Wide
import HandS.Flow
import HandS.Iter
import HandS.SortInts
import HandS.SortRule
import HandS.Zip
import HandS.TupAny
import HandS.ExcInit
import HandS.ExcField
import HandS.Conv
import HandS.ListItems
import HandS.Style
import HandS.SortOrd
import HandS.NamedTupSort
import HandS.More
import KE.KDictDisplayH
import PyProof.ReprRoads
import HandS.Lambda
import HandS.TryMany
import HandS.EndTab
import HandS.HeadWalk
import KE.KStateDown
import HandS.Head0
import HandS.Head1
import HandS.Head2
import HandS.HeadHook1
import HandS.HeadHook2
import HandS.HeadHook3
import HandS.HeadHook4
import HandS.HeadEnd
import HandS.Ends
import PySem.Challenge.RW_turnsall_k37_whole_rounds
set_option Elab.async false
set_option linter.all false
set_option maxRecDepth 100000
set_option maxHeartbeats 0
/-! ## Top -/
namespace K37
open PySem PySem.Spec PyProof.Rows L2
/-- the i-th statement of the top -/
def top (i : Nat) : Stmt := PySem.Challenge.pw_turnsall_k37_whole_rounds.main.body.getD i (.Pass ⟨0, 0, 0, 0⟩)
/-- a def of the top, by its place -/
abbrev FnP (K : PySem.W.Frag) (x : Str) (i : Nat) (f : Addr) (fd : FuncData) : Prop := FunD K x x (defArgs (top i)) (defBody (top i)) (defScope (top i)) [] [] f fd
/-- the built-in names that no module name covers -/
structure Tp (mg : Str → Option Value) : Prop where
  isi : mg "isinstance" = none
  int : mg "int" = none
  bool : mg "bool" = none
  tuple : mg "tuple" = none
  len : mg "len" = none
  all : mg "all" = none
  zip : mg "zip" = none
  range : mg "range" = none
  any : mg "any" = none
  max : mg "max" = none
  list : mg "list" = none
  min : mg "min" = none
  sorted : mg "sorted" = none
  enum : mg "enumerate" = none
  repr : mg "repr" = none
  most : ∃ t, mg "MOST_ITEMS" = some (.int 20 t)
/-- a def that may be called by its name -/
structure Cl (P : Program) (w : World) (K : PySem.W.Frag) (mg : Str → Option Value) (base : Heap) (CX : CXT) (k : Nat) (x : Str) (sp : Sp) : Prop where
  ex : ∃ (f : Addr) (fd : FuncData) (ps : List Str), FnOk P w K mg base CX k f fd ps sp ∧ mg x = some (.ref f) ∧ PySem.W.keepIn K (.ref f) = true ∧ Binds K fd ps []
section
variable {X : Cx} {CX : CXT} {k j : Nat} {x : Str} {sp : Sp} {p pos : Pos} {e : Expr} {es : List Expr} {t : TA} {E : XK}
theorem pe_cl (c : Cl X.prog X.w X.K X.mg X.base CX k x sp) (hr : Room j X.A) (hk : k ≤ j) (hg : Gl X x) (hx : Passes CX X E) (ha : PA X (e :: es) t)
    (hdb : (x == ("__debug__" : Str)) = false := by decide) (he : starEach (e :: es) X.env = (false, eval e X.env) :: starEach es X.env := by rfl) (hpl : (backTo pos (starEach es X.env)).any (·.1) = false := by rfl) :
    PE X (.Call (.Name x p) (e :: es) [] pos) (tCall sp [] E t) := by
  obtain ⟨f, fd, ps, F, hm, kp, b⟩ := c.ex
  exact pe_call F (hr.mono hk) hg hm kp b .nil hx ha hdb he hpl
end
/-! ### Same, data -/
theorem same_T {K : PySem.W.Frag} {H H' : Hp} {a : Addr} {xs : List V} (e : Same H H') (h : SqT K H a xs) : SqT K H' a xs := by
  rcases h with (h | ⟨o, h⟩) | h
  · exact .inl (.inl (e _ _ h))
  · exact .inl (.inr ⟨o, e _ _ h⟩)
  · exact .inr h
mutual
theorem dp_same {K : PySem.W.Frag} {H H' : Hp} (e : Same H H') : ∀ {v : V} {d : PyData}, Dp K H v d → Dp K H' v d
  | _, _, .non => .non
  | _, _, .bl b => .bl b
  | _, _, .int i => .int i
  | _, _, .str x => .str x
  | _, _, .lst h a => .lst (e.seq h) (dpAll_same e a)
  | _, _, .tup h a => .tup (same_T e h) (dpAll_same e a)
theorem dpAll_same {K : PySem.W.Frag} {H H' : Hp} (e : Same H H') : ∀ {vs : List V} {ds : List PyData}, DpAll K H vs ds → DpAll K H' vs ds
  | _, _, .nil => .nil
  | _, _, .cons h t => .cons (dp_same e h) (dpAll_same e t)
end
theorem dpAll_len {K : PySem.W.Frag} {H : Hp} : ∀ {vs : List V} {ds : List PyData}, DpAll K H vs ds → vs.length = ds.length
  | _, _, .nil => rfl
  | _, _, .cons _ t => congrArg Nat.succ (dpAll_len t)
theorem dpAll_get {K : PySem.W.Frag} {H : Hp} : ∀ {vs : List V} {ds : List PyData} {i : Nat} {v : V}, DpAll K H vs ds → vs[i]? = some v → ∃ d, ds[i]? = some d ∧ Dp K H v d
  | _, _, _, _, .nil, e => by cases e
  | _, _, 0, _, .cons h _, e => by cases e; exact ⟨_, rfl, h⟩
  | _, _, i + 1, _, .cons _ t, e => dpAll_get (i := i) t e
theorem dpAll_ints {K : PySem.W.Frag} {H : Hp} : ∀ (ns : List Int), DpAll K H (ns.map V.int) (ns.map PyData.int)
  | [] => .nil
  | n :: ns => .cons (.int n) (dpAll_ints ns)
theorem ints_dpAll {K : PySem.W.Frag} {H : Hp} : ∀ (ns : List Int) {vs : List V}, DpAll K H vs (ns.map PyData.int) → vs = ns.map V.int
  | [], _, h => by cases h; rfl
  | n :: ns, _, h => by
    cases h with
    | cons h t =>
      cases h
      rw [ints_dpAll ns t]
      rfl
/-- the type of data -/
def tyD : PyData → String
  | .none => "NoneType"
  | .bool _ => "bool"
  | .int _ => "int"
  | .str _ => "str"
  | .list _ => "list"
  | .tuple _ => "tuple"
  | .dict _ => "dict"
theorem dp_ty {K : PySem.W.Frag} {H : Hp} {v : V} {d : PyData} (h : Dp K H v d) : TyX K H v (.type (tyD d)) := by
  cases h with
  | non => exact .base .non
  | bl b => exact .base (.bl b)
  | int i => exact .base (.int i)
  | str x => exact .base (.str x)
  | lst h _ =>
    rcases h with (h | ⟨o, h⟩) | ⟨o, _, _, h, c, _⟩
    · exact .base (.lst h)
    · exact .base (.frz h)
    · exact .kList h c
  | tup h _ =>
    rcases h with (h | ⟨o, h⟩) | ⟨o, _, _, h, c, _⟩
    · exact .base (.tup h)
    · exact .fTuple h
    · exact .kTuple h c
theorem kit_int (K : PySem.W.Frag) (d : PyData) : PySem.W.kitOne K (.type (tyD d)) (.type "int") = some (match d with | .int _ => true | .bool _ => true | _ => false) := by
  cases d <;> (refine kit_ty ?_; dsimp only [tyD]; decide +kernel)
theorem kit_bool (K : PySem.W.Frag) (d : PyData) : PySem.W.kitOne K (.type (tyD d)) (.type "bool") = some (match d with | .bool _ => true | _ => false) := by
  cases d <;> (refine kit_ty ?_; dsimp only [tyD]; decide +kernel)
theorem kit_tuple (K : PySem.W.Frag) (d : PyData) : PySem.W.kitOne K (.type (tyD d)) (.type "tuple") = some (match d with | .tuple _ => true | _ => false) := by
  cases d <;> (refine kit_ty ?_; dsimp only [tyD]; decide +kernel)
/-- same but at p, where an object is new -/
theorem same_new {H H1 : Hp} {p : Addr} {o : HO} (s : Same H H1) (hp : H1 p = none) : Same H (upd H1 p o) := fun b u e => by
  have := s b u e
  rw [upd_ne (ne_of_none this hp)]
  exact this
/-- same but at what was made since -/
theorem same_put {H H1 : Hp} {p : Addr} {o : HO} (s : Same H H1) (hp : H p = none) : Same H (upd H1 p o) := fun b u e => by
  rw [upd_ne (ne_of_none e hp)]
  exact s b u e
theorem small20 {n : Nat} (h : n ≤ 100000) : n < sizeLine := Nat.lt_of_le_of_lt h (by decide)
theorem decInt {i j : Int} : decide (V.int i = V.int j) = decide (i = j) := by
  by_cases h : i = j
  · subst h; simp
  · rw [decide_eq_false h, decide_eq_false (fun z => h (V.int.inj z))]
theorem inV_int {x : Int} : ∀ {l : List Int}, inV (.int x) (l.map V.int) = decide (x ∈ l)
  | [] => rfl
  | y :: l => by
    have ih := inV_int (x := x) (l := l)
    unfold inV at ih ⊢
    rw [List.map_cons, List.any_cons, ih]
    show ((y == x) || _) = _
    by_cases h : y = x
    · subst h
      simp
    · rw [beq_eq_false_iff_ne.mpr h, Bool.false_or]
      simp only [List.mem_cons]
      have : (x = y ∨ x ∈ l) ↔ x ∈ l := ⟨fun z => z.elim (fun e => absurd e.symm h) id, .inr⟩
      simp [this]
theorem flat_ints : ∀ (l : List Int), (l.map V.int).all flatV = true
  | [] => rfl
  | _ :: l => flat_ints l
end K37
/-! ## Lc -/
namespace K37
open PySem PySem.Spec PyProof.Rows L2 RZ
/-- J gives the items of l, one by one, while what H1 tells stands; ι tells how an item stands -/
structure Walks {α : Type} (J : It) (H1 : Hp) (l : List α) (ι : α → V → Hp → Prop) : Prop where
  go : ∀ i H', Same H1 H' → i < l.length → J.go i H'
  stop : ∀ i H', Same H1 H' → l.length ≤ i → J.stop i H'
  yld : ∀ i H' x H'', Same H1 H' → J.yld i H' x H'' → i < l.length → Same H' H'' ∧ ∃ a, l[i]? = some a ∧ ι a x H''
/-- an item is its value -/
abbrev Is {α : Type} (ι : α → V) : α → V → Hp → Prop := fun a x _ => x = ι a
section
variable {α β γ : Type} {K : PySem.W.Frag} {H1 : Hp} {l : List α} {ι : α → V}
theorem get_map {l : List α} {ι : α → V} {i : Nat} {x : V} (h : (l.map ι)[i]? = some x) : ∃ a, l[i]? = some a ∧ x = ι a := by
  rw [List.getElem?_map] at h
  cases e : l[i]? with
  | none =>
    rw [e] at h
    cases h
  | some a =>
    rw [e] at h
    exact ⟨a, rfl, (Option.some.inj h).symm⟩
theorem map_get {l : List α} {ι : α → V} {i : Nat} (h : i < l.length) : (l.map ι)[i]? = some (ι l[i]) := by
  rw [List.getElem?_map, List.getElem?_eq_getElem h]
  rfl
theorem walks_list {a : Addr} (h : SqL K H1 a (l.map ι)) : Walks (Itl K a) H1 l (Is ι) where
  go := fun i H' s hi => ⟨_, ι l[i], s.seq h, map_get hi⟩
  stop := fun i H' s hi => ⟨_, s.seq h, by rw [List.length_map]; exact hi⟩
  yld := fun i H' x H'' s y hi => by
    obtain ⟨rfl, y⟩ := y
    exact ⟨Same.refl _, l[i], List.getElem?_eq_getElem hi, (Option.some.inj ((y _ (s.seq h)).symm.trans (map_get hi)))⟩
theorem walks_tup {a : Addr} (h : SqT K H1 a (l.map ι)) : Walks (Itt K a) H1 l (Is ι) where
  go := fun i H' s hi => ⟨_, ι l[i], same_T s h, map_get hi⟩
  stop := fun i H' s hi => ⟨_, same_T s h, by rw [List.length_map]; exact hi⟩
  yld := fun i H' x H'' s y hi => by
    obtain ⟨rfl, y⟩ := y
    exact ⟨Same.refl _, l[i], List.getElem?_eq_getElem hi, (Option.some.inj ((y _ (same_T s h)).symm.trans (map_get hi)))⟩
theorem walks_dict {d : Addr} {o : Obj} {kvs : List (Key × V)} {js : List Int} (h : H1 d = some (.frz o (.dK kvs))) (hk : kvs.map (·.1) = js.map Sum.inl) : Walks (Itk d o kvs) H1 js (Is V.int) where
  go := fun i H' s hi => ⟨s _ _ h, by
    have := congrArg List.length hk
    simp at this
    omega⟩
  stop := fun i H' s hi => ⟨s _ _ h, by
    have := congrArg List.length hk
    simp at this
    omega⟩
  yld := fun i H' x H'' s y hi => by
    obtain ⟨rfl, k, v, hv, rfl⟩ := y
    have e2 : (kvs.map (·.1))[i]? = some k := by
      rw [List.getElem?_map, hv]
      rfl
    rw [hk, List.getElem?_map, List.getElem?_eq_getElem hi] at e2
    cases e2
    exact ⟨Same.refl _, js[i], List.getElem?_eq_getElem hi, rfl⟩
/-- a range's items -/
def ins (lo : Int) (n : Nat) : List Int := (List.range n).map fun (k : Nat) => lo + (k : Int)
theorem ins_len (lo : Int) (n : Nat) : (ins lo n).length = n := by simp [ins]
theorem ins_get {lo : Int} {n i : Nat} (h : i < n) : (ins lo n)[i]? = some (lo + i) := by
  unfold ins
  rw [List.getElem?_map, List.getElem?_range h]
  rfl
theorem walks_range {lo : Int} {n : Nat} : Walks (Itr lo n) H1 (ins lo n) (Is V.int) where
  go := fun i H' s hi => by rw [ins_len] at hi; exact hi
  stop := fun i H' s hi => by rw [ins_len] at hi; exact hi
  yld := fun i H' x H'' s y hi => by
    obtain ⟨rfl, rfl⟩ := y
    rw [ins_len] at hi
    exact ⟨Same.refl _, lo + i, ins_get hi, rfl⟩
/-- the pairs of a zip -/
def IsPr (ι : α → V) (κ : β → V) : α × β → V → Hp → Prop := fun p x H => ∃ T, x = .ref T ∧ H T = some (.tup [ι p.1, κ p.2])
theorem walks_zipT {b : Addr} {a : Addr} {m : List β} {κ : β → V} (ha : SqT K H1 a (l.map ι)) (hb : SqT K H1 b (m.map κ)) : Walks (ItzT K a b) H1 (l.zip m) (IsPr ι κ) where
  go := fun i H' s hi => by
    rw [List.length_zip] at hi
    have h1 : i < l.length := by omega
    have h2 : i < m.length := by omega
    exact ⟨_, _, _, _, same_T s ha, same_T s hb, map_get h1, map_get h2⟩
  stop := fun i H' s hi => by
    rw [List.length_zip] at hi
    refine ⟨_, _, same_T s ha, same_T s hb, ?_⟩
    rw [List.length_map, List.length_map]
    omega
  yld := fun i H' x H'' s y hi => by
    rw [List.length_zip] at hi
    have h1 : i < l.length := by omega
    have h2 : i < m.length := by omega
    obtain ⟨T, u, v, rfl, nT, rfl, f1, f2⟩ := y
    refine ⟨same_put (Same.refl _) nT, (l[i], m[i]), ?_, T, rfl, ?_⟩
    · rw [List.getElem?_zip_eq_some]
      exact ⟨List.getElem?_eq_getElem h1, List.getElem?_eq_getElem h2⟩
    · have e1 := Option.some.inj ((f1 _ (same_T s ha)).symm.trans (map_get h1))
      have e2 := Option.some.inj ((f2 _ (same_T s hb)).symm.trans (map_get h2))
      rw [e1, e2]
      exact upd_same
theorem lcW {J : It} {g : TG} {tt : TT} {te : TE} {vs : List Nat} {σ : L2.St} {D : Addr} {Qd : Hp → Prop} {ρ : α → V → Hp → Prop} (wk : Walks J H1 l ρ) (hD : H1 D = none) (hz : l.length ≤ 100000) (kp : α → Bool) (f : α → β) (κ : β → V)
    (hb : ∀ (a : α) (x : V) (H' : Hp) (kY : V → Hp → Prop) (kN : Hp → Prop), a ∈ l → Same H1 H' → ρ a x H' → (kp a = true → ∀ H4, Same H' H4 → kY (κ (f a)) H4) → (kp a = false → ∀ H3, Same H' H3 → kN H3) →
      g x (wipe σ vs) H' fun σ2 H2 => wipe σ2 vs = wipe σ vs ∧ tt σ2 H2 fun b H3 => if b = true then te σ2 H3 kY else kN H3)
    (hd : ∀ H', Same H1 H' → H' D = some (.lst (((l.filter kp).map f).map κ)) → Qd H') :
    ∃ W : Nat → Nat → Hp → Prop, (∃ m, W 0 m (upd H1 D (.lst []))) ∧ ∀ i m H, W i m H →
      (J.stop i H ∧ Qd H) ∨ (J.go i H ∧ ∃ Nx : Hp → Prop, (∀ H', Nx H' → ∃ m', m' < m ∧ W (i + 1) m' H') ∧ ∀ x H', J.yld i H x H' → g x (wipe σ vs) H' fun σ2 H2 => wipe σ2 vs = wipe σ vs ∧ tt σ2 H2 fun b H3 =>
        if b = true then te σ2 H3 fun y H4 => ∃ acc, H4 D = some (.lst acc) ∧ acc.length < sizeLine ∧ Nx (upd H4 D (.lst (acc ++ [y]))) else Nx H3) := by
  let Pv : Nat → Hp → Prop := fun i H => Same H1 H ∧ H D = some (.lst ((((l.take i).filter kp).map f).map κ))
  refine ⟨fun i m H => m = l.length - i ∧ i ≤ l.length ∧ Pv i H, ⟨l.length, by simp, Nat.zero_le _, same_put (Same.refl _) hD, upd_same⟩, ?_⟩
  rintro i m H ⟨rfl, hi, sm, hl⟩
  by_cases hlt : i < l.length
  · refine .inr ⟨wk.go i H sm hlt, Pv (i + 1), fun H' p' => ⟨l.length - (i + 1), by omega, rfl, hlt, p'⟩, fun x H' y => ?_⟩
    obtain ⟨s0, a, ha, hx⟩ := wk.yld i H x H' sm y hlt
    have ht : l.take (i + 1) = l.take i ++ [a] := by rw [List.take_add_one, ha]; rfl
    refine hb a x H' _ _ (List.mem_of_getElem? ha) (sm.trans s0) hx (fun hk H4 s4 => ?_) (fun hk H3 s3 => ?_)
    · refine ⟨_, s4 _ _ (s0 _ _ hl), ?_, ?_, ?_⟩
      · rw [List.length_map, List.length_map]
        refine small20 (Nat.le_trans (List.length_filter_le _ _) ?_)
        rw [List.length_take]
        omega
      · exact same_put ((sm.trans s0).trans s4) hD
      · rw [upd_same, ht, List.filter_append, List.map_append, List.map_append, List.filter_cons_of_pos (by simpa using hk)]
        rfl
    · refine ⟨(sm.trans s0).trans s3, ?_⟩
      rw [s3 _ _ (s0 _ _ hl), ht, List.filter_append, List.filter_cons_of_neg (by simp [hk])]
      simp
  · have e : i = l.length := by omega
    subst e
    rw [List.take_length] at hl
    exact .inl ⟨wk.stop _ H sm (Nat.le_refl _), hd H sm hl⟩
theorem filter_all (l : List α) : l.filter (fun _ => true) = l := by simp
/-- no test -/
theorem yesI {σ : L2.St} {H : Hp} {A B : Hp → Prop} (h : A H) : tYes σ H fun b H3 => if b = true then A H3 else B H3 := by
  show if true = true then A H else B H
  exact iteT h
/-- the tests' results, read off -/
theorem map_bl (l : List α) (p : α → Bool) : (l.map p).map V.bl = l.map fun a => V.bl (p a) := by
  rw [List.map_map]
  rfl
theorem all_id (l : List α) (p : α → Bool) : (l.map p).all id = l.all p := by
  rw [List.all_map]
  rfl
theorem any_id (l : List α) (p : α → Bool) : (l.map p).any id = l.any p := by
  rw [List.any_map]
  rfl
end
/-! ### the layer's rules, K told (a comprehension's body needs it so) -/
section
variable {X : Cx} (K : PySem.W.Frag)
theorem ixT (h : X.K = K := by rfl) : IxR X (rIxT K) := by subst h; exact ix_tup
theorem ixL (h : X.K = K := by rfl) : IxR X (rIxL K) := by subst h; exact ix_list
theorem inK (h : X.K = K := by rfl) : OpR X (compareOp .In) (rIn K false) := by subst h; exact op_in_seq
theorem ninK (h : X.K = K := by rfl) : OpR X (compareOp .NotIn) (rIn K true) := by subst h; exact op_notIn_seq
theorem allK (hc : X.calm = true) (h : X.K = K := by rfl) : CallR X (.builtin "all") (rAll K) := by subst h; exact cr_all hc
theorem anyK (hc : X.calm = true) (h : X.K = K := by rfl) : CallR X (.builtin "any") (rAny K) := by subst h; exact cr_any hc
theorem pilK {tg l : Expr} {tl : TE} (hl : PE X l tl) (h : X.K = K := by rfl) : PI X tg l (iList K tl) := by subst h; exact pi_list hl
theorem pitK {tg l : Expr} {tl : TE} (hl : PE X l tl) (h : X.K = K := by rfl) : PI X tg l (iTup K tl) := by subst h; exact pi_tup hl
theorem isiK (h : X.K = K := by rfl) : CallR X (.builtin "isinstance") (rIsi K) := by subst h; exact call_isi
end
/-! ### t[1:] of a tuple -/
theorem cut1T (xs : List V) : cutV xs (some 1) none = xs.drop 1 := by
  unfold cutV
  rw [show HT.sIx xs.length 0 (some 1) = min 1 xs.length from HT.sIx_nat xs.length 0 1, HT.sIx_none]
  cases xs with
  | nil => rfl
  | cons x r =>
    rw [show min 1 (x :: r).length = 1 by
      rw [List.length_cons]
      omega]
    show (List.take ((x :: r).length - 1) r) = r
    rw [List.length_cons, Nat.add_sub_cancel]
    exact List.take_length
theorem slA1 {K : PySem.W.Frag} {a : Addr} {xs : List V} {H : Hp} {Q : VK} (h : SqT K H a xs) (q : ∀ p H', Same H H' → SqT K H' p (xs.drop 1) → Q (.ref p) H') : rSlA K (.ref a) (some 1) none H Q := by
  refine ⟨a, xs, rfl, h, fun hw => ?_, fun _ p np => ?_⟩
  · refine q a H (Same.refl _) ?_
    have e : HT.sIx xs.length 0 (some 1) = min 1 xs.length := HT.sIx_nat xs.length 0 1
    rw [e] at hw
    have : xs.length = 0 := by omega
    rw [List.eq_nil_of_length_eq_zero this] at h ⊢
    exact h
  · rw [cut1T]
    exact q p _ (same_put (Same.refl _) np) (.inl (.inl upd_same))
end K37
/-! ## Pl1 -/
/-! plain law, part 1: lists of ints, heights, chains -/
namespace K37
/-! ### ascending lists of ints -/
abbrev Asc (l : List Int) : Prop := l.Pairwise (· < ·)
def rng (n : Int) : List Int := (List.range n.toNat).map fun (k : Nat) => (k : Int)
theorem mem_rng {n x : Int} : x ∈ rng n ↔ 0 ≤ x ∧ x < n := by
  unfold rng
  rw [List.mem_map]
  constructor
  · rintro ⟨k, hk, rfl⟩
    rw [List.mem_range] at hk
    omega
  · rintro ⟨h1, h2⟩
    exact ⟨x.toNat, List.mem_range.mpr (by omega), by omega⟩
theorem asc_rng (n : Int) : Asc (rng n) := by
  unfold rng Asc
  rw [List.pairwise_map]
  exact List.Pairwise.imp (fun h => by omega) List.pairwise_lt_range
theorem rng_len (n : Int) : (rng n).length = n.toNat := by simp [rng]
theorem rng_get {n : Int} {k : Nat} (h : k < n.toNat) : (rng n)[k]? = some (k : Int) := by
  unfold rng
  rw [List.getElem?_map, List.getElem?_range h]
  rfl
theorem asc_ext : ∀ {a b : List Int}, Asc a → Asc b → (∀ x, x ∈ a ↔ x ∈ b) → a = b
  | [], [], _, _, _ => rfl
  | [], y :: b, _, _, h => absurd ((h y).mpr List.mem_cons_self) (by simp)
  | x :: a, [], _, _, h => absurd ((h x).mp List.mem_cons_self) (by simp)
  | x :: a, y :: b, ha, hb, h => by
    have ha1 := List.pairwise_cons.mp ha
    have hb1 := List.pairwise_cons.mp hb
    have e : x = y := by
      rcases List.mem_cons.mp ((h x).mp List.mem_cons_self) with e | e
      · exact e
      · rcases List.mem_cons.mp ((h y).mpr List.mem_cons_self) with e2 | e2
        · exact e2.symm
        · have := hb1.1 x e
          have := ha1.1 y e2
          omega
    subst e
    rw [asc_ext ha1.2 hb1.2 fun z => ?_]
    constructor
    · intro hz
      rcases List.mem_cons.mp ((h z).mp (List.mem_cons_of_mem _ hz)) with e | e
      · have := ha1.1 z hz
        omega
      · exact e
    · intro hz
      rcases List.mem_cons.mp ((h z).mpr (List.mem_cons_of_mem _ hz)) with e | e
      · have := hb1.1 z hz
        omega
      · exact e
theorem asc_nodup {l : List Int} (h : Asc l) : l.Nodup := List.Pairwise.imp (fun {a b} (h : a < b) => Int.ne_of_lt h) h
theorem asc_filter {l : List Int} (p : Int → Bool) (h : Asc l) : Asc (l.filter p) := List.Pairwise.sublist List.filter_sublist h
/-- an ascending list within 0 .. n-1 has at most n items -/
theorem asc_len : ∀ (l : List Int) (lo n : Int), Asc l → (∀ x ∈ l, lo ≤ x ∧ x < n) → l.length ≤ (n - lo).toNat
  | [], _, _, _, _ => Nat.zero_le _
  | x :: l, lo, n, h, hb => by
    have h1 := List.pairwise_cons.mp h
    have hx := hb x List.mem_cons_self
    have := asc_len l (x + 1) n h1.2 fun y hy => ⟨by have := h1.1 y hy; omega, (hb y (List.mem_cons_of_mem _ hy)).2⟩
    rw [List.length_cons]
    omega
theorem desc_len : ∀ (l : List Int) (n : Int), l.Pairwise (fun x y => y < x) → (∀ x ∈ l, 0 ≤ x ∧ x < n) → l.length ≤ n.toNat
  | [], _, _, _ => Nat.zero_le _
  | x :: l, n, h, hb => by
    have h1 := List.pairwise_cons.mp h
    have hx := hb x List.mem_cons_self
    have := desc_len l x h1.2 fun y hy => ⟨(hb y (List.mem_cons_of_mem _ hy)).1, h1.1 y hy⟩
    rw [List.length_cons]
    omega
/-! ### the greatest of a list, at least 0 -/
def mx : List Int → Int
  | [] => 0
  | x :: l => max x (mx l)
theorem mx_nn : ∀ l, 0 ≤ mx l
  | [] => Int.le_refl 0
  | x :: l => by
    have := mx_nn l
    show 0 ≤ max x (mx l)
    omega
theorem le_mx : ∀ {l : List Int} {x : Int}, x ∈ l → x ≤ mx l
  | y :: l, x, h => by
    show x ≤ max y (mx l)
    rcases List.mem_cons.mp h with e | e
    · omega
    · have := le_mx e
      omega
theorem mx_le : ∀ {l : List Int} {m : Int}, 0 ≤ m → (∀ x ∈ l, x ≤ m) → mx l ≤ m
  | [], m, h, _ => h
  | y :: l, m, h, hb => by
    have h1 := hb y List.mem_cons_self
    have h2 := mx_le (l := l) h fun x hx => hb x (List.mem_cons_of_mem _ hx)
    show max y (mx l) ≤ m
    omega
theorem mx_mem : ∀ (l : List Int), mx l = 0 ∨ mx l ∈ l
  | [] => .inl rfl
  | y :: l => by
    have e : mx (y :: l) = max y (mx l) := rfl
    have h0 := mx_nn l
    by_cases h : mx l ≤ y
    · right
      rw [e, show max y (mx l) = y by omega]
      exact List.mem_cons_self
    · rw [e, show max y (mx l) = mx l by omega]
      rcases mx_mem l with h | h
      · exact .inl h
      · exact .inr (List.mem_cons_of_mem _ h)
/-- the greatest of [0] + l -/
theorem mx_of {l : List Int} {m : Int} (h1 : m ∈ (0 : Int) :: l) (h2 : ∀ x ∈ (0 : Int) :: l, x ≤ m) : m = mx l := by
  have a : mx l ≤ m := mx_le (h2 0 List.mem_cons_self) fun x hx => h2 x (List.mem_cons_of_mem _ hx)
  have b : m ≤ mx l := by
    rcases List.mem_cons.mp h1 with e | e
    · rw [e]
      exact mx_nn l
    · exact le_mx e
  omega
/-! ### heights -/
abbrev Rl := Int → Int → Bool
structure Rel (n : Int) (R : Rl) : Prop where
  bd : ∀ {y x}, R y x = true → 0 ≤ y ∧ y < x ∧ x < n
  tr : ∀ {z y x}, R z y = true → R y x = true → R z x = true
def htF (R : Rl) (lot : List Int) : Nat → Int → Int
  | 0, _ => 0
  | k + 1, x => 1 + mx ((lot.filter fun y => R y x).map (htF R lot k))
def ht (R : Rl) (lot : List Int) (x : Int) : Int := htF R lot (x.toNat + 1) x
def hgt (R : Rl) (lot : List Int) : Int := mx (lot.map (ht R lot))
section
variable {n : Int} {R : Rl} {lot : List Int}
theorem htF_eq (r : Rel n R) : ∀ (k j : Nat) (x : Int), 0 ≤ x → x.toNat < k → x.toNat < j → htF R lot k x = htF R lot j x
  | 0, _, _, _, h, _ => absurd h (Nat.not_lt_zero _)
  | _ + 1, 0, _, _, _, h => absurd h (Nat.not_lt_zero _)
  | k + 1, j + 1, x, hx, h1, h2 => by
    show 1 + mx _ = 1 + mx _
    congr 2
    refine List.map_congr_left fun y hy => ?_
    obtain ⟨b1, b2, b3⟩ := r.bd (List.mem_filter.mp hy).2
    exact htF_eq r k j y b1 (by omega) (by omega)
theorem ht_rec (r : Rel n R) {x : Int} (hx : 0 ≤ x) : ht R lot x = 1 + mx ((lot.filter fun y => R y x).map (ht R lot)) := by
  show 1 + mx _ = 1 + mx _
  congr 2
  refine List.map_congr_left fun y hy => ?_
  obtain ⟨b1, b2, b3⟩ := r.bd (List.mem_filter.mp hy).2
  exact htF_eq r _ _ y b1 (by omega) (by omega)
theorem ht_pos (r : Rel n R) {x : Int} (hx : 0 ≤ x) : 1 ≤ ht R lot x := by
  rw [ht_rec r hx]
  have := mx_nn ((lot.filter fun y => R y x).map (ht R lot))
  omega
theorem ht_lt (r : Rel n R) {x y : Int} (hx : 0 ≤ x) (hy : y ∈ lot) (h : R y x = true) : ht R lot y < ht R lot x := by
  rw [ht_rec r hx]
  have hm : y ∈ lot.filter fun y => R y x := List.mem_filter.mpr ⟨hy, h⟩
  have := le_mx (List.mem_map_of_mem (f := ht R lot) hm)
  omega
/-- one below at each height -/
theorem ht_below (r : Rel n R) {x : Int} (hx : 0 ≤ x) (h : 1 < ht R lot x) : ∃ y ∈ lot, R y x = true ∧ ht R lot y = ht R lot x - 1 := by
  rw [ht_rec r hx] at h ⊢
  rcases mx_mem ((lot.filter fun y => R y x).map (ht R lot)) with e | e
  · omega
  · obtain ⟨y, hy, ey⟩ := List.mem_map.mp e
    obtain ⟨h1, h2⟩ := List.mem_filter.mp hy
    exact ⟨y, h1, h2, by omega⟩
/-- a chain, from above -/
structure Ch (R : Rl) (X : List Int) (c : List Int) : Prop where
  pw : c.Pairwise fun x y => R y x = true
  mem : ∀ e ∈ c, e ∈ X
theorem Ch.tail {x : Int} {c : List Int} (h : Ch R lot (x :: c)) : Ch R lot c := ⟨(List.pairwise_cons.mp h.pw).2, fun e he => h.mem e (List.mem_cons_of_mem _ he)⟩
theorem ht_ge (r : Rel n R) (hl : ∀ x ∈ lot, 0 ≤ x) : ∀ (c : List Int) (x : Int), Ch R lot (x :: c) → ((c.length + 1 : Nat) : Int) ≤ ht R lot x
  | [], x, h => by
    have := ht_pos (lot := lot) r (hl x (h.mem x List.mem_cons_self))
    simp
    omega
  | y :: c, x, h => by
    have ih := ht_ge r hl c y h.tail
    have hy : R y x = true := (List.pairwise_cons.mp h.pw).1 y List.mem_cons_self
    have := ht_lt r (hl x (h.mem x List.mem_cons_self)) (h.tail.mem y List.mem_cons_self) hy
    rw [List.length_cons]
    omega
theorem hgt_ge (r : Rel n R) (hl : ∀ x ∈ lot, 0 ≤ x) {c : List Int} (h : Ch R lot c) : (c.length : Int) ≤ hgt R lot := by
  cases c with
  | nil => exact mx_nn _
  | cons x c =>
    have h1 := ht_ge r hl c x h
    have h2 := le_mx (List.mem_map_of_mem (f := ht R lot) (h.mem x List.mem_cons_self))
    rw [List.length_cons]
    show _ ≤ mx _
    omega
theorem ht_ex (r : Rel n R) : ∀ (k : Nat) (x : Int), 0 ≤ x → (∀ y ∈ lot, 0 ≤ y) → x ∈ lot → ht R lot x = (k + 1 : Nat) → ∃ c, Ch R lot (x :: c) ∧ c.length = k
  | 0, x, hx, _, hm, e => ⟨[], ⟨List.pairwise_singleton _ _, fun e he => by rw [List.mem_singleton.mp he]; exact hm⟩, rfl⟩
  | k + 1, x, hx, hl, hm, e => by
    obtain ⟨y, hy, hr, ey⟩ := ht_below (lot := lot) r hx (by omega)
    obtain ⟨c, hc, ec⟩ := ht_ex r k y (hl y hy) hl hy (by omega)
    refine ⟨y :: c, ⟨List.pairwise_cons.mpr ⟨fun z hz => ?_, hc.pw⟩, fun z hz => ?_⟩, by rw [List.length_cons, ec]⟩
    · rcases List.mem_cons.mp hz with e | e
      · rw [e]
        exact hr
      · exact r.tr ((List.pairwise_cons.mp hc.pw).1 z e) hr
    · rcases List.mem_cons.mp hz with e | e
      · rw [e]
        exact hm
      · exact hc.mem z e
theorem hgt_ex (r : Rel n R) (hl : ∀ x ∈ lot, 0 ≤ x) : ∃ c, Ch R lot c ∧ (c.length : Int) = hgt R lot := by
  rcases mx_mem (lot.map (ht R lot)) with e | e
  · exact ⟨[], ⟨List.Pairwise.nil, fun _ h => by cases h⟩, by unfold hgt; rw [e]; rfl⟩
  · obtain ⟨x, hx, ex⟩ := List.mem_map.mp e
    have h1 := ht_pos (lot := lot) r (hl x hx)
    obtain ⟨c, hc, ec⟩ := ht_ex (lot := lot) r ((ht R lot x).toNat - 1) x (hl x hx) hl hx (by omega)
    refine ⟨x :: c, hc, ?_⟩
    rw [List.length_cons, ec]
    unfold hgt
    rw [← ex]
    omega
theorem hgt_nn : 0 ≤ hgt R lot := mx_nn _
/-- the bound by chains -/
theorem hgt_le (r : Rel n R) (hl : ∀ x ∈ lot, 0 ≤ x) {m : Int} (h : ∀ c, Ch R lot c → (c.length : Int) ≤ m) : hgt R lot ≤ m := by
  obtain ⟨c, hc, e⟩ := hgt_ex (lot := lot) r hl
  rw [← e]
  exact h c hc
theorem hgt_le_n (r : Rel n R) (hl : ∀ x ∈ lot, 0 ≤ x ∧ x < n) (hn : 0 ≤ n) : hgt R lot ≤ n := by
  refine hgt_le r (fun x hx => (hl x hx).1) fun c hc => ?_
  have := desc_len c n (List.Pairwise.imp (fun h => (r.bd h).2.1) hc.pw) fun x hx => hl x (hc.mem x hx)
  omega
end
end K37
/-! ## Pl2 -/
/-! plain law, part 2: lower sets, rounds, the distance -/
namespace K37
structure Low (n : Int) (R : Rl) (S : List Int) : Prop where
  asc : Asc S
  bd : ∀ x ∈ S, 0 ≤ x ∧ x < n
  dn : ∀ x ∈ S, ∀ y, R y x = true → y ∈ S
/-- may be put onto, or taken from, the lower set S -/
def Free (n : Int) (R : Rl) (S : List Int) (i : Int) : Prop := 0 ≤ i ∧ i < n ∧ ((i ∉ S ∧ ∀ y, R y i = true → y ∈ S) ∨ (i ∈ S ∧ ∀ z ∈ S, R i z = false))
def Loose (R : Rl) (A : List Int) : Prop := ∀ x ∈ A, ∀ y ∈ A, R x y = false
structure Chg (S A T : List Int) : Prop where
  asc : Asc T
  mem : ∀ x, x ∈ T ↔ (x ∈ S ∧ x ∉ A) ∨ (x ∈ A ∧ x ∉ S)
structure Rnd (n : Int) (R : Rl) (S A : List Int) : Prop where
  asc : Asc A
  ne : A ≠ []
  free : ∀ x ∈ A, Free n R S x
  loose : Loose R A
def dif (S T : List Int) : List Int := S.filter fun x => decide (x ∉ T)
theorem mem_dif {S T : List Int} {x : Int} : x ∈ dif S T ↔ x ∈ S ∧ x ∉ T := by
  unfold dif
  rw [List.mem_filter, decide_eq_true_eq]
def dst (R : Rl) (S T : List Int) : Int := max (hgt R (dif S T)) (hgt R (dif T S))
section
variable {n : Int} {R : Rl} {S T U A : List Int}
theorem dst_nn : 0 ≤ dst R S T := by
  have := hgt_nn (R := R) (lot := dif S T)
  show 0 ≤ max _ _
  omega
/-- F1 -/
theorem chg_low (r : Rel n R) (hS : Low n R S) (hA : ∀ x ∈ A, Free n R S x) (hl : Loose R A) (c : Chg S A T) : Low n R T := by
  refine ⟨c.asc, fun x hx => ?_, fun x hx y hy => ?_⟩
  · rcases (c.mem x).mp hx with ⟨h, _⟩ | ⟨h, _⟩
    · exact hS.bd x h
    · exact ⟨(hA x h).1, (hA x h).2.1⟩
  · rcases (c.mem x).mp hx with ⟨h1, h2⟩ | ⟨h1, h2⟩
    · have hyS := hS.dn x h1 y hy
      refine (c.mem y).mpr (.inl ⟨hyS, fun hyA => ?_⟩)
      rcases (hA y hyA).2.2 with ⟨z, _⟩ | ⟨_, z⟩
      · exact z hyS
      · have := z x h1
        rw [hy] at this
        cases this
    · rcases (hA x h1).2.2 with ⟨_, z⟩ | ⟨z, _⟩
      · refine (c.mem y).mpr (.inl ⟨z y hy, fun hyA => ?_⟩)
        have := hl y hyA x h1
        rw [hy] at this
        cases this
      · exact absurd z h2
/-- a chain in X but for a loose lot is one shorter at most -/
theorem hgt_but {X Y : List Int} (r : Rel n R) (hX : ∀ x ∈ X, 0 ≤ x) (hY : ∀ x ∈ Y, 0 ≤ x) (hl : Loose R A) (h : ∀ x ∈ Y, x ∈ X ∨ x ∈ A) : hgt R Y ≤ hgt R X + 1 := by
  refine hgt_le r hY fun c hc => ?_
  have h1 : Ch R X (c.filter fun x => decide (x ∉ A)) := by
    refine ⟨List.Pairwise.sublist List.filter_sublist hc.pw, fun e he => ?_⟩
    obtain ⟨e1, e2⟩ := List.mem_filter.mp he
    rcases h e (hc.mem e e1) with z | z
    · exact z
    · exact absurd z (of_decide_eq_true e2)
  have h2 : (c.filter fun x => decide (x ∈ A)).length ≤ 1 := by
    have pw : (c.filter fun x => decide (x ∈ A)).Pairwise fun x y => R y x = true := List.Pairwise.sublist List.filter_sublist hc.pw
    have mm : ∀ x ∈ c.filter fun x => decide (x ∈ A), x ∈ A := fun x hx => of_decide_eq_true (List.mem_filter.mp hx).2
    generalize (c.filter fun x => decide (x ∈ A)) = l at pw mm
    match l, pw, mm with
    | [], _, _ => exact Nat.zero_le _
    | [_], _, _ => exact Nat.le_refl _
    | a :: b :: l, pw, mm =>
      have q := (List.pairwise_cons.mp pw).1 b List.mem_cons_self
      have q2 := hl b (mm b (by simp)) a (mm a (by simp))
      rw [q] at q2
      cases q2
  have h3 := hgt_ge r hX h1
  have h4 : c.length = (c.filter fun x => decide (x ∈ A)).length + (c.filter fun x => decide (x ∉ A)).length := by
    clear h1 h2 h3 hc h
    induction c with
    | nil => rfl
    | cons x c ih =>
      by_cases hx : x ∈ A
      · rw [List.filter_cons_of_pos (by simpa using hx), List.filter_cons_of_neg (by simpa using hx), List.length_cons, List.length_cons, ih]
        omega
      · rw [List.filter_cons_of_neg (by simpa using hx), List.filter_cons_of_pos (by simpa using hx), List.length_cons, List.length_cons, ih]
        omega
  omega
theorem dif_nn (hS : Low n R S) : ∀ x ∈ dif S T, 0 ≤ x := fun x hx => (hS.bd x (mem_dif.mp hx).1).1
/-- F2 -/
theorem dst_step (r : Rel n R) (hS : Low n R S) (hT : Low n R T) (hU : Low n R U) (hl : Loose R A) (c : Chg T A U) : dst R S U ≤ dst R S T + 1 := by
  have a : hgt R (dif S U) ≤ hgt R (dif S T) + 1 := hgt_but r (dif_nn hS) (dif_nn hS) hl fun x hx => by
    obtain ⟨h1, h2⟩ := mem_dif.mp hx
    by_cases hA : x ∈ A
    · exact .inr hA
    · exact .inl (mem_dif.mpr ⟨h1, fun hxT => h2 ((c.mem x).mpr (.inl ⟨hxT, hA⟩))⟩)
  have b : hgt R (dif U S) ≤ hgt R (dif T S) + 1 := hgt_but r (dif_nn hT) (dif_nn hU) hl fun x hx => by
    obtain ⟨h1, h2⟩ := mem_dif.mp hx
    rcases (c.mem x).mp h1 with ⟨z, _⟩ | ⟨z, _⟩
    · exact .inl (mem_dif.mpr ⟨z, h2⟩)
    · exact .inr z
  show max _ _ ≤ max _ _ + 1
  omega
/-- F4 -/
theorem rnd_back (hA : Rnd n R S A) (c : Chg S A T) (hS : Low n R S) : Rnd n R T A ∧ (Asc S → Chg T A S) := by
  refine ⟨⟨hA.asc, hA.ne, fun x hx => ?_, hA.loose⟩, fun hs => ⟨hs, fun x => ?_⟩⟩
  · obtain ⟨b1, b2, h⟩ := hA.free x hx
    refine ⟨b1, b2, ?_⟩
    rcases h with ⟨h1, h2⟩ | ⟨h1, h2⟩
    · right
      refine ⟨(c.mem x).mpr (.inr ⟨hx, h1⟩), fun z hz => ?_⟩
      cases e : R x z with
      | false => rfl
      | true =>
        rcases (c.mem z).mp hz with ⟨z1, z2⟩ | ⟨z1, z2⟩
        · exact absurd (hS.dn z z1 x e) h1
        · rw [← e]
          exact hA.loose x hx z z1
    · left
      refine ⟨fun hT => ?_, fun y hy => (c.mem y).mpr (.inl ⟨hS.dn x h1 y hy, fun hyA => ?_⟩)⟩
      · rcases (c.mem x).mp hT with ⟨_, z⟩ | ⟨_, z⟩
        · exact z hx
        · exact z h1
      · have := hA.loose y hyA x hx
        rw [hy] at this
        cases this
  · by_cases h1 : x ∈ S <;> by_cases h2 : x ∈ A <;> simp [c.mem x, h1, h2]
theorem dst_zero (r : Rel n R) (hS : Low n R S) (hT : Low n R T) : dst R S T ≤ 0 ↔ T = S := by
  constructor
  · intro h
    refine asc_ext hT.asc hS.asc fun x => ?_
    have sing : ∀ {X Y : List Int}, (∀ x ∈ X, 0 ≤ x) → hgt R (dif X Y) ≤ 0 → ∀ x ∈ X, x ∈ Y := fun {X Y} hX h x hx => by
      by_cases hy : x ∈ Y
      · exact hy
      · have := hgt_ge (lot := dif X Y) r (fun z hz => hX z (mem_dif.mp hz).1) (c := [x]) ⟨List.pairwise_singleton _ _, fun e he => by
          rw [List.mem_singleton.mp he]
          exact mem_dif.mpr ⟨hx, hy⟩⟩
        simp at this
        omega
    have hh : max (hgt R (dif S T)) (hgt R (dif T S)) ≤ 0 := h
    exact ⟨sing (fun z hz => (hT.bd z hz).1) (by omega) x, sing (fun z hz => (hS.bd z hz).1) (by omega) x⟩
  · rintro rfl
    have e : dif T T = [] := by
      rw [List.eq_nil_iff_forall_not_mem]
      intro x hx
      exact (mem_dif.mp hx).2 (mem_dif.mp hx).1
    unfold dst
    rw [e]
    show max (0 : Int) 0 ≤ 0
    decide
/-- F3: from T one round towards S -/
theorem dst_down (r : Rel n R) (hS : Low n R S) (hT : Low n R T) (h : 0 < dst R S T) : ∃ U A, Rnd n R T A ∧ Chg T A U ∧ dst R S U ≤ dst R S T - 1 := by
  let isA : Int → Bool := fun x => (decide (x ∈ S) && decide (x ∉ T) && (dif S T).all fun y => !R y x) || (decide (x ∈ T) && decide (x ∉ S) && (dif T S).all fun z => !R x z)
  have hA : ∀ x, isA x = true ↔ (x ∈ S ∧ x ∉ T ∧ ∀ y ∈ dif S T, R y x = false) ∨ (x ∈ T ∧ x ∉ S ∧ ∀ z ∈ dif T S, R x z = false) := fun x => by
    simp [isA, and_assoc]
  let A := (rng n).filter isA
  have mA : ∀ x, x ∈ A ↔ (x ∈ S ∧ x ∉ T ∧ ∀ y ∈ dif S T, R y x = false) ∨ (x ∈ T ∧ x ∉ S ∧ ∀ z ∈ dif T S, R x z = false) := fun x => by
    show x ∈ (rng n).filter isA ↔ _
    rw [List.mem_filter, hA, mem_rng]
    constructor
    · exact fun h => h.2
    · intro h
      refine ⟨?_, h⟩
      rcases h with h | h
      · exact hS.bd x h.1
      · exact hT.bd x h.1
  let U := (rng n).filter fun x => (decide (x ∈ T) && decide (x ∉ A)) || (decide (x ∈ A) && decide (x ∉ T))
  have cU : Chg T A U := by
    refine ⟨asc_filter _ (asc_rng n), fun x => ?_⟩
    show x ∈ (rng n).filter _ ↔ _
    rw [List.mem_filter, mem_rng]
    simp only [Bool.or_eq_true, Bool.and_eq_true, decide_eq_true_eq]
    constructor
    · exact fun h => h.2
    · intro h
      refine ⟨?_, h⟩
      rcases h with h | h
      · exact hT.bd x h.1
      · exact mem_rng.mp (List.mem_filter.mp h.1).1
  have lA : Loose R A := fun x hx y hy => by
    cases e : R x y with
    | false => rfl
    | true =>
      rcases (mA x).mp hx with ⟨a1, a2, a3⟩ | ⟨a1, a2, a3⟩
      · rcases (mA y).mp hy with ⟨b1, b2, b3⟩ | ⟨b1, b2, b3⟩
        · rw [← e]
          exact b3 x (mem_dif.mpr ⟨a1, a2⟩)
        · exact absurd (hT.dn y b1 x e) a2
      · rcases (mA y).mp hy with ⟨b1, b2, b3⟩ | ⟨b1, b2, b3⟩
        · exact absurd (hS.dn y b1 x e) a2
        · rw [← e]
          exact a3 y (mem_dif.mpr ⟨b1, b2⟩)
  have fA : ∀ x ∈ A, Free n R T x := fun x hx => by
    have hb := mem_rng.mp (List.mem_filter.mp hx).1
    refine ⟨hb.1, hb.2, ?_⟩
    rcases (mA x).mp hx with ⟨a1, a2, a3⟩ | ⟨a1, a2, a3⟩
    · left
      refine ⟨a2, fun y hy => ?_⟩
      by_cases hyT : y ∈ T
      · exact hyT
      · have := a3 y (mem_dif.mpr ⟨hS.dn x a1 y hy, hyT⟩)
        rw [hy] at this
        cases this
    · right
      refine ⟨a1, fun z hz => ?_⟩
      cases e : R x z with
      | false => rfl
      | true =>
        by_cases hzS : z ∈ S
        · exact absurd (hS.dn z hzS x e) a2
        · rw [← e]
          exact a3 z (mem_dif.mpr ⟨hz, hzS⟩)
  have hU : Low n R U := chg_low r hT fA lA cU
  have e1 : ∀ x, x ∈ dif S U ↔ x ∈ dif S T ∧ x ∉ A := fun x => by
    rw [mem_dif, mem_dif, cU.mem x]
    constructor
    · rintro ⟨h1, h2⟩
      have hT' : x ∉ T := fun hxT => by
        by_cases hxA : x ∈ A
        · rcases (mA x).mp hxA with ⟨_, z, _⟩ | ⟨_, z, _⟩
          · exact z hxT
          · exact z h1
        · exact h2 (.inl ⟨hxT, hxA⟩)
      exact ⟨⟨h1, hT'⟩, fun hxA => h2 (.inr ⟨hxA, hT'⟩)⟩
    · rintro ⟨⟨h1, h2⟩, h3⟩
      exact ⟨h1, fun h => h.elim (fun z => h2 z.1) fun z => h3 z.1⟩
  have e2 : ∀ x, x ∈ dif U S ↔ x ∈ dif T S ∧ x ∉ A := fun x => by
    rw [mem_dif, mem_dif, cU.mem x]
    constructor
    · rintro ⟨h1, h2⟩
      rcases h1 with ⟨z1, z2⟩ | ⟨z1, z2⟩
      · exact ⟨⟨z1, h2⟩, z2⟩
      · rcases (mA x).mp z1 with ⟨z, _⟩ | ⟨z, _⟩
        · exact absurd z h2
        · exact absurd z z2
    · rintro ⟨⟨h1, h2⟩, h3⟩
      exact ⟨.inl ⟨h1, h3⟩, h2⟩
  have hh : max (hgt R (dif S T)) (hgt R (dif T S)) = dst R S T := rfl
  -- the least of S \ T are in A
  have d1 : hgt R (dif S U) ≤ dst R S T - 1 := by
    refine hgt_le r (dif_nn hS) fun c hc => ?_
    by_cases hne : c = []
    · subst hne
      simp
      omega
    · have hb := hc.mem _ (List.getLast_mem hne)
      obtain ⟨b1, b2⟩ := (e1 _).mp hb
      obtain ⟨b3, b4⟩ := mem_dif.mp b1
      have : ∃ a ∈ dif S T, R a (c.getLast hne) = true := by
        refine Classical.byContradiction fun hno => b2 ((mA _).mpr (.inl ⟨b3, b4, fun y hy => ?_⟩))
        cases e : R y (c.getLast hne) with
        | false => rfl
        | true => exact absurd ⟨y, hy, e⟩ hno
      obtain ⟨a, ha, hr⟩ := this
      have hch : Ch R (dif S T) (c ++ [a]) := by
        refine ⟨List.pairwise_append.mpr ⟨hc.pw, List.pairwise_singleton _ _, fun x hx y hy => ?_⟩, fun e he => ?_⟩
        · rw [List.mem_singleton.mp hy]
          by_cases hxl : x = c.getLast hne
          · rw [hxl]
            exact hr
          · have hsp := List.dropLast_concat_getLast hne
            have pw := hc.pw
            rw [← hsp] at pw
            have hxd : x ∈ c.dropLast := by
              rw [← hsp, List.mem_append, List.mem_singleton] at hx
              rcases hx with z | z
              · exact z
              · exact absurd z hxl
            exact r.tr hr ((List.pairwise_append.mp pw).2.2 x hxd _ (List.mem_singleton.mpr rfl))
        · rcases List.mem_append.mp he with z | z
          · exact ((e1 _).mp (hc.mem e z)).1
          · rw [List.mem_singleton.mp z]
            exact ha
      have := hgt_ge r (dif_nn hS) hch
      rw [List.length_append] at this
      simp at this
      omega
  have d2 : hgt R (dif U S) ≤ dst R S T - 1 := by
    refine hgt_le r (dif_nn hU) fun c hc => ?_
    cases c with
    | nil =>
      simp
      omega
    | cons b c =>
      have hb := hc.mem b List.mem_cons_self
      obtain ⟨b1, b2⟩ := (e2 _).mp hb
      obtain ⟨b3, b4⟩ := mem_dif.mp b1
      have : ∃ a ∈ dif T S, R b a = true := by
        refine Classical.byContradiction fun hno => b2 ((mA _).mpr (.inr ⟨b3, b4, fun z hz => ?_⟩))
        cases e : R b z with
        | false => rfl
        | true => exact absurd ⟨z, hz, e⟩ hno
      obtain ⟨a, ha, hr⟩ := this
      have hch : Ch R (dif T S) (a :: b :: c) := by
        refine ⟨List.pairwise_cons.mpr ⟨fun x hx => ?_, hc.pw⟩, fun e he => ?_⟩
        · rcases List.mem_cons.mp hx with z | z
          · rw [z]
            exact hr
          · exact r.tr ((List.pairwise_cons.mp hc.pw).1 x z) hr
        · rcases List.mem_cons.mp he with z | z
          · rw [z]
            exact ha
          · exact ((e2 _).mp (hc.mem e z)).1
      have := hgt_ge r (dif_nn hT) hch
      simp at this ⊢
      omega
  have nA : A ≠ [] := fun z => by
    have q1 : hgt R (dif S T) ≤ hgt R (dif S U) := hgt_le r (dif_nn hS) fun c hc => hgt_ge r (dif_nn hS) ⟨hc.pw, fun e he => (e1 e).mpr ⟨hc.mem e he, by rw [z]; simp⟩⟩
    have q2 : hgt R (dif T S) ≤ hgt R (dif U S) := hgt_le r (dif_nn hT) fun c hc => hgt_ge r (dif_nn hU) ⟨hc.pw, fun e he => (e2 e).mpr ⟨hc.mem e he, by rw [z]; simp⟩⟩
    omega
  refine ⟨U, A, ⟨asc_filter _ (asc_rng n), nA, fA, lA⟩, cU, ?_⟩
  show max _ _ ≤ _
  omega
theorem dst_le_n (r : Rel n R) (hn : 0 ≤ n) (hS : Low n R S) (hT : Low n R T) : dst R S T ≤ n := by
  have a := hgt_le_n (lot := dif S T) r (fun x hx => hS.bd x (mem_dif.mp hx).1) hn
  have b := hgt_le_n (lot := dif T S) r (fun x hx => hT.bd x (mem_dif.mp hx).1) hn
  show max _ _ ≤ n
  omega
/-- F3 turned: T lies one round behind a set that is nearer -/
theorem dst_pred (r : Rel n R) (hS : Low n R S) (hT : Low n R T) (h : 0 < dst R S T) : ∃ U A, Low n R U ∧ Rnd n R U A ∧ Chg U A T ∧ dst R S U = dst R S T - 1 := by
  obtain ⟨U, A, hA, c, hd⟩ := dst_down r hS hT h
  have hU := chg_low r hT hA.free hA.loose c
  obtain ⟨hb, hc⟩ := rnd_back hA c hT
  have c' := hc hT.asc
  have := dst_step (S := S) r hS hU hT hA.loose c'
  exact ⟨U, A, hU, hb, c', by omega⟩
/-- no set at distance m: none beyond -/
theorem dst_stop (r : Rel n R) (hS : Low n R S) {m : Int} (hm : 0 < m) (h : ∀ T, Low n R T → dst R S T ≠ m) : ∀ T, Low n R T → dst R S T < m := by
  have : ∀ (k : Nat) T, Low n R T → dst R S T ≠ m + k := by
    intro k
    induction k with
    | zero => intro T hT; simpa using h T hT
    | succ k ih =>
      intro T hT e
      obtain ⟨U, A, hU, _, _, hd⟩ := dst_pred r hS hT (by omega)
      exact ih U hU (by omega)
  intro T hT
  refine Classical.byContradiction fun hno => this (dst R S T - m).toNat T hT (by omega)
end
end K37
/-! ## Pl3 -/
/-! plain law, part 3: the relation of an order; one turn of the walk over all rounds -/
namespace K37
inductive Ah (ps : List (Int × Int)) : Int → Int → Prop
  | one {j i : Int} : (j, i) ∈ ps → Ah ps j i
  | more {j k i : Int} : (k, i) ∈ ps → Ah ps j k → Ah ps j i
def ahF (ps : List (Int × Int)) : Nat → Int → Int → Bool
  | 0, _, _ => false
  | k + 1, j, i => ps.any fun p => decide (p.2 = i) && (decide (p.1 = j) || ahF ps k j p.1)
/-- j stands ahead of i -/
def ah (ps : List (Int × Int)) : Rl := fun j i => ahF ps 21 j i
def PsOk (n : Int) (ps : List (Int × Int)) : Prop := ∀ p ∈ ps, 0 ≤ p.1 ∧ p.1 < p.2 ∧ p.2 < n
section
variable {n : Int} {ps : List (Int × Int)}
theorem Ah.bd (h : PsOk n ps) {j i : Int} (a : Ah ps j i) : 0 ≤ j ∧ j < i ∧ i < n := by
  induction a with
  | one m => exact h _ m
  | more m _ ih =>
    have := h _ m
    simp at this
    omega
theorem Ah.trans {z y x : Int} (a : Ah ps z y) (b : Ah ps y x) : Ah ps z x := by
  induction b with
  | one m => exact .more m a
  | more m _ ih => exact .more m ih
theorem ahF_ah : ∀ (k : Nat) (j i : Int), ahF ps k j i = true → Ah ps j i
  | 0, _, _, h => by cases h
  | k + 1, j, i, h => by
    unfold ahF at h
    rw [List.any_eq_true] at h
    obtain ⟨p, hp, h⟩ := h
    rw [Bool.and_eq_true, Bool.or_eq_true, decide_eq_true_eq, decide_eq_true_eq] at h
    obtain ⟨h1, h2⟩ := h
    subst h1
    rcases h2 with h2 | h2
    · subst h2
      exact .one hp
    · exact .more hp (ahF_ah k _ _ h2)
theorem ah_ahF (h : PsOk n ps) {j i : Int} (a : Ah ps j i) : ∀ (k : Nat), i.toNat < k → ahF ps k j i = true := by
  induction a with
  | @one i m =>
    intro k hk
    match k, hk with
    | k + 1, hk =>
      unfold ahF
      rw [List.any_eq_true]
      exact ⟨_, m, by simp⟩
  | @more k' i m a ih =>
    intro k hk
    match k, hk with
    | k + 1, hk =>
      unfold ahF
      rw [List.any_eq_true]
      have := h _ m
      simp at this
      exact ⟨_, m, by simp [ih k (by omega)]⟩
theorem ah_iff (h : PsOk n ps) (hn : n ≤ 20) {j i : Int} : ah ps j i = true ↔ Ah ps j i :=
  ⟨ahF_ah 21 j i, fun a => ah_ahF h a 21 (by have := a.bd h; omega)⟩
theorem ah_rel (h : PsOk n ps) (hn : n ≤ 20) : Rel n (ah ps) :=
  ⟨fun a => ((ah_iff h hn).mp a).bd h, fun a b => (ah_iff h hn).mpr (((ah_iff h hn).mp a).trans ((ah_iff h hn).mp b))⟩
/-- the program's way: each pair's near and what is ahead of it -/
theorem ah_step (h : PsOk n ps) (hn : n ≤ 20) {j i : Int} : ah ps j i = true ↔ ∃ k, (k, i) ∈ ps ∧ (j = k ∨ ah ps j k = true) := by
  rw [ah_iff h hn]
  constructor
  · intro a
    cases a with
    | one m => exact ⟨_, m, .inl rfl⟩
    | more m b => exact ⟨_, m, .inr ((ah_iff h hn).mpr b)⟩
  · rintro ⟨k, m, e | e⟩
    · subst e
      exact .one m
    · exact .more m ((ah_iff h hn).mp e)
end
/-! ### the sets that are free, in the program's two ways -/
def putL (n : Int) (R : Rl) (S : List Int) : List Int := (rng n).filter fun i => decide (i ∉ S) && (rng n).all fun j => !R j i || decide (j ∈ S)
def takL (R : Rl) (S : List Int) : List Int := S.filter fun i => !S.any fun z => R i z
def frL (n : Int) (R : Rl) (S : List Int) : List Int := (rng n).filter fun i => (decide (i ∉ S) && (rng n).all fun j => !R j i || decide (j ∈ S)) || (decide (i ∈ S) && !S.any fun z => R i z)
section
variable {n : Int} {R : Rl} {S : List Int}
theorem put_test (r : Rel n R) {i : Int} : ((rng n).all fun j => !R j i || decide (j ∈ S)) = true ↔ ∀ y, R y i = true → y ∈ S := by
  rw [List.all_eq_true]
  constructor
  · intro h y hy
    have b := r.bd hy
    have := h y (mem_rng.mpr ⟨b.1, by omega⟩)
    rw [hy] at this
    simpa using this
  · intro h j _
    cases e : R j i with
    | false => rfl
    | true => simp [h j e]
theorem tak_test {i : Int} : (!S.any fun z => R i z) = true ↔ ∀ z ∈ S, R i z = false := by
  simp
theorem mem_frL (r : Rel n R) {i : Int} : i ∈ frL n R S ↔ Free n R S i := by
  unfold frL
  rw [List.mem_filter, mem_rng, Bool.or_eq_true, Bool.and_eq_true, Bool.and_eq_true, put_test r, tak_test, decide_eq_true_eq, decide_eq_true_eq, and_assoc]
  rfl
theorem mem_putL (r : Rel n R) {i : Int} : i ∈ putL n R S ↔ 0 ≤ i ∧ i < n ∧ i ∉ S ∧ ∀ y, R y i = true → y ∈ S := by
  unfold putL
  rw [List.mem_filter, mem_rng, Bool.and_eq_true, put_test r, decide_eq_true_eq, and_assoc]
theorem mem_takL {i : Int} : i ∈ takL R S ↔ i ∈ S ∧ ∀ z ∈ S, R i z = false := by
  unfold takL
  rw [List.mem_filter, tak_test]
theorem mem_put_tak (r : Rel n R) (hS : Low n R S) {i : Int} : i ∈ putL n R S ++ takL R S ↔ Free n R S i := by
  rw [List.mem_append, mem_putL r, mem_takL]
  constructor
  · rintro (h | h)
    · exact ⟨h.1, h.2.1, .inl h.2.2⟩
    · exact ⟨(hS.bd i h.1).1, (hS.bd i h.1).2, .inr h⟩
  · rintro ⟨a, b, h | h⟩
    · exact .inl ⟨a, b, h⟩
    · exact .inr h
theorem asc_frL : Asc (frL n R S) := asc_filter _ (asc_rng n)
end
/-! ### the walk over all rounds -/
/-- behind the rounds up to m: what is found, and the last layer -/
structure BF (n : Int) (R : Rl) (S : List Int) (m : Int) (kvs : List (List Int × Int)) (lay : List (List Int)) : Prop where
  nd : (kvs.map (·.1)).Nodup
  val : ∀ p ∈ kvs, Low n R p.1 ∧ p.2 = dst R S p.1 ∧ dst R S p.1 ≤ m
  all : ∀ T, Low n R T → dst R S T ≤ m → T ∈ kvs.map (·.1)
  lay : ∀ T, T ∈ lay ↔ Low n R T ∧ dst R S T = m
/-- within the turn m + 1: kvs as at its start and the fresh ones behind it -/
structure BW (n : Int) (R : Rl) (S : List Int) (m : Int) (kvs : List (List Int × Int)) (fr : List (List Int)) : Prop where
  nd : (kvs.map (·.1)).Nodup
  val : ∀ p ∈ kvs, Low n R p.1 ∧ p.2 = dst R S p.1 ∧ dst R S p.1 ≤ m + 1
  all : ∀ T, Low n R T → dst R S T ≤ m → T ∈ kvs.map (·.1)
  fr : ∀ T, T ∈ fr ↔ T ∈ kvs.map (·.1) ∧ dst R S T = m + 1
section
variable {n : Int} {R : Rl} {S : List Int} {m : Int} {kvs : List (List Int × Int)} {lay fr : List (List Int)}
theorem BF.start (r : Rel n R) (hS : Low n R S) : BF n R S 0 [(S, 0)] [S] := by
  have d0 : dst R S S = 0 := by
    have := (dst_zero r hS hS).mpr rfl
    have := dst_nn (R := R) (S := S) (T := S)
    omega
  refine ⟨by simp, fun p hp => ?_, fun T hT h => ?_, fun T => ?_⟩
  · rw [List.mem_singleton.mp hp]
    exact ⟨hS, d0.symm, by rw [d0]; exact Int.le_refl 0⟩
  · have := (dst_zero r hS hT).mp h
    rw [this]
    simp
  · rw [List.mem_singleton]
    constructor
    · rintro rfl
      exact ⟨hS, d0⟩
    · rintro ⟨hT, h⟩
      exact (dst_zero r hS hT).mp (by omega)
theorem BF.enter (b : BF n R S m kvs lay) : BW n R S m kvs [] := by
  refine ⟨b.nd, fun p hp => ?_, b.all, fun T => ?_⟩
  · obtain ⟨h1, h2, h3⟩ := b.val p hp
    exact ⟨h1, h2, by omega⟩
  · constructor
    · intro h
      cases h
    · rintro ⟨h, e⟩
      obtain ⟨p, hp, rfl⟩ := List.mem_map.mp h
      have := (b.val p hp).2.2
      omega
/-- one fresh set -/
theorem BW.put (r : Rel n R) (hS : Low n R S) (b : BW n R S m kvs fr) {T A U : List Int} (hT : Low n R T) (hd : dst R S T = m) (hA : ∀ x ∈ A, Free n R T x) (hl : Loose R A) (c : Chg T A U) (hU : U ∉ kvs.map (·.1)) :
    BW n R S m (kvs ++ [(U, m + 1)]) (fr ++ [U]) := by
  have lU := chg_low r hT hA hl c
  have d1 := dst_step (S := S) r hS hT lU hl c
  have d2 : ¬ dst R S U ≤ m := fun h => hU (b.all U lU h)
  have d : dst R S U = m + 1 := by omega
  refine ⟨?_, fun p hp => ?_, fun V hV h => ?_, fun V => ?_⟩
  · rw [List.map_append, List.map_cons, List.map_nil, List.nodup_append]
    refine ⟨b.nd, by simp, fun x hx y hy => ?_⟩
    rw [List.mem_singleton.mp hy]
    intro e
    rw [e] at hx
    exact hU hx
  · rcases List.mem_append.mp hp with h | h
    · exact b.val p h
    · rw [List.mem_singleton.mp h]
      exact ⟨lU, d.symm, by show dst R S U ≤ m + 1; omega⟩
  · rw [List.map_append]
    exact List.mem_append_left _ (b.all V hV h)
  · rw [List.mem_append, b.fr V, List.map_append, List.mem_append, List.mem_singleton, List.map_cons, List.map_nil, List.mem_singleton]
    constructor
    · rintro (⟨h1, h2⟩ | h)
      · exact ⟨.inl h1, h2⟩
      · exact ⟨.inr h, by rw [h]; exact d⟩
    · rintro ⟨h1 | h1, h2⟩
      · exact .inl ⟨h1, h2⟩
      · exact .inr h1
/-- the turn's end -/
theorem BW.leave (r : Rel n R) (hm : 0 ≤ m) (hS : Low n R S) (b : BW n R S m kvs fr) (hall : ∀ T, Low n R T → dst R S T = m → ∀ A U, Rnd n R T A → Chg T A U → U ∈ kvs.map (·.1)) : BF n R S (m + 1) kvs fr := by
  have key : ∀ T, Low n R T → dst R S T = m + 1 → T ∈ kvs.map (·.1) := fun T hT h => by
    obtain ⟨U, A, hU, hA, c, hd⟩ := dst_pred r hS hT (by omega)
    exact hall U hU (by omega) A T hA c
  refine ⟨b.nd, b.val, fun T hT h => ?_, fun T => ?_⟩
  · by_cases e : dst R S T = m + 1
    · exact key T hT e
    · exact b.all T hT (by omega)
  · rw [b.fr T]
    constructor
    · rintro ⟨h1, h2⟩
      obtain ⟨p, hp, rfl⟩ := List.mem_map.mp h1
      exact ⟨(b.val p hp).1, h2⟩
    · rintro ⟨h1, h2⟩
      exact ⟨key T h1 h2, h2⟩
/-- no layer left -/
theorem BF.done (r : Rel n R) (hS : Low n R S) (hm : 0 ≤ m) (b : BF n R S m kvs []) : (∀ T, Low n R T ↔ T ∈ kvs.map (·.1)) ∧ ∀ p ∈ kvs, p.2 = dst R S p.1 := by
  have no : ∀ T, Low n R T → dst R S T ≠ m := fun T hT e => by
    have := (b.lay T).mpr ⟨hT, e⟩
    cases this
  have pos : 0 < m := by
    refine Classical.byContradiction fun h => no S hS ?_
    have := (dst_zero r hS hS).mpr rfl
    have := dst_nn (R := R) (S := S) (T := S)
    omega
  refine ⟨fun T => ⟨fun hT => b.all T hT (by have := dst_stop r hS pos no T hT; omega), fun h => ?_⟩, fun p hp => (b.val p hp).2.1⟩
  obtain ⟨p, hp, rfl⟩ := List.mem_map.mp h
  exact (b.val p hp).1
/-- a layer that is not empty stands at n at the most -/
theorem BF.bound (r : Rel n R) (hn : 0 ≤ n) (hS : Low n R S) (b : BF n R S m kvs lay) (h : lay ≠ []) : m ≤ n := by
  cases lay with
  | nil => exact absurd rfl h
  | cons T l =>
    obtain ⟨h1, h2⟩ := (b.lay T).mp List.mem_cons_self
    have := dst_le_n r hn hS h1
    omega
end
end K37
/-! ## D1 -/
namespace K37
open PySem PySem.Spec PyProof.Rows L2
section
variable {P : Program} {w : World} {K : PySem.W.Frag} {mg : Str → Option Value} {base : Heap}
theorem q_bl {Q : VK} {H : Hp} {b c : Bool} (h : Q (.bl b) H) (e : b = c) : Q (.bl c) H := by
  rw [← e]
  exact h
theorem iteTT {c : Bool} {A B : Prop} (hc : c = true) (h : A) : if c = true then A else B := by
  rw [if_pos hc]
  exact h
theorem iteFF {c : Bool} {A B : Prop} (hc : c = false) (h : B) : if c = true then A else B := by
  rw [hc, if_neg Bool.false_ne_true]
  exact h
/-! ### is_integer -/
def isI : PyData → Bool
  | .int _ => true
  | _ => false
def spIsInt (K : PySem.W.Frag) : Sp := fun vs H Q _ => ∃ x d, vs = [x] ∧ Dp K H x d ∧ Q (.bl (isI d)) H
theorem sc_is_integer : FnScope ["thing"] ["thing"] (defScope (top 6)) := ⟨rfl, rfl, rfl, by decide +kernel, rfl, by decide +kernel, by decide +kernel⟩
theorem ok_is_integer {f : Addr} {fd : FuncData} (F : FnP K "is_integer" 6 f fd) (T : Tp mg) : FnOk P w K mg base CX0 1 f fd ["thing"] (spIsInt K) := by
  refine F.ok sc_is_integer (fun vs H Q E h => ?_) (fun cdv A outer s H vs Q E hr h => ⟨_, PSs.nox (pss_one (ps_ret
      (pe_and (pe_callB call_isi (by rfl) T.isi (by decide +kernel) (pa_cons (pv 0) (pa_cons (pe_bltn (v := .ty "int") (by rfl) T.int (by decide +kernel) rfl) pa_nil)))
        (pe_one (pe_not (pe_callB call_isi (by rfl) T.isi (by decide +kernel) (pa_cons (pv 0) (pa_cons (pe_bltn (v := .ty "bool") (by rfl) T.bool (by decide +kernel) rfl) pa_nil)))))))), ?_⟩)
  · obtain ⟨x, d, rfl, _⟩ := h
    rfl
  · obtain ⟨x, d, rfl, hd, q⟩ := h
    have ty := dp_ty hd
    refine ⟨x, rfl, _, _, _, _, _, rfl, .ty "int", ty, kit_int K d, _, rfl, ?_⟩
    cases d with
    | int i => exact ⟨x, rfl, _, _, _, _, _, rfl, .ty "bool", ty, kit_bool K _, _, rfl, q⟩
    | bool b => exact ⟨x, rfl, _, _, _, _, _, rfl, .ty "bool", ty, kit_bool K _, _, rfl, q⟩
    | _ => exact q
/-! ### is_within -/
def toI : PyData → Int
  | .int i => i
  | _ => 0
def isW (lo hi : Int) : PyData → Bool
  | .int i => decide (lo ≤ i) && decide (i ≤ hi)
  | _ => false
def spWithin (K : PySem.W.Frag) : Sp := fun vs H Q _ => ∃ x d lo hi, vs = [x, .int lo, .int hi] ∧ Dp K H x d ∧ Q (.bl (isW lo hi d)) H
theorem sc_is_within : FnScope ["thing", "least", "most"] ["thing", "least", "most"] (defScope (top 7)) := ⟨rfl, rfl, rfl, by decide +kernel, rfl, by decide +kernel, by decide +kernel⟩
theorem ok_is_within {f : Addr} {fd : FuncData} (F : FnP K "is_within" 7 f fd) (C : Cl P w K mg base CX0 1 "is_integer" (spIsInt K)) : FnOk P w K mg base CX0 2 f fd ["thing", "least", "most"] (spWithin K) := by
  refine F.ok sc_is_within (fun vs H Q E h => ?_) (fun cdv A outer s H vs Q E hr h => ⟨_, PSs.nox (pss_one (ps_ret
      (pe_and (pe_cl C hr (Nat.le_refl _) (by rfl) pass0 (pa_cons (pv 0) pa_nil)) (pe_one (pe_chain op_le op_le (pv 1) (pv 0) (pv 2)))))), ?_⟩)
  · obtain ⟨x, d, lo, hi, rfl, _⟩ := h
    rfl
  · obtain ⟨x, d, lo, hi, rfl, hd, q⟩ := h
    refine ⟨x, rfl, x, d, rfl, hd, _, rfl, ?_⟩
    cases hd with
    | int i =>
      refine ⟨_, rfl, _, rfl, _, _, rfl, rfl, _, rfl, ?_⟩
      replace q : Q (.bl (decide (lo ≤ i) && decide (i ≤ hi))) H := q
      by_cases h : lo ≤ i
      · rw [decide_eq_true h] at q ⊢
        exact ⟨_, rfl, _, _, rfl, rfl, q⟩
      · rw [decide_eq_false h] at q ⊢
        exact q
    | _ => exact q
/-! ### is_item_pair -/
def isP (m : Int) : PyData → Bool
  | .tuple [a, b] => isW 0 (m - 1) a && isW 0 (m - 1) b && decide (toI a < toI b)
  | _ => false
def spPair (K : PySem.W.Frag) : Sp := fun vs H Q _ => ∃ x d m, vs = [x, .int m] ∧ Dp K H x d ∧ ∀ H', Same H H' → Q (.bl (isP m d)) H'
theorem sc_is_item_pair : FnScope ["thing", "many", "one"] ["thing", "many"] (defScope (top 8)) := ⟨rfl, rfl, rfl, by decide +kernel, rfl, by decide +kernel, by decide +kernel⟩
theorem isTup_of {K : PySem.W.Frag} {H : Hp} {x : V} {ds : List PyData} (h : Dp K H x (.tuple ds)) : ∃ a xs, x = .ref a ∧ SqT K H a xs ∧ DpAll K H xs ds := by
  cases h with
  | tup h a => exact ⟨_, _, rfl, h, a⟩
/-- data by its parts: what stands at each place -/
theorem dpAll_zip {K : PySem.W.Frag} {H : Hp} : ∀ {xs : List V} {ds : List PyData}, DpAll K H xs ds → xs = (xs.zip ds).map (·.1) ∧ ds = (xs.zip ds).map (·.2) ∧ ∀ p ∈ xs.zip ds, Dp K H p.1 p.2
  | _, _, .nil => ⟨rfl, rfl, fun p hp => by cases hp⟩
  | _, _, .cons (v := x) (d := d) (vs := xs) (ds := ds) h t => by
    obtain ⟨e1, e2, e3⟩ := dpAll_zip t
    refine ⟨congrArg (x :: ·) e1, congrArg (d :: ·) e2, fun p hp => ?_⟩
    rcases List.mem_cons.mp (show p ∈ (x, d) :: xs.zip ds from hp) with e | e
    · rw [e]
      exact h
    · exact e3 p e
theorem ok_is_item_pair {f : Addr} {fd : FuncData} (F : FnP K "is_item_pair" 8 f fd) (T : Tp mg) (C : Cl P w K mg base CX0 2 "is_within" (spWithin K)) : FnOk P w K mg base CX0 3 f fd ["thing", "many"] (spPair K) := by
  refine F.ok sc_is_item_pair (fun vs H Q E h => ?_) (fun cdv A outer s H vs Q E hr h => ⟨_, PSs.nox (pss_cons (ps_if
      (PW.pt (pw_or (pt_not (pt_val (pe_callB call_isi (by rfl) T.isi (by decide +kernel) (pa_cons (pv 0) (pa_cons (pe_bltn (v := .ty "tuple") (by rfl) T.tuple (by decide +kernel) rfl) pa_nil)))))
        (pw_or (pt_cmpR op_ne (pe_callB call_len_seq (by rfl) T.len PySem.boot_len (pa_cons (pv 0) pa_nil)) pe_int (nomark _))
          (pw_or1 (pt_not (pt_val (pe_callB (cr_all rfl) (by rfl) T.all (by decide +kernel) (pa_cons
            (pe_lc (own := [("one", 2)]) (g := gName 2) (tt := tYes) rfl sc_is_item_pair.nd (pi_tup (pv 0)) (blkOk_by (N := ["thing", "many", "one"]) (sc := defScope (top 8)) (by decide +kernel)) (fun _ _ _ _ _ => pg_name (i := 2) sc_is_item_pair.nd rfl (Or.inl rfl)) (fun _ _ _ _ _ => pts_nil)
              (fun _ _ _ _ _ => pe_cl C hr (by decide) (by rfl) pass0 (pa_cons (pv 2) (pa_cons pe_int (pa_cons (pe_op op_sub (pv 1) pe_int) pa_nil))))) pa_nil))))))))
      (pss_one (ps_ret pe_bl)) pss_nil)
      (pss_one (ps_ret (pe_cmpR op_lt (pe_ix ix_tup (pv 0) pe_int (fun _ _ => rfl)) (pe_ix ix_tup (pv 0) pe_int (fun _ _ => rfl)) (nomark _))))), ?_⟩)
  · obtain ⟨x, d, m, rfl, _⟩ := h
    rfl
  · obtain ⟨x, d, m, rfl, hd, q⟩ := h
    have ty := dp_ty hd
    refine ⟨x, rfl, _, _, _, _, _, rfl, .ty "tuple", ty, kit_tuple K d, _, rfl, ?_⟩
    cases d with
    | tuple ds =>
      obtain ⟨a, xs, rfl, hS, hA⟩ := isTup_of hd
      refine iteF ⟨_, rfl, a, xs, rfl, .inr hS, rfl, _, rfl, ?_⟩
      have hl := dpAll_len hA
      by_cases h2 : ds.length = 2
      · obtain ⟨x1, x2, d1, d2, rfl, rfl, h1, h3⟩ : ∃ x1 x2 d1 d2, xs = [x1, x2] ∧ ds = [d1, d2] ∧ Dp K H x1 d1 ∧ Dp K H x2 d2 := by
          cases hA with
          | nil => cases h2
          | cons a1 t1 =>
            cases t1 with
            | nil => cases h2
            | cons a2 t2 =>
              cases t2 with
              | nil => exact ⟨_, _, _, _, rfl, rfl, a1, a2⟩
              | cons _ _ => simp at h2
        refine iteFF (by rw [dec_int]; rfl) ?_
        refine ⟨.ref a, rfl, a, rfl, ⟨_, hS⟩, fun D hD => ?_⟩
        refine lcW (l := [(x1, d1), (x2, d2)]) (walks_tup (ι := fun p : V × PyData => p.1) hS) hD (by show 2 ≤ 100000; decide) (fun _ => true) (fun p => isW 0 (m - 1) p.2) V.bl (fun p x H' kY kN hp sm hx hY _ => ⟨rfl, yesI ?_⟩) (fun H' sm hl => ?_)
        · subst hx
          have hdp : Dp K H p.1 p.2 := by
            rcases List.mem_cons.mp hp with e | e
            · rw [e]
              exact h1
            · rw [List.mem_singleton.mp e]
              exact h3
          exact ⟨_, rfl, _, rfl, m, 1, rfl, rfl, p.1, p.2, 0, m - 1, rfl, dp_same sm hdp, hY rfl _ (Same.refl _)⟩
        · refine ⟨D, [isW 0 (m - 1) d1, isW 0 (m - 1) d2], rfl, .inl (.inl hl), _, rfl, ?_⟩
          by_cases e : (isW 0 (m - 1) d1 && isW 0 (m - 1) d2) = true
          · refine iteFF (by simpa using e) ?_
            obtain ⟨e1, e2⟩ := Bool.and_eq_true_iff.mp e
            cases h1 with
            | int i =>
              cases h3 with
              | int j =>
                refine ⟨.ref a, rfl, a, _, 0, .int i, rfl, rfl, same_T sm hS, rfl, .ref a, rfl, a, _, 1, .int j, rfl, rfl, same_T sm hS, rfl, i, j, rfl, rfl, ?_⟩
                have : isP m (.tuple [.int i, .int j]) = decide (i < j) := by
                  show (isW 0 (m - 1) (.int i) && isW 0 (m - 1) (.int j) && decide (i < j)) = _
                  rw [e, Bool.true_and]
                exact q_bl (q _ sm) this
              | _ => cases e2
            | _ => cases e1
          · rw [Bool.not_eq_true] at e
            refine iteTT (by simp only [List.all_cons, List.all_nil, id_eq, Bool.and_true]; rw [e]; rfl) ?_
            have : isP m (.tuple [d1, d2]) = false := by
              show (isW 0 (m - 1) d1 && isW 0 (m - 1) d2 && _) = false
              rw [e, Bool.false_and]
            exact q_bl (q _ sm) this
      · refine iteTT (by rw [dec_int]; simp; omega) ?_
        have : isP m (.tuple ds) = false := by
          match ds, h2 with
          | [], _ => rfl
          | [_], _ => rfl
          | _ :: _ :: _ :: _, _ => rfl
        rw [← this]
        exact q H (Same.refl _)
    | _ => exact iteT (q H (Same.refl _))
end
end K37
/-! ## D2 -/
namespace K37
open PySem PySem.Spec PyProof.Rows L2
section
variable {P : Program} {w : World} {K : PySem.W.Frag} {mg : Str → Option Value} {base : Heap}
/-! ### do_ascend -/
def adjB {α : Type} (lt : α → α → Bool) (l : List α) : Bool := (l.zip (l.drop 1)).all fun p => lt p.1 p.2
abbrev ltI : Int → Int → Bool := fun x y => decide (x < y)
abbrev ltP : Addr × Int × Int → Addr × Int × Int → Bool := fun s t => HT.lexLt [s.2.1, s.2.2] [t.2.1, t.2.2]
def spAsc (K : PySem.W.Frag) : Sp := fun vs H Q _ => ∃ a, vs = [.ref a] ∧
  ((∃ ns : List Int, SqT K H a (ns.map V.int) ∧ ns.length ≤ 100000 ∧ ∀ H', Same H H' → Q (.bl (adjB ltI ns)) H') ∨
   (∃ ts : List (Addr × Int × Int), SqT K H a (ts.map fun t => V.ref t.1) ∧ (∀ t ∈ ts, SqT K H t.1 [.int t.2.1, .int t.2.2]) ∧ ts.length ≤ 100000 ∧ ∀ H', Same H H' → Q (.bl (adjB ltP ts)) H'))
theorem sc_do_ascend : FnScope ["some", "near", "far"] ["some"] (defScope (top 9)) := ⟨rfl, rfl, rfl, by decide +kernel, rfl, by decide +kernel, by decide +kernel⟩
theorem asc_body {α : Type} {a : Addr} {l : List α} {ι : α → V} {lt : α → α → Bool} {r : R2} {H : Hp} {Q : VK} (hS : SqT K H a (l.map ι)) (hl : l.length ≤ 100000)
    (hr : ∀ (x y : α) (H' : Hp) (Q' : VK), x ∈ l → y ∈ l → Same H H' → (∀ H'', Same H' H'' → Q' (.bl (lt x y)) H'') → r (ι x) (ι y) H' Q') (q : ∀ H', Same H H' → Q (.bl (adjB lt l)) H') :
    tRet (tCB (rAll K) (tCons (tLc (RZ.iZipA K (tCons (tVar 0) (tCons (tSl (rSlA K) (tVar 0) (tPart (tC (.int 1))) tNoPart) tNil))) (gTup K 2 (gCons (gName 1) (gCons (gName 2) gNil))) tYes (tOp r (tVar 1) (tVar 2)) [1, 2]) tNil))
      { nx := fun _ H' => Q .non H', rt := Q } (start ["some", "near", "far"] [.ref a]) H := by
  refine ⟨.ref a, rfl, .ref a, rfl, 1, rfl, ?_⟩
  unfold tNoPart
  refine slA1 hS fun p H1 s1 hp => ?_
  refine ⟨a, p, _, _, rfl, .inr ⟨same_T s1 hS, hp, fun D hD => ?_⟩⟩
  rw [← List.map_drop] at hp
  refine lcW (walks_zipT (same_T s1 hS) hp) hD (by rw [List.length_zip]; omega) (fun _ => true) (fun p => lt p.1 p.2) V.bl (fun p x H' kY kN hm sm hx hY _ => ?_) (fun H' sm hl => ?_)
  · obtain ⟨T, rfl, hT⟩ := hx
    refine ⟨T, _, rfl, .inl (.inl hT), rfl, _, _, rfl, _, _, rfl, rfl, rfl, yesI ?_⟩
    have h1 := List.of_mem_zip (a := p.1) (b := p.2) hm
    exact ⟨_, rfl, _, rfl, hr p.1 p.2 H' _ h1.1 (List.mem_of_mem_drop h1.2) (s1.trans sm) fun H'' s2 => hY rfl _ s2⟩
  · refine ⟨D, _, rfl, .inl (.inl hl), ?_⟩
    rw [filter_all, all_id]
    exact q _ (s1.trans sm)
theorem ok_do_ascend {f : Addr} {fd : FuncData} (F : FnP K "do_ascend" 9 f fd) (T : Tp mg) : FnOk P w K mg base CX0 1 f fd ["some"] (spAsc K) := by
  refine F.ok sc_do_ascend (fun vs H Q E h => ?_) (fun cdv A outer s H vs Q E hr h => ?_)
  · obtain ⟨a, rfl, _⟩ := h
    rfl
  · obtain ⟨a, rfl, h⟩ := h
    rcases h with ⟨ns, hS, hl, q⟩ | ⟨ts, hS, hT, hl, q⟩
    · refine ⟨_, PSs.nox (pss_one (ps_ret (pe_callB (cr_all rfl) (by rfl) T.all (by decide +kernel) (pa_cons
        (pe_lc (own := [("near", 1), ("far", 2)]) (g := gTup K 2 (gCons (gName 1) (gCons (gName 2) gNil))) (tt := tYes) rfl sc_do_ascend.nd (RZ.pi_zipA (by rfl) T.zip (pa_cons (pv 0) (pa_cons (pe_slice sl_tupA (pv 0) (po_some pe_int) po_none) pa_nil)))
          (blkOk_by (N := ["some", "near", "far"]) (sc := defScope (top 9)) (by decide +kernel))
          (fun _ _ _ _ _ => pg_tup rfl (pgs_cons (pg_name (i := 1) sc_do_ascend.nd rfl (Or.inl rfl)) (pgs_cons (pg_name (i := 2) sc_do_ascend.nd rfl (Or.inl rfl)) pgs_nil))) (fun _ _ _ _ _ => pts_nil)
          (fun _ _ _ _ _ => pe_cmpR op_lt (pv 1) (pv 2) (nomark _))) pa_nil)))), asc_body (lt := ltI) (ι := V.int) hS hl (fun x y H' Q' _ _ sm hq => ⟨_, _, rfl, rfl, hq _ (Same.refl _)⟩) q⟩
    · refine ⟨_, PSs.nox (pss_one (ps_ret (pe_callB (cr_all rfl) (by rfl) T.all (by decide +kernel) (pa_cons
        (pe_lc (own := [("near", 1), ("far", 2)]) (g := gTup K 2 (gCons (gName 1) (gCons (gName 2) gNil))) (tt := tYes) (te := tOp (rLtT K) (tVar 1) (tVar 2)) rfl sc_do_ascend.nd (RZ.pi_zipA (by rfl) T.zip (pa_cons (pv 0) (pa_cons (pe_slice sl_tupA (pv 0) (po_some pe_int) po_none) pa_nil)))
          (blkOk_by (N := ["some", "near", "far"]) (sc := defScope (top 9)) (by decide +kernel))
          (fun _ _ _ _ _ => pg_tup rfl (pgs_cons (pg_name (i := 1) sc_do_ascend.nd rfl (Or.inl rfl)) (pgs_cons (pg_name (i := 2) sc_do_ascend.nd rfl (Or.inl rfl)) pgs_nil))) (fun _ _ _ _ _ => pts_nil)
          (fun _ _ _ _ _ => (pe_cmpR (op_ltT hr.units0) (pv 1) (pv 2) (nomark _)))) pa_nil)))), asc_body (K := K) (lt := ltP) (ι := fun t : Addr × Int × Int => V.ref t.1) hS hl (fun x y H' Q' hx hy sm hq => ?_) q⟩
      exact ⟨_, _, [x.2.1, x.2.2], [y.2.1, y.2.2], rfl, rfl, same_T sm (hT x hx), same_T sm (hT y hy), hq _ (Same.refl _)⟩
end
end K37
/-! ## D3 -/
namespace K37
open PySem PySem.Spec PyProof.Rows L2
section
variable {P : Program} {w : World} {K : PySem.W.Frag} {mg : Str → Option Value} {base : Heap}
/-! ### orders -/
abbrev ltQ : Int × Int → Int × Int → Bool := fun s t => HT.lexLt [s.1, s.2] [t.1, t.2]
structure Ord (n : Int) (ps : List (Int × Int)) : Prop where
  n0 : 0 ≤ n
  n20 : n ≤ 20
  ok : PsOk n ps
  asc : adjB ltQ ps = true
  few : ps.length ≤ 1000
/-- at x the order (n, ps) -/
def OrdAt (K : PySem.W.Frag) (H : Hp) (x : V) (n : Int) (ps : List (Int × Int)) : Prop := ∃ (o q : Addr) (ts : List (Addr × Int × Int)), x = .ref o ∧ SqT K H o [.int n, .ref q] ∧
  SqT K H q (ts.map fun t => V.ref t.1) ∧ (∀ t ∈ ts, SqT K H t.1 [.int t.2.1, .int t.2.2]) ∧ ts.map (·.2) = ps
theorem OrdAt.same {H H' : Hp} {x : V} {n : Int} {ps : List (Int × Int)} (h : OrdAt K H x n ps) (s : Same H H') : OrdAt K H' x n ps := by
  obtain ⟨o, q, ts, rfl, h1, h2, h3, h4⟩ := h
  exact ⟨o, q, ts, rfl, same_T s h1, same_T s h2, fun t ht => same_T s (h3 t ht), h4⟩
theorem ty_T {H : Hp} {a : Addr} {xs : List V} (h : SqT K H a xs) : TyX K H (.ref a) (.type (tyD (.tuple []))) := by
  rcases h with (h | ⟨o, h⟩) | ⟨o, _, _, h, c, _⟩
  · exact .base (.tup h)
  · exact .fTuple h
  · exact .kTuple h c
theorem dp_pair {H : Hp} {a : Addr} {i j : Int} (h : SqT K H a [.int i, .int j]) : Dp K H (.ref a) (.tuple [.int i, .int j]) := .tup h (.cons (.int i) (.cons (.int j) .nil))
theorem adj_map {α β : Type} (f : α → β) (lt : β → β → Bool) (l : List α) : adjB lt (l.map f) = adjB (fun x y => lt (f x) (f y)) l := by
  unfold adjB
  rw [← List.map_drop, List.zip_map, List.all_map]
  rfl
/-! ### order_fault -/
def spFault (K : PySem.W.Frag) : Sp := fun vs H Q _ => ∃ x, vs = [x] ∧
  ((∃ ds, Dp K H x (.list ds) ∧ Q (.str "form") H) ∨ (Dp K H x (.tuple [.bool true, .tuple []]) ∧ Q (.str "many") H) ∨ ∃ n ps, OrdAt K H x n ps ∧ Ord n ps ∧ ∀ H', Same H H' → Q .non H')
theorem sc_order_fault : FnScope ["thing", "one"] ["thing"] (defScope (top 10)) := ⟨rfl, rfl, rfl, by decide +kernel, rfl, by decide +kernel, by decide +kernel⟩
theorem ok_order_fault {f : Addr} {fd : FuncData} (F : FnP K "order_fault" 10 f fd) (T : Tp mg) (Cw : Cl P w K mg base CX0 2 "is_within" (spWithin K)) (Cp : Cl P w K mg base CX0 3 "is_item_pair" (spPair K)) (Ca : Cl P w K mg base CX0 1 "do_ascend" (spAsc K)) :
    FnOk P w K mg base CX0 4 f fd ["thing"] (spFault K) := by
  obtain ⟨tm, hm⟩ := T.most
  refine F.ok sc_order_fault (fun vs H Q E h => ?_) (fun cdv A outer s H vs Q E hr h => ⟨_, PSs.nox (pss_cons (ps_if
      (PW.pt (pw_or (pt_not (pt_val (pe_callB call_isi (by rfl) T.isi (by decide +kernel) (pa_cons (pv 0) (pa_cons (pe_bltn (v := .ty "tuple") (by rfl) T.tuple (by decide +kernel) rfl) pa_nil)))))
        (pw_or1 (pt_cmpR op_ne (pe_callB call_len_seq (by rfl) T.len PySem.boot_len (pa_cons (pv 0) pa_nil)) pe_int (nomark _))))) (pss_one (ps_ret pe_str)) pss_nil)
      (pss_cons (ps_if (pt_not (pt_val (pe_cl Cw hr (by decide) (by rfl) pass0 (pa_cons (pe_ix ix_tup (pv 0) pe_int (fun _ _ => rfl)) (pa_cons pe_int (pa_cons (pe_glob (v := .int 20) (by rfl) hm ⟨_, rfl⟩) pa_nil)))))) (pss_one (ps_ret pe_str)) pss_nil)
      (pss_cons (ps_if (PW.pt (pw_or (pt_not (pt_val (pe_callB call_isi (by rfl) T.isi (by decide +kernel) (pa_cons (pe_ix ix_tup (pv 0) pe_int (fun _ _ => rfl)) (pa_cons (pe_bltn (v := .ty "tuple") (by rfl) T.tuple (by decide +kernel) rfl) pa_nil)))))
        (pw_or1 (pt_not (pt_val (pe_callB (cr_all rfl) (by rfl) T.all (by decide +kernel) (pa_cons
            (pe_lc (own := [("one", 1)]) (g := gName 1) (tt := tYes) rfl sc_order_fault.nd (pi_tup (pe_ix ix_tup (pv 0) pe_int (fun _ _ => rfl))) (blkOk_by (N := ["thing", "one"]) (sc := defScope (top 10)) (by decide +kernel)) (fun _ _ _ _ _ => pg_name (i := 1) sc_order_fault.nd rfl (Or.inl rfl)) (fun _ _ _ _ _ => pts_nil)
              (fun _ _ _ _ _ => pe_cl Cp hr (by decide) (by rfl) pass0 (pa_cons (pv 1) (pa_cons (pe_ix (ixT K) (pv 0) pe_int (fun _ _ => rfl)) pa_nil)))) pa_nil))))))) (pss_one (ps_ret pe_str)) pss_nil)
      (pss_one (ps_ret (pe_ifExp (pt_val (pe_cl Ca hr (by decide) (by rfl) pass0 (pa_cons (pe_ix ix_tup (pv 0) pe_int (fun _ _ => rfl)) pa_nil))) pe_non pe_str)))))), ?_⟩)
  · obtain ⟨x, rfl, _⟩ := h
    rfl
  · obtain ⟨x, rfl, h⟩ := h
    rcases h with ⟨ds, hd, q⟩ | ⟨hd, q⟩ | ⟨n, ps, hO, hn, q⟩
    · exact ⟨x, rfl, _, _, _, _, _, rfl, .ty "tuple", dp_ty hd, kit_tuple K _, _, rfl, iteT (iteT q)⟩
    · obtain ⟨a, xs, rfl, hS, hA⟩ := isTup_of hd
      cases hA with
      | @cons _ xs1 _ _ h1 t1 =>
        cases t1 with
        | @cons _ xs2 _ _ h2 t2 =>
          cases t2
          cases h1
          refine ⟨.ref a, rfl, _, _, _, _, _, rfl, .ty "tuple", dp_ty hd, kit_tuple K _, _, rfl, iteF ⟨.ref a, rfl, a, _, rfl, .inr hS, rfl, _, rfl, iteFF (by rw [dec_int]; rfl) ?_⟩⟩
          exact ⟨.ref a, rfl, a, _, 0, .bl true, rfl, rfl, hS, rfl, .bl true, .bool true, 0, 20, rfl, .bl true, false, rfl, iteT q⟩
    · obtain ⟨o, p, ts, rfl, h1, h2, h3, h4⟩ := hO
      refine ⟨.ref o, rfl, _, _, _, _, _, rfl, .ty "tuple", ty_T h1, kit_tuple K _, _, rfl, iteF ⟨.ref o, rfl, o, _, rfl, .inr h1, rfl, _, rfl, iteFF (by rw [dec_int]; rfl) ?_⟩⟩
      refine ⟨.ref o, rfl, o, _, 0, .int n, rfl, rfl, h1, rfl, .int n, .int n, 0, 20, rfl, .int n, true, ?_, iteF ?_⟩
      · show V.bl (decide (0 ≤ n) && decide (n ≤ 20)) = V.bl true
        rw [decide_eq_true hn.n0, decide_eq_true hn.n20]
        rfl
      refine ⟨.ref o, rfl, o, _, 1, .ref p, rfl, rfl, h1, rfl, _, _, _, _, _, rfl, .ty "tuple", ty_T h2, kit_tuple K _, _, rfl, iteF ?_⟩
      refine ⟨.ref o, rfl, o, _, 1, .ref p, rfl, rfl, h1, rfl, p, rfl, ⟨_, h2⟩, fun D hD => ?_⟩
      have hts : ts.length ≤ 1000 := by
        have := hn.few
        rw [← h4, List.length_map] at this
        exact this
      refine lcW (walks_tup h2) hD (by omega) (fun _ => true) (fun t => isP n (.tuple [.int t.2.1, .int t.2.2])) V.bl (fun t x H' kY kN ht sm hx hY _ => ⟨rfl, yesI ?_⟩) (fun H' sm hl => ?_)
      · subst hx
        exact ⟨_, rfl, .ref o, rfl, o, _, 0, .int n, rfl, rfl, same_T sm h1, rfl, .ref t.1, _, n, rfl, dp_pair (same_T sm (h3 t ht)), fun H2 s2 => hY rfl _ s2⟩
      · refine ⟨D, _, rfl, .inl (.inl hl), true, ?_, iteF ?_⟩
        · rw [filter_all, all_id]
          refine congrArg V.bl (List.all_eq_true.mpr fun t ht => ?_)
          have := hn.ok t.2 (h4 ▸ List.mem_map_of_mem ht)
          show (isW 0 (n - 1) (.int t.2.1) && isW 0 (n - 1) (.int t.2.2) && decide (t.2.1 < t.2.2)) = true
          simp [isW]
          omega
        · refine ⟨.ref o, rfl, o, _, 1, .ref p, rfl, rfl, same_T sm h1, rfl, p, rfl, .inr ⟨ts, same_T sm h2, fun t ht => same_T sm (h3 t ht), by omega, fun H2 s2 => ⟨true, ?_, iteT (q _ (sm.trans s2))⟩⟩⟩
          have := hn.asc
          rw [← h4, adj_map] at this
          exact congrArg V.bl this
end
end K37
/-! ## D4 -/
namespace K37
open PySem PySem.Spec PyProof.Rows L2
section
variable {P : Program} {w : World} {K : PySem.W.Frag} {mg : Str → Option Value} {base : Heap}
/-! ### the two errors -/
/-- the class x at C, its __init__ at fI, its field g -/
structure Er (K : PySem.W.Frag) (mg : Str → Option Value) (x g : Str) (i : Nat) (C fI : Addr) (fd : FuncData) : Prop where
  oex : OexC K C
  gl : mg x = some (.ref C)
  iC : PySem.W.findIn K (.ref C) "__init__" = some (some (.ref fI))
  tI : PySem.W.typeIn K (.ref fI) = some (.type "function")
  no : PySem.W.findIn K (.ref C) g = some none
  xf : XfC K C
/-- an error of the class at C that carries v -/
def Rz (E : XK) (C : Addr) (g : Str) (v : V) (H : Hp) : Prop := ∀ d H', Same H H' → H' d = some (.xd [(g, v)]) → E (.ref C) (some d) H'
def spIni (C : Addr) (g : Str) : Sp := fun vs H Q _ => ∃ a v, vs = [.ref a, v] ∧ H a = some (exo a C none) ∧ ∀ dx, H dx = none → dx ≠ a → Q .non (upd (upd H dx (exd dx [(g, v)])) a (exo a C (some dx)))
theorem sc_init2 : FnScope ["self", "part"] ["self", "part"] (defScope (inClass (top 2) 0)) := ⟨rfl, rfl, rfl, by decide +kernel, rfl, by decide +kernel, by decide +kernel⟩
theorem sc_init3 : FnScope ["self", "given"] ["self", "given"] (defScope (inClass (top 3) 0)) := ⟨rfl, rfl, rfl, by decide +kernel, rfl, by decide +kernel, by decide +kernel⟩
theorem ok_init2 {C f : Addr} {fd : FuncData} (F : FunD K "__init__" "BadOrder.__init__" (defArgs (inClass (top 2) 0)) (defBody (inClass (top 2) 0)) (defScope (inClass (top 2) 0)) [] [] f fd) (T : Er K mg "BadOrder" "part" 2 C f fd) :
    FnOk P w K mg base CX0 1 f fd ["self", "part"] (spIni C "part") := by
  refine F.ok sc_init2 (fun vs H Q E h => ?_) (fun cdv A outer s H vs Q E hr h => ⟨_, PSs.nox (pss_one (ps_ost (pv 0) (pv 1))), ?_⟩)
  · obtain ⟨a, v, rfl, _⟩ := h
    rfl
  · obtain ⟨a, v, rfl, ha, q⟩ := h
    exact ⟨v, rfl, .ref a, rfl, a, C, rfl, T.oex, T.no, .inl ⟨ha, fun dx n ne => q dx n ne⟩⟩
theorem ok_init3 {C f : Addr} {fd : FuncData} (F : FunD K "__init__" "BadLower.__init__" (defArgs (inClass (top 3) 0)) (defBody (inClass (top 3) 0)) (defScope (inClass (top 3) 0)) [] [] f fd) (T : Er K mg "BadLower" "given" 3 C f fd) :
    FnOk P w K mg base CX0 1 f fd ["self", "given"] (spIni C "given") := by
  refine F.ok sc_init3 (fun vs H Q E h => ?_) (fun cdv A outer s H vs Q E hr h => ⟨_, PSs.nox (pss_one (ps_ost (pv 0) (pv 1))), ?_⟩)
  · obtain ⟨a, v, rfl, _⟩ := h
    rfl
  · obtain ⟨a, v, rfl, ha, q⟩ := h
    exact ⟨v, rfl, .ref a, rfl, a, C, rfl, T.oex, T.no, .inl ⟨ha, fun dx n ne => q dx n ne⟩⟩
/-- the reading of C(v) -/
def tMkE (C : Addr) (g : Str) (ta : TA) : L2.St → Hp → XK → Prop := fun σ H Q => ta σ H fun vs H1 => ∃ v, vs = [v] ∧ Rz Q C g v H1
theorem mke_of {C : Addr} {g : Str} {ta : TA} {σ : L2.St} {H : Hp} {Q : XK} (mono : ∀ {Q Q' : List V → Hp → Prop}, (∀ v H, Q v H → Q' v H) → ta σ H Q → ta σ H Q') (h : tMkE C g ta σ H Q) : tMkO C (spIni C g) [] ta σ H Q := by
  refine mono (fun vs H1 z => ?_) h
  obtain ⟨v, rfl, z⟩ := z
  refine ⟨by show 1 ≤ 1000; decide, fun a na => ⟨a, v, rfl, upd_same, fun dx n ne => ⟨rfl, dx, _, upd_same, ?_, ?_, z dx _ ?_ upd_same⟩⟩⟩
  · rw [upd_ne ne, upd_same]
  · rw [upd_ne ne] at n
    exact n
  · intro b o e
    rw [upd_ne ne] at n
    rw [upd_ne (ne_of_none e n), del_ne (ne_of_none e na), upd_ne (ne_of_none e na), upd_ne (ne_of_none e n), upd_ne (ne_of_none e na)]
    exact e
/-! ### need_order -/
def spNeedO (K : PySem.W.Frag) (CO : Addr) : Sp := fun vs H Q E => ∃ x, vs = [x] ∧
  ((∃ ds, Dp K H x (.list ds) ∧ Rz E CO "part" (.str "form") H) ∨ (Dp K H x (.tuple [.bool true, .tuple []]) ∧ Rz E CO "part" (.str "many") H) ∨ ∃ n ps, OrdAt K H x n ps ∧ Ord n ps ∧ ∀ H', Same H H' → Q x H')
theorem sc_need_order : FnScope ["thing", "fault"] ["thing"] (defScope (top 11)) := ⟨rfl, rfl, rfl, by decide +kernel, rfl, by decide +kernel, by decide +kernel⟩
theorem ok_need_order {CO fI f : Addr} {fd fdI : FuncData} (F : FnP K "need_order" 11 f fd) (Cf : Cl P w K mg base CX0 4 "order_fault" (spFault K)) (TO : Er K mg "BadOrder" "part" 2 CO fI fdI)
    (FI : FnOk P w K mg base CX0 1 fI fdI ["self", "part"] (spIni CO "part")) (bI : Binds K fdI ["self", "part"] []) :
    FnOk P w K mg base (L2.CX P w) 5 f fd ["thing"] (spNeedO K CO) := by
  refine F.ok sc_need_order (fun vs H Q E h => ?_) (fun cdv A outer s H vs Q E hr h => ⟨_, (pss_cons (ps_set (i := 1) sc_need_order.nd rfl (.inl rfl) (pe_cl Cf hr (by decide) (by rfl) pass0 (pa_cons (pv 0) pa_nil)))
      (pss_cons (ps_if (pt_cmpR op_notN (pv 1) pe_non (nomark _)) (pss_one (ps_raise rfl (takes_of rfl rfl rfl rfl) (pmk_oex TO.oex TO.iC TO.tI FI (hr.mono (by decide)) bI .nil pass0 (by rfl) TO.gl (pa_cons (pv 1) pa_nil)))) pss_nil)
      (pss_one (ps_ret (pv 0))))), ?_⟩)
  · obtain ⟨x, rfl, _⟩ := h
    rfl
  · obtain ⟨x, rfl, h⟩ := h
    rcases h with ⟨ds, hd, q⟩ | ⟨hd, q⟩ | ⟨n, ps, hO, hn, q⟩
    · refine ⟨x, rfl, x, rfl, .inl ⟨ds, hd, .str "form", rfl, rfl, true, rfl, iteT (mke_of ?_ ?_)⟩⟩
      · intro Q Q' hm z
        obtain ⟨v, e, z⟩ := z
        exact ⟨v, e, hm _ _ z⟩
      · exact ⟨_, rfl, _, rfl, q⟩
    · refine ⟨x, rfl, x, rfl, .inr (.inl ⟨hd, .str "many", rfl, rfl, true, rfl, iteT (mke_of ?_ ?_)⟩)⟩
      · intro Q Q' hm z
        obtain ⟨v, e, z⟩ := z
        exact ⟨v, e, hm _ _ z⟩
      · exact ⟨_, rfl, _, rfl, q⟩
    · exact ⟨x, rfl, x, rfl, .inr (.inr ⟨n, ps, hO, hn, fun H' s => ⟨.non, rfl, rfl, false, rfl, iteF ⟨x, rfl, q _ s⟩⟩⟩)⟩
end
end K37
/-! ## D5 -/
namespace K37
open PySem PySem.Spec PyProof.Rows L2
section
variable {P : Program} {w : World} {K : PySem.W.Frag} {mg : Str → Option Value} {base : Heap}
/-! ### is_lot_of -/
def lotI (n : Int) : PyData → Bool
  | .tuple ds => ds.all (isW 0 (n - 1)) && adjB ltI (ds.map toI)
  | _ => false
def fewD : PyData → Prop
  | .tuple ds => ds.length ≤ 1000
  | _ => True
theorem ints_of : ∀ {ds : List PyData} {lo hi : Int}, ds.all (isW lo hi) = true → ds = (ds.map toI).map PyData.int
  | [], _, _, _ => rfl
  | d :: ds, lo, hi, h => by
    rw [List.all_cons, Bool.and_eq_true] at h
    have ih := ints_of h.2
    cases d with
    | int i => exact congrArg (PyData.int i :: ·) ih
    | _ => exact absurd h.1 (by simp [isW])
def spLotOf (K : PySem.W.Frag) : Sp := fun vs H Q _ => ∃ o x n ps d, vs = [o, x] ∧ OrdAt K H o n ps ∧ Dp K H x d ∧ fewD d ∧ ∀ H', Same H H' → Q (.bl (lotI n d)) H'
theorem sc_is_lot_of : FnScope ["order", "thing", "one"] ["order", "thing"] (defScope (top 12)) := ⟨rfl, rfl, rfl, by decide +kernel, rfl, by decide +kernel, by decide +kernel⟩
theorem ok_is_lot_of {f : Addr} {fd : FuncData} (F : FnP K "is_lot_of" 12 f fd) (T : Tp mg) (Cw : Cl P w K mg base CX0 2 "is_within" (spWithin K)) (Ca : Cl P w K mg base CX0 1 "do_ascend" (spAsc K)) :
    FnOk P w K mg base CX0 3 f fd ["order", "thing"] (spLotOf K) := by
  refine F.ok sc_is_lot_of (fun vs H Q E h => ?_) (fun cdv A outer s H vs Q E hr h => ⟨_, PSs.nox (pss_cons (ps_if
      (PW.pt (pw_or (pt_not (pt_val (pe_callB call_isi (by rfl) T.isi (by decide +kernel) (pa_cons (pv 1) (pa_cons (pe_bltn (v := .ty "tuple") (by rfl) T.tuple (by decide +kernel) rfl) pa_nil)))))
        (pw_or1 (pt_not (pt_val (pe_callB (cr_all rfl) (by rfl) T.all (by decide +kernel) (pa_cons
            (pe_lc (own := [("one", 2)]) (g := gName 2) (tt := tYes) rfl sc_is_lot_of.nd (pi_tup (pv 1)) (blkOk_by (N := ["order", "thing", "one"]) (sc := defScope (top 12)) (by decide +kernel)) (fun _ _ _ _ _ => pg_name (i := 2) sc_is_lot_of.nd rfl (Or.inl rfl)) (fun _ _ _ _ _ => pts_nil)
              (fun _ _ _ _ _ => pe_cl Cw hr (by decide) (by rfl) pass0 (pa_cons (pv 2) (pa_cons pe_int (pa_cons (pe_op op_sub (pe_ix (ixT K) (pv 0) pe_int (fun _ _ => rfl)) pe_int) pa_nil))))) pa_nil)))))))
      (pss_one (ps_ret pe_bl)) pss_nil)
      (pss_one (ps_ret (pe_cl Ca hr (by decide) (by rfl) pass0 (pa_cons (pv 1) pa_nil))))), ?_⟩)
  · obtain ⟨o, x, n, ps, d, rfl, _⟩ := h
    rfl
  · obtain ⟨_, x, n, ps, d, rfl, ⟨o, p, ts, rfl, h1, h2, h3, h4⟩, hd, hf, q⟩ := h
    refine ⟨x, rfl, _, _, _, _, _, rfl, .ty "tuple", dp_ty hd, kit_tuple K _, _, rfl, ?_⟩
    cases d with
    | tuple ds =>
      obtain ⟨a, xs, rfl, hS, hA⟩ := isTup_of hd
      have hl := dpAll_len hA
      obtain ⟨z1, z2, z3⟩ := dpAll_zip hA
      have hS' := hS
      rw [z1] at hS'
      have hz : (xs.zip ds).length ≤ 1000 := by
        rw [List.length_zip]
        have : ds.length ≤ 1000 := hf
        omega
      refine iteF ⟨.ref a, rfl, a, rfl, ⟨_, hS⟩, fun D hD => ?_⟩
      refine lcW (walks_tup (ι := fun p : V × PyData => p.1) hS') hD (by omega) (fun _ => true) (fun p => isW 0 (n - 1) p.2) V.bl (fun p x H' kY kN hp sm hx hY _ => ⟨rfl, yesI ?_⟩) (fun H' sm hl => ?_)
      · subst hx
        exact ⟨_, rfl, .ref o, rfl, o, _, 0, .int n, rfl, rfl, same_T sm h1, rfl, n, 1, rfl, rfl, p.1, p.2, 0, n - 1, rfl, dp_same sm (z3 p hp), hY rfl _ (Same.refl _)⟩
      · refine ⟨D, _, rfl, .inl (.inl hl), _, rfl, ?_⟩
        rw [filter_all, all_id, show ((xs.zip ds).all fun p => isW 0 (n - 1) p.2) = ds.all (isW 0 (n - 1)) by
          conv => rhs; rw [z2]
          rw [List.all_map]
          rfl]
        cases e : ds.all (isW 0 (n - 1)) with
        | false =>
          refine iteT (q_bl (q _ sm) ?_)
          show (ds.all (isW 0 (n - 1)) && _) = false
          rw [e, Bool.false_and]
        | true =>
          have ei := ints_of e
          rw [ei] at hA
          have ex := ints_dpAll _ hA
          rw [ex] at hS
          refine iteF ⟨.ref a, rfl, a, rfl, .inl ⟨ds.map toI, same_T sm hS, ?_, fun H2 s2 => q_bl (q _ (sm.trans s2)) ?_⟩⟩
          · rw [List.length_map]
            exact Nat.le_trans (show ds.length ≤ 1000 from hf) (by decide)
          · show (ds.all (isW 0 (n - 1)) && _) = _
            rw [e, Bool.true_and]
    | _ => exact iteT (q _ (Same.refl _))
end
end K37
/-! ## Ru1 -/
/-! own rules over the layer: d.update(e), list(d.values()) -/
namespace K37
open PySem PySem.Spec PyProof.Rows L2
section
variable {X : Cx}
/-- d.update(e) of two unlike dicts with int and text keys -/
def rDUpd : V → List V → Hp → VK → Prop := fun x vs H Q => ∃ (a b : Addr) (kvs more : List (Key × V)), x = .ref a ∧ vs = [.ref b] ∧ a ≠ b ∧
  H a = some (.dK kvs) ∧ Rd H b (.dK more) ∧ kvs.length + more.length ≤ sizeLine ∧ Q .non (upd H a (.dK (mergeK kvs more)))
theorem mt_dupd : MtR X "dict.update" rDUpd := by
  intro pins s σ H x xs v us Q I rx rxs h
  obtain ⟨a, b, kvs, more, ex, exs, hab, ha, hb, hz, q⟩ := h
  subst ex exs
  obtain rfl : v = Value.ref a := rx
  obtain ⟨u, rfl, ru⟩ := vals1 rxs
  obtain rfl : u = Value.ref b := ru
  obtain ⟨z1, s1, vs1, kv1, d1⟩ := dk_of I.hok ha
  obtain ⟨z2, s2, vs2, kv2, d2⟩ := dk_rd I.hok hb
  have l1 : kvs.length = vs1.length := kv1.length
  have l2 : more.length = vs2.length := kv2.length
  refine call_meetsIn PySem.F.slot_dict_update d1.typeIs PySem.F.entry_dict_update (PySem.F.args_dict_update_2 _ _)
    (meets_dict_update (mixKind X.prog X.w) a b hab s2) ⟨vs1, vs2, d1, d2, by omega, fun h' n1 n2 sb => ?_⟩
  obtain ⟨ob, es, ep, ho, _⟩ := id n1
  refine ⟨.non, _, d_write (t' := s.toks) (ob := .dK (mergeK kvs more)) I (by rw [ha]; exact True.intro) sb ⟨_, ho⟩ ?_, rfl, q⟩
  exact dk_new (Nat.le_trans (length_mergeK more kvs) hz) s1 (KV.merge kv2 kv1) n1
/-- list(e.values()) -/
def tListVals (te : TE) : TE := fun σ H Q => te σ H fun x H1 => ∃ (d : Addr) (kvs : List (Key × V)), x = .ref d ∧ H1 d = some (.dK kvs) ∧
  ∀ p, H1 p = none → Q (.ref p) (upd H1 p (.lst (kvs.map (·.2))))
theorem vals_ix : ∀ {xs : List V} {us : List Value}, xs.length = us.length → (∀ (j : Nat) (x : V) (u : Value), xs[j]? = some x → us[j]? = some u → RelV x u) → Vals xs us
  | [], [], _, _ => .nil
  | [], _ :: _, h, _ => by cases h
  | _ :: _, [], h, _ => by cases h
  | x :: xs, u :: us, h, r => .cons (r 0 x u rfl rfl) (vals_ix (Nat.succ.inj h) fun j y w e1 e2 => r (j + 1) y w e1 e2)
theorem kv_ix {κ : Type} : ∀ {kvs : List (κ × V)} {vs : List (κ × Value)}, KV kvs vs → ∀ {j : Nat} {p : κ × V} {q : κ × Value}, kvs[j]? = some p → vs[j]? = some q → RelV p.2 q.2
  | _, _, .nil, j, p, q, e, _ => by cases e
  | _, _, .cons r t, 0, p, q, e1, e2 => by
    cases Option.some.inj e1
    cases Option.some.inj e2
    exact r.2
  | _, _, .cons r t, j + 1, p, q, e1, e2 => kv_ix t e1 e2
variable {e : Expr} {te : TE} {p apos cpos pos : Pos}
theorem pe_listVals (hc : X.calm = true) (he : PE X e te) (hm : X.mg "list" = none) (hg : Gl X "list" := by rfl) (hbase : attributeBase e "values" X.env (eval e X.env) = eval e X.env := by rfl) (hline : (apos.endLine == cpos.line) = true := by rfl)
    (hs : starEach [.Call (.Attribute e "values" apos) [] [] cpos] X.env = (false, eval (.Call (.Attribute e "values" apos) [] [] cpos) X.env) :: starEach [] X.env := by rfl) :
    PE X (.Call (.Name "list" p) [.Call (.Attribute e "values" apos) [] [] cpos] [] pos) (tListVals te) := by
  refine ⟨fun pins s σ H Q I hq => ?_⟩
  refine wpAny_Call_Name_kw (ld_blt I hg hm (show bootBuiltins ("list" : Str) = some (.type "list") from by decide +kernel) ?_)
  refine callWith_type1 ?_ hs rfl
  rw [hs]
  show wpAny _ _ (spliced ((false, eval (.Call (.Attribute e "values" apos) [] [] cpos) X.env) :: backTo pos (starEach [] X.env))) _ _ s
  refine Calls.spliced_cons ?_
  refine wpAny_Call_method (T := "dict") (id := "dict.values") hbase rfl hline F.plainAttrs_dict F.slot_dict_values F.type_dict_values (thn (he.run pins s σ H _ I hq) fun u s1 hx => ?_)
  obtain ⟨x, H1, I1, rx, d, kvs, ex, hd, q⟩ := hx
  subst ex
  obtain rfl : u = Value.ref d := rx
  obtain ⟨hz, hs0, vs, kv, hdo⟩ := dk_of I1.hok hd
  obtain ⟨ep, hat⟩ := hdo.dictAt
  have lk : kvs.length = vs.length := kv.length
  have I2 : Inv X pins σ H1 { s1 with heap := s1.heap.push { cls := .type "dict_values", data := .fields #[.ref d] } } := I1.kept (t' := s1.toks) fun b ob q => Heap.get?_push_of_some _ q
  refine ⟨hdo.typeIs, hdo.mapOf.noDict, ?_⟩
  show wpAny _ _ (callWith cpos (.builtin "dict.values") [.ref d] [] []) _ X.xe s1
  refine method_meetsIn F.slot_dict_values F.entry_dict_values rfl (PySem.evalArgs_none ⟨rfl, hdo.typeIs, F.args_dict_values_1 _, _, meets_dict_values (mixKind X.prog X.w) d hs0, ⟨vs, hdo⟩, ?_⟩)
  refine Calls.spliced_nil ?_
  refine PySem.W.kdl_call (PySem.W.kdl_values (knd := mixKind X.prog X.w) (kvs := vs) (ep := ep)) (I1.ok.hd hc) ⟨⟨_, Heap.get?_push_size _ rfl, rfl, rfl⟩, hat.push _⟩ (by omega) fun h' tk acc c hk hS hacc => ?_
  have fr : H1 (s1.heap.push { cls := .type "dict_values", data := .fields #[.ref d] }).objs.size = none := I2.hok.fresh (Nat.le_refl _)
  refine ⟨.ref _, _, I2.laid (t' := tk) (o := .lst (kvs.map (·.2))) hk (Nat.le_refl _) ⟨?_, acc.toList, c, ?_, ?_⟩, rfl, q _ fr⟩
  · rw [List.length_map]
    exact hz
  · have el : acc.toList.length = acc.size := by simp
    refine vals_ix (by rw [List.length_map, el, hacc.1, lk]) fun j x w h1 h2 => ?_
    obtain ⟨k, hky⟩ := hacc.2 j w (by rw [← Array.getElem?_toList]; exact h2)
    rw [List.getElem?_map] at h1
    cases ek : kvs[j]? with
    | none =>
      rw [ek] at h1
      cases h1
    | some pk =>
      rw [ek] at h1
      cases h1
      exact kv_ix kv ek hky
  · rw [Array.toArray_toList]
    exact hS
end
end K37
/-! ## Sd -/
namespace K37
open PySem PySem.Spec PyProof.Rows L2
/-! ### a dict that is a set of ints: each key's value is True -/
def SD (js : List Int) : List (Key × V) := js.map fun j => (Sum.inl j, V.bl true)
def addJ (js : List Int) (j : Int) : List Int := if j ∈ js then js else js ++ [j]
theorem sd_keys (js : List Int) : (SD js).map (·.1) = js.map Sum.inl := by
  unfold SD
  rw [List.map_map]
  rfl
theorem sd_len (js : List Int) : (SD js).length = js.length := by simp [SD]
theorem sd_val (js : List Int) (j : Int) : valV (SD js) (Sum.inl j) = if j ∈ js then some (.bl true) else none := by
  induction js with
  | nil => rfl
  | cons k js ih =>
    show valV ((Sum.inl k, V.bl true) :: SD js) (Sum.inl j) = _
    by_cases h : k = j
    · subst h
      rw [valV_pos rfl, if_pos List.mem_cons_self]
    · rw [valV_neg (by intro z; exact h (Sum.inl.inj z)), ih]
      by_cases h2 : j ∈ js
      · rw [if_pos h2, if_pos (List.mem_cons_of_mem _ h2)]
      · rw [if_neg h2, if_neg]
        intro z
        rcases List.mem_cons.mp z with e | e
        · exact h e.symm
        · exact h2 e
theorem sd_some {js : List Int} {j : Int} (h : j ∈ js) : valV (SD js) (Sum.inl j) = some (.bl true) := by rw [sd_val, if_pos h]
theorem sd_none {js : List Int} {j : Int} (h : j ∉ js) : valV (SD js) (Sum.inl j) = none := by rw [sd_val, if_neg h]
theorem sd_put (js : List Int) (j : Int) : putK (SD js) (Sum.inl j) (.bl true) = SD (addJ js j) := by
  unfold addJ
  by_cases h : j ∈ js
  · rw [if_pos h]
    unfold putK
    rw [valV_any, sd_val, if_pos h]
    refine (if_pos rfl).trans ?_
    unfold SD
    rw [List.map_map]
    refine List.map_congr_left fun k _ => ?_
    show (if (Sum.inl k : Key) = Sum.inl j then ((Sum.inl k : Key), V.bl true) else ((Sum.inl k : Key), V.bl true)) = ((Sum.inl k : Key), V.bl true)
    rw [ite_self]
  · rw [if_neg h, putK_new _ (by rw [sd_val, if_neg h])]
    unfold SD
    rw [List.map_append]
    rfl
theorem sd_merge : ∀ (ks js : List Int), mergeK (SD js) (SD ks) = SD (ks.foldl addJ js)
  | [], _ => rfl
  | k :: ks, js => by
    show mergeK (putK (SD js) (Sum.inl k) (.bl true)) (SD ks) = SD (ks.foldl addJ (addJ js k))
    rw [sd_put, sd_merge ks]
theorem mem_addJ {js : List Int} {j x : Int} : x ∈ addJ js j ↔ x ∈ js ∨ x = j := by
  unfold addJ
  by_cases h : j ∈ js
  · rw [if_pos h]
    constructor
    · exact .inl
    · rintro (z | z)
      · exact z
      · rw [z]
        exact h
  · rw [if_neg h, List.mem_append, List.mem_singleton]
theorem mem_addJs {x : Int} : ∀ {ks js : List Int}, x ∈ ks.foldl addJ js ↔ x ∈ js ∨ x ∈ ks
  | [], js => by simp
  | k :: ks, js => by
    rw [List.foldl_cons, mem_addJs, mem_addJ, List.mem_cons, or_assoc]
theorem nd_addJ {js : List Int} {j : Int} (h : js.Nodup) : (addJ js j).Nodup := by
  unfold addJ
  by_cases hj : j ∈ js
  · rw [if_pos hj]
    exact h
  · rw [if_neg hj, List.nodup_append]
    refine ⟨h, by simp, fun a ha b hb e => ?_⟩
    rw [List.mem_singleton.mp hb] at e
    rw [e] at ha
    exact hj ha
theorem nd_addJs : ∀ {ks js : List Int}, js.Nodup → (ks.foldl addJ js).Nodup
  | [], _, h => h
  | _ :: ks, _, h => nd_addJs (ks := ks) (nd_addJ h)
theorem nd_len {js : List Int} {n : Int} (h : js.Nodup) (hb : ∀ x ∈ js, 0 ≤ x ∧ x < n) : js.length ≤ n.toNat := by
  have p : js.Perm ((rng n).filter fun x => decide (x ∈ js)) := by
    refine (List.perm_ext_iff_of_nodup h (asc_nodup (asc_filter _ (asc_rng n)))).mpr fun x => ?_
    rw [List.mem_filter, mem_rng, decide_eq_true_eq]
    exact ⟨fun z => ⟨hb x z, z⟩, fun z => z.2⟩
  rw [p.length_eq]
  exact Nat.le_trans (List.length_filter_le _ _) (by rw [rng_len]; exact Nat.le_refl _)
end K37
/-! ## D6 -/
namespace K37
open PySem PySem.Spec PyProof.Rows L2
section
variable {P : Program} {w : World} {K : PySem.W.Frag} {mg : Str → Option Value} {base : Heap}
/-! ### ahead_in -/
/-- at x: for each item the dict of those ahead of it -/
def AhD (H : Hp) (x : V) (n : Int) (R : Rl) : Prop := ∃ (p : Addr) (ds : List Addr), x = .ref p ∧ H p = some (.lst (ds.map V.ref)) ∧ ds.length = n.toNat ∧
  ∀ (i : Nat) (d : Addr), ds[i]? = some d → ∃ js : List Int, H d = some (.dK (SD js)) ∧ js.Nodup ∧ ∀ j, j ∈ js ↔ R j i = true
theorem AhD.same {H H' : Hp} {x : V} {n : Int} {R : Rl} (h : AhD H x n R) (s : Same H H') : AhD H' x n R := by
  obtain ⟨p, ds, rfl, h1, h2, h3⟩ := h
  refine ⟨p, ds, rfl, s _ _ h1, h2, fun i d hd => ?_⟩
  obtain ⟨js, e, a, b⟩ := h3 i d hd
  exact ⟨js, s _ _ e, a, b⟩
def spAhead (K : PySem.W.Frag) : Sp := fun vs H Q _ => ∃ o n ps, vs = [o] ∧ OrdAt K H o n ps ∧ Ord n ps ∧ ∀ H' x, Same H H' → AhD H' x n (ah ps) → Q x H'
theorem sc_ahead_in : FnScope ["order", "item", "found", "near", "pair"] ["order"] (defScope (top 13)) := ⟨rfl, rfl, rfl, by decide +kernel, rfl, by decide +kernel, by decide +kernel⟩
/-- within the walk: H0 the heap at the entry, D the list of the dicts ds; those before i are done -/
structure AhI (n : Int) (ps : List (Int × Int)) (H0 H : Hp) (D : Addr) (ds : List Addr) (i : Nat) : Prop where
  sm : Same H0 H
  lst : H D = some (.lst (ds.map V.ref))
  len : ds.length = n.toNat
  nd : ds.Nodup
  new : ∀ d ∈ ds, H0 d = none
  done : ∀ (k : Nat) (d : Addr), ds[k]? = some d → k < i → ∃ js : List Int, H d = some (.dK (SD js)) ∧ js.Nodup ∧ ∀ j, j ∈ js ↔ ah ps j k = true
  rest : ∀ (k : Nat) (d : Addr), ds[k]? = some d → i ≤ k → H d = some (.dK (SD []))
theorem ok_ahead_in {f : Addr} {fd : FuncData} (F : FnP K "ahead_in" 13 f fd) (T : Tp mg) : FnOk P w K mg base CX0 1 f fd ["order"] (spAhead K) := by
  refine F.ok sc_ahead_in (fun vs H Q E h => ?_) (fun cdv A outer s H vs Q E hr h => ⟨_, PSs.nox (pss_cons
      (ps_setLc (i := 2) (own := [("item", 1)]) (g := gName 1) (tt := tYes) rfl sc_ahead_in.nd rfl rfl (sw_true rfl rfl rfl (by decide +kernel)) (pi_range1 rfl T.range (pa_cons (pe_ix ix_tup (pv 0) pe_int (fun _ _ => rfl)) pa_nil)) (blkOk_by (N := ["order", "item", "found", "near", "pair"]) (sc := defScope (top 13)) (by decide +kernel)) (fun _ _ _ _ _ => pg_name (i := 1) sc_ahead_in.nd rfl (Or.inl rfl)) (fun _ _ _ _ _ => pts_nil) (fun _ _ _ _ _ => pe_dnewK))
      (pss_cons (ps_for PassesOwn.never rfl (pi_range1 rfl T.range (pa_cons (pe_ix ix_tup (pv 0) pe_int (fun _ _ => rfl)) pa_nil)) (pg_name (i := 1) sc_ahead_in.nd rfl (Or.inr rfl))
        (pss_one (ps_for PassesOwn.never rfl
          (pi_list (pe_lc (own := [("pair", 4)]) (g := gName 4) rfl sc_ahead_in.nd (pi_tup (pe_ix ix_tup (pv 0) pe_int (fun _ _ => rfl))) (blkOk_by (N := ["order", "item", "found", "near", "pair"]) (sc := defScope (top 13)) (by decide +kernel)) (fun _ _ _ _ _ => pg_name (i := 4) sc_ahead_in.nd rfl (Or.inl rfl))
            (fun _ _ _ _ _ => pts_one (pt_cmpR op_eq (pe_ix (ixT K) (pv 4) pe_int (fun _ _ => rfl)) (pv 1) (nomark _))) (fun _ _ _ _ _ => pe_ix (ixT K) (pv 4) pe_int (fun _ _ => rfl))))
          (pg_name (i := 3) sc_ahead_in.nd rfl (Or.inl rfl))
          (pss_cons (ps_dput (hu_of hr) (pe_ix ix_list (pv 2) (pv 1) (fun _ _ => rfl)) (pv 3) pe_bl rfl)
          (pss_one (ps_expr (pe_bm PySem.F.plainAttrs_dict PySem.F.slot_dict_update PySem.F.type_dict_update mt_dupd (pe_ix ix_list (pv 2) (pv 1) (fun _ _ => rfl)) (pa_cons (pe_ix ix_list (pv 2) (pv 3) (fun _ _ => rfl)) pa_nil))))))))
      (pss_one (ps_ret (pv 2))))), ?_⟩)
  · obtain ⟨o, n, ps, rfl, _⟩ := h
    rfl
  · obtain ⟨_, n, ps, rfl, ⟨o, p, ts, rfl, h1, h2, h3, h4⟩, hn, q⟩ := h
    have n0 := hn.n0
    have n20 := hn.n20
    refine ⟨.ref o, rfl, o, _, 0, .int n, rfl, rfl, h1, rfl, ?_⟩
    refine ⟨n, rfl, by omega, by omega, fun D hD => ?_⟩
    refine lc_range (lo := 0) (n := n.toNat) (fun i H' => Same H H' ∧ ∃ ds : List Addr, ds.length = i ∧ H' D = some (.lst (ds.map V.ref)) ∧ ds.Nodup ∧ (∀ d ∈ ds, H d = none ∧ H' d = some (.dK [])) ∧ D ∉ ds) ⟨same_put (Same.refl _) hD, [], rfl, upd_same, .nil, (fun d hd => by cases hd), by simp⟩ (fun i H' hi hP => ?_) (fun H' hP => ?_)
    · obtain ⟨sm, ds, e1, e2, e3, e4, e5⟩ := hP
      refine ⟨rfl, yesI ?_⟩
      intro d hd
      have dD : D ≠ d := ne_of_none e2 hd
      have dn : ∀ x ∈ ds, x ≠ d := fun x hx => ne_of_none (e4 x hx).2 hd
      have hHd : H d = none := by
        cases e : H d with
        | none => rfl
        | some u =>
          have := sm _ _ e
          rw [hd] at this
          cases this
      refine ⟨ds.map V.ref, by rw [upd_ne dD]; exact e2, ?_, ?_, ds ++ [d], by rw [List.length_append, e1]; rfl, ?_, ?_, ?_, ?_⟩
      · rw [List.length_map, e1]
        exact small20 (by omega)
      · exact same_put (same_put sm hHd) hD
      · rw [upd_same, List.map_append]
        rfl
      · rw [List.nodup_append]
        refine ⟨e3, by simp, fun a ha b hb => ?_⟩
        rw [List.mem_singleton.mp hb]
        exact dn a ha
      · intro x hx
        rcases List.mem_append.mp hx with hx | hx
        · rw [upd_ne (show x ≠ D from fun z => e5 (by rw [← z]; exact hx)), upd_ne (dn x hx)]
          exact e4 x hx
        · rw [List.mem_singleton.mp hx, upd_ne dD.symm, upd_same]
          exact ⟨hHd, rfl⟩
      · intro hx
        rcases List.mem_append.mp hx with hx | hx
        · exact e5 hx
        · exact dD (List.mem_singleton.mp hx)
    · obtain ⟨sm, ds, e1, e2, e3, e4, e5⟩ := hP
      refine ⟨.ref o, rfl, o, _, 0, .int n, rfl, rfl, same_T sm h1, rfl, n, rfl, by omega, by omega, ?_⟩
      have rel := ah_rel hn.ok n20
      refine for_range (lo := 0) (n := n.toNat) (fun i σ H' => ∃ y1 y3, σ = [some (.ref o), y1, some (.ref D), y3, none] ∧ AhI n ps H H' D ds i)
        ⟨_, _, rfl, sm, e2, e1, e3, fun d hd => (e4 d hd).1, fun k d _ hk => absurd hk (Nat.not_lt_zero k), fun k d hd _ => (e4 d (List.mem_of_getElem? hd)).2⟩ (fun i σ H1 hi hP => ?_) (fun σ H1 hP => ?_)
      · obtain ⟨y1, y3, rfl, I⟩ := hP
        have smi := I.sm
        refine ⟨.ref o, rfl, o, _, 1, .ref p, rfl, rfl, same_T smi h1, rfl, p, rfl, ⟨_, same_T smi h2⟩, fun D2 hD2 => ?_⟩
        have hts : ts.length ≤ 1000 := by
          have := hn.few
          rw [← h4, List.length_map] at this
          exact this
        refine lcW (walks_tup (same_T smi h2)) hD2 (by omega) (fun t => decide (t.2.2 = 0 + (i : Int))) (fun t => t.2.1) V.int (fun t x H2 kY kN ht sm2 hx hY hN => ⟨rfl, ?_⟩) (fun H2 sm2 hl => ?_)
        · subst hx
          have hT := same_T (smi.trans sm2) (h3 t ht)
          refine ⟨.ref t.1, rfl, t.1, _, 1, .int t.2.2, rfl, rfl, hT, rfl, .int (0 + (i : Int)), rfl, rfl, _, rfl, ?_⟩
          rw [decInt]
          cases e : decide (t.2.2 = 0 + (i : Int)) with
          | true => exact iteT ⟨.ref t.1, rfl, t.1, _, 0, .int t.2.1, rfl, rfl, hT, rfl, hY e _ (Same.refl _)⟩
          | false => exact iteF (hN e _ (Same.refl _))
        · refine ⟨D2, rfl, ⟨_, .inl (.inl hl)⟩, ?_⟩
          have hlt : i < ds.length := by rw [I.len]; exact hi
          have gi : ds[i]? = some ds[i] := List.getElem?_eq_getElem hlt
          have hdi := sm2 _ _ (I.rest i ds[i] gi (Nat.le_refl _))
          have hnew := I.new ds[i] (List.mem_of_getElem? gi)
          -- what the inner walk has put into the dict of item i
          refine for_list (K := K) (a := D2) (xs := (((ts.filter fun t => decide (t.2.2 = 0 + (i : Int))).map fun t => t.2.1).map V.int)) (fun j σ H3 => ∃ y3, σ = [some (.ref o), some (.int (0 + (i : Int))), some (.ref D), y3, none] ∧ (∀ b u, b ≠ ds[i] → H2 b = some u → H3 b = some u) ∧
            ∃ js : List Int, H3 ds[i] = some (.dK (SD js)) ∧ js.Nodup ∧ ∀ x, x ∈ js ↔ ∃ k ∈ ((ts.filter fun t => decide (t.2.2 = 0 + (i : Int))).map fun t => t.2.1).take j, x = k ∨ ah ps x k = true)
            ⟨_, rfl, fun b u _ e => e, [], hdi, .nil, fun x => by simp⟩ (fun j σ H3 _ hP => ?_) (fun j x σ H3 hj hP => ?_) (fun σ H3 hP => ?_)
          · obtain ⟨y3, rfl, kp, _⟩ := hP
            exact .inl (.inl (kp D2 _ (ne_of hl hdi (by intro z; cases z)) hl))
          · obtain ⟨y3, rfl, kp, js, j1, j2, j3⟩ := hP
            obtain ⟨near, gn, rfl⟩ := get_map hj
            have hps : (near, (i : Int)) ∈ ps := by
              obtain ⟨t, ht, e⟩ := List.mem_map.mp (List.mem_of_getElem? gn)
              obtain ⟨t1, t2⟩ := List.mem_filter.mp ht
              rw [decide_eq_true_eq, Int.zero_add] at t2
              rw [← h4, ← e, ← t2]
              exact List.mem_map_of_mem t1
            have hb := hn.ok _ hps
            simp only at hb
            have hnl : near.toNat < ds.length := by omega
            have gd : ds[near.toNat]? = some ds[near.toNat] := List.getElem?_eq_getElem hnl
            have hne : ds[near.toNat] ≠ ds[i] := fun z => by
              have := (List.getElem?_inj hnl I.nd).mp (gd.trans ((congrArg some z).trans gi.symm))
              omega
            obtain ⟨js2, k1, k2, k3⟩ := I.done near.toNat _ gd (by omega)
            have hcast : ((near.toNat : Nat) : Int) = near := by omega
            rw [hcast] at k3
            have hDi : D ≠ ds[i] := ne_of (sm2 _ _ I.lst) hdi (by intro z; cases z)
            have hD3 := kp D _ hDi (sm2 _ _ I.lst)
            have hk2 := kp _ _ hne (sm2 _ _ k1)
            have ai : atI (ds.map V.ref) (0 + (i : Int)) = some (.ref ds[i]) := by
              rw [Int.zero_add]
              exact atI_nat (map_get hlt)
            have an : atI (ds.map V.ref) near = some (.ref ds[near.toNat]) := by
              have := atI_nat (map_get (ι := V.ref) hnl)
              rw [hcast] at this
              exact this
            have jb : ∀ x ∈ js, 0 ≤ x ∧ x < n := fun x hx => by
              obtain ⟨k, hk, e⟩ := (j3 x).mp hx
              obtain ⟨t, ht, e2⟩ := List.mem_map.mp (List.mem_of_mem_take hk)
              have hb2 := hn.ok t.2 (by rw [← h4]; exact List.mem_map_of_mem (List.mem_filter.mp ht).1)
              rcases e with e | e
              · omega
              · have := rel.bd e
                omega
            have jl := nd_len j2 jb
            have jl2 := nd_len k2 (n := n) fun x hx => by
              have := rel.bd ((k3 x).mp hx)
              omega
            have jl3 : (addJ js near).length ≤ js.length + 1 := by
              unfold addJ
              split
              · omega
              · rw [List.length_append]
                exact Nat.le_refl _
            refine ⟨.ref D, rfl, .int (0 + (i : Int)), rfl, D, _, _, _, rfl, rfl, .inl (.inl hD3), ai, .int near, rfl, ds[i], _, rfl, DPut.k (k := Sum.inl near) j1 (by rw [sd_len]; exact small20 (by omega)), ?_⟩
            rw [sd_put]
            refine ⟨.ref D, rfl, .int (0 + (i : Int)), rfl, D, _, _, _, rfl, rfl, .inl (.inl (by rw [upd_ne hDi]; exact hD3)), ai, .inr (.inr (.inl ⟨rfl, .inl ⟨_, upd_same⟩⟩)), .ref D, rfl, .int near, rfl, D, _, _, _, rfl, rfl, .inl (.inl (by rw [upd_ne hDi]; exact hD3)), an, ?_⟩
            refine ⟨ds[i], ds[near.toNat], _, _, rfl, rfl, Ne.symm hne, upd_same, .inl (by rw [upd_ne hne]; exact hk2), ?_, ?_⟩
            · rw [sd_len, sd_len]
              exact Nat.le_of_lt (small20 (by omega))
            · rw [sd_merge, upd_upd]
              refine ⟨some (.int near), rfl, fun b u hb e => by rw [upd_ne hb]; exact kp b u hb e, _, upd_same, nd_addJs (nd_addJ j2), fun x => ?_⟩
              rw [mem_addJs, mem_addJ, j3, k3, List.take_add_one, gn]
              simp only [Option.toList_some, List.mem_append, List.mem_singleton]
              constructor
              · rintro ((⟨k, hk, e⟩ | e) | e)
                · exact ⟨k, .inl hk, e⟩
                · exact ⟨near, .inr rfl, .inl e⟩
                · exact ⟨near, .inr rfl, .inr e⟩
              · rintro ⟨k, hk | hk, e⟩
                · exact .inl (.inl ⟨k, hk, e⟩)
                · subst hk
                  rcases e with e | e
                  · exact .inl (.inr e)
                  · exact .inr e
          · obtain ⟨y3, rfl, kp, js, j1, j2, j3⟩ := hP
            have oth : ∀ (k : Nat) (d : Addr), ds[k]? = some d → k ≠ i → d ≠ ds[i] := fun k d hd hk z => by
              have hkl := (List.getElem?_eq_some_iff.mp hd).1
              rw [z] at hd
              exact hk ((List.getElem?_inj hkl I.nd).mp (hd.trans gi.symm))
            have hDi : D ≠ ds[i] := ne_of (sm2 _ _ I.lst) hdi (by intro z; cases z)
            refine ⟨_, _, rfl, fun b u e => kp b u (ne_of_none e hnew) (sm2 _ _ (smi b u e)), kp D _ hDi (sm2 _ _ I.lst), I.len, I.nd, I.new, fun k d hd hk => ?_, fun k d hd hk => kp d _ (oth k d hd (by omega)) (sm2 _ _ (I.rest k d hd (by omega)))⟩
            by_cases hki : k = i
            · subst hki
              have e : d = ds[k] := Option.some.inj (hd.symm.trans gi)
              subst e
              refine ⟨js, j1, j2, fun x => (j3 x).trans ?_⟩
              rw [ah_step hn.ok n20, List.length_map, List.take_length]
              constructor
              · rintro ⟨m, hm, e⟩
                obtain ⟨t, ht, rfl⟩ := List.mem_map.mp hm
                obtain ⟨t1, t2⟩ := List.mem_filter.mp ht
                rw [decide_eq_true_eq, Int.zero_add] at t2
                exact ⟨t.2.1, by rw [← t2, ← h4]; exact List.mem_map_of_mem t1, e⟩
              · rintro ⟨m, hm, e⟩
                rw [← h4] at hm
                obtain ⟨t, ht, e2⟩ := List.mem_map.mp hm
                refine ⟨m, List.mem_map.mpr ⟨t, List.mem_filter.mpr ⟨ht, ?_⟩, by rw [e2]⟩, e⟩
                rw [e2, Int.zero_add]
                exact decide_eq_true rfl
            · obtain ⟨js2, k1, k2, k3⟩ := I.done k d hd (by omega)
              exact ⟨js2, kp d _ (oth k d hd hki) (sm2 _ _ k1), k2, k3⟩
      · obtain ⟨y1, y3, rfl, I⟩ := hP
        refine ⟨.ref D, rfl, q _ _ I.sm ⟨D, ds, rfl, I.lst, I.len, fun i d hd => ?_⟩⟩
        have : i < ds.length := (List.getElem?_eq_some_iff.mp hd).1
        exact I.done i d hd (by rw [← I.len]; exact this)
end
end K37
/-! ## Lc2 -/
namespace K37
open PySem PySem.Spec PyProof.Rows L2 RZ
section
variable {α β : Type} {K : PySem.W.Frag} {H1 : Hp} {l : List α}
theorem same_del {H H' : Hp} {D : Addr} (s : Same H H') : Same (del H D) (del H' D) := fun b u e => by
  by_cases hb : b = D
  · rw [hb, del_same] at e
    cases e
  · rw [del_ne hb] at e ⊢
    exact s b u e
theorem del_upd {H : Hp} {D : Addr} {o : HO} : del (upd H D o) D = del H D := by
  funext b
  by_cases hb : b = D
  · rw [hb, del_same, del_same]
  · rw [del_ne hb, del_ne hb, upd_ne hb]
theorem same_of_del {H : Hp} {D : Addr} : Same (del H D) H := fun b u e => by
  by_cases hb : b = D
  · rw [hb, del_same] at e
    cases e
  · rw [del_ne hb] at e
    exact e
theorem get_snoc {l : List α} {a x : α} {j : Nat} (h : (l ++ [a])[j]? = some x) : l[j]? = some x ∨ (j = l.length ∧ x = a) := by
  by_cases hj : j < l.length
  · rw [List.getElem?_append_left hj] at h
    exact .inl h
  · rw [List.getElem?_append_right (by omega)] at h
    have e : j - l.length = 0 := by
      cases e : j - l.length with
      | zero => rfl
      | succ k =>
        rw [e] at h
        simp at h
    rw [e] at h
    exact .inr ⟨by omega, (Option.some.inj h).symm⟩
/-- a comprehension whose values are told by τ (new objects among them) -/
theorem lcN {J : It} {g : TG} {tt : TT} {te : TE} {vs : List Nat} {σ : L2.St} {D : Addr} {Qd : Hp → Prop} {ρ : α → V → Hp → Prop} (wk : Walks J H1 l ρ) (hD : H1 D = none) (hz : l.length ≤ 100000) (kp : α → Bool) (τ : α → V → Hp → Prop)
    (hτ : ∀ a y H H', Same H H' → τ a y H → τ a y H')
    (hb : ∀ (a : α) (x : V) (H' : Hp) (kY : V → Hp → Prop) (kN : Hp → Prop), a ∈ l → Same H1 H' → ρ a x H' → (∃ acc, H' D = some (.lst acc)) → (kp a = true → ∀ y H4, Same H' H4 → τ a y (del H4 D) → kY y H4) → (kp a = false → ∀ H3, Same H' H3 → kN H3) →
      g x (wipe σ vs) H' fun σ2 H2 => wipe σ2 vs = wipe σ vs ∧ tt σ2 H2 fun b H3 => if b = true then te σ2 H3 kY else kN H3)
    (hd : ∀ H' ys, Same H1 H' → H' D = some (.lst ys) → ys.length = (l.filter kp).length → (∀ (i : Nat) a y, (l.filter kp)[i]? = some a → ys[i]? = some y → τ a y (del H' D)) → Qd H') :
    ∃ W : Nat → Nat → Hp → Prop, (∃ m, W 0 m (upd H1 D (.lst []))) ∧ ∀ i m H, W i m H →
      (J.stop i H ∧ Qd H) ∨ (J.go i H ∧ ∃ Nx : Hp → Prop, (∀ H', Nx H' → ∃ m', m' < m ∧ W (i + 1) m' H') ∧ ∀ x H', J.yld i H x H' → g x (wipe σ vs) H' fun σ2 H2 => wipe σ2 vs = wipe σ vs ∧ tt σ2 H2 fun b H3 =>
        if b = true then te σ2 H3 fun y H4 => ∃ acc, H4 D = some (.lst acc) ∧ acc.length < sizeLine ∧ Nx (upd H4 D (.lst (acc ++ [y]))) else Nx H3) := by
  let Pv : Nat → Hp → Prop := fun i H => Same H1 H ∧ ∃ ys, H D = some (.lst ys) ∧ ys.length = ((l.take i).filter kp).length ∧ ∀ (j : Nat) a y, ((l.take i).filter kp)[j]? = some a → ys[j]? = some y → τ a y (del H D)
  refine ⟨fun i m H => m = l.length - i ∧ i ≤ l.length ∧ Pv i H, ⟨l.length, by simp, Nat.zero_le _, same_put (Same.refl _) hD, [], upd_same, by simp, fun j a y h => by simp at h⟩, ?_⟩
  rintro i m H ⟨rfl, hi, sm, ys, hl, hyl, ht⟩
  by_cases hlt : i < l.length
  · refine .inr ⟨wk.go i H sm hlt, Pv (i + 1), fun H' p' => ⟨l.length - (i + 1), by omega, rfl, hlt, p'⟩, fun x H' y => ?_⟩
    obtain ⟨s0, a, ha, hx⟩ := wk.yld i H x H' sm y hlt
    have et : l.take (i + 1) = l.take i ++ [a] := by rw [List.take_add_one, ha]; rfl
    refine hb a x H' _ _ (List.mem_of_getElem? ha) (sm.trans s0) hx ⟨_, s0 _ _ hl⟩ (fun hk z H4 s4 hz4 => ?_) (fun hk H3 s3 => ?_)
    · have ef : (l.take (i + 1)).filter kp = (l.take i).filter kp ++ [a] := by rw [et, List.filter_append, List.filter_cons_of_pos (by simpa using hk)]; rfl
      have hD4 := s4 _ _ (s0 _ _ hl)
      refine ⟨ys, hD4, ?_, same_put ((sm.trans s0).trans s4) hD, ys ++ [z], upd_same, by rw [ef, List.length_append, List.length_append, hyl]; rfl, fun j b y hj hy => ?_⟩
      · rw [hyl]
        refine small20 (Nat.le_trans (List.length_filter_le _ _) ?_)
        rw [List.length_take]
        omega
      · rw [del_upd]
        rw [ef] at hj
        rcases get_snoc hj with hj | ⟨hj, hb'⟩
        · rcases get_snoc hy with hy | ⟨hy, _⟩
          · exact hτ _ _ _ _ (same_del (s0.trans s4)) (ht j b y hj hy)
          · have := (List.getElem?_eq_some_iff.mp hj).1
            omega
        · subst hb'
          rcases get_snoc hy with hy | ⟨_, hy⟩
          · have := (List.getElem?_eq_some_iff.mp hy).1
            omega
          · rw [hy]
            exact hz4
    · have ef : (l.take (i + 1)).filter kp = (l.take i).filter kp := by rw [et, List.filter_append, List.filter_cons_of_neg (by simp [hk])]; simp
      refine ⟨(sm.trans s0).trans s3, ys, s3 _ _ (s0 _ _ hl), by rw [ef]; exact hyl, fun j b y hj hy => ?_⟩
      rw [ef] at hj
      exact hτ _ _ _ _ (same_del (s0.trans s3)) (ht j b y hj hy)
  · have e : i = l.length := by omega
    subst e
    rw [List.take_length] at hyl ht
    exact .inl ⟨wk.stop _ H sm (Nat.le_refl _), hd H ys sm hl hyl ht⟩
/-- a comprehension's own scope within a block of the scope o -/
def scIn (o sc : Scope) : Scope := relabel sc { scope := o, locals := 0, globals := 0, cells := [] }
/-! ### two for in one comprehension -/
/-- the inner one -/
theorem lcI {J : It} {g : TG} {te : TE} {vs : List Nat} {σ : L2.St} {D : Addr} {Nx : Hp → Prop} {ρ : α → V → Hp → Prop} {H4 : Hp} {acc : List V} (wk : Walks J H1 l ρ) (sm0 : Same H1 H4) (hD : H1 D = none) (ha : H4 D = some (.lst acc)) (hz : acc.length + l.length ≤ 100000) (f : α → β) (κ : β → V)
    (hb : ∀ (a : α) (x : V) (H' : Hp) (kY : V → Hp → Prop) (kN : Hp → Prop), a ∈ l → Same H1 H' → ρ a x H' → (∀ H4, Same H' H4 → kY (κ (f a)) H4) →
      g x (wipe σ vs) H' fun σ2 H2 => wipe σ2 vs = wipe σ vs ∧ tYes σ2 H2 fun b H3 => if b = true then te σ2 H3 kY else kN H3)
    (hn : ∀ H', Same H1 H' → H' D = some (.lst (acc ++ (l.map f).map κ)) → Nx H') :
    ∃ W1 : Nat → Nat → Hp → Prop, (∃ m, W1 0 m H4) ∧ ∀ j k H, W1 j k H →
      (J.stop j H ∧ Nx H) ∨ (J.go j H ∧ ∃ Nx1 : Hp → Prop, (∀ H', Nx1 H' → ∃ k', k' < k ∧ W1 (j + 1) k' H') ∧ ∀ x H', J.yld j H x H' → g x (wipe σ vs) H' fun σ3 H5 => wipe σ3 vs = wipe σ vs ∧ tYes σ3 H5 fun b H6 =>
        if b = true then te σ3 H6 fun y H7 => ∃ acc, H7 D = some (.lst acc) ∧ acc.length < sizeLine ∧ Nx1 (upd H7 D (.lst (acc ++ [y]))) else Nx1 H6) := by
  let Pv : Nat → Hp → Prop := fun i H => Same H1 H ∧ H D = some (.lst (acc ++ ((l.take i).map f).map κ))
  refine ⟨fun i m H => m = l.length - i ∧ i ≤ l.length ∧ Pv i H, ⟨l.length, by simp, Nat.zero_le _, sm0, by rw [ha]; simp⟩, ?_⟩
  rintro i m H ⟨rfl, hi, sm, hl⟩
  by_cases hlt : i < l.length
  · refine .inr ⟨wk.go i H sm hlt, Pv (i + 1), fun H' p' => ⟨l.length - (i + 1), by omega, rfl, hlt, p'⟩, fun x H' y => ?_⟩
    obtain ⟨s0, a, ha, hx⟩ := wk.yld i H x H' sm y hlt
    have ht : l.take (i + 1) = l.take i ++ [a] := by rw [List.take_add_one, ha]; rfl
    refine hb a x H' _ _ (List.mem_of_getElem? ha) (sm.trans s0) hx (fun H4 s4 => ?_)
    refine ⟨_, s4 _ _ (s0 _ _ hl), ?_, ?_, ?_⟩
    · rw [List.length_append, List.length_map, List.length_map, List.length_take]
      exact small20 (by omega)
    · exact same_put ((sm.trans s0).trans s4) hD
    · rw [upd_same, ht, List.map_append, List.map_append, ← List.append_assoc]
      rfl
  · have e : i = l.length := by omega
    subst e
    rw [List.take_length] at hl
    exact .inl ⟨wk.stop _ H sm (Nat.le_refl _), hn H sm hl⟩
/-- the outer one -/
theorem lcO {J : It} {g : TG} {tt : TT} {te : (Hp → Prop) → L2.St → Hp → Prop} {vs : List Nat} {σ : L2.St} {D : Addr} {Qd : Hp → Prop} {ρ : α → V → Hp → Prop} (wk : Walks J H1 l ρ) (hD : H1 D = none) (F : α → List V)
    (hb : ∀ (a : α) (i : Nat) (x : V) (H' : Hp) (kO : Hp → Prop), l[i]? = some a → Same H1 H' → ρ a x H' → H' D = some (.lst ((l.take i).flatMap F)) → (∀ H'', Same H1 H'' → H'' D = some (.lst ((l.take i).flatMap F ++ F a)) → kO H'') →
      g x (wipe σ vs) H' fun σ2 H2 => wipe σ2 vs = wipe σ vs ∧ tt σ2 H2 fun b H3 => if b = true then te kO σ2 H3 else kO H3)
    (hd : ∀ H', Same H1 H' → H' D = some (.lst (l.flatMap F)) → Qd H') :
    ∃ W : Nat → Nat → Hp → Prop, (∃ m, W 0 m (upd H1 D (.lst []))) ∧ ∀ i m H, W i m H →
      (J.stop i H ∧ Qd H) ∨ (J.go i H ∧ ∃ Nx : Hp → Prop, (∀ H', Nx H' → ∃ m', m' < m ∧ W (i + 1) m' H') ∧ ∀ x H', J.yld i H x H' → g x (wipe σ vs) H' fun σ2 H2 => wipe σ2 vs = wipe σ vs ∧ tt σ2 H2 fun b H3 =>
        if b = true then te Nx σ2 H3 else Nx H3) := by
  let Pv : Nat → Hp → Prop := fun i H => Same H1 H ∧ H D = some (.lst ((l.take i).flatMap F))
  refine ⟨fun i m H => m = l.length - i ∧ i ≤ l.length ∧ Pv i H, ⟨l.length, by simp, Nat.zero_le _, same_put (Same.refl _) hD, upd_same⟩, ?_⟩
  rintro i m H ⟨rfl, hi, sm, hl⟩
  by_cases hlt : i < l.length
  · refine .inr ⟨wk.go i H sm hlt, Pv (i + 1), fun H' p' => ⟨l.length - (i + 1), by omega, rfl, hlt, p'⟩, fun x H' y => ?_⟩
    obtain ⟨s0, a, ha, hx⟩ := wk.yld i H x H' sm y hlt
    have ht : l.take (i + 1) = l.take i ++ [a] := by rw [List.take_add_one, ha]; rfl
    refine hb a i x H' _ ha (sm.trans s0) hx (s0 _ _ hl) (fun H4 s4 h4 => ⟨s4, ?_⟩)
    rw [h4, ht, List.flatMap_append]
    simp
  · have e : i = l.length := by omega
    subst e
    rw [List.take_length] at hl
    exact .inl ⟨wk.stop _ H sm (Nat.le_refl _), hd H sm hl⟩
/-! ### a dict that is walked stands locked meanwhile -/
theorem same_lock {H H' H0 : Hp} {d : Addr} {od : Obj} {u : HO} (s0 : Same H0 H) (hd : H d = some u) (s : Same (upd H d (.frz od u)) H') : Same H0 (upd H' d u) := fun b o e => by
  by_cases hb : b = d
  · subst hb
    have := s0 _ _ e
    rw [hd] at this
    rw [← this, upd_same]
  · rw [upd_ne hb]
    exact s b o (by rw [upd_ne hb]; exact s0 b o e)
end
end K37
/-! ## D7 -/
namespace K37
open PySem PySem.Spec PyProof.Rows L2
section
variable {P : Program} {w : World} {K : PySem.W.Frag} {mg : Str → Option Value} {base : Heap}
/-! ### the dict a def looks up by an item -/
theorem AhD.get {H : Hp} {x : V} {n : Int} {R : Rl} (h : AhD H x n R) (r : Rel n R) {i : Int} (h0 : 0 ≤ i) (h1 : i < n) : ∃ (p : Addr) (xs : List V) (d : Addr) (js : List Int), x = .ref p ∧ H p = some (.lst xs) ∧ atI xs i = some (.ref d) ∧ H d = some (.dK (SD js)) ∧ js.Nodup ∧ (∀ j, j ∈ js ↔ R j i = true) ∧ js.length ≤ n.toNat := by
  obtain ⟨p, ds, rfl, h2, h3, h4⟩ := h
  have hl : i.toNat < ds.length := by omega
  obtain ⟨js, e1, e2, e3⟩ := h4 i.toNat ds[i.toNat] (List.getElem?_eq_getElem hl)
  have hc : ((i.toNat : Nat) : Int) = i := by omega
  have := atI_nat (map_get (ι := V.ref) hl)
  rw [hc] at this e3
  exact ⟨p, _, _, js, rfl, h2, this, e1, e2, e3, nd_len e2 fun x hx => by have := r.bd ((e3 x).mp hx); omega⟩
/-! ### behind_in -/
/-- at x: for each item the list of those that it is ahead of -/
def BhD (H : Hp) (x : V) (n : Int) (R : Rl) : Prop := ∃ (p : Addr) (ys : List V), x = .ref p ∧ H p = some (.lst ys) ∧
  ∀ (i : Int), 0 ≤ i → i < n → ∃ d, atI ys i = some (.ref d) ∧ H d = some (.lst (((rng n).filter fun z => R i z).map V.int))
def spBehind (K : PySem.W.Frag) : Sp := fun vs H Q _ => ∃ o n ps, vs = [o] ∧ OrdAt K H o n ps ∧ Ord n ps ∧ ∀ H' x, Same H H' → BhD H' x n (ah ps) → Q x H'
theorem sc_behind_in : FnScope ["order", "ahead", "item", "far"] ["order"] (defScope (top 14)) := ⟨rfl, rfl, rfl, by decide +kernel, rfl, by decide +kernel, by decide +kernel⟩
def scBeh : Scope := match defBody (top 14) with
  | [_, .Return (some (.ListComp _ _ sc _)) _] => sc
  | _ => defScope (top 14)
theorem ins_rng (n : Int) : ins 0 n.toNat = rng n := by
  unfold ins rng
  refine List.map_congr_left fun k _ => ?_
  exact Int.zero_add _
theorem ok_behind_in {f : Addr} {fd : FuncData} (F : FnP K "behind_in" 14 f fd) (T : Tp mg) (Ca : Cl P w K mg base CX0 1 "ahead_in" (spAhead K)) : FnOk P w K mg base CX0 2 f fd ["order"] (spBehind K) := by
  refine F.ok sc_behind_in (fun vs H Q E h => ?_) (fun cdv A outer s H vs Q E hr h => ⟨_, PSs.nox (pss_cons
      (ps_set (i := 1) sc_behind_in.nd rfl (.inr rfl) (pe_cl Ca hr (by decide) (by rfl) pass0 (pa_cons (pv 0) pa_nil)))
      (pss_one (ps_ret (pe_lc (own := [("item", 2)]) (g := gName 2) (tt := tYes) rfl sc_behind_in.nd (pi_range1 rfl T.range (pa_cons (pe_ix ix_tup (pv 0) pe_int (fun _ _ => rfl)) pa_nil)) (blkOk_by (N := ["order", "ahead", "item", "far"]) (sc := defScope (top 14)) (by decide +kernel)) (fun _ _ _ _ _ => pg_name (i := 2) sc_behind_in.nd rfl (Or.inr rfl)) (fun _ _ _ _ _ => pts_nil)
        (fun _ _ _ _ _ => pe_lc (own := [("far", 3)]) (g := gName 3) rfl sc_behind_in.nd (pi_range1 rfl T.range (pa_cons (pe_ix (ixT K) (pv 0) pe_int (fun _ _ => rfl)) pa_nil)) (blkOk_by (N := ["order", "ahead", "item", "far"]) (sc := scIn (defScope (top 14)) scBeh) (by decide +kernel)) (fun _ _ _ _ _ => pg_name (i := 3) sc_behind_in.nd rfl (Or.inl rfl))
          (fun _ _ _ _ _ => pts_one (pt_cmp (pc_din (hu_of hr) (pv 2) (pe_ix (ixL K) (pv 1) (pv 3) (fun _ _ => rfl))) rfl)) (fun _ _ _ _ _ => pv 3)))))), ?_⟩)
  · obtain ⟨o, n, ps, rfl, _⟩ := h
    rfl
  · obtain ⟨_, n, ps, rfl, hO, hn, q⟩ := h
    have n0 := hn.n0
    have n20 := hn.n20
    refine ⟨_, rfl, _, n, ps, rfl, hO, hn, fun H1 x s1 hx => ?_⟩
    have hO1 := hO.same s1
    obtain ⟨o, p, ts, rfl, h1, _⟩ := hO1
    refine ⟨.ref o, rfl, o, _, 0, .int n, rfl, rfl, h1, rfl, n, rfl, by omega, by omega, fun D hD => ?_⟩
    have rel := ah_rel hn.ok n20
    refine lcN (walks_range (lo := 0) (n := n.toNat)) hD (by rw [ins_len]; omega) (fun _ => true) (fun i y H => ∃ d, y = .ref d ∧ H d = some (.lst (((rng n).filter fun z => ah ps i z).map V.int)))
      (fun a y H H' s h => by obtain ⟨d, e, h⟩ := h; exact ⟨d, e, s _ _ h⟩) (fun i v H2 kY kN hi s2 hv hacc hY _ => ?_) (fun H2 ys s2 hl hlen hys => ?_)
    · subst hv
      refine ⟨rfl, yesI ?_⟩
      refine ⟨.ref o, rfl, o, _, 0, .int n, rfl, rfl, same_T s2 h1, rfl, n, rfl, by omega, by omega, fun D2 hD2 => ?_⟩
      refine lcW (walks_range (lo := 0) (n := n.toNat)) hD2 (by rw [ins_len]; omega) (fun z => ah ps i z) id V.int (fun z v H3 kY3 kN3 hz s3 hv hY3 hN3 => ⟨rfl, ?_⟩) (fun H3 s3 hl3 => ?_)
      · subst hv
        rw [ins_rng, mem_rng] at hz
        obtain ⟨p2, xs, d, js, rfl, e1, e2, e3, e4, e5, e6⟩ := (hx.same (s2.trans s3)).get rel hz.1 hz.2
        refine ⟨.int i, rfl, .ref p2, rfl, .int z, rfl, p2, xs, z, .ref d, rfl, rfl, .inl (.inl e1), e2, d, _, rfl, DGet.k (k := Sum.inl i) e3, _, rfl, ?_⟩
        cases e : ah ps i z with
        | true =>
          rw [sd_some ((e5 i).mpr e)]
          exact iteT ⟨.int z, rfl, hY3 e _ (Same.refl _)⟩
        | false =>
          rw [sd_none (fun w => by rw [(e5 i).mp w] at e; cases e)]
          exact iteF (hN3 e _ (Same.refl _))
      · obtain ⟨acc, ha⟩ := hacc
        refine hY rfl _ _ s3 ⟨D2, rfl, ?_⟩
        rw [del_ne (ne_of_none ha hD2).symm, hl3, List.map_id, ins_rng]
    · refine q _ _ (s1.trans s2) ⟨D, ys, rfl, hl, fun i i0 i1 => ?_⟩
      rw [filter_all] at hlen hys
      have hi : i.toNat < n.toNat := by omega
      have hy : i.toNat < ys.length := by rw [hlen, ins_len]; exact hi
      obtain ⟨d, e1, e2⟩ := hys i.toNat _ _ (ins_get hi) (List.getElem?_eq_getElem hy)
      have hc : ((i.toNat : Nat) : Int) = i := by omega
      have ha := atI_nat (List.getElem?_eq_getElem hy)
      rw [hc, e1] at ha
      refine ⟨d, ha, ?_⟩
      rw [Int.zero_add, hc] at e2
      exact same_of_del _ _ e2
end
end K37
/-! ## D8 -/
namespace K37
open PySem PySem.Spec PyProof.Rows L2
/-! ### lots as data -/
def tupD (S : List Int) : PyData := .tuple (S.map PyData.int)
theorem tupD_inj {S T : List Int} (h : tupD S = tupD T) : S = T := by
  have h1 : S.map PyData.int = T.map PyData.int := PyData.tuple.inj h
  have h2 := congrArg (List.map toI) h1
  rw [List.map_map, List.map_map] at h2
  have e : (toI ∘ PyData.int) = id := rfl
  rw [e, List.map_id, List.map_id] at h2
  exact h2
theorem adj_asc : ∀ (S : List Int), adjB ltI S = true ↔ Asc S
  | [] => by simp [adjB]
  | [x] => by simp [adjB]
  | x :: y :: S => by
    have ih := adj_asc (y :: S)
    have e : adjB ltI (x :: y :: S) = (decide (x < y) && adjB ltI (y :: S)) := rfl
    rw [e, Bool.and_eq_true, ih, decide_eq_true_eq]
    constructor
    · rintro ⟨h1, h2⟩
      refine List.pairwise_cons.mpr ⟨fun z hz => ?_, h2⟩
      rcases List.mem_cons.mp hz with e | e
      · omega
      · have := (List.pairwise_cons.mp h2).1 z e
        omega
    · intro h
      have h1 := List.pairwise_cons.mp h
      exact ⟨h1.1 y List.mem_cons_self, h1.2⟩
theorem all_isW : ∀ (S : List Int) (lo hi : Int), (S.map PyData.int).all (isW lo hi) = true ↔ ∀ x ∈ S, lo ≤ x ∧ x ≤ hi := fun S lo hi => by
  rw [List.all_map, List.all_eq_true]
  constructor
  · intro h x hx
    have := h x hx
    simpa [isW] using this
  · intro h x hx
    have := h x hx
    simpa [isW] using this
theorem lotI_iff {n : Int} {d : PyData} : lotI n d = true ↔ ∃ S, d = tupD S ∧ Asc S ∧ ∀ x ∈ S, 0 ≤ x ∧ x < n := by
  constructor
  · intro h
    cases d with
    | tuple ds =>
      have h' : (ds.all (isW 0 (n - 1)) && adjB ltI (ds.map toI)) = true := h
      rw [Bool.and_eq_true] at h'
      have e := ints_of h'.1
      have h1 := h'.1
      rw [e, all_isW] at h1
      exact ⟨ds.map toI, congrArg PyData.tuple e, (adj_asc _).mp h'.2, fun x hx => by have := h1 x hx; omega⟩
    | _ => cases h
  · rintro ⟨S, rfl, h1, h2⟩
    have e : (S.map PyData.int).map toI = S := by
      rw [List.map_map]
      exact List.map_id S
    show ((S.map PyData.int).all (isW 0 (n - 1)) && adjB ltI ((S.map PyData.int).map toI)) = true
    rw [Bool.and_eq_true, e]
    exact ⟨(all_isW _ _ _).mpr fun x hx => by have := h2 x hx; omega, (adj_asc _).mpr h1⟩
def IsLow (n : Int) (R : Rl) (d : PyData) : Prop := ∃ S, d = tupD S ∧ Low n R S
theorem few_len {S : List Int} (h : fewD (tupD S)) : S.length ≤ 1000 := by
  have h' : (S.map PyData.int).length ≤ 1000 := h
  rw [List.length_map] at h'
  exact h'
theorem dp_tup {K : PySem.W.Frag} {H : Hp} {a : Addr} {S : List Int} (h : SqT K H a (S.map V.int)) : Dp K H (.ref a) (tupD S) := .tup h (dpAll_ints S)
theorem tup_dp {K : PySem.W.Frag} {H : Hp} {x : V} {S : List Int} (h : Dp K H x (tupD S)) : ∃ a, x = .ref a ∧ SqT K H a (S.map V.int) := by
  obtain ⟨a, xs, rfl, hS, hA⟩ := isTup_of h
  rw [ints_dpAll S hA] at hS
  exact ⟨a, rfl, hS⟩
section
variable {P : Program} {w : World} {K : PySem.W.Frag} {mg : Str → Option Value} {base : Heap}
/-! ### is_lower_in -/
def spLowerIn (K : PySem.W.Frag) : Sp := fun vs H Q _ => ∃ o x n ps d, vs = [o, x] ∧ OrdAt K H o n ps ∧ Ord n ps ∧ Dp K H x d ∧ fewD d ∧ ∀ H' b, Same H H' → (b = true ↔ IsLow n (ah ps) d) → Q (.bl b) H'
theorem sc_is_lower_in : FnScope ["order", "thing", "ahead", "held", "item", "near"] ["order", "thing"] (defScope (top 15)) := ⟨rfl, rfl, rfl, by decide +kernel, rfl, by decide +kernel, by decide +kernel⟩
theorem ok_is_lower_in {f : Addr} {fd : FuncData} (F : FnP K "is_lower_in" 15 f fd) (T : Tp mg) (Cl1 : Cl P w K mg base CX0 3 "is_lot_of" (spLotOf K)) (Ca : Cl P w K mg base CX0 1 "ahead_in" (spAhead K)) :
    FnOk P w K mg base CX0 4 f fd ["order", "thing"] (spLowerIn K) := by
  refine F.ok sc_is_lower_in (fun vs H Q E h => ?_) (fun cdv A outer s H vs Q E hr h => ⟨_, PSs.nox (pss_cons
      (ps_if (pt_not (pt_val (pe_cl Cl1 hr (by decide) (by rfl) pass0 (pa_cons (pv 0) (pa_cons (pv 1) pa_nil))))) (pss_one (ps_ret pe_bl)) pss_nil)
      (pss_cons (ps_par (i := 2) (j := 3) (by rfl) sc_is_lower_in.nd rfl rfl (by decide) rfl rfl (pa_cons (pe_cl Ca hr (by decide) (by rfl) pass0 (pa_cons (pv 0) pa_nil)) (pa_cons pe_dnewK pa_nil)) (by rfl))
      (pss_cons (ps_for PassesOwn.never rfl (pi_tup (pv 1)) (pg_name (i := 4) sc_is_lower_in.nd rfl (Or.inl rfl))
        (pss_one (ps_expr (pe_bm PySem.F.plainAttrs_dict PySem.F.slot_dict_update PySem.F.type_dict_update mt_dupd (pv 3) (pa_cons (pe_ix ix_list (pv 2) (pv 4) (fun _ _ => rfl)) pa_nil)))))
      (pss_one (ps_ret (pe_callB (allK K rfl) (by rfl) T.all (by decide +kernel) (pa_cons (pe_lock
        (pe_lc (own := [("near", 5)]) (g := gName 5) (tt := tYes) rfl sc_is_lower_in.nd (pi_keys (pv 3)) (blkOk_by (N := ["order", "thing", "ahead", "held", "item", "near"]) (sc := defScope (top 15)) (by decide +kernel)) (fun _ _ _ _ _ => pg_name (i := 5) sc_is_lower_in.nd rfl (Or.inl rfl)) (fun _ _ _ _ _ => pts_nil)
          (fun _ _ _ _ _ => pe_cmpR (inK K) (pv 5) (pv 1) rfl))) pa_nil))))))), ?_⟩)
  · obtain ⟨o, x, n, ps, d, rfl, _⟩ := h
    rfl
  · obtain ⟨o, x, n, ps, d, rfl, hO, hn, hd, hf, q⟩ := h
    have n0 := hn.n0
    have n20 := hn.n20
    have rel := ah_rel hn.ok n20
    refine ⟨_, rfl, _, rfl, o, x, n, ps, d, rfl, hO, hd, hf, fun H1 s1 => ⟨_, rfl, ?_⟩⟩
    cases el : lotI n d with
    | false =>
      refine iteT (q _ _ s1 ⟨(fun z => by cases z), fun z => ?_⟩)
      obtain ⟨S, rfl, hS⟩ := z
      rw [lotI_iff.mpr ⟨S, rfl, hS.asc, hS.bd⟩] at el
      cases el
    | true =>
      obtain ⟨S, rfl, hA, hB⟩ := lotI_iff.mp el
      obtain ⟨a, rfl, hS⟩ := tup_dp hd
      refine iteF ?_
      refine ⟨_, rfl, o, n, ps, rfl, hO.same s1, hn, fun H2 y s2 hy => ?_⟩
      refine fun hh nh => ⟨y, .ref hh, rfl, ?_⟩
      have hS2 := same_T (s1.trans s2) hS
      have hlen := few_len hf
      refine ⟨.ref a, rfl, a, rfl, ⟨_, same_T (same_put (Same.refl _) nh) hS2⟩, ?_⟩
      refine for_tup (K := K) (a := a) (xs := S.map V.int) (fun j σ H3 => ∃ y4, σ = [some o, some (.ref a), some y, some (.ref hh), y4, none] ∧ Same H2 H3 ∧ ∃ js : List Int, H3 hh = some (.dK (SD js)) ∧ js.Nodup ∧ ∀ x, x ∈ js ↔ ∃ i ∈ S.take j, ah ps x i = true)
        ⟨_, rfl, same_put (Same.refl _) nh, [], upd_same, .nil, fun x => by simp⟩ (fun j σ H3 _ hP => ?_) (fun j x σ H3 hj hP => ?_) (fun σ H3 hP => ?_)
      · obtain ⟨y4, rfl, s3, _⟩ := hP
        exact same_T s3 hS2
      · obtain ⟨y4, rfl, s3, js, j1, j2, j3⟩ := hP
        obtain ⟨i, gi, rfl⟩ := get_map hj
        have hb := hB i (List.mem_of_getElem? gi)
        obtain ⟨p2, xs, d, js2, rfl, e1, e2, e3, e4, e5, e6⟩ := (hy.same s3).get rel hb.1 hb.2
        have hne : hh ≠ d := fun z => by
          obtain ⟨p3, xs3, d3, js3, z1, w1, w2, w3, _⟩ := hy.get rel hb.1 hb.2
          cases z1
          have w4 := s3 _ _ w1
          rw [e1] at w4
          cases w4
          rw [e2] at w2
          cases w2
          rw [← z, nh] at w3
          cases w3
        have jl := nd_len j2 (n := n) fun x hx => by
          obtain ⟨k, hk, e⟩ := (j3 x).mp hx
          have := rel.bd e
          omega
        refine ⟨.ref hh, rfl, .inr (.inr (.inl ⟨rfl, .inl ⟨_, j1⟩⟩)), .ref p2, rfl, .int i, rfl, p2, xs, i, .ref d, rfl, rfl, .inl (.inl e1), e2, hh, d, _, _, rfl, rfl, hne, j1, .inl e3, by rw [sd_len, sd_len]; exact Nat.le_of_lt (small20 (by omega)), ?_⟩
        rw [sd_merge]
        refine ⟨_, rfl, same_put s3 nh, _, upd_same, nd_addJs j2, fun x => ?_⟩
        rw [mem_addJs, j3, e5, List.take_add_one, gi]
        simp only [Option.toList_some, List.mem_append, List.mem_singleton]
        constructor
        · rintro (⟨k, hk, e⟩ | e)
          · exact ⟨k, .inl hk, e⟩
          · exact ⟨i, .inr rfl, e⟩
        · rintro ⟨k, hk | hk, e⟩
          · exact .inl ⟨k, hk, e⟩
          · rw [hk] at e
            exact .inr e
      · obtain ⟨y4, rfl, s3, js, j1, j2, j3⟩ := hP
        have jl := nd_len j2 (n := n) fun x hx => by
          obtain ⟨k, hk, e⟩ := (j3 x).mp hx
          have := rel.bd e
          omega
        have hS3 := same_T s3 hS2
        have hl3 : Same H2 (upd H3 hh (.frz default (.dK (SD js)))) := same_put s3 nh
        refine ⟨hh, .dK (SD js), j1, trivial, fun od => ⟨.ref hh, rfl, hh, od, rfl, .inl ⟨SD js, upd_same, fun D hD => ?_⟩⟩⟩
        refine lcW (walks_dict (js := js) upd_same (sd_keys js)) hD (by omega) (fun _ => true) (fun x => decide (x ∈ S)) V.bl (fun x v H4 kY kN hx s4 hv hY _ => ⟨rfl, yesI ?_⟩) (fun H4 s4 hl4 => ?_)
        · subst hv
          have hS4 : SqT K H4 a (S.map V.int) := same_T ((same_put s3 nh).trans s4) hS2
          refine ⟨.int x, rfl, .ref a, rfl, a, _, rfl, .inr hS4, rfl, flat_ints S, ?_⟩
          show kY (V.bl (inV (V.int x) (S.map V.int))) H4
          rw [inV_int]
          exact hY rfl _ (Same.refl _)
        · have hne : D ≠ hh := (ne_of_none (upd_same (H := H3) (a := hh)) hD).symm
          refine ⟨s4 _ _ upd_same, D, _, rfl, .inl (.inl (by rw [upd_ne hne]; exact hl4)), ?_⟩
          rw [filter_all, all_id]
          refine q _ _ ((s1.trans s2).trans (same_lock s3 j1 s4)) ?_
          rw [List.length_map, List.take_length] at j3
          rw [List.all_eq_true]
          constructor
          · intro h
            refine ⟨S, rfl, hA, hB, fun x hx z hz => ?_⟩
            exact of_decide_eq_true (h z ((j3 z).mpr ⟨x, hx, hz⟩))
          · rintro ⟨S', e, hS'⟩ x hx
            have := tupD_inj e
            subst this
            obtain ⟨i, hi, e⟩ := (j3 x).mp hx
            exact decide_eq_true (hS'.dn i hi x e)
/-! ### need_lower -/
def spNeedL (K : PySem.W.Frag) (CL : Addr) : Sp := fun vs H Q E => ∃ o x n ps d, vs = [o, x] ∧ OrdAt K H o n ps ∧ Ord n ps ∧ Dp K H x d ∧ fewD d ∧
  (¬ IsLow n (ah ps) d → Rz E CL "given" x H) ∧ (IsLow n (ah ps) d → ∀ H', Same H H' → Q .non H')
theorem Rz.same {E : XK} {C : Addr} {g : Str} {v : V} {H H' : Hp} (h : Rz E C g v H) (s : Same H H') : Rz E C g v H' := fun d H2 s2 e => h d H2 (s.trans s2) e
theorem sc_need_lower : FnScope ["order", "lower"] ["order", "lower"] (defScope (top 16)) := ⟨rfl, rfl, rfl, by decide +kernel, rfl, by decide +kernel, by decide +kernel⟩
theorem ok_need_lower {CL fI f : Addr} {fd fdI : FuncData} (F : FnP K "need_lower" 16 f fd) (C1 : Cl P w K mg base CX0 4 "is_lower_in" (spLowerIn K)) (TL : Er K mg "BadLower" "given" 3 CL fI fdI)
    (FI : FnOk P w K mg base CX0 1 fI fdI ["self", "given"] (spIni CL "given")) (bI : Binds K fdI ["self", "given"] []) :
    FnOk P w K mg base (L2.CX P w) 5 f fd ["order", "lower"] (spNeedL K CL) := by
  refine F.ok sc_need_lower (fun vs H Q E h => ?_) (fun cdv A outer s H vs Q E hr h => ⟨_, (pss_one (ps_if (pt_not (pt_val (pe_cl C1 hr (by decide) (by rfl) pass0 (pa_cons (pv 0) (pa_cons (pv 1) pa_nil)))))
      (pss_one (ps_raise rfl (takes_of rfl rfl rfl rfl) (pmk_oex TL.oex TL.iC TL.tI FI (hr.mono (by decide)) bI .nil pass0 (by rfl) TL.gl (pa_cons (pv 1) pa_nil)))) pss_nil)), ?_⟩)
  · obtain ⟨o, x, n, ps, d, rfl, _⟩ := h
    rfl
  · obtain ⟨o, x, n, ps, d, rfl, hO, hn, hd, hf, q1, q2⟩ := h
    refine ⟨_, rfl, _, rfl, o, x, n, ps, d, rfl, hO, hn, hd, hf, fun H' b s hb => ⟨b, rfl, ?_⟩⟩
    cases b with
    | true => exact iteF (q2 (hb.mp rfl) _ s)
    | false =>
      refine iteT (mke_of ?_ ?_)
      · intro Q Q' hm z
        obtain ⟨v, e, z⟩ := z
        exact ⟨v, e, hm _ _ z⟩
      · exact ⟨_, rfl, _, rfl, (q1 fun z => by cases hb.mpr z).same s⟩
end
end K37
/-! ## D9 -/
namespace K37
open PySem PySem.Spec PyProof.Rows L2
section
variable {P : Program} {w : World} {K : PySem.W.Frag} {mg : Str → Option Value} {base : Heap}
/-! ### puttable -/
def spPut (K : PySem.W.Frag) : Sp := fun vs H Q _ => ∃ o a n ps S, vs = [o, .ref a] ∧ OrdAt K H o n ps ∧ Ord n ps ∧ SqT K H a (S.map V.int) ∧ ∀ H' p, Same H H' → H' p = some (.lst ((putL n (ah ps) S).map V.int)) → Q (.ref p) H'
theorem sc_puttable : FnScope ["order", "lower", "ahead", "left", "item", "near"] ["order", "lower"] (defScope (top 18)) := ⟨rfl, rfl, rfl, by decide +kernel, rfl, by decide +kernel, by decide +kernel⟩
def scPut : Scope := match defBody (top 18) with
  | [_, _, .Return (some (.ListComp _ _ sc _)) _] => sc
  | _ => defScope (top 18)
theorem ok_puttable {f : Addr} {fd : FuncData} (F : FnP K "puttable" 18 f fd) (T : Tp mg) (Ca : Cl P w K mg base CX0 1 "ahead_in" (spAhead K)) : FnOk P w K mg base CX0 2 f fd ["order", "lower"] (spPut K) := by
  refine F.ok sc_puttable (fun vs H Q E h => ?_) (fun cdv A outer s H vs Q E hr h => ⟨_, PSs.nox (pss_cons
      (ps_set (i := 2) sc_puttable.nd rfl (.inr rfl) (pe_cl Ca hr (by decide) (by rfl) pass0 (pa_cons (pv 0) pa_nil)))
      (pss_cons (ps_setLc (i := 3) (own := [("item", 4)]) (g := gName 4) rfl sc_puttable.nd rfl rfl (sw_true rfl rfl rfl (by decide +kernel)) (pi_range1 rfl T.range (pa_cons (pe_ix ix_tup (pv 0) pe_int (fun _ _ => rfl)) pa_nil)) (blkOk_by (N := ["order", "lower", "ahead", "left", "item", "near"]) (sc := defScope (top 18)) (by decide +kernel)) (fun _ _ _ _ _ => pg_name (i := 4) sc_puttable.nd rfl (Or.inl rfl))
        (fun _ _ _ _ _ => pts_one (pt_cmpR (ninK K) (pv 4) (pv 1) rfl)) (fun _ _ _ _ _ => pv 4))
      (pss_one (ps_ret (pe_lc (own := [("item", 4)]) (g := gName 4) rfl sc_puttable.nd (pi_list (pv 3)) (blkOk_by (N := ["order", "lower", "ahead", "left", "item", "near"]) (sc := defScope (top 18)) (by decide +kernel)) (fun _ _ _ _ _ => pg_name (i := 4) sc_puttable.nd rfl (Or.inl rfl))
        (fun _ _ _ _ _ => pts_one (pt_val (pe_callB (allK K rfl) (by rfl) T.all (by decide +kernel) (pa_cons (pe_lock
          (pe_lc (own := [("near", 5)]) (g := gName 5) (tt := tYes) rfl sc_puttable.nd (pi_keys (pe_ix (ixL K) (pv 2) (pv 4) (fun _ _ => rfl))) (blkOk_by (N := ["order", "lower", "ahead", "left", "item", "near"]) (sc := scIn (defScope (top 18)) scPut) (by decide +kernel)) (fun _ _ _ _ _ => pg_name (i := 5) sc_puttable.nd rfl (Or.inl rfl)) (fun _ _ _ _ _ => pts_nil)
            (fun _ _ _ _ _ => pe_cmpR (inK K) (pv 5) (pv 1) rfl))) pa_nil)))) (fun _ _ _ _ _ => pv 4)))))), ?_⟩)
  · obtain ⟨o, a, n, ps, S, rfl, _⟩ := h
    rfl
  · obtain ⟨o, a, n, ps, S, rfl, hO, hn, hS, q⟩ := h
    have n0 := hn.n0
    have n20 := hn.n20
    have rel := ah_rel hn.ok n20
    refine ⟨_, rfl, o, n, ps, rfl, hO, hn, fun H1 y s1 hy => ?_⟩
    obtain ⟨o, p, ts, rfl, h1, _⟩ := hO.same s1
    have hS1 := same_T s1 hS
    refine ⟨.ref o, rfl, o, _, 0, .int n, rfl, rfl, h1, rfl, n, rfl, by omega, by omega, fun D hD => ?_⟩
    refine lcW (walks_range (lo := 0) (n := n.toNat)) hD (by rw [ins_len]; omega) (fun x => decide (x ∉ S)) id V.int (fun x v H2 kY kN hx s2 hv hY hN => ⟨rfl, ?_⟩) (fun H2 s2 hl2 => ?_)
    · subst hv
      refine ⟨.int x, rfl, .ref a, rfl, a, _, rfl, .inr (same_T s2 hS1), rfl, flat_ints S, ?_⟩
      refine ⟨_, rfl, ?_⟩
      rw [inV_int]
      by_cases e : x ∈ S
      · exact iteFF (by simp [e]) (hN (by simp [e]) _ (Same.refl _))
      · exact iteTT (by simp [e]) ⟨.int x, rfl, hY (by simp [e]) _ (Same.refl _)⟩
    · rw [List.map_id, ins_rng] at hl2
      refine ⟨.ref D, rfl, D, rfl, ⟨_, .inl (.inl hl2)⟩, fun D2 hD2 => ?_⟩
      have hy2 := hy.same s2
      have hS2 := same_T s2 hS1
      refine lcW (walks_list (.inl (.inl hl2))) hD2 (Nat.le_trans (List.length_filter_le _ _) (by rw [rng_len]; omega)) (fun x => (rng n).all fun j => !ah ps j x || decide (j ∈ S)) id V.int (fun x v H3 kY kN hx s3 hv hY hN => ⟨rfl, ?_⟩) (fun H3 s3 hl3 => ?_)
      · subst hv
        have hb := mem_rng.mp (List.mem_filter.mp hx).1
        obtain ⟨p2, xs, d, js, rfl, e1, e2, e3, e4, e5, e6⟩ := (hy2.same s3).get rel hb.1 hb.2
        have hne : p2 ≠ d := ne_of e1 e3 (by intro z; cases z)
        refine ⟨d, .dK (SD js), e3, trivial, fun od => ?_⟩
        refine ⟨.ref p2, rfl, .int x, rfl, p2, xs, x, .ref d, rfl, rfl, .inl (.inl (by rw [upd_ne hne]; exact e1)), e2, ?_⟩
        refine ⟨d, od, rfl, .inl ⟨SD js, upd_same, fun D3 hD3 => ?_⟩⟩
        refine lcW (walks_dict (js := js) upd_same (sd_keys js)) hD3 (by omega) (fun _ => true) (fun x => decide (x ∈ S)) V.bl (fun z v H4 kY4 kN4 hz s4 hv hY4 _ => ⟨rfl, yesI ?_⟩) (fun H4 s4 hl4 => ?_)
        · subst hv
          have s5 : Same H3 (upd H4 d (.dK (SD js))) := same_lock (Same.refl _) e3 s4
          have hS4 : SqT K H4 a (S.map V.int) := by
            rcases same_T s3 hS2 with (h | ⟨ob, h⟩) | h
            · exact .inl (.inl (s4 _ _ (by rw [upd_ne (ne_of h e3 (by intro z; cases z))]; exact h)))
            · exact .inl (.inr ⟨ob, s4 _ _ (by rw [upd_ne (ne_of h e3 (by intro z; cases z))]; exact h)⟩)
            · exact .inr h
          refine ⟨.int z, rfl, .ref a, rfl, a, _, rfl, .inr hS4, rfl, flat_ints S, ?_⟩
          show kY4 (V.bl (inV (V.int z) (S.map V.int))) H4
          rw [inV_int]
          exact hY4 rfl _ (Same.refl _)
        · have hne2 : D3 ≠ d := (ne_of_none (upd_same (H := H3) (a := d)) hD3).symm
          have s5 : Same H3 (upd H4 d (.dK (SD js))) := same_lock (Same.refl _) e3 s4
          refine ⟨s4 _ _ upd_same, D3, _, rfl, .inl (.inl (by rw [upd_ne hne2]; exact hl4)), _, rfl, ?_⟩
          rw [filter_all, all_id]
          have e : (js.all fun z => decide (z ∈ S)) = ((rng n).all fun j => !ah ps j x || decide (j ∈ S)) := by
            rw [Bool.eq_iff_iff, put_test rel, List.all_eq_true]
            exact ⟨fun h y hy => of_decide_eq_true (h y ((e5 y).mpr hy)), fun h z hz => decide_eq_true (h z ((e5 z).mp hz))⟩
          rw [e]
          cases e7 : ((rng n).all fun j => !ah ps j x || decide (j ∈ S)) with
          | true => exact iteT ⟨.int x, rfl, hY e7 _ s5⟩
          | false => exact iteF (hN e7 _ s5)
      · refine q _ _ ((s1.trans s2).trans s3) ?_
        rw [hl3, List.map_id, List.filter_filter]
        unfold putL
        congr 3
        refine List.filter_congr fun x _ => ?_
        rw [Bool.and_comm]
/-! ### takable -/
def spTak (K : PySem.W.Frag) : Sp := fun vs H Q _ => ∃ o a n ps S, vs = [o, .ref a] ∧ OrdAt K H o n ps ∧ Ord n ps ∧ SqT K H a (S.map V.int) ∧ (∀ x ∈ S, 0 ≤ x ∧ x < n) ∧ S.length ≤ 1000 ∧ ∀ H' p, Same H H' → H' p = some (.lst ((takL (ah ps) S).map V.int)) → Q (.ref p) H'
theorem sc_takable : FnScope ["order", "lower", "behind", "item", "far"] ["order", "lower"] (defScope (top 19)) := ⟨rfl, rfl, rfl, by decide +kernel, rfl, by decide +kernel, by decide +kernel⟩
def scTak : Scope := match defBody (top 19) with
  | [_, .Return (some (.ListComp _ _ sc _)) _] => sc
  | _ => defScope (top 19)
theorem ok_takable {f : Addr} {fd : FuncData} (F : FnP K "takable" 19 f fd) (T : Tp mg) (Cb : Cl P w K mg base CX0 2 "behind_in" (spBehind K)) : FnOk P w K mg base CX0 3 f fd ["order", "lower"] (spTak K) := by
  refine F.ok sc_takable (fun vs H Q E h => ?_) (fun cdv A outer s H vs Q E hr h => ⟨_, PSs.nox (pss_cons
      (ps_set (i := 2) sc_takable.nd rfl (.inr rfl) (pe_cl Cb hr (by decide) (by rfl) pass0 (pa_cons (pv 0) pa_nil)))
      (pss_one (ps_ret (pe_lc (own := [("item", 3)]) (g := gName 3) rfl sc_takable.nd (pi_tup (pv 1)) (blkOk_by (N := ["order", "lower", "behind", "item", "far"]) (sc := defScope (top 19)) (by decide +kernel)) (fun _ _ _ _ _ => pg_name (i := 3) sc_takable.nd rfl (Or.inl rfl))
        (fun _ _ _ _ _ => pts_one (pt_not (pt_val (pe_callB (anyK K rfl) (by rfl) T.any (by decide +kernel) (pa_cons
          (pe_lc (own := [("far", 4)]) (g := gName 4) (tt := tYes) rfl sc_takable.nd (pilK K (pe_ix (ixL K) (pv 2) (pv 3) (fun _ _ => rfl))) (blkOk_by (N := ["order", "lower", "behind", "item", "far"]) (sc := scIn (defScope (top 19)) scTak) (by decide +kernel)) (fun _ _ _ _ _ => pg_name (i := 4) sc_takable.nd rfl (Or.inl rfl)) (fun _ _ _ _ _ => pts_nil)
            (fun _ _ _ _ _ => pe_cmpR (inK K) (pv 4) (pv 1) rfl)) pa_nil))))) (fun _ _ _ _ _ => pv 3))))), ?_⟩)
  · obtain ⟨o, a, n, ps, S, rfl, _⟩ := h
    rfl
  · obtain ⟨o, a, n, ps, S, rfl, hO, hn, hS, hB, hL, q⟩ := h
    have n0 := hn.n0
    have n20 := hn.n20
    refine ⟨_, rfl, o, n, ps, rfl, hO, hn, fun H1 y s1 hy => ?_⟩
    obtain ⟨p, ys, rfl, hp, hrow⟩ := hy
    have hS1 := same_T s1 hS
    refine ⟨.ref a, rfl, a, rfl, ⟨_, hS1⟩, fun D hD => ?_⟩
    refine lcW (walks_tup hS1) hD (by omega) (fun i => !S.any fun z => ah ps i z) id V.int (fun x v H2 kY kN hx s2 hv hY hN => ⟨rfl, ?_⟩) (fun H2 s2 hl2 => ?_)
    · subst hv
      have hb := hB x hx
      obtain ⟨d, g1, g2⟩ := hrow x hb.1 hb.2
      refine ⟨.ref p, rfl, .int x, rfl, p, ys, x, .ref d, rfl, rfl, .inl (.inl (s2 _ _ hp)), g1, d, rfl, ⟨_, .inl (.inl (s2 _ _ g2))⟩, fun D2 hD2 => ?_⟩
      refine lcW (walks_list (.inl (.inl (s2 _ _ g2)))) hD2 (Nat.le_trans (List.length_filter_le _ _) (by rw [rng_len]; omega)) (fun _ => true) (fun x => decide (x ∈ S)) V.bl (fun z v H3 kY3 kN3 hz s3 hv hY3 _ => ⟨rfl, yesI ?_⟩) (fun H3 s3 hl3 => ?_)
      · subst hv
        refine ⟨.int z, rfl, .ref a, rfl, a, _, rfl, .inr (same_T (s2.trans s3) hS1), rfl, flat_ints S, ?_⟩
        show kY3 (V.bl (inV (V.int z) (S.map V.int))) H3
        rw [inV_int]
        exact hY3 rfl _ (Same.refl _)
      · refine ⟨D2, _, rfl, .inl (.inl hl3), _, rfl, ?_⟩
        rw [filter_all, any_id]
        have e : ((List.filter (fun z => ah ps x z) (rng n)).any fun z => decide (z ∈ S)) = S.any fun z => ah ps x z := by
          rw [Bool.eq_iff_iff, List.any_eq_true, List.any_eq_true]
          constructor
          · rintro ⟨z, h1, h2⟩
            exact ⟨z, of_decide_eq_true h2, (List.mem_filter.mp h1).2⟩
          · rintro ⟨z, h1, h2⟩
            exact ⟨z, List.mem_filter.mpr ⟨mem_rng.mpr (hB z h1), h2⟩, decide_eq_true h1⟩
        rw [e]
        cases e7 : (S.any fun z => ah ps x z) with
        | true => exact iteF (hN (by rw [e7]; rfl) _ s3)
        | false => exact iteT ⟨.int x, rfl, hY (by rw [e7]; rfl) _ s3⟩
    · refine q _ _ (s1.trans s2) ?_
      rw [hl2, List.map_id]
      rfl
end
end K37
/-! ## D10 -/
namespace K37
open PySem PySem.Spec PyProof.Rows L2
section
variable {P : Program} {w : World} {K : PySem.W.Frag} {mg : Str → Option Value} {base : Heap}
/-! ### need_two -/
def spNeedT (K : PySem.W.Frag) (CO CL : Addr) : Sp := fun vs H Q E => ∃ o x y, vs = [o, x, y] ∧
  ((∃ ds, Dp K H o (.list ds) ∧ Rz E CO "part" (.str "form") H) ∨ (Dp K H o (.tuple [.bool true, .tuple []]) ∧ Rz E CO "part" (.str "many") H) ∨ ∃ n ps d e, OrdAt K H o n ps ∧ Ord n ps ∧ Dp K H x d ∧ fewD d ∧ Dp K H y e ∧ fewD e ∧
    (¬ IsLow n (ah ps) d → Rz E CL "given" x H) ∧ (IsLow n (ah ps) d → ¬ IsLow n (ah ps) e → Rz E CL "given" y H) ∧ (IsLow n (ah ps) d → IsLow n (ah ps) e → ∀ H', Same H H' → Q .non H'))
theorem sc_need_two : FnScope ["order", "lower", "other_lower"] ["order", "lower", "other_lower"] (defScope (top 21)) := ⟨rfl, rfl, rfl, by decide +kernel, rfl, by decide +kernel, by decide +kernel⟩
theorem ok_need_two {CO CL f : Addr} {fd : FuncData} (F : FnP K "need_two" 21 f fd) (Co : Cl P w K mg base (L2.CX P w) 5 "need_order" (spNeedO K CO)) (Cw : Cl P w K mg base (L2.CX P w) 5 "need_lower" (spNeedL K CL)) :
    FnOk P w K mg base (L2.CX P w) 6 f fd ["order", "lower", "other_lower"] (spNeedT K CO CL) := by
  refine F.ok sc_need_two (fun vs H Q E h => ?_) (fun cdv A outer s H vs Q E hr h => ⟨_, (pss_cons
      (ps_expr (pe_cl Cw hr (by decide) (by rfl) (passes_call (E := E) (takes_of rfl rfl rfl rfl) (fun _ _ _ _ h => h)) (pa_cons (pe_cl Co hr (by decide) (by rfl) (passes_call (E := E) (takes_of rfl rfl rfl rfl) (fun _ _ _ _ h => h)) (pa_cons (pv 0) pa_nil)) (pa_cons (pv 1) pa_nil))))
      (pss_one (ps_expr (pe_cl Cw hr (by decide) (by rfl) (passes_call (E := E) (takes_of rfl rfl rfl rfl) (fun _ _ _ _ h => h)) (pa_cons (pv 0) (pa_cons (pv 2) pa_nil)))))), ?_⟩)
  · obtain ⟨o, x, y, rfl, _⟩ := h
    rfl
  · obtain ⟨o, x, y, rfl, h⟩ := h
    rcases h with ⟨ds, hd, q⟩ | ⟨hd, q⟩ | ⟨n, ps, d, e, hO, hn, hd, hf, he, hg, q1, q2, q3⟩
    · exact ⟨o, rfl, o, rfl, .inl ⟨ds, hd, q⟩⟩
    · exact ⟨o, rfl, o, rfl, .inr (.inl ⟨hd, q⟩)⟩
    · refine ⟨o, rfl, o, rfl, .inr (.inr ⟨n, ps, hO, hn, fun H1 s1 => ⟨x, rfl, o, x, n, ps, d, rfl, hO.same s1, hn, dp_same s1 hd, hf, fun z => (q1 z).same s1, fun z H2 s2 => ?_⟩⟩)⟩
      have s3 := s1.trans s2
      exact ⟨o, rfl, y, rfl, o, y, n, ps, e, rfl, hO.same s3, hn, dp_same s3 he, hg, fun z2 => (q2 z z2).same s3, fun z2 H4 s4 => q3 z z2 _ (s3.trans s4)⟩
/-! ### alone_in -/
def spAlone (K : PySem.W.Frag) : Sp := fun vs H Q _ => ∃ a b S U, vs = [.ref a, .ref b] ∧ SqT K H a (S.map V.int) ∧ SqT K H b (U.map V.int) ∧ S.length ≤ 1000 ∧ ∀ H' p, Same H H' → SqT K H' p ((dif S U).map V.int) → Q (.ref p) H'
theorem sc_alone_in : FnScope ["lower", "other_lower", "item"] ["lower", "other_lower"] (defScope (top 22)) := ⟨rfl, rfl, rfl, by decide +kernel, rfl, by decide +kernel, by decide +kernel⟩
theorem ok_alone_in {f : Addr} {fd : FuncData} (F : FnP K "alone_in" 22 f fd) (T : Tp mg) : FnOk P w K mg base CX0 1 f fd ["lower", "other_lower"] (spAlone K) := by
  refine F.ok sc_alone_in (fun vs H Q E h => ?_) (fun cdv A outer s H vs Q E hr h => ⟨_, PSs.nox (pss_one (ps_ret (pe_callTy call_tuple_of (by rfl) T.tuple (by decide +kernel) (pa_cons
      (pe_lc (own := [("item", 2)]) (g := gName 2) rfl sc_alone_in.nd (pi_tup (pv 0)) (blkOk_by (N := ["lower", "other_lower", "item"]) (sc := defScope (top 22)) (by decide +kernel)) (fun _ _ _ _ _ => pg_name (i := 2) sc_alone_in.nd rfl (Or.inl rfl))
        (fun _ _ _ _ _ => pts_one (pt_cmpR (ninK K) (pv 2) (pv 1) rfl)) (fun _ _ _ _ _ => pv 2)) pa_nil)))), ?_⟩)
  · obtain ⟨a, b, S, U, rfl, _⟩ := h
    rfl
  · obtain ⟨a, b, S, U, rfl, hS, hU, hL, q⟩ := h
    refine ⟨.ref a, rfl, a, rfl, ⟨_, hS⟩, fun D hD => ?_⟩
    refine lcW (walks_tup hS) hD (by omega) (fun x => decide (x ∉ U)) id V.int (fun x v H2 kY kN hx s2 hv hY hN => ⟨rfl, ?_⟩) (fun H2 s2 hl2 => ?_)
    · subst hv
      refine ⟨.int x, rfl, .ref b, rfl, b, _, rfl, .inr (same_T s2 hU), rfl, flat_ints U, ?_⟩
      refine ⟨_, rfl, ?_⟩
      rw [inV_int]
      by_cases e : x ∈ U
      · exact iteFF (by simp [e]) (hN (by simp [e]) _ (Same.refl _))
      · exact iteTT (by simp [e]) ⟨.int x, rfl, hY (by simp [e]) _ (Same.refl _)⟩
    · rw [List.map_id] at hl2
      exact ⟨D, _, rfl, .inl ⟨.inl (.inl hl2), fun l nl => q _ _ (s2.trans (same_put (Same.refl _) nl)) (.inl (.inl upd_same))⟩⟩
/-! ### is_loose_in -/
def spLoose (K : PySem.W.Frag) : Sp := fun vs H Q _ => ∃ o a n ps L, vs = [o, .ref a] ∧ OrdAt K H o n ps ∧ Ord n ps ∧ SqT K H a (L.map V.int) ∧ (∀ x ∈ L, 0 ≤ x ∧ x < n) ∧ L.length ≤ 300 ∧ ∀ H' b, Same H H' → (b = true ↔ Loose (ah ps) L) → Q (.bl b) H'
theorem sc_is_loose_in : FnScope ["order", "lot", "ahead", "far", "item"] ["order", "lot"] (defScope (top 24)) := ⟨rfl, rfl, rfl, by decide +kernel, rfl, by decide +kernel, by decide +kernel⟩
theorem ok_is_loose_in {f : Addr} {fd : FuncData} (F : FnP K "is_loose_in" 24 f fd) (T : Tp mg) (Ca : Cl P w K mg base CX0 1 "ahead_in" (spAhead K)) : FnOk P w K mg base CX0 2 f fd ["order", "lot"] (spLoose K) := by
  refine F.ok sc_is_loose_in (fun vs H Q E h => ?_) (fun cdv A outer s H vs Q E hr h => ⟨_, PSs.nox (pss_cons
      (ps_set (i := 2) sc_is_loose_in.nd rfl (.inr rfl) (pe_cl Ca hr (by decide) (by rfl) pass0 (pa_cons (pv 0) pa_nil)))
      (pss_one (ps_ret (pe_not (pe_callB (anyK K rfl) (by rfl) T.any (by decide +kernel) (pa_cons
        (pe_lc2 (own := [("far", 3), ("item", 4)]) (vs1 := [4]) (g := gName 3) (tt := tYes) (g1 := gName 4) (tt1 := tYes) rfl sc_is_loose_in.nd (pi_tup (pv 1)) (blkOk_by (N := ["order", "lot", "ahead", "far", "item"]) (sc := defScope (top 24)) (by decide +kernel)) (by decide)
          (fun _ _ _ _ _ => pg_name (i := 3) sc_is_loose_in.nd rfl (Or.inl rfl)) (fun _ _ _ _ _ => pts_nil) (fun _ _ _ _ _ => pitK K (pv 1)) (fun _ _ _ _ _ => pg_name (i := 4) sc_is_loose_in.nd rfl (Or.inl rfl)) (fun _ _ _ _ _ => pts_nil)
          (fun _ _ _ _ _ => pe_cmp (pc_din (hu_of hr) (pv 4) (pe_ix (ixL K) (pv 2) (pv 3) (fun _ _ => rfl))) rfl)) pa_nil)))))), ?_⟩)
  · obtain ⟨o, a, n, ps, L, rfl, _⟩ := h
    rfl
  · obtain ⟨o, a, n, ps, L, rfl, hO, hn, hS, hB, hL, q⟩ := h
    have n0 := hn.n0
    have n20 := hn.n20
    have rel := ah_rel hn.ok n20
    refine ⟨_, rfl, o, n, ps, rfl, hO, hn, fun H1 y s1 hy => ?_⟩
    have hS1 := same_T s1 hS
    refine ⟨.ref a, rfl, a, rfl, ⟨_, hS1⟩, fun D hD => ?_⟩
    refine lcO (walks_tup hS1) hD (fun far => (L.map fun item => ah ps item far).map V.bl) (fun far i v H2 kO hi s2 hv hacc hO2 => ?_) (fun H2 s2 hl2 => ?_)
    · subst hv
      refine ⟨rfl, yesI ?_⟩
      refine ⟨.ref a, rfl, a, rfl, ⟨_, same_T s2 hS1⟩, ?_⟩
      have hfar := hB far (List.mem_of_getElem? hi)
      have hil := (List.getElem?_eq_some_iff.mp hi).1
      have hc : ∀ k, ((L.take k).flatMap fun far => (L.map fun item => ah ps item far).map V.bl).length = (L.take k).length * L.length := fun k => by
        induction (L.take k) with
        | nil => simp
        | cons x l ih =>
          rw [List.flatMap_cons, List.length_append, ih, List.length_map, List.length_map, List.length_cons, Nat.succ_mul]
          omega
      refine lcI (walks_tup hS1) s2 hD hacc ?_ (fun item => ah ps item far) V.bl (fun item v H3 kY kN hm s3 hv hY => ⟨rfl, yesI ?_⟩) hO2
      · rw [hc, List.length_take]
        have : min i L.length * L.length ≤ 300 * 300 := Nat.mul_le_mul (by omega) (by omega)
        omega
      · subst hv
        obtain ⟨p2, xs, d, js, rfl, e1, e2, e3, e4, e5, e6⟩ := (hy.same s3).get rel hfar.1 hfar.2
        refine ⟨.int item, rfl, .ref p2, rfl, .int far, rfl, p2, xs, far, .ref d, rfl, rfl, .inl (.inl e1), e2, d, _, rfl, DGet.k (k := Sum.inl item) e3, ?_⟩
        have e : (valV (SD js) (Sum.inl item)).isSome = ah ps item far := by
          cases e7 : ah ps item far with
          | true =>
            rw [sd_some ((e5 item).mpr e7)]
            rfl
          | false =>
            rw [sd_none (fun w => by rw [(e5 item).mp w] at e7; cases e7)]
            rfl
        rw [e]
        exact hY _ (Same.refl _)
    · refine ⟨D, L.flatMap fun far => L.map fun item => ah ps item far, rfl, .inl (.inl (by rw [List.map_flatMap]; exact hl2)), _, rfl, q _ _ (s1.trans s2) ?_⟩
      rw [List.any_flatMap]
      simp only [Bool.not_eq_true', List.any_eq_false, List.any_map, Loose]
      constructor
      · intro h x hx y hy
        have := h y hy
        rw [List.any_eq_true] at this
        cases e : ah ps x y with
        | false => rfl
        | true => exact absurd ⟨x, hx, e⟩ this
      · intro h y hy
        rw [List.any_eq_true]
        rintro ⟨x, hx, e⟩
        have := h x hx y hy
        have e' : ah ps x y = true := e
        rw [this] at e'
        cases e'
end
end K37
/-! ## EqL -/
namespace K37
open PySem PySem.Spec PyProof.Rows L2
/-! ### == of tuples and lists of ints -/
theorem lay_ints : ∀ S : List Int, PyData.canLayAll0 (S.map PyData.int) = true ∧ PyData.depthAll (S.map PyData.int) ≤ 1
  | [] => by simp [PyData.canLayAll0, PyData.depthAll]
  | x :: S => by
    obtain ⟨h1, h2⟩ := lay_ints S
    simp only [List.map_cons, PyData.canLayAll0, PyData.canLay0, PyData.depthAll, PyData.depth, h1, Bool.and_self, true_and]
    omega
theorem sh_tup (S : List Int) : SeqAt.shaped (tupD S) = true := by
  obtain ⟨h1, h2⟩ := lay_ints S
  have e1 : (tupD S).canLay0 = true := by
    unfold tupD
    rw [PyData.canLay0]
    exact h1
  have e2 : (tupD S).depth ≤ 64 := by
    unfold tupD
    rw [PyData.depth]
    omega
  unfold SeqAt.shaped
  rw [e1, decide_eq_true e2]
  rfl
theorem sh_list (S : List Int) : SeqAt.shaped (.list (S.map PyData.int)) = true := by
  obtain ⟨h1, h2⟩ := lay_ints S
  have e1 : (PyData.list (S.map PyData.int)).canLay0 = true := by
    rw [PyData.canLay0]
    exact h1
  have e2 : (PyData.list (S.map PyData.int)).depth ≤ 64 := by
    rw [PyData.depth]
    omega
  unfold SeqAt.shaped
  rw [e1, decide_eq_true e2]
  rfl
theorem eqv_ints : ∀ S U : List Int, PyData.eqvAll (S.map PyData.int) (U.map PyData.int) = decide (S = U)
  | [], [] => by simp [PyData.eqvAll]
  | [], _ :: _ => by simp [PyData.eqvAll]
  | _ :: _, [] => by simp [PyData.eqvAll]
  | x :: S, y :: U => by
    rw [List.map_cons, List.map_cons]
    simp only [PyData.eqvAll, PyData.eqv, eqv_ints S U]
    by_cases h : x = y
    · subst h
      simp
    · have : (x == y) = false := by simpa using h
      rw [this]
      simp [h]
theorem eqv_tup (S U : List Int) : PyData.eqv (tupD S) (tupD U) = decide (S = U) := by
  unfold tupD
  rw [PyData.eqv]
  exact eqv_ints S U
theorem eqv_list (S U : List Int) : PyData.eqv (.list (S.map PyData.int)) (.list (U.map PyData.int)) = decide (S = U) := by
  rw [PyData.eqv]
  exact eqv_ints S U
theorem dp_list {K : PySem.W.Frag} {H : Hp} {a : Addr} {S : List Int} (h : H a = some (.lst (S.map V.int))) : Dp K H (.ref a) (.list (S.map PyData.int)) := .lst (.inl (.inl h)) (dpAll_ints S)
end K37
/-! ## D11 -/
namespace K37
open PySem PySem.Spec PyProof.Rows L2
section
variable {P : Program} {w : World} {K : PySem.W.Frag} {mg : Str → Option Value} {base : Heap}
/-! ### is_round_in -/
def IsRnd (n : Int) (R : Rl) (S : List Int) (d : PyData) : Prop := ∃ L, d = tupD L ∧ Rnd n R S L
def spRoundIn (K : PySem.W.Frag) : Sp := fun vs H Q _ => ∃ o a x n ps S d, vs = [o, .ref a, x] ∧ OrdAt K H o n ps ∧ Ord n ps ∧ SqT K H a (S.map V.int) ∧ Low n (ah ps) S ∧ Dp K H x d ∧ fewD d ∧ ∀ H' b, Same H H' → (b = true ↔ IsRnd n (ah ps) S d) → Q (.bl b) H'
theorem sc_is_round_in : FnScope ["order", "lower", "value", "free", "item"] ["order", "lower", "value"] (defScope (top 25)) := ⟨rfl, rfl, rfl, by decide +kernel, rfl, by decide +kernel, by decide +kernel⟩
theorem ok_is_round_in {f : Addr} {fd : FuncData} (F : FnP K "is_round_in" 25 f fd) (T : Tp mg) (C1 : Cl P w K mg base CX0 3 "is_lot_of" (spLotOf K)) (C2 : Cl P w K mg base CX0 2 "puttable" (spPut K)) (C3 : Cl P w K mg base CX0 3 "takable" (spTak K)) (C4 : Cl P w K mg base CX0 2 "is_loose_in" (spLoose K)) :
    FnOk P w K mg base CX0 4 f fd ["order", "lower", "value"] (spRoundIn K) := by
  refine F.ok sc_is_round_in (fun vs H Q E h => ?_) (fun cdv A outer s H vs Q E hr h => ⟨_, PSs.nox (pss_cons
      (ps_if (PW.pt (pw_or (pt_not (pt_val (pe_cl C1 hr (by decide) (by rfl) pass0 (pa_cons (pv 0) (pa_cons (pv 2) pa_nil))))) (pw_or1 (pt_cmpR (op_eqD hr.units) (pv 2) (pe_tup pa_nil) (nomark _))))) (pss_one (ps_ret pe_bl)) pss_nil)
      (pss_cons (ps_set (i := 3) sc_is_round_in.nd rfl (.inr rfl) (pe_op op_cat (pe_cl C2 hr (by decide) (by rfl) pass0 (pa_cons (pv 0) (pa_cons (pv 1) pa_nil))) (pe_cl C3 hr (by decide) (by rfl) pass0 (pa_cons (pv 0) (pa_cons (pv 1) pa_nil)))))
      (pss_one (ps_ret (pe_and (pe_callB (allK K rfl) (by rfl) T.all (by decide +kernel) (pa_cons
          (pe_lc (own := [("item", 4)]) (g := gName 4) (tt := tYes) rfl sc_is_round_in.nd (pi_tup (pv 2)) (blkOk_by (N := ["order", "lower", "value", "free", "item"]) (sc := defScope (top 25)) (by decide +kernel)) (fun _ _ _ _ _ => pg_name (i := 4) sc_is_round_in.nd rfl (Or.inl rfl)) (fun _ _ _ _ _ => pts_nil)
            (fun _ _ _ _ _ => pe_cmpR (inK K) (pv 4) (pv 3) rfl)) pa_nil))
        (pe_one (pe_cl C4 hr (by decide) (by rfl) pass0 (pa_cons (pv 0) (pa_cons (pv 2) pa_nil))))))))), ?_⟩)
  · obtain ⟨o, a, x, n, ps, S, d, rfl, _⟩ := h
    rfl
  · obtain ⟨o, a, x, n, ps, S, d, rfl, hO, hn, hS, hL, hd, hf, q⟩ := h
    have n0 := hn.n0
    have n20 := hn.n20
    have rel := ah_rel hn.ok n20
    have lS : S.length ≤ n.toNat := by
      have := asc_len S 0 n hL.asc hL.bd
      omega
    refine ⟨o, rfl, x, rfl, o, x, n, ps, d, rfl, hO, hd, hf, fun H1 s1 => ⟨_, rfl, ?_⟩⟩
    cases el : lotI n d with
    | false =>
      refine iteT (iteT (q _ _ s1 ⟨(fun z => by cases z), fun z => ?_⟩))
      obtain ⟨L, rfl, hR⟩ := z
      rw [lotI_iff.mpr ⟨L, rfl, hR.asc, fun x hx => ⟨(hR.free x hx).1, (hR.free x hx).2.1⟩⟩] at el
      cases el
    | true =>
      obtain ⟨L, rfl, hA, hB⟩ := lotI_iff.mp el
      have lL : L.length ≤ n.toNat := by
        have := asc_len L 0 n hA hB
        omega
      obtain ⟨v, rfl, hV⟩ := tup_dp hd
      have hV1 := same_T s1 hV
      refine iteF ⟨.ref v, rfl, Nat.zero_le _, fun t nt => ?_⟩
      have s2 : Same H (upd H1 t (.tup [])) := same_new s1 nt
      refine ⟨tupD L, tupD [], dp_tup (same_T (same_put (Same.refl _) nt) hV1), dp_tup (.inl (.inl upd_same)), sh_tup L, sh_tup [], ?_⟩
      rw [eqv_tup]
      refine ⟨_, rfl, ?_⟩
      by_cases e : L = []
      · refine iteTT (decide_eq_true e) (q _ _ s2 ⟨(fun z => by cases z), fun z => ?_⟩)
        obtain ⟨L', e', hR⟩ := z
        rw [← tupD_inj e'] at hR
        exact absurd e hR.ne
      · refine iteFF (decide_eq_false e) ?_
        refine ⟨o, rfl, .ref a, rfl, o, a, n, ps, S, rfl, hO.same s2, hn, same_T s2 hS, fun H3 p s3 h3 => ?_⟩
        have s3' := s2.trans s3
        refine ⟨o, rfl, .ref a, rfl, o, a, n, ps, S, rfl, hO.same s3', hn, same_T s3' hS, hL.bd, by omega, fun H4 p4 s4 h4 => ?_⟩
        have s4' := s3'.trans s4
        have l1 : (putL n (ah ps) S).length ≤ n.toNat := Nat.le_trans (List.length_filter_le _ _) (by rw [rng_len]; exact Nat.le_refl _)
        have l2 : (takL (ah ps) S).length ≤ n.toNat := Nat.le_trans (List.length_filter_le _ _) lS
        refine ⟨p, p4, _, _, rfl, rfl, s4 _ _ h3, h4, by rw [List.length_map, List.length_map]; exact Nat.le_of_lt (small20 (by omega)), fun p5 n5 => ?_⟩
        have s5 : Same H (upd H4 p5 (.lst ((putL n (ah ps) S).map V.int ++ (takL (ah ps) S).map V.int))) := same_new s4' n5
        have h5 : SqL K (upd H4 p5 (.lst ((putL n (ah ps) S).map V.int ++ (takL (ah ps) S).map V.int))) p5 ((putL n (ah ps) S ++ takL (ah ps) S).map V.int) := by
          rw [List.map_append]
          exact .inl (.inl upd_same)
        generalize upd H4 p5 (.lst ((putL n (ah ps) S).map V.int ++ (takL (ah ps) S).map V.int)) = H5 at s5 h5 ⊢
        have hV5 := same_T s5 hV
        refine ⟨.ref v, rfl, v, rfl, ⟨_, hV5⟩, fun D hD => ?_⟩
        refine lcW (walks_tup hV5) hD (by omega) (fun _ => true) (fun i => decide (i ∈ putL n (ah ps) S ++ takL (ah ps) S)) V.bl (fun i z H6 kY kN hi s6 hz hY _ => ⟨rfl, yesI ?_⟩) (fun H6 s6 hl6 => ?_)
        · subst hz
          refine ⟨.int i, rfl, .ref p5, rfl, p5, _, rfl, .inl (s6.seq h5), rfl, flat_ints _, ?_⟩
          show kY (V.bl (inV (V.int i) ((putL n (ah ps) S ++ takL (ah ps) S).map V.int))) H6
          rw [inV_int]
          exact hY rfl _ (Same.refl _)
        · have s6' := s5.trans s6
          refine ⟨D, _, rfl, .inl (.inl hl6), _, rfl, ?_⟩
          rw [filter_all, all_id]
          cases e6 : (L.all fun i => decide (i ∈ putL n (ah ps) S ++ takL (ah ps) S)) with
          | false =>
            refine iteF (q _ _ s6' ⟨(fun z => by cases z), fun z => ?_⟩)
            obtain ⟨L', e', hR⟩ := z
            rw [← tupD_inj e'] at hR
            rw [List.all_eq_true.mpr fun i hi => decide_eq_true ((mem_put_tak rel hL).mpr (hR.free i hi))] at e6
            cases e6
          | true =>
            rw [List.all_eq_true] at e6
            refine iteT ⟨o, rfl, .ref v, rfl, o, v, n, ps, L, rfl, hO.same s6', hn, same_T s6 hV5, hB, by omega, fun H7 b s7 hb => q _ _ (s6'.trans s7) ?_⟩
            rw [hb]
            constructor
            · intro h
              exact ⟨L, rfl, hA, e, fun i hi => (mem_put_tak rel hL).mp (of_decide_eq_true (e6 i hi)), h⟩
            · rintro ⟨L', e', hR⟩
              rw [← tupD_inj e'] at hR
              exact hR.loose
/-! ### is_round -/
def spRound (K : PySem.W.Frag) (CO CL : Addr) : Sp := fun vs H Q E => ∃ o x y, vs = [o, x, y] ∧
  ((∃ ds, Dp K H o (.list ds) ∧ Rz E CO "part" (.str "form") H) ∨ (Dp K H o (.tuple [.bool true, .tuple []]) ∧ Rz E CO "part" (.str "many") H) ∨ ∃ n ps d, OrdAt K H o n ps ∧ Ord n ps ∧ Dp K H x d ∧ fewD d ∧
    ((¬ IsLow n (ah ps) d ∧ Rz E CL "given" x H) ∨ ∃ S e, d = tupD S ∧ Low n (ah ps) S ∧ Dp K H y e ∧ fewD e ∧ ∀ H' b, Same H H' → (b = true ↔ IsRnd n (ah ps) S e) → Q (.bl b) H'))
theorem sc_is_round : FnScope ["order", "lower", "value"] ["order", "lower", "value"] (defScope (top 26)) := ⟨rfl, rfl, rfl, by decide +kernel, rfl, by decide +kernel, by decide +kernel⟩
theorem ok_is_round {CO CL f : Addr} {fd : FuncData} (F : FnP K "is_round" 26 f fd) (Co : Cl P w K mg base (L2.CX P w) 5 "need_order" (spNeedO K CO)) (Cw : Cl P w K mg base (L2.CX P w) 5 "need_lower" (spNeedL K CL)) (Cr : Cl P w K mg base CX0 4 "is_round_in" (spRoundIn K)) :
    FnOk P w K mg base (L2.CX P w) 6 f fd ["order", "lower", "value"] (spRound K CO CL) := by
  refine F.ok sc_is_round (fun vs H Q E h => ?_) (fun cdv A outer s H vs Q E hr h => ⟨_, (pss_cons
      (ps_expr (pe_cl Cw hr (by decide) (by rfl) (passes_call (E := E) (takes_of rfl rfl rfl rfl) (fun _ _ _ _ h => h)) (pa_cons (pe_cl Co hr (by decide) (by rfl) (passes_call (E := E) (takes_of rfl rfl rfl rfl) (fun _ _ _ _ h => h)) (pa_cons (pv 0) pa_nil)) (pa_cons (pv 1) pa_nil))))
      (pss_one (ps_ret (pe_cl Cr hr (by decide) (by rfl) pass0 (pa_cons (pv 0) (pa_cons (pv 1) (pa_cons (pv 2) pa_nil))))))), ?_⟩)
  · obtain ⟨o, x, y, rfl, _⟩ := h
    rfl
  · obtain ⟨o, x, y, rfl, h⟩ := h
    rcases h with ⟨ds, hd, q⟩ | ⟨hd, q⟩ | ⟨n, ps, d, hO, hn, hd, hf, h⟩
    · exact ⟨o, rfl, o, rfl, .inl ⟨ds, hd, q⟩⟩
    · exact ⟨o, rfl, o, rfl, .inr (.inl ⟨hd, q⟩)⟩
    · refine ⟨o, rfl, o, rfl, .inr (.inr ⟨n, ps, hO, hn, fun H1 s1 => ⟨x, rfl, o, x, n, ps, d, rfl, hO.same s1, hn, dp_same s1 hd, hf, ?_, ?_⟩⟩)⟩
      · intro z
        rcases h with ⟨_, q⟩ | ⟨S, e, rfl, hS, _⟩
        · exact q.same s1
        · exact absurd ⟨S, rfl, hS⟩ z
      · intro z H2 s2
        rcases h with ⟨z2, _⟩ | ⟨S, e, rfl, hS, he, hg, q⟩
        · exact absurd z z2
        · have s3 := s1.trans s2
          obtain ⟨a, rfl, hT⟩ := tup_dp hd
          exact ⟨o, rfl, .ref a, rfl, y, rfl, o, a, y, n, ps, S, e, rfl, hO.same s3, hn, same_T s3 hT, hS, dp_same s3 he, hg, fun H4 b s4 hb => q _ _ (s3.trans s4) hb⟩
end
end K37
/-! ## D12 -/
namespace K37
open PySem PySem.Spec PyProof.Rows L2
/-! ### a dict from ints to ints -/
def FD (l : List Int) (F : Int → Int) : List (Key × V) := l.map fun i => (Sum.inl i, V.int (F i))
theorem fd_len (l : List Int) (F : Int → Int) : (FD l F).length = l.length := by simp [FD]
theorem fd_vals (l : List Int) (F : Int → Int) : (FD l F).map (·.2) = (l.map F).map V.int := by
  unfold FD
  rw [List.map_map, List.map_map]
  rfl
theorem fd_some {F : Int → Int} {i : Int} : ∀ {l : List Int}, i ∈ l → valV (FD l F) (Sum.inl i) = some (.int (F i))
  | k :: l, h => by
    show valV ((Sum.inl k, V.int (F k)) :: FD l F) (Sum.inl i) = _
    by_cases e : k = i
    · subst e
      rw [valV_pos rfl]
    · rw [valV_neg (by intro z; exact e (Sum.inl.inj z))]
      rcases List.mem_cons.mp h with h | h
      · exact absurd h.symm e
      · exact fd_some h
theorem fd_none {F : Int → Int} {i : Int} : ∀ {l : List Int}, i ∉ l → valV (FD l F) (Sum.inl i) = none
  | [], _ => rfl
  | k :: l, h => by
    show valV ((Sum.inl k, V.int (F k)) :: FD l F) (Sum.inl i) = _
    rw [valV_neg (by intro z; exact h (by rw [Sum.inl.inj z]; exact List.mem_cons_self))]
    exact fd_none fun z => h (List.mem_cons_of_mem _ z)
theorem fd_put {l : List Int} {F : Int → Int} {i : Int} (h : i ∉ l) : putK (FD l F) (Sum.inl i) (.int (F i)) = FD (l ++ [i]) F := by
  rw [putK_new _ (fd_none h)]
  unfold FD
  rw [List.map_append]
  rfl
theorem asc_take {L : List Int} {j : Nat} {x y : Int} (h : Asc L) (hx : L[j]? = some x) (hy : y ∈ L) (lt : y < x) : y ∈ L.take j := by
  have hj := (List.getElem?_eq_some_iff.mp hx).1
  have e := List.take_append_drop j L
  rw [← e] at hy h
  rcases List.mem_append.mp hy with hy | hy
  · exact hy
  · have hd : L.drop j = x :: L.drop (j + 1) := by
      rw [List.drop_eq_getElem_cons hj]
      congr 1
      exact (List.getElem?_eq_some_iff.mp hx).2
    rw [hd] at hy h
    have := (List.pairwise_cons.mp (List.pairwise_append.mp h).2.1).1
    rcases List.mem_cons.mp hy with e | e
    · omega
    · have := this y e
      omega
theorem asc_nottake {L : List Int} {j : Nat} {x : Int} (h : Asc L) (hx : L[j]? = some x) : x ∉ L.take j := fun hm => by
  have hj := (List.getElem?_eq_some_iff.mp hx).1
  have hd : L.drop j = x :: L.drop (j + 1) := by
    rw [List.drop_eq_getElem_cons hj]
    congr 1
    exact (List.getElem?_eq_some_iff.mp hx).2
  rw [← List.take_append_drop j L, hd] at h
  have := (List.pairwise_append.mp h).2.2 x hm x List.mem_cons_self
  omega
section
variable {P : Program} {w : World} {K : PySem.W.Frag} {mg : Str → Option Value} {base : Heap}
theorem maxK {X : Cx} (K : PySem.W.Frag) (hc : X.calm = true) (h : X.K = K := by rfl) : CallR X (.builtin "max") (rMax K) := by subst h; exact cr_max hc
theorem eqDK {X : Cx} (K : PySem.W.Frag) (hu : X.A.units + 64 < cLine) (h : X.K = K := by rfl) : OpR X (compareOp .Eq) (rEqD K) := by subst h; exact op_eqD hu
/-! ### steps_by -/
def spSteps (K : PySem.W.Frag) : Sp := fun vs H Q _ => ∃ x a n R L, vs = [x, .ref a] ∧ AhD H x n R ∧ Rel n R ∧ n ≤ 20 ∧ SqT K H a (L.map V.int) ∧ Asc L ∧ (∀ i ∈ L, 0 ≤ i ∧ i < n) ∧ ∀ H' p, Same H H' → H' p = some (.dK (FD L (ht R L))) → Q (.ref p) H'
theorem sc_steps_by : FnScope ["ahead", "lot", "found", "item", "near"] ["ahead", "lot"] (defScope (top 27)) := ⟨rfl, rfl, rfl, by decide +kernel, rfl, by decide +kernel, by decide +kernel⟩
theorem ok_steps_by {f : Addr} {fd : FuncData} (F : FnP K "steps_by" 27 f fd) (T : Tp mg) : FnOk P w K mg base CX0 1 f fd ["ahead", "lot"] (spSteps K) := by
  refine F.ok sc_steps_by (fun vs H Q E h => ?_) (fun cdv A outer s H vs Q E hr h => ⟨_, PSs.nox (pss_cons
      (ps_set (i := 2) sc_steps_by.nd rfl (.inr rfl) pe_dnewK)
      (pss_cons (ps_for PassesOwn.never rfl (pi_tup (pv 1)) (pg_name (i := 3) sc_steps_by.nd rfl (Or.inr rfl))
        (pss_one (ps_dput (hu_of hr) (pv 2) (pv 3) (pe_op op_add pe_int (pe_callB (maxK K rfl) (by rfl) T.max (by decide +kernel) (pa_cons (pe_op op_cat (pe_lst (pa_cons pe_int pa_nil))
          (pe_lc (own := [("near", 4)]) (g := gName 4) rfl sc_steps_by.nd (pi_tup (pv 1)) (blkOk_by (N := ["ahead", "lot", "found", "item", "near"]) (sc := defScope (top 27)) (by decide +kernel)) (fun _ _ _ _ _ => pg_name (i := 4) sc_steps_by.nd rfl (Or.inl rfl))
            (fun _ _ _ _ _ => pts_one (pt_cmp (pc_din (hu_of hr) (pv 4) (pe_ix (ixL K) (pv 0) (pv 3) (fun _ _ => rfl))) rfl)) (fun _ _ _ _ _ => pe_dget (hu_of hr) (pv 2) (pv 4) (fun _ _ => rfl)))) pa_nil))) rfl)))
      (pss_one (ps_ret (pv 2))))), ?_⟩)
  · obtain ⟨x, a, n, R, L, rfl, _⟩ := h
    rfl
  · obtain ⟨x, a, n, R, L, rfl, hA, rel, n20, hS, asc, hB, q⟩ := h
    have lL : L.length ≤ n.toNat := by
      have := asc_len L 0 n asc hB
      omega
    refine fun p np => ?_
    have hS1 := same_T (same_put (Same.refl H) np (o := .dK [])) hS
    refine ⟨.ref a, rfl, a, rfl, ⟨_, hS1⟩, ?_⟩
    refine for_tup (K := K) (a := a) (xs := L.map V.int) (fun j σ H3 => ∃ y3, σ = [some x, some (.ref a), some (.ref p), y3, none] ∧ Same H H3 ∧ H3 p = some (.dK (FD (L.take j) (ht R L))))
      ⟨_, rfl, same_put (Same.refl _) np, upd_same⟩ (fun j σ H3 _ hP => ?_) (fun j v σ H3 hj hP => ?_) (fun σ H3 hP => ?_)
    · obtain ⟨y3, rfl, s3, _⟩ := hP
      exact same_T s3 hS
    · obtain ⟨y3, rfl, s3, hp⟩ := hP
      obtain ⟨i, gi, rfl⟩ := get_map hj
      have hi := hB i (List.mem_of_getElem? gi)
      refine Nat.le_trans (Nat.le_refl _) (by decide : 1 ≤ sizeLine) |> fun z1 => ⟨z1, fun z nz => ?_⟩
      have s4 : Same H3 (upd H3 z (.lst [.int 0])) := same_put (Same.refl _) nz
      have s4' := s3.trans s4
      have hz4 : upd H3 z (.lst [V.int 0]) z = some (.lst [V.int 0]) := upd_same
      have hp4 : upd H3 z (.lst [V.int 0]) p = some (.dK (FD (L.take j) (ht R L))) := s4 _ _ hp
      generalize upd H3 z (.lst [V.int 0]) = H4 at s4 s4' hz4 hp4 ⊢
      refine ⟨.ref a, rfl, a, rfl, ⟨_, same_T s4' hS⟩, fun D hD => ?_⟩
      refine lcW (walks_tup (same_T s4' hS)) hD (by omega) (fun y => R y i) (ht R L) V.int (fun y v H5 kY kN hy s5 hv hY hN => ⟨rfl, ?_⟩) (fun H5 s5 hl5 => ?_)
      · subst hv
        obtain ⟨p2, xs, d, js, rfl, e1, e2, e3, e4, e5, e6⟩ := (hA.same (s4'.trans s5)).get rel hi.1 hi.2
        refine ⟨.int y, rfl, .ref p2, rfl, .int i, rfl, p2, xs, i, .ref d, rfl, rfl, .inl (.inl e1), e2, d, _, rfl, DGet.k (k := Sum.inl y) e3, _, rfl, ?_⟩
        cases e : R y i with
        | true =>
          rw [sd_some ((e5 y).mpr e)]
          have hm := asc_take asc gi hy (rel.bd e).2.1
          have hg := DGet.k (k := Sum.inl y) (s5 _ _ hp4)
          rw [fd_some hm] at hg
          exact iteT ⟨.ref p, rfl, .int y, rfl, p, _, rfl, hg, hY e _ (Same.refl _)⟩
        | false =>
          rw [sd_none (fun w => by rw [(e5 y).mp w] at e; cases e)]
          exact iteF (hN e _ (Same.refl _))
      · have lf : (L.filter fun y => R y i).length ≤ L.length := List.length_filter_le _ _
        refine ⟨z, D, [.int 0], _, rfl, rfl, s5 _ _ hz4, hl5, by rw [List.length_map, List.length_map]; exact Nat.le_of_lt (small20 (by show 1 + _ ≤ _; omega)), fun c nc => ?_⟩
        refine ⟨c, 0 :: (L.filter fun y => R y i).map (ht R L), rfl, .inl (.inl upd_same), Nat.succ_pos _, fun m hm1 hm2 => ?_⟩
        have em := mx_of hm1 hm2
        subst em
        refine ⟨1, _, rfl, rfl, .ref p, rfl, .int i, rfl, p, _, rfl, DPut.k (k := Sum.inl i) (by rw [upd_ne (ne_of_none (s5 _ _ hp4) nc)]; exact s5 _ _ hp4) (by rw [fd_len, List.length_take]; exact small20 (by omega)), ?_⟩
        have hrec : 1 + mx ((L.filter fun y => R y i).map (ht R L)) = ht R L i := (ht_rec rel hi.1).symm
        refine ⟨_, rfl, same_put (same_new (s4'.trans s5) nc) np, ?_⟩
        rw [upd_same]
        show some (HO.dK (putK (FD (L.take j) (ht R L)) (Sum.inl i) (.int (1 + mx ((L.filter fun y => R y i).map (ht R L)))))) = _
        rw [hrec, fd_put (asc_nottake asc gi), List.take_add_one, gi]
        rfl
    · obtain ⟨y3, rfl, s3, hp⟩ := hP
      rw [List.length_map, List.take_length] at hp
      exact ⟨.ref p, rfl, q _ _ s3 hp⟩
end
end K37
/-! ## D13 -/
namespace K37
open PySem PySem.Spec PyProof.Rows L2
section
variable {P : Program} {w : World} {K : PySem.W.Frag} {mg : Str → Option Value} {base : Heap}
/-! ### longest_chain -/
def spChain (K : PySem.W.Frag) : Sp := fun vs H Q _ => ∃ x a n R L, vs = [x, .ref a] ∧ AhD H x n R ∧ Rel n R ∧ 0 ≤ n ∧ n ≤ 20 ∧ SqT K H a (L.map V.int) ∧ Asc L ∧ (∀ i ∈ L, 0 ≤ i ∧ i < n) ∧
  ∀ H' p (cs : List Int), Same H H' → SqT K H' p (cs.map V.int) → (cs.length : Int) = hgt R L → Q (.ref p) H'
theorem sc_longest_chain : FnScope ["ahead", "lot", "steps", "found", "number", "some", "item"] ["ahead", "lot"] (defScope (top 28)) := ⟨rfl, rfl, rfl, by decide +kernel, rfl, by decide +kernel, by decide +kernel⟩
theorem ok_longest_chain {f : Addr} {fd : FuncData} (F : FnP K "longest_chain" 28 f fd) (T : Tp mg) (C1 : Cl P w K mg base CX0 1 "steps_by" (spSteps K)) : FnOk P w K mg base CX0 2 f fd ["ahead", "lot"] (spChain K) := by
  refine F.ok sc_longest_chain (fun vs H Q E h => ?_) (fun cdv A outer s H vs Q E hr h => ⟨_, PSs.nox (pss_cons
      (ps_asg (pe_tup (pa_cons (pe_cl C1 hr (by decide) (by rfl) pass0 (pa_cons (pv 0) (pa_cons (pv 1) pa_nil))) (pa_cons (pe_lst pa_nil) pa_nil))) (pg_tup rfl (pgs_cons (pg_name (i := 2) sc_longest_chain.nd rfl (Or.inr rfl)) (pgs_cons (pg_name (i := 3) sc_longest_chain.nd rfl (Or.inr rfl)) pgs_nil))))
      (pss_cons (ps_for PassesOwn.never rfl (pi_range3 rfl T.range (pa_cons (pe_callB (maxK K rfl) (by rfl) T.max (by decide +kernel) (pa_cons (pe_op op_cat (pe_lst (pa_cons pe_int pa_nil)) (pe_listVals rfl (pv 2) T.list)) pa_nil)) (pa_cons pe_int (pa_cons (pe_un un_neg pe_int) pa_nil)))) (pg_name (i := 4) sc_longest_chain.nd rfl (Or.inr rfl))
        (pss_cons (ps_setLc (i := 5) (own := [("item", 6)]) (g := gName 6) rfl sc_longest_chain.nd rfl rfl (sw_true rfl rfl rfl (by decide +kernel)) (pi_tup (pv 1)) (blkOk_by (N := ["ahead", "lot", "steps", "found", "number", "some", "item"]) (sc := defScope (top 28)) (by decide +kernel)) (fun _ _ _ _ _ => pg_name (i := 6) sc_longest_chain.nd rfl (Or.inl rfl))
            (fun _ _ _ _ _ => pts_one (pt_cmpR op_eq (pe_dget (hu_of hr) (pv 2) (pv 6) (fun _ _ => rfl)) (pv 4) (nomark _))) (fun _ _ _ _ _ => pv 6))
        (pss_one (ps_expr (pe_bm PySem.F.plainAttrs_list PySem.F.slot_list_append PySem.F.type_list_append mt_append (pv 3) (pa_cons (pe_ix ix_list
          (pe_lc (own := [("item", 6)]) (g := gName 6) rfl sc_longest_chain.nd (pi_list (pv 5)) (blkOk_by (N := ["ahead", "lot", "steps", "found", "number", "some", "item"]) (sc := defScope (top 28)) (by decide +kernel)) (fun _ _ _ _ _ => pg_name (i := 6) sc_longest_chain.nd rfl (Or.inl rfl))
            (fun _ _ _ _ _ => pts_one (PW.pt (pw_or (pt_cmpR (eqDK K hr.units) (pv 3) (pe_lst pa_nil) (nomark _)) (pw_or1 (pt_cmp (pc_din (hu_of hr) (pv 6) (pe_ix (ixL K) (pv 0) (pe_ix (ixL K) (pv 3) (pe_un un_neg pe_int) (fun _ _ => rfl)) (fun _ _ => rfl))) rfl))))) (fun _ _ _ _ _ => pv 6)) pe_int (fun _ _ => rfl)) pa_nil))))))
      (pss_one (ps_ret (pe_callTy call_tuple_of (by rfl) T.tuple (by decide +kernel) (pa_cons (pe_revL (pv 3)) pa_nil)))))), ?_⟩)
  · obtain ⟨x, a, n, R, L, rfl, _⟩ := h
    rfl
  · obtain ⟨x, a, n, R, L, rfl, hA, rel, n0, n20, hS, asc, hB, q⟩ := h
    have lL : L.length ≤ n.toNat := by
      have := asc_len L 0 n asc hB
      omega
    have hm0 : 0 ≤ hgt R L := hgt_nn
    have hm1 : hgt R L ≤ n := hgt_le_n rel hB n0
    refine ⟨x, rfl, .ref a, rfl, x, a, n, R, L, rfl, hA, rel, n20, hS, asc, hB, fun H1 p s1 hp => ⟨Nat.zero_le _, fun g ng => ⟨by show 2 ≤ sizeLine; decide, fun t nt => ?_⟩⟩⟩
    have ngp : p ≠ g := ne_of_none hp ng
    have ntp : t ≠ p := fun z => by
      rw [z, upd_ne ngp, hp] at nt
      cases nt
    have ntg : t ≠ g := fun z => by
      rw [z, upd_same] at nt
      cases nt
    refine ⟨t, _, rfl, .inl (.inl upd_same), rfl, _, _, rfl, _, _, rfl, rfl, ?_⟩
    have s2 : Same H (upd (upd H1 g (.lst [])) t (.tup [.ref p, .ref g])) := same_new (same_new s1 ng) nt
    have hp2 : upd (upd H1 g (.lst [])) t (.tup [.ref p, .ref g]) p = some (.dK (FD L (ht R L))) := by rw [upd_ne (Ne.symm ntp), upd_ne ngp]; exact hp
    have hg2 : upd (upd H1 g (.lst [])) t (.tup [.ref p, .ref g]) g = some (.lst (([] : List Int).map V.int)) := by rw [upd_ne (Ne.symm ntg), upd_same]; rfl
    have hng : H g = none := by
      cases e : H g with
      | none => rfl
      | some u =>
        have := s1 _ _ e
        rw [ng] at this
        cases this
    generalize upd (upd H1 g (.lst [])) t (.tup [.ref p, .ref g]) = H2 at s2 hp2 hg2 ⊢
    -- range(max([0] + list(steps.values())), 0, -1)
    refine ⟨by show 1 ≤ sizeLine; decide, fun z nz => ?_⟩
    have s3 : Same H2 (upd H2 z (.lst [.int 0])) := same_put (Same.refl _) nz
    have hz3 : upd H2 z (.lst [V.int 0]) z = some (.lst [V.int 0]) := upd_same
    generalize upd H2 z (.lst [V.int 0]) = H3 at s3 hz3 ⊢
    refine ⟨.ref p, rfl, p, _, rfl, s3 _ _ hp2, fun v nv => ?_⟩
    have s4 : Same H3 (upd H3 v (.lst ((FD L (ht R L)).map (·.2)))) := same_put (Same.refl _) nv
    have hv4 : upd H3 v (.lst ((FD L (ht R L)).map (·.2))) v = some (.lst ((FD L (ht R L)).map (·.2))) := upd_same
    generalize upd H3 v (.lst ((FD L (ht R L)).map (·.2))) = H4 at s4 hv4 ⊢
    refine ⟨z, v, _, _, rfl, rfl, s4 _ _ hz3, hv4, by rw [List.length_map, fd_len]; exact Nat.le_of_lt (small20 (by show 1 + _ ≤ _; omega)), fun c nc => ?_⟩
    have s5 : Same H4 (upd H4 c (.lst ([V.int 0] ++ (FD L (ht R L)).map (·.2)))) := same_put (Same.refl _) nc
    have hc5 : upd H4 c (.lst ([V.int 0] ++ (FD L (ht R L)).map (·.2))) c = some (.lst ((0 :: L.map (ht R L)).map V.int)) := by
      rw [upd_same, fd_vals]
      rfl
    generalize upd H4 c (.lst ([V.int 0] ++ (FD L (ht R L)).map (·.2))) = H5 at s5 hc5 ⊢
    refine ⟨c, _, rfl, .inl (.inl hc5), Nat.succ_pos _, fun m hq1 hq2 => ?_⟩
    have em : m = hgt R L := mx_of hq1 hq2
    subst em
    have s25 : Same H2 H5 := (s3.trans s4).trans s5
    refine ⟨1, rfl, _, _, _, _, rfl, RgC.neg (by omega) (by omega) (by decide) (by decide), ?_⟩
    rw [Int.sub_zero]
    refine for_rangeC (lo := hgt R L) (c := -1) (n := (hgt R L).toNat) (fun i σ H' => ∃ y4 y5, ∃ cs : List Int, σ = [some x, some (.ref a), some (.ref p), some (.ref g), y4, y5, none] ∧ Same H H' ∧ H' p = some (.dK (FD L (ht R L))) ∧ H' g = some (.lst (cs.map V.int)) ∧ cs.length = i ∧ (∀ c ∈ cs, c ∈ L) ∧
        ∀ l c, cs = l ++ [c] → ht R L c = hgt R L - i + 1) ⟨_, _, [], rfl, s2.trans s25, s25 _ _ hp2, s25 _ _ hg2, rfl, (fun c hc => by cases hc), fun l c e => by simp at e⟩ (fun i σ H6 hi hP => ?_) (fun σ H6 hP => ?_)
    · obtain ⟨y4, y5, cs, rfl, s6, hp6, hg6, hcs, hcL, hlast⟩ := hP
      refine ⟨.ref a, rfl, a, rfl, ⟨_, same_T s6 hS⟩, fun D hD => ?_⟩
      refine lcW (walks_tup (same_T s6 hS)) hD (by omega) (fun y => decide (ht R L y = hgt R L + (i : Nat) * -1)) id V.int (fun y v H7 kY kN hy s7 hv hY hN => ⟨rfl, ?_⟩) (fun H7 s7 hl7 => ?_)
      · subst hv
        have hget := DGet.k (k := Sum.inl y) (s7 _ _ hp6)
        rw [fd_some hy] at hget
        refine ⟨.ref p, rfl, .int y, rfl, p, _, rfl, hget, .int (hgt R L + (i : Nat) * -1), rfl, rfl, _, rfl, ?_⟩
        rw [decInt]
        cases e : decide (ht R L y = hgt R L + (i : Nat) * -1) with
        | true => exact iteT ⟨.int y, rfl, hY e _ (Same.refl _)⟩
        | false => exact iteF (hN e _ (Same.refl _))
      · rw [List.map_id] at hl7
        have s67 := s6.trans s7
        have hp7 := s7 _ _ hp6
        have hg7 := s7 _ _ hg6
        -- the one that is picked
        let kp2 : Int → Bool := fun y => match cs.getLast? with
          | none => true
          | some c => R y c
        have pick : ∃ y0 rest, ((L.filter fun y => decide (ht R L y = hgt R L + (i : Nat) * -1)).filter kp2) = y0 :: rest := by
          have : ∃ y ∈ L, ht R L y = hgt R L + (i : Nat) * -1 ∧ kp2 y = true := by
            rcases List.eq_nil_or_concat cs with e | ⟨l, c, e⟩
            · subst e
              have i0 : i = 0 := hcs.symm
              subst i0
              rcases mx_mem (L.map (ht R L)) with e | e
              · have : hgt R L = 0 := e
                omega
              · obtain ⟨y, hy, ey⟩ := List.mem_map.mp e
                exact ⟨y, hy, by show _ = hgt R L + _; rw [ey]; show hgt R L = _; simp, rfl⟩
            · rw [List.concat_eq_append] at e
              have hh := hlast l c e
              have hc : c ∈ L := hcL c (by rw [e]; simp)
              obtain ⟨y, hy, hr, ey⟩ := ht_below (lot := L) rel (hB c hc).1 (by omega)
              refine ⟨y, hy, by omega, ?_⟩
              show (match cs.getLast? with | none => true | some c => R y c) = true
              rw [e, List.getLast?_concat]
              exact hr
          obtain ⟨y, h1, h2, h3⟩ := this
          cases e : ((L.filter fun y => decide (ht R L y = hgt R L + (i : Nat) * -1)).filter kp2) with
          | nil =>
            have : y ∈ ((L.filter fun y => decide (ht R L y = hgt R L + (i : Nat) * -1)).filter kp2) := List.mem_filter.mpr ⟨List.mem_filter.mpr ⟨h1, decide_eq_true h2⟩, h3⟩
            rw [e] at this
            cases this
          | cons y0 rest => exact ⟨y0, rest, rfl⟩
        obtain ⟨y0, rest, ep⟩ := pick
        have hy0 : y0 ∈ ((L.filter fun y => decide (ht R L y = hgt R L + (i : Nat) * -1)).filter kp2) := by rw [ep]; exact List.mem_cons_self
        obtain ⟨hy1, _⟩ := List.mem_filter.mp hy0
        obtain ⟨hy2, hy3⟩ := List.mem_filter.mp hy1
        have hy3 := of_decide_eq_true hy3
        have lcs : cs.length ≤ 20 := by omega
        refine ⟨.ref g, rfl, .inl ⟨rfl, _, .inl (.inl hg7)⟩, .ref D, rfl, D, rfl, ⟨_, .inl (.inl hl7)⟩, fun D2 hD2 => ?_⟩
        refine lcW (walks_list (.inl (.inl hl7))) hD2 (Nat.le_trans (List.length_filter_le _ _) (by omega)) kp2 id V.int (fun y v H8 kY kN hy s8 hv hY hN => ⟨rfl, ?_⟩) (fun H8 s8 hl8 => ?_)
        · subst hv
          refine ⟨.ref g, rfl, Nat.zero_le _, fun u nu => ?_⟩
          have s9 : Same H8 (upd H8 u (.lst [])) := same_put (Same.refl _) nu
          have hg9 := s9 _ _ (s8 _ _ hg7)
          have hu9 : upd H8 u (.lst []) u = some (.lst (([] : List Int).map V.int)) := upd_same
          generalize upd H8 u (.lst []) = H9 at s9 hg9 hu9 ⊢
          refine ⟨_, _, dp_list hg9, dp_list hu9, sh_list cs, sh_list [], ?_⟩
          rw [eqv_list]
          refine ⟨_, rfl, ?_⟩
          rcases List.eq_nil_or_concat cs with e | ⟨l, c, e⟩
          · have ek : kp2 y = true := by
              show (match cs.getLast? with | none => true | some c => R y c) = true
              rw [e]
              rfl
            exact iteTT (decide_eq_true e) (iteT ⟨.int y, rfl, hY ek _ s9⟩)
          · rw [List.concat_eq_append] at e
            have ek : kp2 y = R y c := by
              show (match cs.getLast? with | none => true | some c => R y c) = _
              rw [e, List.getLast?_concat]
            refine iteFF (decide_eq_false (by rw [e]; simp)) ?_
            have hc : c ∈ L := hcL c (by rw [e]; simp)
            have hcb := hB c hc
            obtain ⟨p2, xs, d, js, rfl, e1, e2, e3, e4, e5, e6⟩ := (hA.same ((s67.trans s8).trans s9)).get rel hcb.1 hcb.2
            have hat : atI (cs.map V.int) (-1) = some (.int c) := by
              rw [e, List.map_append]
              exact atI_last _ _
            refine ⟨.int y, rfl, .ref p2, rfl, .ref g, rfl, 1, rfl, g, _, -1, .int c, rfl, rfl, .inl (.inl hg9), hat, p2, xs, c, .ref d, rfl, rfl, .inl (.inl e1), e2, d, _, rfl, DGet.k (k := Sum.inl y) e3, _, rfl, ?_⟩
            cases e7 : R y c with
            | true =>
              rw [sd_some ((e5 y).mpr e7)]
              exact iteT ⟨.int y, rfl, hY (ek.trans e7) _ s9⟩
            | false =>
              rw [sd_none (fun w => by rw [(e5 y).mp w] at e7; cases e7)]
              exact iteF (hN (ek.trans e7) _ s9)
        · rw [List.map_id, ep] at hl8
          refine ⟨D2, _, 0, .int y0, rfl, rfl, .inl (.inl hl8), atI_nat (j := 0) rfl, g, _, _, rfl, rfl, s8 _ _ hg7, by rw [List.length_map]; exact small20 (by omega), ?_⟩
          have hpg : p ≠ g := ngp
          refine ⟨_, _, cs ++ [y0], rfl, same_put (s67.trans s8) hng, by rw [upd_ne hpg]; exact s8 _ _ hp7, ?_, by rw [List.length_append, hcs]; rfl, fun c hc => ?_, fun l c e => ?_⟩
          · rw [upd_same, List.map_append]
            rfl
          · rcases List.mem_append.mp hc with h | h
            · exact hcL c h
            · rw [List.mem_singleton.mp h]
              exact hy2
          · have := List.append_inj' e rfl
            have ec : y0 = c := List.cons.inj this.2 |>.1
            rw [← ec, hy3]
            omega
    · obtain ⟨y4, y5, cs, rfl, s6, hp6, hg6, hcs, hcL, hlast⟩ := hP
      refine ⟨.ref g, rfl, g, _, rfl, .inl (.inl hg6), fun r nr => ⟨r, _, rfl, .inl ⟨.inl (.inl upd_same), fun l nl => ?_⟩⟩⟩
      refine q _ _ cs.reverse (same_new (same_new s6 nr) nl) (.inl (.inl ?_)) (by rw [List.length_reverse, hcs]; omega)
      rw [upd_same, List.map_reverse]
/-! ### longer_chain -/
def spLonger (K : PySem.W.Frag) : Sp := fun vs H Q _ => ∃ o a b n ps S U, vs = [o, .ref a, .ref b] ∧ OrdAt K H o n ps ∧ Ord n ps ∧ SqT K H a (S.map V.int) ∧ SqT K H b (U.map V.int) ∧ Low n (ah ps) S ∧ Low n (ah ps) U ∧
  ∀ H' p (cs : List Int), Same H H' → SqT K H' p (cs.map V.int) → (cs.length : Int) = dst (ah ps) S U → Q (.ref p) H'
theorem sc_longer_chain : FnScope ["order", "lower", "other_lower", "ahead", "back", "on"] ["order", "lower", "other_lower"] (defScope (top 29)) := ⟨rfl, rfl, rfl, by decide +kernel, rfl, by decide +kernel, by decide +kernel⟩
theorem ok_longer_chain {f : Addr} {fd : FuncData} (F : FnP K "longer_chain" 29 f fd) (T : Tp mg) (Ca : Cl P w K mg base CX0 1 "ahead_in" (spAhead K)) (C1 : Cl P w K mg base CX0 1 "alone_in" (spAlone K)) (C2 : Cl P w K mg base CX0 2 "longest_chain" (spChain K)) :
    FnOk P w K mg base CX0 3 f fd ["order", "lower", "other_lower"] (spLonger K) := by
  refine F.ok sc_longer_chain (fun vs H Q E h => ?_) (fun cdv A outer s H vs Q E hr h => ⟨_, PSs.nox (pss_cons
      (ps_set (i := 3) sc_longer_chain.nd rfl (.inl rfl) (pe_cl Ca hr (by decide) (by rfl) pass0 (pa_cons (pv 0) pa_nil)))
      (pss_cons (ps_set (i := 4) sc_longer_chain.nd rfl (.inl rfl) (pe_cl C2 hr (by decide) (by rfl) pass0 (pa_cons (pv 3) (pa_cons (pe_cl C1 hr (by decide) (by rfl) pass0 (pa_cons (pv 1) (pa_cons (pv 2) pa_nil))) pa_nil))))
      (pss_cons (ps_set (i := 5) sc_longer_chain.nd rfl (.inl rfl) (pe_cl C2 hr (by decide) (by rfl) pass0 (pa_cons (pv 3) (pa_cons (pe_cl C1 hr (by decide) (by rfl) pass0 (pa_cons (pv 2) (pa_cons (pv 1) pa_nil))) pa_nil))))
      (pss_one (ps_ret (pe_ifExp (pt_cmpR op_ge (pe_callB call_len_seq (by rfl) T.len PySem.boot_len (pa_cons (pv 4) pa_nil)) (pe_callB call_len_seq (by rfl) T.len PySem.boot_len (pa_cons (pv 5) pa_nil)) (nomark _)) (pv 4) (pv 5))))))), ?_⟩)
  · obtain ⟨o, a, b, n, ps, S, U, rfl, _⟩ := h
    rfl
  · obtain ⟨o, a, b, n, ps, S, U, rfl, hO, hn, hS, hU, lS, lU, q⟩ := h
    have n0 := hn.n0
    have n20 := hn.n20
    have rel := ah_rel hn.ok n20
    have fS := asc_len S 0 n lS.asc lS.bd
    have fU := asc_len U 0 n lU.asc lU.bd
    have dS : ∀ {S U : List Int}, Low n (ah ps) S → Asc (dif S U) ∧ ∀ i ∈ dif S U, 0 ≤ i ∧ i < n := fun l => ⟨asc_filter _ l.asc, fun i hi => l.bd i (mem_dif.mp hi).1⟩
    refine ⟨o, rfl, o, n, ps, rfl, hO, hn, fun H1 x s1 hx => ?_⟩
    refine ⟨x, rfl, .ref a, rfl, .ref b, rfl, a, b, S, U, rfl, same_T s1 hS, same_T s1 hU, by omega, fun H2 p s2 hp => ?_⟩
    refine ⟨x, p, n, ah ps, _, rfl, hx.same s2, rel, n0, n20, hp, (dS lS).1, (dS lS).2, fun H3 p3 cs s3 h3 e3 => ?_⟩
    have s13 := s1.trans (s2.trans s3)
    refine ⟨x, rfl, .ref b, rfl, .ref a, rfl, b, a, U, S, rfl, same_T s13 hU, same_T s13 hS, by omega, fun H4 p4 s4 h4 => ?_⟩
    refine ⟨x, p4, n, ah ps, _, rfl, hx.same ((s2.trans s3).trans s4), rel, n0, n20, h4, (dS lU).1, (dS lU).2, fun H5 p5 cs5 s5 h5 e5 => ?_⟩
    have h35 := same_T (s4.trans s5) h3
    refine ⟨.ref p3, rfl, p3, _, rfl, .inr h35, .ref p5, rfl, p5, _, rfl, .inr h5, _, _, rfl, rfl, _, rfl, ?_⟩
    rw [List.length_map, List.length_map, e3, e5]
    have sE := s13.trans (s4.trans s5)
    by_cases h : hgt (ah ps) (dif U S) ≤ hgt (ah ps) (dif S U)
    · refine iteTT (decide_eq_true h) ⟨.ref p3, rfl, q _ _ cs sE h35 ?_⟩
      rw [e3]
      show _ = max _ _
      omega
    · refine iteFF (decide_eq_false h) ⟨.ref p5, rfl, q _ _ cs5 sE h5 ?_⟩
      rw [e5]
      show _ = max _ _
      omega
/-! ### fewest_rounds -/
def spFewest (K : PySem.W.Frag) (CO CL : Addr) : Sp := fun vs H Q E => ∃ o x y, vs = [o, x, y] ∧
  ((∃ ds, Dp K H o (.list ds) ∧ Rz E CO "part" (.str "form") H) ∨ (Dp K H o (.tuple [.bool true, .tuple []]) ∧ Rz E CO "part" (.str "many") H) ∨ ∃ n ps d e, OrdAt K H o n ps ∧ Ord n ps ∧ Dp K H x d ∧ fewD d ∧ Dp K H y e ∧ fewD e ∧
    ((¬ IsLow n (ah ps) d ∧ Rz E CL "given" x H) ∨ (IsLow n (ah ps) d ∧ ¬ IsLow n (ah ps) e ∧ Rz E CL "given" y H) ∨ ∃ S U, d = tupD S ∧ e = tupD U ∧ Low n (ah ps) S ∧ Low n (ah ps) U ∧ ∀ H', Same H H' → Q (.int (dst (ah ps) S U)) H'))
theorem sc_fewest_rounds : FnScope ["order", "lower", "other_lower"] ["order", "lower", "other_lower"] (defScope (top 30)) := ⟨rfl, rfl, rfl, by decide +kernel, rfl, by decide +kernel, by decide +kernel⟩
theorem ok_fewest_rounds {CO CL f : Addr} {fd : FuncData} (F : FnP K "fewest_rounds" 30 f fd) (T : Tp mg) (C1 : Cl P w K mg base (L2.CX P w) 6 "need_two" (spNeedT K CO CL)) (C2 : Cl P w K mg base CX0 3 "longer_chain" (spLonger K)) :
    FnOk P w K mg base (L2.CX P w) 7 f fd ["order", "lower", "other_lower"] (spFewest K CO CL) := by
  refine F.ok sc_fewest_rounds (fun vs H Q E h => ?_) (fun cdv A outer s H vs Q E hr h => ⟨_, (pss_cons
      (ps_expr (pe_cl C1 hr (by decide) (by rfl) (passes_call (E := E) (takes_of rfl rfl rfl rfl) (fun _ _ _ _ h => h)) (pa_cons (pv 0) (pa_cons (pv 1) (pa_cons (pv 2) pa_nil)))))
      (pss_one (ps_ret (pe_callB call_len_seq (by rfl) T.len PySem.boot_len (pa_cons (pe_cl C2 hr (by decide) (by rfl) pass0 (pa_cons (pv 0) (pa_cons (pv 1) (pa_cons (pv 2) pa_nil)))) pa_nil))))), ?_⟩)
  · obtain ⟨o, x, y, rfl, _⟩ := h
    rfl
  · obtain ⟨o, x, y, rfl, h⟩ := h
    rcases h with ⟨ds, hd, q⟩ | ⟨hd, q⟩ | ⟨n, ps, d, e, hO, hn, hd, hf, he, hg, h⟩
    · exact ⟨o, rfl, x, rfl, y, rfl, o, x, y, rfl, .inl ⟨ds, hd, q⟩⟩
    · exact ⟨o, rfl, x, rfl, y, rfl, o, x, y, rfl, .inr (.inl ⟨hd, q⟩)⟩
    · refine ⟨o, rfl, x, rfl, y, rfl, o, x, y, rfl, .inr (.inr ⟨n, ps, d, e, hO, hn, hd, hf, he, hg, ?_, ?_, ?_⟩)⟩
      · intro z
        rcases h with ⟨_, q⟩ | ⟨z2, _⟩ | ⟨S, U, rfl, rfl, hS, hU, _⟩
        · exact q
        · exact absurd z2 z
        · exact absurd ⟨S, rfl, hS⟩ z
      · intro z z2
        rcases h with ⟨z3, _⟩ | ⟨_, _, q⟩ | ⟨S, U, rfl, rfl, hS, hU, _⟩
        · exact absurd z z3
        · exact q
        · exact absurd ⟨U, rfl, hU⟩ z2
      · intro z z2 H1 s1
        rcases h with ⟨z3, _⟩ | ⟨_, z3, _⟩ | ⟨S, U, rfl, rfl, hS, hU, q⟩
        · exact absurd z z3
        · exact absurd z2 z3
        · obtain ⟨a, rfl, ha⟩ := tup_dp hd
          obtain ⟨b, rfl, hb⟩ := tup_dp he
          refine ⟨o, rfl, .ref a, rfl, .ref b, rfl, o, a, b, n, ps, S, U, rfl, hO.same s1, hn, same_T s1 ha, same_T s1 hb, hS, hU, fun H2 p cs s2 hp e => ?_⟩
          refine ⟨p, _, rfl, .inr hp, ?_⟩
          rw [List.length_map, e]
          exact q _ (s1.trans s2)
end
end K37
/-! ## L1 -/
namespace K37
open PySem PySem.Spec PyProof.Rows L2
section
variable {P : Program} {w : World} {K : PySem.W.Frag} {mg : Str → Option Value} {base : Heap}
/-! ### _law_mixed -/
def spMixed : Sp := fun vs H Q _ => ∃ c k : Int, vs = [.int c, .int k] ∧ 0 ≤ k ∧ k < 2 ^ 40 ∧ ∀ i, Q (.int i) H
theorem sc_mixed : FnScope ["_law_cell", "_law_k"] ["_law_cell", "_law_k"] (defScope (top 32)) := ⟨rfl, rfl, rfl, by decide +kernel, rfl, by decide +kernel, by decide +kernel⟩
theorem ok_mixed {f : Addr} {fd : FuncData} (F : FnP K "_law_mixed" 32 f fd) (T : Tp mg) : FnOk P w K mg base CX0 1 f fd ["_law_cell", "_law_k"] spMixed := by
  refine F.ok sc_mixed (fun vs H Q E h => ?_) (fun cdv A outer s H vs Q E hr h => ⟨_, PSs.nox (pss_cons
      (ps_set (i := 0) sc_mixed.nd rfl (.inl rfl) (pe_op op_mod (pe_callTy call_int1 (by rfl) T.int (by decide +kernel) (pa_cons (pv 0) pa_nil)) pe_int))
      (pss_one (ps_ret (pe_op op_mod (pe_op op_mul (pe_op op_mod (pe_op op_add (pe_op op_add (pe_op op_mul (pv 0) (pe_op op_add pe_int (pe_op op_mul (pe_op op_mul pe_int (pv 1)) (pv 1)))) (pe_op op_mul pe_int (pv 1))) pe_int) pe_int) pe_int) pe_int)))), ?_⟩)
  · obtain ⟨c, k, rfl, _⟩ := h
    rfl
  · obtain ⟨c, k, rfl, k0, k1, q⟩ := h
    refine ⟨.int c, rfl, .inl ⟨c, rfl, c, _, rfl, rfl, (by show (0 : Int) < 2147483647; decide), ?_⟩⟩
    refine ⟨_, rfl, .int k, rfl, _, _, rfl, rfl, .inl (by decide), .int k, rfl, _, _, rfl, rfl, .inr ⟨by omega, by omega⟩, _, _, rfl, rfl, _, _, rfl, rfl, .inl ⟨?_, ?_⟩, .int k, rfl, _, _, rfl, rfl, .inl (by decide), _, _, rfl, rfl, _, _, rfl, rfl, _, _, rfl, rfl, (by show (0 : Int) < 2147483647; decide), _, _, rfl, rfl, .inr (by decide), _, _, rfl, rfl, (by show (0 : Int) < 2147483629; decide), q _⟩
    · have := Int.emod_nonneg c (b := 2147483647) (by decide)
      omega
    · have := Int.emod_lt_of_pos c (b := 2147483647) (by decide)
      omega
/-! ### the state -/
def stD (c l : Addr) (t : Int) : List (Key × V) := [(Sum.inr "cells", .ref c), (Sum.inr "lefts", .ref l), (Sum.inr "at", .int t), (Sum.inr "room", .int 0)]
/-- the state at s, its lefts at l, its cells at c; B: how far it may have come -/
def StAt (H : Hp) (s l c : Addr) (B : Int) : Prop := ∃ (t : Int) (cs ls : List Int), H s = some (.dK (stD c l t)) ∧ H c = some (.lst (cs.map V.int)) ∧ c ≠ l ∧ H l = some (.lst (ls.map V.int)) ∧ ls.length = cs.length ∧ 0 < cs.length ∧ cs.length ≤ 100 ∧ 0 ≤ t ∧ t ≤ B
/-- all but the state stands -/
def Kp (s l : Addr) (H H' : Hp) : Prop := ∀ b o, b ≠ s → b ≠ l → H b = some o → H' b = some o
theorem Kp.of {s l : Addr} {H H' : Hp} (h : Same H H') : Kp s l H H' := fun b o _ _ e => h b o e
theorem Kp.trans {s l : Addr} {H H1 H2 : Hp} (a : Kp s l H H1) (b : Kp s l H1 H2) : Kp s l H H2 := fun c o h1 h2 e => b c o h1 h2 (a c o h1 h2 e)
theorem StAt.same {H H' : Hp} {s l c : Addr} {B : Int} (h : StAt H s l c B) (e : Same H H') : StAt H' s l c B := by
  obtain ⟨t, cs, ls, h1, h2, h3, h4, h5⟩ := h
  exact ⟨t, cs, ls, e _ _ h1, e _ _ h2, h3, e _ _ h4, h5⟩
theorem StAt.mono {H : Hp} {s l c : Addr} {B B' : Int} (h : StAt H s l c B) (e : B ≤ B') : StAt H s l c B' := by
  obtain ⟨t, cs, ls, h1, h2, h3, h4, h5, h6, h7, h8, h9⟩ := h
  exact ⟨t, cs, ls, h1, h2, h3, h4, h5, h6, h7, h8, Int.le_trans h9 e⟩
theorem StAt.ne {H : Hp} {s l c : Addr} {B : Int} (h : StAt H s l c B) : s ≠ l := by
  obtain ⟨t, cs, ls, h1, h2, h3, h4, _⟩ := h
  exact ne_of h1 h4 (by intro z; cases z)
/-- what is new is none of the state's -/
theorem StAt.new {H : Hp} {s l c p : Addr} {B : Int} (h : StAt H s l c B) (n : H p = none) : p ≠ s ∧ p ≠ l ∧ p ≠ c := by
  obtain ⟨t, cs, ls, h1, h2, h3, h4, _⟩ := h
  exact ⟨(ne_of_none h1 n).symm, (ne_of_none h4 n).symm, (ne_of_none h2 n).symm⟩
/-- another object is written -/
theorem StAt.upd {H : Hp} {s l c p : Addr} {B : Int} {o : HO} (h : StAt H s l c B) (n : p ≠ s ∧ p ≠ l ∧ p ≠ c) : StAt (upd H p o) s l c B := by
  obtain ⟨t, cs, ls, h1, h2, h3, h4, h5⟩ := h
  exact ⟨t, cs, ls, by rw [upd_ne n.1.symm]; exact h1, by rw [upd_ne n.2.2.symm]; exact h2, h3, by rw [upd_ne n.2.1.symm]; exact h4, h5⟩
/-- what is no dict and no list is none of the state's -/
theorem StAt.apart {H : Hp} {s l c b : Addr} {B : Int} {o : HO} (h : StAt H s l c B) (e : H b = some o) (d : ∀ kvs, o ≠ .dK kvs) (d' : ∀ xs, o ≠ .lst xs) : b ≠ s ∧ b ≠ l ∧ b ≠ c := by
  obtain ⟨t, cs, ls, h1, h2, h3, h4, _⟩ := h
  exact ⟨ne_of e h1 (d _), ne_of e h4 (d' _), ne_of e h2 (d' _)⟩
theorem st_cells (c l : Addr) (t : Int) : valV (stD c l t) (Sum.inr "cells") = some (.ref c) := by rfl
theorem st_lefts (c l : Addr) (t : Int) : valV (stD c l t) (Sum.inr "lefts") = some (.ref l) := by rfl
theorem st_at (c l : Addr) (t : Int) : valV (stD c l t) (Sum.inr "at") = some (.int t) := by rfl
theorem st_put (c l : Addr) (t u : Int) : putK (stD c l t) (Sum.inr "at") (.int u) = stD c l u := by rfl
end
end K37
/-! ## L2x -/
namespace K37
open PySem PySem.Spec PyProof.Rows L2
section
variable {P : Program} {w : World} {K : PySem.W.Frag} {mg : Str → Option Value} {base : Heap}
theorem callListK {X : Cx} (K : PySem.W.Frag) (h : X.K = K := by rfl) : CallR X (.type "list") (fun xs H Q => ∃ p ys, xs = [.ref p] ∧ (SqL K H p ys ∨ SqT K H p ys) ∧ ∀ l, H l = none → Q (.ref l) (upd H l (.lst ys))) := by
  subst h
  intro pins s σ H xs us Q I r q
  obtain ⟨p, ys, rfl, h1, h2⟩ := q
  refine call_list_of pins s σ H _ us Q I r ?_
  rcases h1 with h1 | h1
  · exact ⟨p, ys, rfl, .inl h1, h2⟩
  · exact ⟨p, ys, rfl, .inr h1, h2⟩
/-! ### _law_begin -/
def spBegin (K : PySem.W.Frag) : Sp := fun vs H Q _ => ∃ (a : Addr) (ns : List Int), vs = [.ref a] ∧ SqL K H a (ns.map V.int) ∧ ns.length ≤ 63 ∧ ∀ H' s l c, Same H H' → H s = none → H l = none → StAt H' s l c 0 → Q (.ref s) H'
theorem sc_begin : FnScope ["_law_script", "_law_cells_so", "_law_cell"] ["_law_script"] (defScope (top 33)) := ⟨rfl, rfl, rfl, by decide +kernel, rfl, by decide +kernel, by decide +kernel⟩
theorem free_of {H H1 : Hp} {p : Addr} (s : Same H H1) (h : H1 p = none) : H p = none := by
  cases e : H p with
  | none => rfl
  | some u =>
    have := s _ _ e
    rw [h] at this
    cases this
theorem begin_end {a1 : Addr} {cs : List Int} {H H1 : Hp} {Q : VK} (s1 : Same H H1) (hc : H1 a1 = some (.lst (cs.map V.int))) (h0 : 0 < cs.length) (h1 : cs.length ≤ 100) (y2 : Option V) (a : Addr)
    (q : ∀ H' s l c, Same H H' → H s = none → H l = none → StAt H' s l c 0 → Q (.ref s) H') :
    tRet (tDisp [(tC (.str "cells"), tVar 1), (tC (.str "lefts"), tLc (iList K (tVar 1)) (gName 2) tYes (tIf (tTest (tOp (rI0 fun i j => .bl (decide (j ≤ i))) (tVar 2) (tOp (rI CPow fun i j => .int (i ^ j.toNat)) (tC (.int 10)) (tC (.int 18))))) (tVar 2) (tC (.int 0))) [2]), (tC (.str "at"), tC (.int 0)), (tC (.str "room"), tC (.int 0))])
      { nx := fun _ H' => Q .non H', rt := Q } [some (.ref a), some (.ref a1), none] H1 := by
  intro p np
  have npa : p ≠ a1 := (ne_of_none hc np).symm
  have hc2 : upd H1 p (.dK []) a1 = some (.lst (cs.map V.int)) := by rw [upd_ne npa.symm]; exact hc
  have hp2 : upd H1 p (.dK []) p = some (.dK []) := upd_same
  have s2 : Same H (upd H1 p (.dK [])) := same_new s1 np
  have pn := free_of s1 np
  generalize upd H1 p (.dK []) = H2 at hc2 hp2 s2 ⊢
  refine ⟨.ref a1, rfl, .ref a1, rfl, a1, rfl, ⟨_, .inl (.inl hc2)⟩, fun D hD => ?_⟩
  refine lcW (walks_list (.inl (.inl hc2))) hD (by omega) (fun _ => true) (fun c => if (10 : Int) ^ 18 ≤ c then c else 0) V.int (fun c v H3 kY kN hm s3 hv hY _ => ⟨rfl, yesI ?_⟩) (fun H3 s3 hl3 => ?_)
  · subst hv
    refine ⟨.int c, rfl, 10, 18, rfl, rfl, ⟨by decide, by decide, by decide⟩, _, _, rfl, rfl, _, rfl, ?_⟩
    by_cases h : (10 : Int) ^ 18 ≤ c
    · refine iteTT (decide_eq_true h) ⟨.int c, rfl, ?_⟩
      have := hY rfl _ (Same.refl H3)
      rw [if_pos h] at this
      exact this
    · refine iteFF (decide_eq_false h) ?_
      have := hY rfl _ (Same.refl H3)
      rw [if_neg h] at this
      exact this
  · have hp3 := s3 _ _ hp2
    have hc3 := s3 _ _ hc2
    have nDp : D ≠ p := ne_of hl3 hp3 (by intro z; cases z)
    refine ⟨hp3, stD a1 D 0, rfl, (by show 4 ≤ 15; decide), ?_⟩
    refine q _ p D a1 (same_put (s2.trans s3) pn) pn (free_of s2 hD) ⟨0, cs, (cs.filter fun _ => true).map (fun c => if (10 : Int) ^ 18 ≤ c then c else 0), ?_, ?_, ?_, ?_, ?_, h0, h1, Int.le_refl 0, Int.le_refl 0⟩
    · rw [upd_same]
      rfl
    · rw [upd_ne npa.symm]
      exact hc3
    · exact ne_of_none hc2 hD
    · rw [upd_ne nDp]
      exact hl3
    · rw [List.length_map, filter_all]
theorem ok_begin {f : Addr} {fd : FuncData} (F : FnP K "_law_begin" 33 f fd) (T : Tp mg) : FnOk P w K mg base CX0 1 f fd ["_law_script"] (spBegin K) := by
  refine F.ok sc_begin (fun vs H Q E h => ?_) (fun cdv A outer s H vs Q E hr h => ⟨_, PSs.nox (pss_cons
      (ps_set (i := 1) sc_begin.nd rfl (.inl rfl) (pe_ifExp (pt_cmpR (op_neD hr.units) (pv 0) (pe_lst pa_nil) (nomark _)) (pe_callTy (callListK K) (by rfl) T.list (by decide +kernel) (pa_cons (pv 0) pa_nil)) (pe_lst (pa_cons pe_int pa_nil))))
      (pss_one (ps_ret (pe_disp (pps_cons pe_str (pv 1) (pps_cons pe_str
        (pe_lc (own := [("_law_cell", 2)]) (g := gName 2) (tt := tYes) rfl sc_begin.nd (pi_list (pv 1)) (blkOk_by (N := ["_law_script", "_law_cells_so", "_law_cell"]) (sc := defScope (top 33)) (by decide +kernel)) (fun _ _ _ _ _ => pg_name (i := 2) sc_begin.nd rfl (Or.inl rfl)) (fun _ _ _ _ _ => pts_nil)
          (fun _ _ _ _ _ => pe_ifExp (pt_cmpR op_ge (pv 2) (pe_op op_pow pe_int pe_int) (nomark _)) (pv 2) pe_int)) (pps_cons pe_str pe_int (pps_cons pe_str pe_int pps_nil)))) (by rfl) (by rfl) (fun z => by cases z) (by decide))))), ?_⟩)
  · obtain ⟨a, ns, rfl, _⟩ := h
    rfl
  · obtain ⟨a, ns, rfl, hS, hl, q⟩ := h
    refine ⟨.ref a, rfl, Nat.zero_le _, fun t nt => ?_⟩
    have s1 : Same H (upd H t (.lst [])) := same_put (Same.refl _) nt
    refine ⟨.list (ns.map .int), .list (([] : List Int).map .int), .lst (s1.seq hS) (dpAll_ints ns), dp_list (by rw [upd_same]; rfl), sh_list ns, sh_list [], ?_⟩
    rw [eqv_list]
    refine ⟨_, rfl, ?_⟩
    by_cases h : ns = []
    · refine iteFF (by rw [decide_eq_true h]; rfl) ⟨by show 1 ≤ sizeLine; decide, fun p np => ?_⟩
      exact begin_end (cs := [0]) (same_new s1 np) upd_same (by show 0 < 1; decide) (by show 1 ≤ 100; decide) none a q
    · refine iteTT (by rw [decide_eq_false h]; rfl) ⟨.ref a, rfl, a, _, rfl, .inl (s1.seq hS), fun p np => ?_⟩
      refine begin_end (cs := ns) (same_new s1 np) upd_same ?_ (by omega) none a q
      cases ns with
      | nil => exact absurd rfl h
      | cons x r => exact Nat.succ_pos _
end
end K37
/-! ## L3 -/
namespace K37
open PySem PySem.Spec PyProof.Rows L2
section
variable {P : Program} {w : World} {K : PySem.W.Frag} {mg : Str → Option Value} {base : Heap}
theorem ixN_nat {n j : Nat} (h : j < n) : ixN n (j : Int) = some j := by
  unfold ixN
  rw [if_pos (by omega), if_pos (by omega)]
  congr 1
/-! ### _law_draw -/
def spDraw : Sp := fun vs H Q _ => ∃ (s l c : Addr) (m B : Int), vs = [.ref s, .int m] ∧ StAt H s l c B ∧ B < 1000000 ∧ 0 < m ∧ m < 1073741824 ∧ ∀ (i : Int) H', 0 ≤ i → i < m → Kp s l H H' → StAt H' s l c (B + 1) → Q (.int i) H'
theorem sc_draw : FnScope ["_law_state", "_law_many", "_law_at", "_law_place", "_law_left", "_law_number"] ["_law_state", "_law_many"] (defScope (top 34)) := ⟨rfl, rfl, rfl, by decide +kernel, rfl, by decide +kernel, by decide +kernel⟩
theorem ok_draw {f : Addr} {fd : FuncData} (F : FnP K "_law_draw" 34 f fd) (T : Tp mg) (C : Cl P w K mg base CX0 1 "_law_mixed" spMixed) : FnOk P w K mg base CX0 2 f fd ["_law_state", "_law_many"] spDraw := by
  refine F.ok sc_draw (fun vs H Q E h => ?_) (fun cdv A outer s H vs Q E hr h => ⟨_, PSs.nox (pss_cons
      (ps_set (i := 2) sc_draw.nd rfl (.inl rfl) (pe_dget (hu_of hr) (pv 0) pe_str (fun _ _ => rfl)))
      (pss_cons (ps_dput (hu_of hr) (pv 0) pe_str (pe_op op_add (pv 2) pe_int) rfl)
      (pss_cons (ps_set (i := 3) sc_draw.nd rfl (.inl rfl) (pe_op op_mod (pe_callTy call_int1 (by rfl) T.int (by decide +kernel) (pa_cons (pv 2) pa_nil)) (pe_callB call_len_seq (by rfl) T.len PySem.boot_len (pa_cons (pe_dget (hu_of hr) (pv 0) pe_str (fun _ _ => rfl)) pa_nil))))
      (pss_cons (ps_set (i := 4) sc_draw.nd rfl (.inl rfl) (pe_ix ix_list (pe_dget (hu_of hr) (pv 0) pe_str (fun _ _ => rfl)) (pv 3) (fun _ _ => rfl)))
      (pss_cons (ps_if (pt_cmpR op_gt (pv 4) pe_int (nomark _))
        (pss_cons (ps_asg (pe_op op_fdiv (pv 4) (pv 1)) (pg_sub (pe_dget (hu_of hr) (pv 0) pe_str (fun _ _ => rfl)) (pv 3) set_list))
        (pss_one (ps_ret (pe_op op_mod (pe_callTy call_int1 (by rfl) T.int (by decide +kernel) (pa_cons (pv 4) pa_nil)) (pv 1))))) pss_nil)
      (pss_cons (ps_set (i := 5) sc_draw.nd rfl (.inl rfl) (pe_cl C hr (by decide) (by rfl) pass0 (pa_cons (pe_cl C hr (by decide) (by rfl) pass0 (pa_cons (pe_ix ix_list (pe_dget (hu_of hr) (pv 0) pe_str (fun _ _ => rfl)) (pv 3) (fun _ _ => rfl)) (pa_cons (pv 2) pa_nil))) (pa_cons (pe_op op_add pe_int (pv 2)) pa_nil))))
      (pss_one (ps_ret (pe_op op_mod (pe_op op_fdiv (pe_callTy call_int1 (by rfl) T.int (by decide +kernel) (pa_cons (pe_op op_add (pe_op op_mul (pv 5) pe_int) (pe_cl C hr (by decide) (by rfl) pass0 (pa_cons (pv 5) (pa_cons (pe_op op_add pe_int (pv 2)) pa_nil)))) pa_nil)) pe_int) (pv 1)))))))))), ?_⟩)
  · obtain ⟨a, l, c, m, B, rfl, _⟩ := h
    rfl
  · obtain ⟨a, l, c, m, B, rfl, hSt, hB, m0, m1, q⟩ := h
    have nal := hSt.ne
    obtain ⟨t, cs, ls, h1, h2, h3, h4, h5, h6, h7, h8, h9⟩ := hSt
    have nac : a ≠ c := ne_of h1 h2 (by intro z; cases z)
    have g1 : DGet H a (.str "at") (some (.int t)) := DGet.k (k := Sum.inr "at") h1
    refine ⟨.ref a, rfl, a, _, rfl, g1, ?_⟩
    refine ⟨.int t, rfl, t, 1, rfl, rfl, .ref a, rfl, a, _, rfl, DPut.k (k := Sum.inr "at") h1 (by show 4 < sizeLine; decide), ?_⟩
    rw [st_put]
    have k2 : Kp a l H (upd H a (.dK (stD c l (t + 1)))) := fun b o n1 n2 e => by rw [upd_ne n1]; exact e
    have e1 : upd H a (.dK (stD c l (t + 1))) a = some (.dK (stD c l (t + 1))) := upd_same
    have e2 : upd H a (.dK (stD c l (t + 1))) c = some (.lst (cs.map V.int)) := by rw [upd_ne nac.symm]; exact h2
    have e4 : upd H a (.dK (stD c l (t + 1))) l = some (.lst (ls.map V.int)) := by rw [upd_ne nal.symm]; exact h4
    generalize upd H a (.dK (stD c l (t + 1))) = H2 at k2 e1 e2 e4 ⊢
    have gc : DGet H2 a (.str "cells") (some (.ref c)) := DGet.k (k := Sum.inr "cells") e1
    have gl : DGet H2 a (.str "lefts") (some (.ref l)) := DGet.k (k := Sum.inr "lefts") e1
    refine ⟨.int t, rfl, .inl ⟨t, rfl, .ref a, rfl, a, _, rfl, gc, c, _, rfl, .inl (.inl (.inl e2)), t, _, rfl, rfl, (by show (0 : Int) < ((cs.map V.int).length : Int); rw [List.length_map]; omega), ?_⟩⟩
    have hpl : ∃ pl : Nat, (t % ((cs.map V.int).length : Int)) = (pl : Int) ∧ pl < cs.length := by
      have a1 := Int.emod_nonneg t (b := ((cs.map V.int).length : Int)) (by rw [List.length_map]; omega)
      have a2 := Int.emod_lt_of_pos t (b := ((cs.map V.int).length : Int)) (by rw [List.length_map]; omega)
      rw [List.length_map] at a1 a2
      refine ⟨(t % ((cs.map V.int).length : Int)).toNat, ?_, ?_⟩ <;> rw [List.length_map] <;> omega
    obtain ⟨pl, epl, hplt⟩ := hpl
    show L2.tSeq _ _ _ (([some (V.ref a), some (V.int m), some (V.int t), none, none, none] : L2.St).set 3 (some (V.int (t % ((cs.map V.int).length : Int))))) H2
    rw [epl]
    have hll : pl < ls.length := by omega
    refine ⟨.ref a, rfl, a, _, rfl, gl, .int pl, rfl, l, _, _, _, rfl, rfl, .inl (.inl e4), atI_nat (map_get hll), ?_⟩
    refine ⟨_, rfl, _, _, rfl, rfl, _, rfl, ?_⟩
    by_cases hlt : (0 : Int) < ls[pl]
    · refine iteTT (decide_eq_true hlt) ⟨_, rfl, .int m, rfl, _, _, rfl, rfl, ⟨m0, m1⟩, .ref a, rfl, a, _, rfl, gl, .int pl, rfl, ?_⟩
      refine ⟨l, ls.map V.int, _, pl, rfl, rfl, e4, ixN_nat (by rw [List.length_map]; exact hll), ?_⟩
      refine ⟨_, rfl, .inl ⟨_, rfl, .int m, rfl, _, _, rfl, rfl, m0, ?_⟩⟩
      refine q _ _ (Int.emod_nonneg _ (by omega)) (Int.emod_lt_of_pos _ m0) (fun b o n1 n2 e => by rw [upd_ne n2]; exact k2 b o n1 n2 e) ⟨t + 1, cs, ls.set pl (ls[pl] / m), by rw [upd_ne nal]; exact e1, by rw [upd_ne h3]; exact e2, h3, ?_, by rw [List.length_set]; exact h5, h6, h7, by omega, by omega⟩
      rw [upd_same, List.map_set]
    · refine iteFF (decide_eq_false hlt) ?_
      have hcl : pl < cs.length := hplt
      refine ⟨.ref a, rfl, a, _, rfl, gc, .int pl, rfl, c, _, _, _, rfl, rfl, .inl (.inl e2), atI_nat (map_get hcl), .int t, rfl, _, _, rfl, h8, by omega, fun i1 => ⟨.int t, rfl, 40, t, rfl, rfl, i1, _, rfl, by omega, by omega, fun i2 => ?_⟩⟩
      refine ⟨.int i2, rfl, i2, _, rfl, rfl, .inr (by decide), .int i2, rfl, .int t, rfl, 7, t, rfl, rfl, i2, _, rfl, by omega, by omega, fun i3 => ?_⟩
      refine ⟨_, _, rfl, rfl, .inl ⟨_, rfl, _, _, rfl, rfl, ⟨by decide, by decide⟩, .int m, rfl, _, _, rfl, rfl, m0, ?_⟩⟩
      exact q _ _ (Int.emod_nonneg _ (by omega)) (Int.emod_lt_of_pos _ m0) k2 ⟨t + 1, cs, ls, e1, e2, h3, e4, h5, h6, h7, by omega, by omega⟩
/-! ### _law_of -/
def spOf (K : PySem.W.Frag) : Sp := fun vs H Q _ => ∃ (s l c p : Addr) (xs : List V) (B : Int), vs = [.ref s, .ref p] ∧ StAt H s l c B ∧ B < 1000000 ∧ H p = some (.lst xs) ∧ p ≠ l ∧ xs ≠ [] ∧ xs.length < 1000000 ∧ ∀ (x : V) H', x ∈ xs → Kp s l H H' → StAt H' s l c (B + 1) → Q x H'
theorem sc_of : FnScope ["_law_state", "_law_some"] ["_law_state", "_law_some"] (defScope (top 35)) := ⟨rfl, rfl, rfl, by decide +kernel, rfl, by decide +kernel, by decide +kernel⟩
theorem ok_of {f : Addr} {fd : FuncData} (F : FnP K "_law_of" 35 f fd) (T : Tp mg) (C : Cl P w K mg base CX0 2 "_law_draw" spDraw) : FnOk P w K mg base CX0 3 f fd ["_law_state", "_law_some"] (spOf K) := by
  refine F.ok sc_of (fun vs H Q E h => ?_) (fun cdv A outer s H vs Q E hr h => ⟨_, PSs.nox (pss_one (ps_ret (pe_ix ix_list (pv 1) (pe_cl C hr (by decide) (by rfl) pass0 (pa_cons (pv 0) (pa_cons (pe_callB call_len_seq (by rfl) T.len PySem.boot_len (pa_cons (pv 1) pa_nil)) pa_nil))) (fun _ _ => rfl)))), ?_⟩)
  · obtain ⟨s, l, c, p, xs, B, rfl, _⟩ := h
    rfl
  · obtain ⟨s, l, c, p, xs, B, rfl, hSt, hB, hp, npl, hne, hl, q⟩ := h
    have h0 : 0 < xs.length := List.length_pos_iff.mpr hne
    have nps : p ≠ s := by
      obtain ⟨t, cs, ls, h1, _⟩ := hSt
      exact ne_of hp h1 (by intro z; cases z)
    refine ⟨.ref p, rfl, .ref s, rfl, .ref p, rfl, p, _, rfl, .inl (.inl (.inl hp)), s, l, c, _, B, rfl, hSt, hB, by omega, by omega, fun i H' i0 i1 k hS' => ?_⟩
    have hil : i.toNat < xs.length := by omega
    have hc : ((i.toNat : Nat) : Int) = i := by omega
    have ha := atI_nat (List.getElem?_eq_getElem hil)
    rw [hc] at ha
    exact ⟨p, xs, i, _, rfl, rfl, .inl (.inl (k p _ nps npl hp)), ha, q _ _ (List.getElem_mem hil) k hS'⟩
end
end K37
/-! ## Ru2 -/
/-! own rule: sorted(xs), xs a list of tuples of ints of any length, the empty one among them (or one tuple alone) -/
namespace K37
open PySem PySem.Spec PyProof.Rows L2
section
variable {prog : Program} {w : World} {A : Around} {s : Shared}
/-- v is a tuple that holds these ints -/
def TpI (h : Heap) (v : Value) (ns : List Int) : Prop := ∃ (a : Addr) (its : List Value), v = .ref a ∧ IsTup h a its.toArray ∧ IntsAre its ns
theorem TpI.keeps {h h' : Heap} {v : Value} {ns : List Int} (x : TpI h v ns) (k : ∀ b o, v = .ref b → h.get? b = some o → h'.get? b = some o) : TpI h' v ns := by
  obtain ⟨a, its, e, ⟨o, ho, r⟩, i⟩ := x
  exact ⟨a, its, e, ⟨o, k a o e ho, r⟩, i⟩
theorem intsAre_len : ∀ {vs : List Value} {ns : List Int}, IntsAre vs ns → vs.length = ns.length
  | _, _, .nil => rfl
  | _, _, .cons n t r => congrArg Nat.succ (intsAre_len r)
theorem intsAre_arr {its : List Value} {ns : List Int} (i : IntsAre its ns) : IntsAre its.toArray.toList ns := by
  simpa using i
/-- the slot's < of two such tuples -/
theorem tpi_slot {a b : Addr} {i1 i2 : List Value} {n1 n2 : List Int} {Q : Value → Shared → Prop} {E : Value → Shared → Prop} (ha : IsTup s.heap a i1.toArray) (hb : IsTup s.heap b i2.toArray) (h1 : IntsAre i1 n1) (h2 : IntsAre i2 n2)
    (h : Q (.bool (HT.lexLt n1 n2)) s) : wpAny (model prog w) A (call (.builtin "tuple.__lt__") [.ref a, .ref b]) Q E s := by
  obtain ⟨⟨c1, d1, t1, l1⟩, e1, k1, m1, r1⟩ := ha
  obtain ⟨⟨c2, d2, t2, l2⟩, e2, k2, m2, r2⟩ := hb
  simp only at k1 r1 k2 r2
  subst k1 r1 k2 r2
  exact call_meets PySem.F.slot_tuple_lt ⟨_, e1, rfl⟩ PySem.F.entry_tuple_lt (PySem.F.args_tuple_lt_2 _ _)
    (HT.tuple_lt_ints a b i1.toArray i2.toArray m1 m2 d1 d2 l1 l2 n1 n2 (intsAre_arr h1) (intsAre_arr h2)) ⟨e1, e2, h⟩
theorem tpi_cmp {vs : List Value} {k : Value → List Int} {κ : PyProof.Rows.SortKind} (hκ : κ = oneType' ∨ κ = general') (hu : A.units < cLine) (hv : ∀ v ∈ vs, TpI s.heap v (k v)) :
    SrtO.Cmp prog w A s κ (fun p => p.1 ∈ vs) (SrtO.lt2 fun v u => HT.lexLt (k v) (k u)) := by
  intro p q hp hq
  obtain ⟨a, i1, e1, t1, j1⟩ := hv p.1 hp
  obtain ⟨b, i2, e2, t2, j2⟩ := hv q.1 hq
  show wpAny (model prog w) A (keyLt' κ p.1 q.1) (fun r s' => s' = s ∧ r = HT.lexLt (k p.1) (k q.1)) _ s
  rcases hκ with z | z
  · rw [z, keyLt'_oneType, oneLt'_eq]
    simp only [if_true]
    refine wpAny_bind (wpAny_cRoomFor hu ?_)
    rw [e1, e2]
    obtain ⟨o1, g1, c1, _⟩ := id t1
    refine wpAny_bind (wpAny_callSpecialIfBound?_slot ⟨o1, g1, c1⟩ PySem.F.slot_tuple_lt (tpi_slot t1 t2 j1 j2 ?_))
    rw [← e1, ← e2]
    exact wpAny_truthy_bool ⟨rfl, rfl⟩
  · rw [z]
    show wpAny (model prog w) A (oneLt' false p.1 q.1) _ _ s
    refine PySem.W.kat_one _ _ ?_
    rw [e1, e2]
    refine HT.lt_tupInts t1 t2 (intsAre_arr j1) (intsAre_arr j2) hu ?_
    rw [← e1, ← e2]
    exact ⟨rfl, rfl⟩
/-- the firsts of such tuples -/
theorem tpi_firsts {M : Model} {E : Value → Shared → Prop} : ∀ (vs : List Value) {Q : List (Option Value) → Shared → Prop}, (∀ v ∈ vs, ∃ ns, TpI s.heap v ns) →
    (∀ fs : List (Option Value), fs.length = vs.length → (∀ (i : Nat) (v : Value) (ns : List Int), vs[i]? = some v → TpI s.heap v ns → ∃ f, fs[i]? = some f ∧ (f.isSome = !ns.isEmpty)) → Q fs s) → wpAny M A (vs.mapM firstOfTuple') Q E s
  | [], Q, _, h => by
    rw [List.mapM_nil]
    exact wpAny_pure (h [] rfl fun i v ns e => by cases e)
  | v :: vs, Q, hv, h => by
    obtain ⟨ns, a, its, rfl, t, j⟩ := hv v List.mem_cons_self
    obtain ⟨o, ho, hc, n, hd⟩ := id t
    rw [List.mapM_cons]
    refine wpAny_bind ?_
    rw [PySem.W.kas_first_eq]
    refine wpAny_bind (PySem.W.Looks.here (show PySem.W.Looks M s.heap (typeOf (.ref a)) o.cls from (PySem.W.Looks.ld ho).andThen .now) ?_)
    rw [hc, if_neg (by first | decide | simp)]
    refine wpAny_bind (listItems_at ho hd (wpAny_pure ?_))
    refine wpAny_bind (tpi_firsts vs (fun u hu => hv u (List.mem_cons_of_mem _ hu)) fun fs hl hf => wpAny_pure (h _ ?_ ?_))
    · rw [List.length_cons, List.length_cons, hl]
    · intro i u ms e tu
      cases i with
      | zero =>
        cases Option.some.inj e
        refine ⟨_, rfl, ?_⟩
        obtain ⟨a', its', e', ⟨o', g', _, n', d'⟩, j'⟩ := tu
        cases e'
        rw [ho] at g'
        cases g'
        rw [hd] at d'
        have ei : its.toArray = its'.toArray := (Data.seq.inj d').1
        have el : its = its' := List.toArray_inj ei
        subst el
        cases j' with
        | nil => rfl
        | cons => rfl
      | succ i => exact hf i u ms e tu
theorem tpi_kind {M : Model} {vs : List Value} {k : Value → List Int} (h2 : 2 ≤ vs.length) (hv : ∀ v ∈ vs, TpI s.heap v (k v)) (he : ∃ v ∈ vs, k v = []) :
    ∃ κ, (κ = oneType' ∨ κ = general') ∧ ∀ (Q : PyProof.Rows.SortKind → Shared → Prop) (E : Value → Shared → Prop), Q κ s → wpAny M A (keyKind' vs.toArray) Q E s := by
  obtain ⟨v0, m0, k0⟩ := he
  obtain ⟨i0, hi0, e0⟩ := List.getElem_of_mem m0
  obtain ⟨v1, v2, r, rfl⟩ : ∃ v1 v2 r, vs = v1 :: v2 :: r := by
    match vs, h2 with
    | v1 :: v2 :: r, _ => exact ⟨v1, v2, r, rfl⟩
    | [], z => exact absurd z (by decide)
    | [_], z => exact absurd z (by simp)
  have start : ∀ {Q : PyProof.Rows.SortKind → Shared → Prop} {E : Value → Shared → Prop},
      (∀ fs : List (Option Value), (∃ f1, fs[0]? = some f1 ∧ f1.isSome = !(k v1).isEmpty) → (fs.toArray.all fun x => x.isSome) = false → wpAny M A (do
        if (fs.toArray[0]?.bind id).isSome then return general'
        return if (← oneTypeOnly' (v1 :: v2 :: r).toArray).isSome then oneType' else general') Q E s) → wpAny M A (keyKind' (v1 :: v2 :: r).toArray) Q E s := by
    intro Q E h
    rw [kat_kind_eq, List.mapM_toArray, map_eq_pure_bind]
    refine wpAny_bind (wpAny_bind (tpi_firsts _ (fun v hm => ⟨_, hv v hm⟩) fun fs hl hf => wpAny_pure ?_))
    obtain ⟨f0, g0, s0⟩ := hf i0 v0 [] (by rw [List.getElem?_eq_getElem hi0, e0]) (by have q := hv v0 m0; rw [k0] at q; exact q)
    have nall : (fs.toArray.all fun x => x.isSome) = false := by
      rw [List.all_toArray, List.all_eq_false]
      exact ⟨f0, List.mem_of_getElem? g0, by rw [s0]; decide⟩
    rw [if_neg (by rw [nall]; decide)]
    exact h fs (hf 0 v1 _ rfl (hv v1 List.mem_cons_self)) nall
  have bnd : ∀ (fs : List (Option Value)) (f1 : Option Value), fs[0]? = some f1 → (fs.toArray[0]?.bind id).isSome = f1.isSome := fun fs f1 e => by
    have e2 : fs.toArray[0]? = some f1 := by simpa using e
    rw [e2] <;> rfl
  by_cases hk : k v1 = []
  · refine ⟨oneType', .inl rfl, fun Q E hq => start fun fs hf _ => ?_⟩
    obtain ⟨f1, g1, s1⟩ := hf
    have n1 : f1.isSome = false := by rw [s1, hk] <;> rfl
    rw [if_neg (by rw [bnd fs f1 g1, n1]; decide), oneTypeOnly'_eq, List.mapM_toArray, map_eq_pure_bind]
    refine wpAny_bind (wpAny_bind (wpAny_bind (PySem.W.kas_mapM (r := Value.type "tuple") _ (fun v hm Q' hq => ?_) (wpAny_pure ?_))))
    · obtain ⟨a, its, rfl, ⟨o, ho, hc, _⟩, _⟩ := hv v hm
      exact wpAny_typeOf_ref ho (by rw [hc]; exact hq)
    · have hall : ((List.map (fun _ => Value.type "tuple") (v1 :: v2 :: r)).toArray.all fun x => x == Value.type "tuple") = true := by
        simp only [List.all_toArray, List.all_map, List.all_eq_true]
        intro _ _
        exact beq_self_eq_true _
      have z0 : (List.map (fun _ => Value.type "tuple") (v1 :: v2 :: r)).toArray[0]? = some (Value.type "tuple") := by simp
      rw [z0]
      simp only [hall, if_true]
      exact wpAny_pure (wpAny_pure hq)
  · refine ⟨general', .inr rfl, fun Q E hq => start fun fs hf _ => ?_⟩
    obtain ⟨f1, g1, s1⟩ := hf
    have n1 : f1.isSome = true := by
      rw [s1]
      cases e : k v1 with
      | nil => exact absurd e hk
      | cons _ _ => rfl
    rw [if_pos (by rw [bnd fs f1 g1, n1])]
    exact wpAny_pure hq
theorem tpi_sortable {a : Addr} {vs : List Value} {k : Value → List Int} (h2 : 2 ≤ vs.length) (hu : A.units < cLine) (hv : ∀ v ∈ vs, TpI s.heap v (k v)) (he : ∃ v ∈ vs, k v = []) (ha : ∀ v ∈ vs, v ≠ .ref a) :
    SrtO.SortableO prog w A s a vs fun v u => HT.lexLt (k v) (k u) := by
  intro h' keep
  have hv' : ∀ v ∈ vs, TpI h' v (k v) := fun v hm => (hv v hm).keeps fun b o e g => keep b o (fun z => ha v hm (by rw [e, z])) g
  obtain ⟨κ, z, hq⟩ := tpi_kind (M := model prog w) (A := A) (s := { s with heap := h' }) h2 hv' he
  exact ⟨κ, hq, tpi_cmp (s := { s with heap := h' }) z hu hv'⟩
end
end K37
/-! ## Ru3 -/
namespace K37
open PySem PySem.Spec PyProof.Rows L2
/-- each address holds a tuple of its ints -/
def TpsAt (H : Hp) (L : List (Addr × List Int)) : Prop := ∀ p ∈ L, H p.1 = some (.tup (p.2.map V.int))
def intV : V → Int
  | .int i => i
  | _ => 0
def kOf (H : Hp) (t : Addr) : List Int := match H t with
  | some (.tup xs) => xs.map intV
  | _ => []
theorem map_intV (ns : List Int) : (ns.map V.int).map intV = ns := by
  rw [List.map_map]
  exact (List.map_congr_left fun _ _ => rfl).trans (List.map_id ns)
theorem kOf_at {H : Hp} {t : Addr} {ns : List Int} (h : H t = some (.tup (ns.map V.int))) : kOf H t = ns := by
  unfold kOf
  rw [h]
  exact map_intV ns
theorem kOf_map {H : Hp} : ∀ {L : List (Addr × List Int)}, TpsAt H L → (L.map (·.1)).map (fun t => (t, kOf H t)) = L
  | [], _ => rfl
  | p :: L, h => by
    have e : kOf H p.1 = p.2 := kOf_at (h p List.mem_cons_self)
    rw [List.map_cons, List.map_cons, e, kOf_map fun q hq => h q (List.mem_cons_of_mem _ hq)]
def adrOf : Value → Addr
  | .ref a => a
  | _ => 0
theorem adrs_map (ts : List Addr) : (ts.map Value.ref).map adrOf = ts := by
  rw [List.map_map]
  exact (List.map_congr_left fun _ _ => rfl).trans (List.map_id ts)
theorem refs_of {ts : List Addr} {us : List Value} (r : Vals (ts.map V.ref) us) : us = ts.map Value.ref := refs_at r
theorem vals_of_refs : ∀ ts : List Addr, Vals (ts.map V.ref) (ts.map Value.ref)
  | [] => .nil
  | _ :: ts => .cons rfl (vals_of_refs ts)
theorem out_refs : ∀ {out : List Value}, (∀ v ∈ out, ∃ t, v = Value.ref t) → out = (out.map adrOf).map Value.ref
  | [], _ => rfl
  | v :: out, h => by
    obtain ⟨t, rfl⟩ := h v List.mem_cons_self
    rw [List.map_cons, List.map_cons, ← out_refs fun u hu => h u (List.mem_cons_of_mem _ hu)]
    rfl
/-- ordered by the ints -/
def LexUp (L : List (Addr × List Int)) : Prop := L.Pairwise fun p q => HT.lexLt q.2 p.2 = false
/-- sorted(xs), xs a list of tuples of ints: one of them empty, where there are two at least -/
def rSortTs (K : PySem.W.Frag) : List V → Hp → VK → Prop := fun vs H Q => ∃ (a : Addr) (L : List (Addr × List Int)), vs = [V.ref a] ∧ SqL K H a (L.map fun p => V.ref p.1) ∧ TpsAt H L ∧ (2 ≤ L.length → ∃ p ∈ L, p.2 = []) ∧
  ∀ (L' : List (Addr × List Int)) (p : Addr), L'.Perm L → LexUp L' → H p = none → Q (.ref p) (upd H p (.lst (L'.map fun q => V.ref q.1)))
/-- sorted(d), the keys tuples of ints -/
def rSortTd : List V → Hp → VK → Prop := fun vs H Q => ∃ (a : Addr) (kvs : List (List Key × V)) (ks : List (List Int)), vs = [V.ref a] ∧ H a = some (.dT kvs) ∧ kvs.map (·.1) = ks.map (fun k => k.map Sum.inl) ∧ (2 ≤ ks.length → [] ∈ ks) ∧
  ∀ (L' : List (Addr × List Int)) (p : Addr), (L'.map (·.2)).Perm ks → LexUp L' → TpsAt H L' → H p = none → Q (.ref p) (upd H p (.lst (L'.map fun q => V.ref q.1)))
section
variable {X : Cx} {pins : List (Addr × Obj)} {σ : L2.St} {H : Hp} {s : Shared}
theorem tps_raw (I : Inv X pins σ H s) {L : List (Addr × List Int)} (hL : TpsAt H L) {u : Value} (hu : u ∈ (L.map (·.1)).map Value.ref) : TpI s.heap u (kOf H (adrOf u)) := by
  obtain ⟨t, ht, rfl⟩ := List.mem_map.mp hu
  obtain ⟨p, hp, rfl⟩ := List.mem_map.mp ht
  have e := hL p hp
  obtain ⟨_, its, rv, tt⟩ := I.hok _ _ e
  show TpI s.heap (.ref p.1) (kOf H p.1)
  rw [kOf_at e]
  exact ⟨p.1, its, rfl, tt, rv.ints⟩
/-- what the sort's end tells, in the layer's words -/
theorem sort_out {L : List (Addr × List Int)} (hL : TpsAt H L) {out : List Value} (h1 : SrtO.Srtd (fun v u => HT.lexLt (kOf H (adrOf v)) (kOf H (adrOf u))) out) (h2 : out.Perm ((L.map (·.1)).map Value.ref)) :
    ∃ L' : List (Addr × List Int), L'.Perm L ∧ LexUp L' ∧ Vals (L'.map fun q => V.ref q.1) out ∧ L'.length = L.length := by
  have eo : out = (out.map adrOf).map Value.ref := out_refs fun u hm => by
    obtain ⟨t, _, e⟩ := List.mem_map.mp (h2.mem_iff.mp hm)
    exact ⟨t, e.symm⟩
  have p1 : (out.map adrOf).Perm (L.map (·.1)) := by
    have z := h2.map adrOf
    rw [adrs_map] at z
    exact z
  have p2 : ((out.map adrOf).map fun t => (t, kOf H t)).Perm L := by
    have z := p1.map fun t => (t, kOf H t)
    rw [kOf_map hL] at z
    exact z
  refine ⟨(out.map adrOf).map fun t => (t, kOf H t), p2, ?_, ?_, p2.length_eq⟩
  · exact List.pairwise_map.mpr (List.pairwise_map.mpr (h1.imp fun {x y} z => z))
  · have z := vals_of_refs (out.map adrOf)
    rw [← eo] at z
    rw [List.map_map]
    exact z
theorem nil_there {L : List (Addr × List Int)} (hL : TpsAt H L) (h : ∃ p ∈ L, p.2 = []) : ∃ v ∈ (L.map (·.1)).map Value.ref, kOf H (adrOf v) = [] := by
  obtain ⟨p, hp, e⟩ := h
  refine ⟨.ref p.1, List.mem_map.mpr ⟨p.1, List.mem_map.mpr ⟨p, hp, rfl⟩, rfl⟩, ?_⟩
  show kOf H p.1 = []
  rw [kOf_at (hL p hp)]
  exact e
end
section
variable {X : Cx}
theorem cr_sortTs (hu : X.A.units + 64 < cLine) : CallR X (.builtin "sorted") (rSortTs X.K) := by
  intro pins s σ H vs us Q I r h
  obtain ⟨a, L, rfl, hs, hL, he, q⟩ := h
  obtain ⟨its, rv, hl, hz⟩ := I.list hs
  rw [Vals.ref1 r]
  have rv' : Vals ((L.map (·.1)).map V.ref) its := by
    rw [List.map_map]
    exact rv
  have ei := refs_of rv'
  have ll : its.length = L.length := by rw [ei, List.length_map, List.length_map]
  have hz' : L.length ≤ sizeLine := by
    rw [List.length_map] at hz
    exact hz
  refine SrtO.sorted_ord (NtL.swo_lexL fun u => kOf H (adrOf u)) hl.isList (by omega) (fun h2 h₁ b hb kk => ?_) fun out h1 h2 => ?_
  · have hv : ∀ v ∈ its, TpI h₁ v (kOf H (adrOf v)) := fun v hm => by
      rw [ei] at hm
      exact (tps_raw I hL hm).keeps fun c o _ e => (kk c o e).2
    refine tpi_sortable (s := { s with heap := h₁ }) h2 (by show X.A.units + 1 + 1 < cLine; omega) hv ?_ fun v hm z => ?_
    · rw [ei]
      exact nil_there hL (he (by omega))
    · obtain ⟨a', i', e', ⟨o', g', c', _⟩, _⟩ := hv v hm
      rw [z] at e'
      cases e'
      rw [hb] at g'
      cases g'
      exact absurd (Value.type.inj c') (by decide)
  · obtain ⟨ep, he'⟩ := sortedAll_at s.heap its out.toArray
    obtain ⟨L', k1, k2, k3, k4⟩ := sort_out hL h1 (by rw [← ei]; exact h2.perm)
    have hlen : (L'.map fun q => V.ref q.1).length ≤ sizeLine := by
      rw [List.length_map, k4]
      exact hz'
    exact ⟨.ref _, _, I.laid (t' := s.toks) (a := s.heap.objs.size + 1) (o := .lst (L'.map fun q => V.ref q.1)) (fun _ _ => sortedAll_old) (Nat.le_succ _) ⟨hlen, out, ep, k3, he'⟩, rfl, q L' _ k1 k2 (I.hok.fresh (Nat.le_succ _))⟩
theorem inl_inj {a b : List Int} (h : a.map (Sum.inl : Int → Key) = b.map Sum.inl) : a = b := by
  induction a generalizing b with
  | nil =>
    cases b with
    | nil => rfl
    | cons y b => cases h
  | cons x a ih =>
    cases b with
    | nil => cases h
    | cons y b =>
      rw [List.map_cons, List.map_cons] at h
      injection h with h1 h2
      rw [Sum.inl.inj h1, ih h2]
theorem keys_ints {kvs : List (List Key × V)} {xs : List (List Key × Addr × Value)} (r : KT H kvs xs) : ∀ {ks : List (List Int)}, kvs.map (·.1) = ks.map (fun k => k.map Sum.inl) →
    ∃ L : List (Addr × List Int), L.map (·.1) = xs.map (fun x => x.2.1) ∧ L.map (·.2) = ks ∧ TpsAt H L := by
  unfold KT at r
  induction r with
  | nil =>
    intro ks h
    cases ks with
    | nil => exact ⟨[], rfl, rfl, fun p hp => by cases hp⟩
    | cons k ks => cases h
  | @cons p x kvs xs h t ih =>
    intro ks hk
    cases ks with
    | nil => cases hk
    | cons k ks =>
      rw [List.map_cons, List.map_cons] at hk
      injection hk with e1 e2
      obtain ⟨L, l1, l2, l3⟩ := ih e2
      refine ⟨(x.2.1, k) :: L, by rw [List.map_cons, List.map_cons, l1], by rw [List.map_cons, l2], fun q hq => ?_⟩
      rcases List.mem_cons.mp hq with z | z
      · rw [z]
        have h2 := h.2.1
        rw [e1, List.map_map] at h2
        exact h2
      · exact l3 q z
theorem cr_sortTd (hcalm : X.calm = true) (hu : X.A.units + 64 < cLine) : CallR X (.builtin "sorted") rSortTd := by
  intro pins s σ H vs us Q I r h
  obtain ⟨a, kvs, ks, rfl, hd, hks, hnil, q⟩ := h
  rw [Vals.ref1 r]
  obtain ⟨z, hs, xs, pr, o, es, ep, ho, hx, hdt, he, hn⟩ := (show ObjOk X.prog X.w H s.heap a (.dT kvs) from I.hok a _ hd)
  have l1 : es.size = xs.length := size_of_entries he
  have l2 : kvs.length = xs.length := Paired.length pr
  obtain ⟨L, e1, e2, hL⟩ := keys_ints pr hks
  have lL : L.length = xs.length := by
    have z := congrArg List.length e1
    rw [List.length_map, List.length_map] at z
    exact z
  refine Calls.call_function_entry kind_sorted plain_sorted entry_sorted (args_sorted1 _) ?_
  unfold Builtin.«sorted»
  refine wpAny_bind (m := checkCount "sorted" 1 1 _) (wpAny_pure ?_)
  refine wpAny_bind (PySem.W.kdu_collect (A := X.A.in1) (kdl_raw hs hx hdt) (I.ok.hd hcalm) ho (by omega) fun h' tk acc hk it => ?_)
  have ea : acc.toList = (L.map (·.1)).map Value.ref := by
    have hl : acc.toList.length = xs.length := by rw [Array.length_toList, it.1]; exact l1
    apply List.ext_getElem?
    intro j
    rw [e1, List.map_map, List.getElem?_map]
    cases hj : acc.toList[j]? with
    | none =>
      have h1 := List.getElem?_eq_none_iff.mp hj
      rw [List.getElem?_eq_none (by omega)]
      rfl
    | some v =>
      obtain ⟨en, hen, hv⟩ := it.2 j v (by rw [← Array.getElem?_toList]; exact hj)
      have qe := entry_at he j
      rw [hen] at qe
      cases hb : xs[j]? with
      | none =>
        rw [hb] at qe
        exact nomatch (show some en = none from qe)
      | some b =>
        rw [hb] at qe
        have e2 : en = entryOfKey (tupleKind (mixKind X.prog X.w)) b := Option.some.inj qe
        rw [hv, e2]
        rfl
  have al : acc.toList.length = L.length := by rw [ea, List.length_map, List.length_map]
  have I1 : Inv X pins σ H { s with heap := h', toks := tk } := I.kept hk
  refine wpAny_bind (wpAny_newList ?_ (by omega))
  have hoL : (h'.push (seqObj "list" acc.toList.toArray 0)).get? h'.objs.size = some (seqObj "list" acc.toList.toArray 0) := Heap.get?_push_size _ rfl
  show wpAny _ _ _ _ _ { s with heap := h'.push (seqObj "list" acc.toList.toArray 0), toks := tk }
  have hv : ∀ v ∈ acc.toList, TpI (h'.push (seqObj "list" acc.toList.toArray 0)) v (kOf H (adrOf v)) := fun v hm => by
    rw [ea] at hm
    exact (tps_raw I1 hL hm).keeps fun c o _ e => Heap.get?_push_of_some _ e
  have lex : L.map (·.2) = ks := e2
  have lks : ks.length = L.length := by rw [← e2, List.length_map]
  have nil : 2 ≤ acc.toList.length → ∃ v ∈ acc.toList, kOf H (adrOf v) = [] := fun h2 => by
    rw [ea]
    have z := hnil (by omega)
    rw [← e2] at z
    obtain ⟨p, hp, ep⟩ := List.mem_map.mp z
    exact nil_there hL ⟨p, hp, ep⟩
  refine wpAny_bind (wpAny_holding (wpAny_call_entry slot_list_sort ⟨_, hoL, rfl⟩ entry_list_sort
    (SrtO.list_sort_ord (s := { s with heap := h'.push (seqObj "list" acc.toList.toArray 0), toks := tk }) (NtL.swo_lexL fun u => kOf H (adrOf u)) hoL (by omega)
      (fun h2 => tpi_sortable (s := { s with heap := h'.push (seqObj "list" acc.toList.toArray 0), toks := tk }) h2 (by show X.A.units + 1 + 1 < cLine; omega) hv (nil h2) fun v hm z => ?_) fun out h1 h2 => ⟨_, rfl, ?_⟩) (args_list_sort _)))
  · obtain ⟨a', i', e', ⟨o', g', c', _⟩, _⟩ := hv v hm
    rw [z] at e'
    cases e'
    rw [hoL] at g'
    cases g'
    exact absurd (Value.type.inj c') (by decide)
  · obtain ⟨e', he'⟩ := sortedHeap_at (vs := acc.toList) (out := out.toArray) hoL
    obtain ⟨L', k1, k2, k3, k4⟩ := sort_out hL h1 (by rw [← ea]; exact h2.perm)
    have hlen : (L'.map fun q => V.ref q.1).length ≤ sizeLine := by
      rw [List.length_map, k4]
      omega
    refine wpAny_pure ⟨_, rfl, .ref h'.objs.size, _, I1.laid (t' := tk) (o := .lst (L'.map fun q => V.ref q.1)) (fun b u e => ?_) (Nat.le_refl _) ⟨hlen, out, e', k3, he'⟩, rfl, q L' _ ?_ k2 (fun p hp => hL p (k1.mem_iff.mp hp)) (I1.hok.fresh (Nat.le_refl _))⟩
    · have hb : b < h'.objs.size := Heap.lt_size e
      rw [sortedHeap_old (Nat.ne_of_lt hb) (by rw [size_push']; exact Nat.lt_succ_of_lt hb)]
      exact Heap.get?_push_of_some _ e
    · rw [← e2]
      exact k1.map _
end
end K37
/-! ## L4 -/
namespace K37
open PySem PySem.Spec PyProof.Rows L2
theorem sqT_kp {K : PySem.W.Frag} {H H' : Hp} {s l c a : Addr} {B : Int} {xs : List V} (h : SqT K H a xs) (st : StAt H s l c B) (k : Kp s l H H') : SqT K H' a xs := by
  rcases h with (h | ⟨o, h⟩) | h
  · obtain ⟨n1, n2, _⟩ := st.apart h (fun _ z => nomatch z) (fun _ z => nomatch z)
    exact .inl (.inl (k _ _ n1 n2 h))
  · obtain ⟨n1, n2, _⟩ := st.apart h (fun _ z => nomatch z) (fun _ z => nomatch z)
    exact .inl (.inr ⟨o, k _ _ n1 n2 h⟩)
  · exact .inr h
theorem OrdAt.kp {K : PySem.W.Frag} {H H' : Hp} {s l c : Addr} {B : Int} {x : V} {n : Int} {ps : List (Int × Int)} (h : OrdAt K H x n ps) (st : StAt H s l c B) (k : Kp s l H H') : OrdAt K H' x n ps := by
  obtain ⟨o, q, ts, rfl, h1, h2, h3, h4⟩ := h
  exact ⟨o, q, ts, rfl, sqT_kp h1 st k, sqT_kp h2 st k, fun t ht => sqT_kp (h3 t ht) st k, h4⟩
/-- tuples of two ints, tracked -/
def PrsAt (H : Hp) (ts : List (Addr × Int × Int)) : Prop := ∀ t ∈ ts, H t.1 = some (.tup [.int t.2.1, .int t.2.2])
def keyV (H : Hp) : V → Int × Int
  | .ref t => match H t with
    | some (.tup [.int a, .int b]) => (a, b)
    | _ => (0, 0)
  | _ => (0, 0)
def adrV : V → Addr
  | .ref t => t
  | _ => 0
theorem keyV_at {H : Hp} {t : Addr × Int × Int} (h : H t.1 = some (.tup [.int t.2.1, .int t.2.2])) : keyV H (.ref t.1) = t.2 := by
  show (match H t.1 with | some (.tup [.int a, .int b]) => (a, b) | _ => (0, 0)) = _
  rw [h]
theorem prs_back {H : Hp} : ∀ {ts : List (Addr × Int × Int)}, PrsAt H ts → (ts.map fun t => V.ref t.1).map (fun x => (adrV x, keyV H x)) = ts
  | [], _ => rfl
  | t :: ts, h => by
    rw [List.map_cons, List.map_cons, prs_back fun u hu => h u (List.mem_cons_of_mem _ hu), keyV_at (h t List.mem_cons_self)]
    rfl
/-- what sorted gives of such a list -/
theorem prs_sorted {H : Hp} {ts : List (Addr × Int × Int)} (h : PrsAt H ts) {ys : List V} (h1 : SrtO.Srtd (L2.ltP (keyV H)) ys) (h2 : ys.Perm (ts.map fun t => V.ref t.1)) :
    ∃ ts' : List (Addr × Int × Int), ys = ts'.map (fun t => V.ref t.1) ∧ ts'.Perm ts ∧ ts'.Pairwise fun t u => SrtO.lexB u.2 t.2 = false := by
  have hr : ∀ y ∈ ys, ∃ t ∈ ts, y = .ref t.1 := fun y hy => by
    obtain ⟨t, ht, e⟩ := List.mem_map.mp (h2.mem_iff.mp hy)
    exact ⟨t, ht, e.symm⟩
  refine ⟨ys.map fun x => (adrV x, keyV H x), ?_, ?_, ?_⟩
  · rw [List.map_map]
    refine (List.map_id ys).symm.trans (List.map_congr_left fun y hy => ?_)
    obtain ⟨t, _, rfl⟩ := hr y hy
    rfl
  · have := h2.map fun x => (adrV x, keyV H x)
    rw [prs_back h] at this
    exact this
  · rw [List.pairwise_map]
    exact h1
theorem adj_of {ts : List (Addr × Int × Int)} (h : ts.Pairwise fun t u => SrtO.lexB u.2 t.2 = false) (nd : (ts.map (·.2)).Nodup) : adjB ltQ (ts.map (·.2)) = true := by
  induction ts with
  | nil => rfl
  | cons a ts ih =>
    cases ts with
    | nil => rfl
    | cons b ts =>
      have h1 := List.pairwise_cons.mp h
      have n1 := List.nodup_cons.mp nd
      have e : adjB ltQ ((a :: b :: ts).map (·.2)) = (HT.lexLt [a.2.1, a.2.2] [b.2.1, b.2.2] && adjB ltQ ((b :: ts).map (·.2))) := rfl
      rw [e, ih h1.2 n1.2, Bool.and_true]
      have hl := SrtO.lexB_no.mp (h1.1 b List.mem_cons_self)
      have hne : ¬ (a.2.1 = b.2.1 ∧ a.2.2 = b.2.2) := fun z => n1.1 (by
        have : a.2 = b.2 := Prod.ext z.1 z.2
        show a.2 ∈ (b :: ts).map (·.2)
        rw [this]
        exact List.mem_cons_self)
      show (if a.2.1 = b.2.1 then (if a.2.2 = b.2.2 then false else decide (a.2.2 < b.2.2)) else decide (a.2.1 < b.2.1)) = true
      by_cases c1 : a.2.1 = b.2.1
      · rw [if_pos c1]
        by_cases c2 : a.2.2 = b.2.2
        · exact absurd ⟨c1, c2⟩ hne
        · rw [if_neg c2, decide_eq_true_eq]
          omega
      · rw [if_neg c1, decide_eq_true_eq]
        omega
section
variable {P : Program} {w : World} {K : PySem.W.Frag} {mg : Str → Option Value} {base : Heap}
/-! ### _law_order -/
def spOrder (K : PySem.W.Frag) : Sp := fun vs H Q _ => ∃ (s l c : Addr) (B : Int), vs = [.ref s, .int 5] ∧ StAt H s l c B ∧ B < 900000 ∧
  ∀ H' x n ps, Kp s l H H' → StAt H' s l c (B + 100) → OrdAt K H' x n ps → Ord n ps → n ≤ 5 → Q x H'
theorem sc_order : FnScope ["_law_state", "_law_most", "_law_way", "_law_few", "_law_number", "_law_pairs", "_law_far", "_law_near"] ["_law_state", "_law_most"] (defScope (top 36)) := ⟨rfl, rfl, rfl, by decide +kernel, rfl, by decide +kernel, by decide +kernel⟩
theorem ok_order {f : Addr} {fd : FuncData} (F : FnP K "_law_order" 36 f fd) (T : Tp mg) (C : Cl P w K mg base CX0 2 "_law_draw" spDraw) : FnOk P w K mg base CX0 3 f fd ["_law_state", "_law_most"] (spOrder K) := by
  refine F.ok sc_order (fun vs H Q E h => ?_) (fun cdv A outer s H vs Q E hr h => ⟨_, PSs.nox (pss_cons
      (ps_par (i := 2) (j := 3) (by rfl) sc_order.nd rfl rfl (by decide) rfl rfl (pa_cons (pe_cl C hr (by decide) (by rfl) pass0 (pa_cons (pv 0) (pa_cons pe_int pa_nil))) (pa_cons (pe_cmpR op_eq (pe_cl C hr (by decide) (by rfl) pass0 (pa_cons (pv 0) (pa_cons pe_int pa_nil))) pe_int (nomark _)) pa_nil)) (by rfl))
      (pss_cons (ps_set (i := 4) sc_order.nd rfl (.inl rfl) (pe_ifExp (pt_val (pv 3)) (pe_cl C hr (by decide) (by rfl) pass0 (pa_cons (pv 0) (pa_cons pe_int pa_nil))) (pe_op op_add pe_int (pe_cl C hr (by decide) (by rfl) pass0 (pa_cons (pv 0) (pa_cons (pe_op op_sub (pv 1) pe_int) pa_nil))))))
      (pss_cons (ps_set (i := 5) sc_order.nd rfl (.inl rfl) (pe_lst pa_nil))
      (pss_cons (ps_for PassesOwn.never rfl (pi_range1 rfl T.range (pa_cons (pv 4) pa_nil)) (pg_name (i := 6) sc_order.nd rfl (Or.inl rfl))
        (pss_one (ps_for PassesOwn.never rfl (pi_range1 rfl T.range (pa_cons (pv 6) pa_nil)) (pg_name (i := 7) sc_order.nd rfl (Or.inl rfl))
          (pss_one (ps_if (PW.pt (pw_or (PW.pt (pw_and (pt_cmpR op_eq (pv 2) pe_int (nomark _)) (pw_and1 (pt_cmpR op_eq (pe_op op_add (pv 7) pe_int) (pv 6) (nomark _)))))
              (pw_or1 (PW.pt (pw_and (pt_cmpR op_gt (pv 2) pe_int (nomark _)) (pw_and1 (pt_cmpR op_eq (pe_cl C hr (by decide) (by rfl) pass0 (pa_cons (pv 0) (pa_cons pe_int pa_nil))) pe_int (nomark _))))))))
            (pss_one (ps_expr (pe_bm PySem.F.plainAttrs_list PySem.F.slot_list_append PySem.F.type_list_append mt_append (pv 5) (pa_cons (pe_tup (pa_cons (pv 7) (pa_cons (pv 6) pa_nil))) pa_nil)))) pss_nil)))))
      (pss_one (ps_ret (pe_tup (pa_cons (pv 4) (pa_cons (pe_callTy call_tuple_of (by rfl) T.tuple (by decide +kernel) (pa_cons (pe_callB cr_sortedPO (by rfl) T.sorted (by decide +kernel) (pa_cons (pv 5) pa_nil)) pa_nil)) pa_nil))))))))), ?_⟩)
  · obtain ⟨s, l, c, B, rfl, _⟩ := h
    rfl
  · obtain ⟨a, l, c, B, rfl, hSt, hB, q⟩ := h
    refine ⟨.ref a, rfl, a, l, c, 6, B, rfl, hSt, by omega, by decide, by decide, fun way H1 w0 w1 k1 st1 => ?_⟩
    refine ⟨.ref a, rfl, a, l, c, 5, _, rfl, st1, by omega, by decide, by decide, fun few H2 f0 f1 k2 st2 => ⟨rfl, _, _, rfl, ?_⟩⟩
    have k12 := k1.trans k2
    have num : ∀ (Qc : V → Hp → Prop), (∀ (n : Int) H3, 0 ≤ n → n ≤ 5 → Kp a l H H3 → StAt H3 a l c (B + 3) → Qc (.int n) H3) →
        tIf (tTest (tVar 3)) (tCall spDraw [] E0 (tCons (tVar 0) (tCons (tC (.int 2)) tNil))) (tOp (rI0 fun i j => .int (i + j)) (tC (.int 2)) (tCall spDraw [] E0 (tCons (tVar 0) (tCons (tOp (rI0 fun i j => .int (i - j)) (tVar 1) (tC (.int 1))) tNil))))
          [some (.ref a), some (.int 5), some (.int way), some (.bl (decide (V.int few = V.int 0))), none, none, none, none] H2 Qc := fun Qc h => by
      refine ⟨_, rfl, _, rfl, ?_⟩
      refine ite2 (fun _ => ?_) (fun _ => ?_)
      · exact ⟨.ref a, rfl, a, l, c, 2, _, rfl, st2, by omega, by decide, by decide, fun i H3 i0 i1 k3 st3 => h i H3 i0 (by omega) (k12.trans k3) (by rw [show B + 3 = B + 1 + 1 + 1 by omega]; exact st3)⟩
      · exact ⟨.ref a, rfl, .int 5, rfl, 5, 1, rfl, rfl, a, l, c, 5 - 1, _, rfl, st2, by omega, by decide, by decide, fun i H3 i0 i1 k3 st3 => ⟨2, i, rfl, rfl, h _ H3 (by omega) (by omega) (k12.trans k3) (by rw [show B + 3 = B + 1 + 1 + 1 by omega]; exact st3)⟩⟩
    refine num _ fun n H3 n0 n5 k3 st3 => ?_
    refine ⟨Nat.zero_le _, fun p np => ?_⟩
    obtain ⟨npa, npl, npc⟩ := st3.new np
    have k4 : Kp a l H (upd H3 p (.lst [])) := k3.trans (Kp.of (same_put (Same.refl _) np))
    have st4 := st3.same (same_put (o := .lst []) (Same.refl H3) np)
    have hp4 : upd H3 p (.lst []) p = some (.lst (([] : List (Addr × Int × Int)).map fun t => V.ref t.1)) := upd_same
    generalize upd H3 p (.lst []) = H4 at k4 st4 hp4 ⊢
    refine ⟨.int n, rfl, n, rfl, by omega, by omega, ?_⟩
    -- the pairs so far: far below i, or far = i and near below j
    let Iv : Nat → Nat → Hp → Prop := fun i j H' => Kp a l H H' ∧ StAt H' a l c (B + 3 + 5 * i + j) ∧ ∃ ts : List (Addr × Int × Int), H' p = some (.lst (ts.map fun t => V.ref t.1)) ∧ PrsAt H' ts ∧ (ts.map (·.2)).Nodup ∧ ts.length ≤ 5 * i + j ∧
      ∀ t ∈ ts, 0 ≤ t.2.1 ∧ t.2.1 < t.2.2 ∧ (t.2.2 < (i : Int) ∨ (t.2.2 = (i : Int) ∧ t.2.1 < (j : Int)))
    refine for_range (lo := 0) (n := n.toNat) (fun i σ H' => ∃ y6 y7, σ = [some (.ref a), some (.int 5), some (.int way), some (.bl (decide (V.int few = V.int 0))), some (.int n), some (.ref p), y6, y7] ∧ Iv i 0 H')
      ⟨_, _, rfl, k4, by simpa using st4, [], hp4, (fun t ht => by cases ht), by simp, by simp, fun t ht => by cases ht⟩ (fun i σ H5 hi hP => ?_) (fun σ H5 hP => ?_)
    · obtain ⟨y6, y7, rfl, hI⟩ := hP
      have hz : (0 + (i : Int)).toNat = i := by omega
      refine ⟨.int (0 + (i : Int)), rfl, _, rfl, by omega, by omega, ?_⟩
      rw [hz]
      refine for_range (lo := 0) (n := i) (fun j σ H' => ∃ y7, σ = [some (.ref a), some (.int 5), some (.int way), some (.bl (decide (V.int few = V.int 0))), some (.int n), some (.ref p), some (.int (0 + (i : Int))), y7] ∧ Iv i j H')
        ⟨_, rfl, hI⟩ (fun j σ H6 hj hP => ?_) (fun σ H6 hP => ?_)
      · obtain ⟨y7, rfl, hI⟩ := hP
        obtain ⟨k6, st6, ts, t1, t2, t3, t4, t5⟩ := hI
        have tst : ∀ (Qc : Bool → Hp → Prop), (∀ b H7, Kp a l H6 H7 → StAt H7 a l c (B + 3 + 5 * i + j + 1) → Qc b H7) →
            tOr (tAnd (tTest (tOp rEq (tVar 2) (tC (.int 0)))) (tTest (tOp rEq (tOp (rI0 fun i j => .int (i + j)) (tVar 7) (tC (.int 1))) (tVar 6))))
              (tAnd (tTest (tOp (rI0 fun i j => .bl (decide (j < i))) (tVar 2) (tC (.int 1)))) (tTest (tOp rEq (tCall spDraw [] E0 (tCons (tVar 0) (tCons (tC (.int 3)) tNil))) (tC (.int 0)))))
              [some (.ref a), some (.int 5), some (.int way), some (.bl (decide (V.int few = V.int 0))), some (.int n), some (.ref p), some (.int (0 + (i : Int))), some (.int (0 + (j : Int)))] H6 Qc := fun Qc h => by
          have h0 : ∀ b, Qc b H6 := fun b => h b H6 (fun _ _ _ _ e => e) (st6.mono (by omega))
          have right : (tAnd (tTest (tOp (rI0 fun i j => .bl (decide (j < i))) (tVar 2) (tC (.int 1)))) (tTest (tOp rEq (tCall spDraw [] E0 (tCons (tVar 0) (tCons (tC (.int 3)) tNil))) (tC (.int 0)))))
              [some (.ref a), some (.int 5), some (.int way), some (.bl (decide (V.int few = V.int 0))), some (.int n), some (.ref p), some (.int (0 + (i : Int))), some (.int (0 + (j : Int)))] H6 Qc := by
            refine ⟨_, rfl, _, _, rfl, rfl, _, rfl, ite2 (fun _ => ?_) (fun _ => h0 _)⟩
            exact ⟨.ref a, rfl, a, l, c, 3, _, rfl, st6, by omega, by decide, by decide, fun d H7 _ _ k7 st7 => ⟨rfl, _, rfl, h _ H7 k7 st7⟩⟩
          refine ⟨_, rfl, rfl, _, rfl, ite2 (fun _ => ?_) (fun _ => ?_)⟩
          · refine ⟨_, rfl, _, _, rfl, rfl, _, rfl, rfl, _, rfl, ite2 (fun _ => h0 _) (fun _ => right)⟩
          · exact iteF right
        refine tst _ fun b H7 k7 st7 => ?_
        have hp7 := k7 _ _ npa npl t1
        have t27 : PrsAt H7 ts := fun t ht => by
          have e := t2 t ht
          obtain ⟨n1, n2, _⟩ := st6.apart e (fun _ z => nomatch z) (fun _ z => nomatch z)
          exact k7 _ _ n1 n2 e
        cases b with
        | false =>
          refine iteF ⟨_, rfl, k6.trans k7, by rw [show B + 3 + 5 * (i : Int) + ((j + 1 : Nat) : Int) = B + 3 + 5 * i + j + 1 by omega]; exact st7, ts, hp7, t27, t3, by omega, fun t ht => ?_⟩
          have := t5 t ht
          omega
        | true =>
          refine iteT ⟨.ref p, rfl, .inl ⟨rfl, _, .inl (.inl hp7)⟩, .int (0 + (j : Int)), rfl, .int (0 + (i : Int)), rfl, by show 2 ≤ sizeLine; decide, fun u nu => ?_⟩
          have nup : p ≠ u := ne_of_none hp7 nu
          have npH : H p = none := by
            cases e : H p with
            | none => rfl
            | some o =>
              have := k3 _ _ npa npl e
              rw [np] at this
              cases this
          refine ⟨p, _, _, rfl, rfl, by rw [upd_ne nup]; exact hp7, by rw [List.length_map]; exact small20 (by omega), ?_⟩
          refine ⟨_, rfl, fun b o h1 h2 e => ?_, ?_, ts ++ [(u, (j : Int), (i : Int))], ?_, ?_, ?_, ?_, ?_⟩
          · have e7 := (k6.trans k7) b o h1 h2 e
            rw [upd_ne (ne_of_none e npH), upd_ne (ne_of_none e7 nu)]
            exact e7
          · rw [show B + 3 + 5 * (i : Int) + ((j + 1 : Nat) : Int) = B + 3 + 5 * i + j + 1 by omega]
            exact (st7.same (same_put (Same.refl _) nu)).upd ⟨npa, npl, npc⟩
          · rw [upd_same, List.map_append]
            rfl
          · intro t ht
            rcases List.mem_append.mp ht with ht | ht
            · have e := t27 t ht
              rw [upd_ne (ne_of e hp7 (by intro z; cases z)), upd_ne (ne_of_none e nu)]
              exact e
            · rw [List.mem_singleton.mp ht, upd_ne (Ne.symm nup), upd_same, Int.zero_add, Int.zero_add]
          · rw [List.map_append, List.nodup_append]
            refine ⟨t3, by simp, fun x hx y hy e => ?_⟩
            have ey : y = ((j : Int), (i : Int)) := by simpa using hy
            obtain ⟨t, ht, rfl⟩ := List.mem_map.mp hx
            have := t5 t ht
            rw [e, ey] at this
            simp only at this
            omega
          · rw [List.length_append]
            show ts.length + 1 ≤ _
            omega
          · intro t ht
            rcases List.mem_append.mp ht with ht | ht
            · have := t5 t ht
              omega
            · rw [List.mem_singleton.mp ht]
              show 0 ≤ (j : Int) ∧ (j : Int) < (i : Int) ∧ ((i : Int) < (i : Int) ∨ ((i : Int) = (i : Int) ∧ (j : Int) < ((j + 1 : Nat) : Int)))
              omega
      · obtain ⟨y7, rfl, k6, st6, ts, t1, t2, t3, t4, t5⟩ := hP
        refine ⟨_, _, rfl, k6, st6.mono (by omega), ts, t1, t2, t3, by omega, fun t ht => ?_⟩
        have := t5 t ht
        omega
    · obtain ⟨y6, y7, rfl, k5, st5, ts, t1, t2, t3, t4, t5⟩ := hP
      refine ⟨.int n, rfl, .ref p, rfl, p, _, keyV H5, rfl, .inl (.inl t1), fun x hx => ?_, fun ys r h1 h2 nr => ?_⟩
      · obtain ⟨t, ht, rfl⟩ := List.mem_map.mp hx
        refine ⟨t.1, rfl, ?_⟩
        rw [keyV_at (t2 t ht)]
        exact t2 t ht
      · obtain ⟨ts', rfl, p1, p2⟩ := prs_sorted t2 h1 h2.perm
        refine ⟨r, _, rfl, .inl ⟨.inl (.inl upd_same), fun u nu => ⟨by show 2 ≤ sizeLine; decide, fun v nv => ?_⟩⟩⟩
        have s6 : Same H5 (upd (upd H5 r (.lst (ts'.map fun t => V.ref t.1))) u (.tup (ts'.map fun t => V.ref t.1))) := same_new (same_put (Same.refl _) nr) nu
        have s7 := same_new (o := .tup [.int n, .ref u]) s6 nv
        have hu : SqT K (upd (upd (upd H5 r (.lst (ts'.map fun t => V.ref t.1))) u (.tup (ts'.map fun t => V.ref t.1))) v (.tup [.int n, .ref u])) u (ts'.map fun t => V.ref t.1) := .inl (.inl (same_put (Same.refl _) nv _ _ upd_same))
        have pm : (ts'.map (·.2)).Perm (ts.map (·.2)) := p1.map _
        refine q _ _ n (ts'.map (·.2)) (k5.trans (Kp.of s7)) ((st5.mono (by omega)).same s7) ⟨v, u, ts', rfl, .inl (.inl upd_same), hu, fun t ht => .inl (.inl (s7 _ _ (t2 t (p1.mem_iff.mp ht)))), rfl⟩ ⟨n0, by omega, fun x hx => ?_, adj_of p2 (pm.nodup_iff.mpr t3), ?_⟩ n5
        · obtain ⟨t, ht, rfl⟩ := List.mem_map.mp hx
          have := t5 t (p1.mem_iff.mp ht)
          omega
        · rw [List.length_map, p1.length_eq]
          omega
end
end K37
/-! ## L5 -/
namespace K37
open PySem PySem.Spec PyProof.Rows L2
section
variable {P : Program} {w : World} {K : PySem.W.Frag} {mg : Str → Option Value} {base : Heap}
/-! ### _law_aheads -/
/-- at x: for each item the list of those ahead of it; N tells of each of its addresses -/
def AhL (N : Addr → Prop) (H : Hp) (x : V) (n : Int) (R : Rl) : Prop := ∃ (p : Addr) (ds : List Addr), x = .ref p ∧ N p ∧ H p = some (.lst (ds.map V.ref)) ∧ ds.length = n.toNat ∧
  ∀ (i : Nat) (d : Addr), ds[i]? = some d → N d ∧ ∃ js : List Int, H d = some (.lst (js.map V.int)) ∧ js.length ≤ 20 ∧ ∀ j, j ∈ js ↔ R j i = true
theorem AhL.same {N : Addr → Prop} {H H' : Hp} {x : V} {n : Int} {R : Rl} (h : AhL N H x n R) (s : Same H H') : AhL N H' x n R := by
  obtain ⟨p, ds, rfl, h0, h1, h2, h3⟩ := h
  refine ⟨p, ds, rfl, h0, s _ _ h1, h2, fun i d hd => ?_⟩
  obtain ⟨m, js, e, a, b⟩ := h3 i d hd
  exact ⟨m, js, s _ _ e, a, b⟩
theorem AhL.imp {N N' : Addr → Prop} {H : Hp} {x : V} {n : Int} {R : Rl} (h : AhL N H x n R) (f : ∀ b o, H b = some o → N b → N' b) : AhL N' H x n R := by
  obtain ⟨p, ds, rfl, h0, h1, h2, h3⟩ := h
  refine ⟨p, ds, rfl, f _ _ h1 h0, h1, h2, fun i d hd => ?_⟩
  obtain ⟨m, js, e, a, b⟩ := h3 i d hd
  exact ⟨f _ _ e m, js, e, a, b⟩
theorem AhL.kp {N : Addr → Prop} {H H' : Hp} {x : V} {n : Int} {R : Rl} {s l : Addr} (h : AhL N H x n R) (hN : ∀ b, N b → b ≠ s ∧ b ≠ l) (k : Kp s l H H') : AhL N H' x n R := by
  obtain ⟨p, ds, rfl, h0, h1, h2, h3⟩ := h
  refine ⟨p, ds, rfl, h0, k _ _ (hN _ h0).1 (hN _ h0).2 h1, h2, fun i d hd => ?_⟩
  obtain ⟨m, js, e, a, b⟩ := h3 i d hd
  exact ⟨m, js, k _ _ (hN _ m).1 (hN _ m).2 e, a, b⟩
theorem AhL.get {N : Addr → Prop} {H : Hp} {x : V} {n : Int} {R : Rl} (h : AhL N H x n R) {i : Int} (h0 : 0 ≤ i) (h1 : i < n) : ∃ (p : Addr) (xs : List V) (d : Addr) (js : List Int), x = .ref p ∧ H p = some (.lst xs) ∧ atI xs i = some (.ref d) ∧ H d = some (.lst (js.map V.int)) ∧ js.length ≤ 20 ∧ ∀ j, j ∈ js ↔ R j i = true := by
  obtain ⟨p, ds, rfl, _, h2, h3, h4⟩ := h
  have hl : i.toNat < ds.length := by omega
  obtain ⟨_, js, e1, e2, e3⟩ := h4 i.toNat ds[i.toNat] (List.getElem?_eq_getElem hl)
  have hc : ((i.toNat : Nat) : Int) = i := by omega
  have := atI_nat (map_get (ι := V.ref) hl)
  rw [hc] at this e3
  exact ⟨p, _, _, js, rfl, h2, this, e1, e2, e3⟩
def spAheads (K : PySem.W.Frag) : Sp := fun vs H Q _ => ∃ o n ps, vs = [o] ∧ OrdAt K H o n ps ∧ Ord n ps ∧ ∀ H' x, Same H H' → AhL (fun b => H b = none) H' x n (ah ps) → Q x H'
theorem sc_aheads : FnScope ["_law_order_so", "_law_found_so", "_law_item", "_law_near", "_law_lot", "_law_one", "_law_far", "_law_pair"] ["_law_order_so"] (defScope (top 37)) := ⟨rfl, rfl, rfl, by decide +kernel, rfl, by decide +kernel, by decide +kernel⟩
theorem ok_aheads {f : Addr} {fd : FuncData} (F : FnP K "_law_aheads" 37 f fd) (T : Tp mg) : FnOk P w K mg base CX0 1 f fd ["_law_order_so"] (spAheads K) := by
  refine F.ok sc_aheads (fun vs H Q E h => ?_) (fun cdv A outer s H vs Q E hr h => ⟨_, PSs.nox (pss_cons
      (ps_set (i := 1) sc_aheads.nd rfl (.inl rfl) (pe_lst pa_nil))
      (pss_cons (ps_for PassesOwn.never rfl (pi_range1 rfl T.range (pa_cons (pe_ix ix_tup (pv 0) pe_int (fun _ _ => rfl)) pa_nil)) (pg_name (i := 2) sc_aheads.nd rfl (Or.inr rfl))
        (pss_cons (ps_setLc (i := 3) (own := [("_law_pair", 7)]) (g := gName 7) rfl sc_aheads.nd rfl rfl (sw_true rfl rfl rfl (by decide +kernel)) (pi_tup (pe_ix ix_tup (pv 0) pe_int (fun _ _ => rfl))) (blkOk_by (N := ["_law_order_so", "_law_found_so", "_law_item", "_law_near", "_law_lot", "_law_one", "_law_far", "_law_pair"]) (sc := defScope (top 37)) (by decide +kernel)) (fun _ _ _ _ _ => pg_name (i := 7) sc_aheads.nd rfl (Or.inl rfl))
            (fun _ _ _ _ _ => pts_one (pt_cmpR op_eq (pe_ix (ixT K) (pv 7) pe_int (fun _ _ => rfl)) (pv 2) (nomark _))) (fun _ _ _ _ _ => pe_ix (ixT K) (pv 7) pe_int (fun _ _ => rfl)))
        (pss_cons (ps_set (i := 4) sc_aheads.nd rfl (.inl rfl) pe_dnewK)
        (pss_cons (ps_for PassesOwn.never rfl (pi_list (pv 3)) (pg_name (i := 5) sc_aheads.nd rfl (Or.inl rfl))
          (pss_cons (ps_dput (hu_of hr) (pv 4) (pv 5) pe_bl rfl)
          (pss_one (ps_for PassesOwn.never rfl (pi_list (pe_ix ix_list (pv 1) (pv 5) (fun _ _ => rfl))) (pg_name (i := 6) sc_aheads.nd rfl (Or.inl rfl))
            (pss_one (ps_dput (hu_of hr) (pv 4) (pv 6) pe_bl rfl))))))
        (pss_one (ps_expr (pe_bm PySem.F.plainAttrs_list PySem.F.slot_list_append PySem.F.type_list_append mt_append (pv 1) (pa_cons (pe_callB (call_sortedDI rfl) (by rfl) T.sorted (by decide +kernel) (pa_cons (pv 4) pa_nil)) pa_nil))))))))
      (pss_one (ps_ret (pv 1))))), ?_⟩)
  · obtain ⟨o, n, ps, rfl, _⟩ := h
    rfl
  · obtain ⟨_, n, ps, rfl, ⟨o, p, ts, rfl, h1, h2, h3, h4⟩, hn, q⟩ := h
    have n0 := hn.n0
    have n20 := hn.n20
    have rel := ah_rel hn.ok n20
    refine ⟨Nat.zero_le _, fun D nD => ?_⟩
    have s0 : Same H (upd H D (.lst [])) := same_put (Same.refl _) nD
    refine ⟨.ref o, rfl, o, _, 0, .int n, rfl, rfl, same_T s0 h1, rfl, n, rfl, by omega, by omega, ?_⟩
    refine for_range (lo := 0) (n := n.toNat) (fun i σ H' => ∃ y2 y3 y4 y5 y6, σ = [some (.ref o), some (.ref D), y2, y3, y4, y5, y6, none] ∧ Same H H' ∧ ∃ ds : List Addr, H' D = some (.lst (ds.map V.ref)) ∧ ds.length = i ∧
        ∀ (k : Nat) (d : Addr), ds[k]? = some d → H d = none ∧ d ≠ D ∧ ∃ js : List Int, H' d = some (.lst (js.map V.int)) ∧ js.length ≤ 20 ∧ ∀ j, j ∈ js ↔ ah ps j k = true)
      ⟨_, _, _, _, _, rfl, s0, [], upd_same, rfl, fun k d hd => by simp at hd⟩ (fun i σ H1 hi hP => ?_) (fun σ H1 hP => ?_)
    · obtain ⟨y2, y3, y4, y5, y6, rfl, s1, ds, e1, e2, e3⟩ := hP
      refine ⟨.ref o, rfl, o, _, 1, .ref p, rfl, rfl, same_T s1 h1, rfl, p, rfl, ⟨_, same_T s1 h2⟩, fun D2 hD2 => ?_⟩
      have hts : ts.length ≤ 1000 := by
        have := hn.few
        rw [← h4, List.length_map] at this
        exact this
      refine lcW (walks_tup (same_T s1 h2)) hD2 (by omega) (fun t => decide (t.2.2 = 0 + (i : Int))) (fun t => t.2.1) V.int (fun t x H2 kY kN ht sm2 hx hY hN => ⟨rfl, ?_⟩) (fun H2 s2 hl => ?_)
      · subst hx
        have hT := same_T (s1.trans sm2) (h3 t ht)
        refine ⟨.ref t.1, rfl, t.1, _, 1, .int t.2.2, rfl, rfl, hT, rfl, .int (0 + (i : Int)), rfl, rfl, _, rfl, ?_⟩
        rw [decInt]
        cases e : decide (t.2.2 = 0 + (i : Int)) with
        | true => exact iteT ⟨.ref t.1, rfl, t.1, _, 0, .int t.2.1, rfl, rfl, hT, rfl, hY e _ (Same.refl _)⟩
        | false => exact iteF (hN e _ (Same.refl _))
      · have hps : ∀ k ∈ ((ts.filter fun t => decide (t.2.2 = 0 + (i : Int))).map fun t => t.2.1), (k, (i : Int)) ∈ ps := fun k hk => by
          obtain ⟨t, ht, e⟩ := List.mem_map.mp hk
          obtain ⟨t1, t2⟩ := List.mem_filter.mp ht
          rw [decide_eq_true_eq, Int.zero_add] at t2
          rw [← h4, ← e, ← t2]
          exact List.mem_map_of_mem t1
        have hsp : ∀ k, (k, (i : Int)) ∈ ps → k ∈ ((ts.filter fun t => decide (t.2.2 = 0 + (i : Int))).map fun t => t.2.1) := fun k hm => by
          rw [← h4] at hm
          obtain ⟨t, ht, e2⟩ := List.mem_map.mp hm
          refine List.mem_map.mpr ⟨t, List.mem_filter.mpr ⟨ht, ?_⟩, by rw [e2]⟩
          rw [e2, Int.zero_add]
          exact decide_eq_true rfl
        generalize ((ts.filter fun t => decide (t.2.2 = 0 + (i : Int))).map fun t => t.2.1) = ls at hl hps hsp
        intro c nc
        have s12 := s1.trans s2
        have hcH : H c = none := free_of s12 nc
        have s3 : Same H2 (upd H2 c (.dK (SD []))) := same_put (Same.refl _) nc
        have hc3 : upd H2 c (.dK (SD [])) c = some (.dK (SD [])) := upd_same
        have hlb : ∀ k ∈ ls, 0 ≤ k ∧ k < (i : Int) ∧ (i : Int) < n := fun k hk => hn.ok _ (hps k hk)
        show L2.tSeq _ _ _ _ (upd H2 c (.dK (SD [])))
        generalize upd H2 c (.dK (SD [])) = H3 at s3 hc3 ⊢
        have hl3 := s3 _ _ hl
        refine ⟨.ref D2, rfl, D2, rfl, ⟨_, .inl (.inl hl3)⟩, ?_⟩
        have nD2c : D2 ≠ c := ne_of hl3 hc3 (by intro z; cases z)
        have eD3 := s3 _ _ (s2 _ _ e1)
        have nDc : D ≠ c := ne_of eD3 hc3 (by intro z; cases z)
        refine for_list (K := K) (a := D2) (xs := ls.map V.int) (fun j σ H4 => ∃ y5 y6, σ = [some (.ref o), some (.ref D), some (.int (0 + (i : Int))), some (.ref D2), some (.ref c), y5, y6, none] ∧ (∀ b u, b ≠ c → H3 b = some u → H4 b = some u) ∧
            ∃ js : List Int, H4 c = some (.dK (SD js)) ∧ js.Nodup ∧ ∀ x, x ∈ js ↔ ∃ k ∈ ls.take j, x = k ∨ ah ps x k = true)
          ⟨_, _, rfl, fun b u _ e => e, [], hc3, .nil, fun x => by simp⟩ (fun j σ H4 _ hP => ?_) (fun j x σ H4 hj hP => ?_) (fun σ H4 hP => ?_)
        · obtain ⟨y5, y6, rfl, kp, _⟩ := hP
          exact .inl (.inl (kp D2 _ nD2c hl3))
        · obtain ⟨y5, y6, rfl, kp, js, j1, j2, j3⟩ := hP
          obtain ⟨one, g1, rfl⟩ := get_map hj
          have hone := hlb one (List.mem_of_getElem? g1)
          have jb : ∀ x ∈ js, 0 ≤ x ∧ x < n := fun x hx => by
            obtain ⟨k, hk, e⟩ := (j3 x).mp hx
            have hb2 := hlb k (List.mem_of_mem_take hk)
            rcases e with e | e
            · omega
            · have := rel.bd e
              omega
          have jl := nd_len j2 jb
          refine ⟨.ref c, rfl, .int one, rfl, c, _, rfl, DPut.k (k := Sum.inl one) j1 (by rw [sd_len]; exact small20 (by omega)), ?_⟩
          rw [sd_put]
          have hol : one.toNat < ds.length := by omega
          have gd : ds[one.toNat]? = some ds[one.toNat] := List.getElem?_eq_getElem hol
          obtain ⟨_, _, js2, k1, k2, k3⟩ := e3 one.toNat _ gd
          have hcast : ((one.toNat : Nat) : Int) = one := by omega
          rw [hcast] at k3
          have at1 : atI (ds.map V.ref) one = some (.ref ds[one.toNat]) := by
            have := atI_nat (map_get (ι := V.ref) hol)
            rw [hcast] at this
            exact this
          have hk3 := s3 _ _ (s2 _ _ k1)
          have ndc : ds[one.toNat] ≠ c := ne_of hk3 hc3 (by intro z; cases z)
          have eD5 : upd H4 c (.dK (SD (addJ js one))) D = some (.lst (ds.map V.ref)) := by rw [upd_ne nDc]; exact kp D _ nDc eD3
          have ek5 : upd H4 c (.dK (SD (addJ js one))) ds[one.toNat] = some (.lst (js2.map V.int)) := by rw [upd_ne ndc]; exact kp _ _ ndc hk3
          have ec5 : upd H4 c (.dK (SD (addJ js one))) c = some (.dK (SD (addJ js one))) := upd_same
          have kp5 : ∀ b u, b ≠ c → H3 b = some u → upd H4 c (.dK (SD (addJ js one))) b = some u := fun b u hb e => by rw [upd_ne hb]; exact kp b u hb e
          generalize upd H4 c (.dK (SD (addJ js one))) = H5 at eD5 ek5 ec5 kp5 ⊢
          refine ⟨.ref D, rfl, .int one, rfl, D, _, one, _, rfl, rfl, .inl (.inl eD5), at1, ds[one.toNat], rfl, ⟨_, .inl (.inl ek5)⟩, ?_⟩
          refine for_list (K := K) (a := ds[one.toNat]) (xs := js2.map V.int) (fun m σ H6 => ∃ y6, σ = [some (.ref o), some (.ref D), some (.int (0 + (i : Int))), some (.ref D2), some (.ref c), some (.int one), y6, none] ∧ (∀ b u, b ≠ c → H3 b = some u → H6 b = some u) ∧
              ∃ js' : List Int, H6 c = some (.dK (SD js')) ∧ js'.Nodup ∧ ∀ x, x ∈ js' ↔ (x ∈ addJ js one ∨ x ∈ js2.take m))
            ⟨_, rfl, kp5, _, ec5, nd_addJ j2, fun x => by simp⟩ (fun m σ H6 _ hP => ?_) (fun m x σ H6 hm hP => ?_) (fun σ H6 hP => ?_)
          · obtain ⟨y6, rfl, kp6, _⟩ := hP
            exact .inl (.inl (kp6 _ _ ndc hk3))
          · obtain ⟨y6, rfl, kp6, js', i1, i2, i3⟩ := hP
            obtain ⟨far, g2, rfl⟩ := get_map hm
            have jl' := nd_len i2 (n := n) fun x hx => by
              rcases (i3 x).mp hx with e | e
              · rcases mem_addJ.mp e with e | e
                · exact jb x e
                · omega
              · have := rel.bd ((k3 x).mp (List.mem_of_mem_take e))
                omega
            refine ⟨.ref c, rfl, .int far, rfl, c, _, rfl, DPut.k (k := Sum.inl far) i1 (by rw [sd_len]; exact small20 (by omega)), ?_⟩
            rw [sd_put]
            refine ⟨_, rfl, fun b u hb e => by rw [upd_ne hb]; exact kp6 b u hb e, _, upd_same, nd_addJ i2, fun x => ?_⟩
            rw [mem_addJ, i3, List.take_add_one, g2]
            simp only [Option.toList_some, List.mem_append, List.mem_singleton, or_assoc]
          · obtain ⟨y6, rfl, kp6, js', i1, i2, i3⟩ := hP
            refine ⟨_, _, rfl, kp6, js', i1, i2, fun x => ?_⟩
            rw [List.length_map, List.take_length] at i3
            rw [i3, mem_addJ, j3, k3, List.take_add_one, g1]
            simp only [Option.toList_some, List.mem_append, List.mem_singleton]
            constructor
            · rintro ((⟨k, hk, e⟩ | e) | e)
              · exact ⟨k, .inl hk, e⟩
              · exact ⟨one, .inr rfl, .inl e⟩
              · exact ⟨one, .inr rfl, .inr e⟩
            · rintro ⟨k, hk | hk, e⟩
              · exact .inl (.inl ⟨k, hk, e⟩)
              · subst hk
                rcases e with e | e
                · exact .inl (.inr e)
                · exact .inr e
        · obtain ⟨y5, y6, rfl, kp, js, j1, j2, j3⟩ := hP
          rw [List.length_map, List.take_length] at j3
          have jm : ∀ x, x ∈ js ↔ ah ps x i = true := fun x => by
            rw [j3, ah_step hn.ok n20]
            exact ⟨fun ⟨k, hk, e⟩ => ⟨k, hps k hk, e⟩, fun ⟨k, hk, e⟩ => ⟨k, hsp k hk, e⟩⟩
          have jl := nd_len j2 (n := n) fun x hx => by
            have := rel.bd ((jm x).mp hx)
            omega
          have eD4 := kp D _ nDc eD3
          have sH4 : Same H H4 := fun b u e => kp b u (ne_of_none e hcH) (s3 _ _ (s12 b u e))
          refine ⟨.ref D, rfl, .inl ⟨rfl, _, .inl (.inl eD4)⟩, .ref c, rfl, c, _, js, rfl, .inl j1, sd_keys js, by omega, fun ys u pm _ nu => ?_⟩
          have nDu : D ≠ u := ne_of_none eD4 nu
          refine ⟨D, _, _, rfl, rfl, by rw [upd_ne nDu]; exact eD4, by rw [List.length_map]; exact small20 (by omega), ?_⟩
          refine ⟨_, _, _, _, _, rfl, same_put (same_new sH4 nu) nD, ds ++ [u], by rw [upd_same, List.map_append]; rfl, by rw [List.length_append, e2]; rfl, fun k d hd => ?_⟩
          rcases get_snoc hd with hd | ⟨hk, hd⟩
          · obtain ⟨a1, ndD, js2, a2, a3, a4⟩ := e3 k d hd
            have hd4 := kp d _ (ne_of (s3 _ _ (s2 _ _ a2)) hc3 (by intro z; cases z)) (s3 _ _ (s2 _ _ a2))
            refine ⟨a1, ndD, js2, ?_, a3, a4⟩
            rw [upd_ne ndD, upd_ne (ne_of_none hd4 nu)]
            exact hd4
          · rw [hd]
            refine ⟨free_of sH4 nu, Ne.symm nDu, ys, by rw [upd_ne (Ne.symm nDu), upd_same], by rw [pm.length_eq]; omega, fun j => ?_⟩
            rw [pm.mem_iff, jm, hk, e2]
    · obtain ⟨y2, y3, y4, y5, y6, rfl, s1, ds, e1, e2, e3⟩ := hP
      exact ⟨.ref D, rfl, q _ _ s1 ⟨D, ds, rfl, nD, e1, e2, fun i d hd => ⟨(e3 i d hd).1, (e3 i d hd).2.2⟩⟩⟩
end
end K37
/-! ## Pl4 -/
/-! plain law, part 4: one item more: lower sets, lots -/
namespace K37
/-- an ascending list whose greatest is i -/
theorem asc_split {S : List Int} {i : Int} (h : Asc S) (hi : i ∈ S) (hm : ∀ x ∈ S, x ≤ i) : S = (S.filter fun x => decide (x < i)) ++ [i] := by
  refine asc_ext h ?_ fun x => ?_
  · refine List.pairwise_append.mpr ⟨asc_filter _ h, List.pairwise_singleton _ _, fun a ha b hb => ?_⟩
    rw [List.mem_singleton.mp hb]
    exact of_decide_eq_true (List.mem_filter.mp ha).2
  · rw [List.mem_append, List.mem_filter, List.mem_singleton, decide_eq_true_eq]
    constructor
    · intro hx
      have := hm x hx
      by_cases e : x = i
      · exact .inr e
      · exact .inl ⟨hx, by omega⟩
    · rintro (⟨h1, _⟩ | e)
      · exact h1
      · rw [e]
        exact hi
theorem asc_snoc {S : List Int} {i : Int} (h : Asc S) (hm : ∀ x ∈ S, x < i) : Asc (S ++ [i]) := by
  refine List.pairwise_append.mpr ⟨h, List.pairwise_singleton _ _, fun a ha b hb => ?_⟩
  rw [List.mem_singleton.mp hb]
  exact hm a ha
/-- the lower sets below i -/
def LowB (n : Int) (R : Rl) (i : Int) (S : List Int) : Prop := Low n R S ∧ ∀ x ∈ S, x < i
theorem lowB_zero {n : Int} {R : Rl} {S : List Int} : LowB n R 0 S ↔ S = [] := by
  constructor
  · rintro ⟨h1, h2⟩
    cases S with
    | nil => rfl
    | cons x S =>
      have a := h1.bd x List.mem_cons_self
      have b := h2 x List.mem_cons_self
      omega
  · rintro rfl
    exact ⟨⟨.nil, (fun x hx => by cases hx), fun x hx => by cases hx⟩, fun x hx => by cases hx⟩
theorem lowB_step {n : Int} {R : Rl} {i : Int} {S : List Int} (r : Rel n R) (h0 : 0 ≤ i) (h1 : i < n) : LowB n R (i + 1) S ↔ LowB n R i S ∨ ∃ U, S = U ++ [i] ∧ LowB n R i U ∧ ∀ y, R y i = true → y ∈ U := by
  constructor
  · rintro ⟨hS, hB⟩
    by_cases hi : i ∈ S
    · right
      have e := asc_split hS.asc hi fun x hx => by have := hB x hx; omega
      refine ⟨_, e, ⟨⟨asc_filter _ hS.asc, fun x hx => hS.bd x (List.mem_filter.mp hx).1, fun x hx y hy => ?_⟩, fun x hx => of_decide_eq_true (List.mem_filter.mp hx).2⟩, fun y hy => ?_⟩
      · obtain ⟨a, b⟩ := List.mem_filter.mp hx
        have := r.bd hy
        have := of_decide_eq_true b
        exact List.mem_filter.mpr ⟨hS.dn x a y hy, decide_eq_true (by omega)⟩
      · exact List.mem_filter.mpr ⟨hS.dn i hi y hy, decide_eq_true (r.bd hy).2.1⟩
    · refine .inl ⟨hS, fun x hx => ?_⟩
      have := hB x hx
      have : x ≠ i := fun e => hi (e ▸ hx)
      omega
  · rintro (⟨hS, hB⟩ | ⟨U, rfl, ⟨hU, hB⟩, hd⟩)
    · exact ⟨hS, fun x hx => by have := hB x hx; omega⟩
    · refine ⟨⟨asc_snoc hU.asc hB, fun x hx => ?_, fun x hx y hy => ?_⟩, fun x hx => ?_⟩
      · rcases List.mem_append.mp hx with h | h
        · exact hU.bd x h
        · rw [List.mem_singleton.mp h]
          exact ⟨h0, h1⟩
      · rcases List.mem_append.mp hx with h | h
        · exact List.mem_append_left _ (hU.dn x h y hy)
        · rw [List.mem_singleton.mp h] at hy
          exact List.mem_append_left _ (hd y hy)
      · rcases List.mem_append.mp hx with h | h
        · have := hB x h
          omega
        · rw [List.mem_singleton.mp h]
          omega
/-- the lots of a list -/
def LotB (js : List Int) (S : List Int) : Prop := Asc S ∧ ∀ x ∈ S, x ∈ js
theorem lotB_nil {S : List Int} : LotB [] S ↔ S = [] := by
  constructor
  · rintro ⟨_, h⟩
    cases S with
    | nil => rfl
    | cons x S => exact absurd (h x List.mem_cons_self) (by simp)
  · rintro rfl
    exact ⟨.nil, fun x hx => by cases hx⟩
theorem lotB_step {js : List Int} {i : Int} {S : List Int} (h : ∀ x ∈ js, x < i) : LotB (js ++ [i]) S ↔ LotB js S ∨ ∃ U, S = U ++ [i] ∧ LotB js U := by
  constructor
  · rintro ⟨hS, hB⟩
    by_cases hi : i ∈ S
    · right
      have hle : ∀ x ∈ S, x ≤ i := fun x hx => by
        rcases List.mem_append.mp (hB x hx) with e | e
        · have := h x e
          omega
        · rw [List.mem_singleton.mp e]
          exact Int.le_refl i
      refine ⟨_, asc_split hS hi hle, asc_filter _ hS, fun x hx => ?_⟩
      obtain ⟨a, b⟩ := List.mem_filter.mp hx
      rcases List.mem_append.mp (hB x a) with e | e
      · exact e
      · rw [List.mem_singleton.mp e] at b
        have := of_decide_eq_true b
        omega
    · refine .inl ⟨hS, fun x hx => ?_⟩
      rcases List.mem_append.mp (hB x hx) with e | e
      · exact e
      · rw [List.mem_singleton.mp e] at hx
        exact absurd hx hi
  · rintro (⟨hS, hB⟩ | ⟨U, rfl, hU, hB⟩)
    · exact ⟨hS, fun x hx => List.mem_append_left _ (hB x hx)⟩
    · refine ⟨asc_snoc hU fun x hx => h x (hB x hx), fun x hx => ?_⟩
      rcases List.mem_append.mp hx with e | e
      · exact List.mem_append_left _ (hB x e)
      · exact List.mem_append_right _ e
end K37
/-! ## L6 -/
namespace K37
open PySem PySem.Spec PyProof.Rows L2
theorem nodup_snoc {A : List (List Int)} {i : Int} (h : A.Nodup) (p : List Int → Bool) (hb : ∀ S ∈ A, i ∉ S) : (A ++ (A.filter p).map (fun S => S ++ [i])).Nodup := by
  rw [List.nodup_append]
  refine ⟨h, ?_, fun a ha b hb' e => ?_⟩
  · refine List.pairwise_map.mpr (List.Pairwise.imp (fun {x y} hxy e => hxy ?_) (List.Pairwise.sublist List.filter_sublist h))
    exact (List.append_inj' e rfl).1
  · obtain ⟨S, hS, rfl⟩ := List.mem_map.mp hb'
    rw [e] at ha
    exact hb _ ha (by simp)
/-- tuples told by their ints, laid one by one -/
theorem tps_of {α : Type} {g : α → List Int} {H : Hp} : ∀ {l : List α} {ys : List V}, ys.length = l.length → (∀ (i : Nat) a y, l[i]? = some a → ys[i]? = some y → ∃ t, y = V.ref t ∧ H t = some (.tup ((g a).map V.int))) →
    ∃ L : List (Addr × List Int), ys = L.map (fun p => V.ref p.1) ∧ L.map (·.2) = l.map g ∧ TpsAt H L
  | [], [], _, _ => ⟨[], rfl, rfl, fun p hp => by cases hp⟩
  | [], _ :: _, h, _ => by cases h
  | _ :: _, [], h, _ => by cases h
  | a :: l, y :: ys, h, hp => by
    obtain ⟨L, e1, e2, e3⟩ := tps_of (g := g) (l := l) (ys := ys) (Nat.succ.inj h) fun i b z h1 h2 => hp (i + 1) b z h1 h2
    obtain ⟨t, rfl, ht⟩ := hp 0 a y rfl rfl
    refine ⟨(t, g a) :: L, by rw [e1]; rfl, by rw [List.map_cons, List.map_cons, e2], fun p hq => ?_⟩
    rcases List.mem_cons.mp hq with e | e
    · rw [e]
      exact ht
    · exact e3 p e
theorem TpsAt.same {H H' : Hp} {L : List (Addr × List Int)} (h : TpsAt H L) (s : Same H H') : TpsAt H' L := fun p hp => s _ _ (h p hp)
/-- t + (i,) -/
theorem catA1 {K : PySem.W.Frag} {a b : Addr} {xs ys : List V} {H : Hp} {Q : VK} (ha : SqT K H a xs) (hb : H b = some (.tup ys)) (hy : ys ≠ []) (hz : xs.length + ys.length ≤ 1000) (q : ∀ p H', Same H H' → H' p = some (.tup (xs ++ ys)) → (p = b ∨ H p = none) → Q (.ref p) H') : rCatA K (.ref a) (.ref b) H Q := by
  refine ⟨a, b, xs, ys, rfl, rfl, ha, .inl (.inl hb), Nat.le_of_lt (small20 (by omega)), fun e => ?_, fun _ e => absurd e hy, fun _ _ p np => ?_⟩
  · subst e
    exact q b H (Same.refl _) hb (.inl rfl)
  · exact q p _ (same_put (Same.refl _) np) upd_same (.inr np)
section
variable {P : Program} {w : World} {K : PySem.W.Frag} {mg : Str → Option Value} {base : Heap}
theorem catAK {X : Cx} (K : PySem.W.Frag) (h : X.K = K := by rfl) : OpR X (binaryOp .Add) (rCatA K) := by subst h; exact op_catA
theorem dp_list0 {H : Hp} {a : Addr} (h : H a = some (.lst [])) : Dp K H (.ref a) (.list (([] : List Int).map PyData.int)) := .lst (.inl (.inl h)) .nil
/-! ### _law_lowers -/
def spLowers (K : PySem.W.Frag) : Sp := fun vs H Q _ => ∃ o n ps, vs = [o] ∧ OrdAt K H o n ps ∧ Ord n ps ∧ n ≤ 5 ∧ ∀ H' p (L : List (Addr × List Int)), Same H H' → H p = none → H' p = some (.lst (L.map fun q => V.ref q.1)) → TpsAt H' L → LexUp L → (L.map (·.2)).Nodup → (∀ S, S ∈ L.map (·.2) ↔ Low n (ah ps) S) → L.length ≤ 32 → Q (.ref p) H'
theorem sc_lowers : FnScope ["_law_order_so", "_law_aheads_here", "_law_found_so", "_law_item", "_law_more", "_law_lot", "_law_one"] ["_law_order_so"] (defScope (top 38)) := ⟨rfl, rfl, rfl, by decide +kernel, rfl, by decide +kernel, by decide +kernel⟩
theorem ok_lowers {f : Addr} {fd : FuncData} (F : FnP K "_law_lowers" 38 f fd) (T : Tp mg) (C : Cl P w K mg base CX0 1 "_law_aheads" (spAheads K)) : FnOk P w K mg base CX0 2 f fd ["_law_order_so"] (spLowers K) := by
  refine F.ok sc_lowers (fun vs H Q E h => ?_) (fun cdv A outer s H vs Q E hr h => ⟨_, PSs.nox (pss_cons
      (ps_par (i := 1) (j := 2) (by rfl) sc_lowers.nd rfl rfl (by decide) rfl rfl (pa_cons (pe_cl C hr (by decide) (by rfl) pass0 (pa_cons (pv 0) pa_nil)) (pa_cons (pe_lst (pa_cons (pe_tup pa_nil) pa_nil)) pa_nil)) (by rfl))
      (pss_cons (ps_for PassesOwn.never rfl (pi_range1 rfl T.range (pa_cons (pe_ix ix_tup (pv 0) pe_int (fun _ _ => rfl)) pa_nil)) (pg_name (i := 3) sc_lowers.nd rfl (Or.inl rfl))
        (pss_cons (ps_set (i := 4) sc_lowers.nd rfl (.inl rfl) (pe_lst pa_nil))
        (pss_cons (ps_for PassesOwn.never rfl (pi_list (pv 2)) (pg_name (i := 5) sc_lowers.nd rfl (Or.inr rfl))
          (pss_one (ps_if (pt_cmpR (op_eqD hr.units)
              (pe_lc (own := [("_law_one", 6)]) (g := gName 6) rfl sc_lowers.nd (pi_list (pe_ix ix_list (pv 1) (pv 3) (fun _ _ => rfl))) (blkOk_by (N := ["_law_order_so", "_law_aheads_here", "_law_found_so", "_law_item", "_law_more", "_law_lot", "_law_one"]) (sc := defScope (top 38)) (by decide +kernel)) (fun _ _ _ _ _ => pg_name (i := 6) sc_lowers.nd rfl (Or.inl rfl))
                (fun _ _ _ _ _ => pts_one (pt_cmpR (ninK K) (pv 6) (pv 5) rfl)) (fun _ _ _ _ _ => pe_int)) (pe_lst pa_nil) (nomark _))
            (pss_one (ps_expr (pe_bm PySem.F.plainAttrs_list PySem.F.slot_list_append PySem.F.type_list_append mt_append (pv 4) (pa_cons (pe_op op_catA (pv 5) (pe_tup (pa_cons (pv 3) pa_nil))) pa_nil)))) pss_nil)))
        (pss_one (ps_set (i := 2) sc_lowers.nd rfl (.inl rfl) (pe_op op_cat (pv 2) (pv 4))))))) 
      (pss_one (ps_ret (pe_callB (cr_sortTs hr.units) (by rfl) T.sorted (by decide +kernel) (pa_cons (pv 2) pa_nil)))))), ?_⟩)
  · obtain ⟨o, n, ps, rfl, _⟩ := h
    rfl
  · obtain ⟨o, n, ps, rfl, hO, hn, n5, q⟩ := h
    have n0 := hn.n0
    have n20 := hn.n20
    have rel := ah_rel hn.ok n20
    refine ⟨o, rfl, o, n, ps, rfl, hO, hn, fun H1 x s1 hx => ⟨Nat.zero_le _, fun e ne => ⟨by show 1 ≤ sizeLine; decide, fun g ng => ⟨_, _, rfl, ?_⟩⟩⟩⟩
    have hx := hx.imp (N' := fun _ => True) fun _ _ _ _ => True.intro
    obtain ⟨oo, p, ts, rfl, h1, h2, h3, h4⟩ := hO.same s1
    have s2 : Same H1 (upd (upd H1 e (.tup [])) g (.lst [.ref e])) := same_new (same_put (Same.refl _) ne) ng
    have he2 : upd (upd H1 e (.tup [])) g (.lst [.ref e]) e = some (.tup (([] : List Int).map V.int)) := same_put (Same.refl _) ng _ _ upd_same
    have hg2 : upd (upd H1 e (.tup [])) g (.lst [.ref e]) g = some (.lst ([(e, ([] : List Int))].map fun p => V.ref p.1)) := upd_same
    generalize upd (upd H1 e (.tup [])) g (.lst [.ref e]) = H2 at s2 he2 hg2 ⊢
    refine ⟨.ref oo, rfl, oo, _, 0, .int n, rfl, rfl, same_T s2 h1, rfl, n, rfl, by omega, by omega, ?_⟩
    refine for_range (lo := 0) (n := n.toNat) (fun i σ H' => ∃ g y3 y4 y5, ∃ L : List (Addr × List Int), σ = [some (.ref oo), some x, some (.ref g), y3, y4, y5, none] ∧ Same H2 H' ∧ H' g = some (.lst (L.map fun p => V.ref p.1)) ∧ TpsAt H' L ∧ (L.map (·.2)).Nodup ∧ L.length ≤ 2 ^ i ∧ ∀ S, S ∈ L.map (·.2) ↔ LowB n (ah ps) i S)
      ⟨g, _, _, _, _, rfl, Same.refl _, hg2, (fun p hp => by rw [List.mem_singleton.mp hp]; exact he2), by simp, by simp, fun S => by rw [show ((0 : Nat) : Int) = 0 from rfl, lowB_zero]; simp⟩ (fun i σ H3 hi hP => ?_) (fun σ H3 hP => ?_)
    · obtain ⟨g, y3, y4, y5, L, rfl, s3, hg, hT, hnd, hlen, hmem⟩ := hP
      have hi5 : i ≤ 4 := by omega
      have hlen16 : L.length ≤ 16 := Nat.le_trans hlen (Nat.pow_le_pow_right (by decide) hi5)
      refine ⟨Nat.zero_le _, fun m nm => ?_⟩
      have s4 : Same H3 (upd H3 m (.lst [])) := same_put (Same.refl _) nm
      have hm4 : upd H3 m (.lst []) m = some (.lst (([] : List (Addr × List Int)).map fun p => V.ref p.1)) := upd_same
      have nmH : H2 m = none := free_of s3 nm
      have ngm : g ≠ m := ne_of_none hg nm
      show L2.tSeq _ _ _ _ (upd H3 m (.lst []))
      generalize upd H3 m (.lst []) = H4 at s4 hm4 ⊢
      have s34 := s3.trans s4
      refine ⟨.ref g, rfl, g, rfl, ⟨_, .inl (.inl (s4 _ _ hg))⟩, ?_⟩
      let okS : List Int → Bool := fun S => (rng n).all fun j => !ah ps j i || decide (j ∈ S)
      refine for_list (K := K) (a := g) (xs := L.map fun p => V.ref p.1) (fun j σ H' => ∃ y5, ∃ M : List (Addr × List Int), σ = [some (.ref oo), some x, some (.ref g), some (.int (0 + (i : Int))), some (.ref m), y5, none] ∧ (∀ b u, b ≠ m → H4 b = some u → H' b = some u) ∧ H' m = some (.lst (M.map fun p => V.ref p.1)) ∧ TpsAt H' M ∧
          M.map (·.2) = (((L.take j).map (·.2)).filter okS).map fun S => S ++ [(i : Int)])
        ⟨_, [], rfl, fun b u _ e => e, hm4, (fun p hp => by cases hp), by simp⟩ (fun j σ H5 _ hP => ?_) (fun j v σ H5 hj hP => ?_) (fun σ H5 hP => ?_)
      · obtain ⟨y5, M, rfl, kp, _⟩ := hP
        exact .inl (.inl (kp g _ ngm (s4 _ _ hg)))
      · obtain ⟨y5, M, rfl, kp, hm5, hM, eM⟩ := hP
        obtain ⟨t, gt, rfl⟩ := get_map hj
        have ht4 := s4 _ _ (hT t (List.mem_of_getElem? gt))
        have ht5 := kp _ _ (ne_of ht4 hm4 (by intro z; cases z)) ht4
        have kpS : Same H2 H5 := fun b u e => kp b u (ne_of_none e nmH) (s34 b u e)
        have hx5 := hx.same (s2.trans kpS)
        obtain ⟨p2, xs, d, js, rfl, e1, e2, e3, e4, e5⟩ := hx5.get (i := (i : Int)) (by omega) (by omega)
        refine ⟨.ref p2, rfl, .int (0 + (i : Int)), rfl, p2, xs, 0 + (i : Int), .ref d, rfl, rfl, .inl (.inl e1), by rw [Int.zero_add]; exact e2, d, rfl, ⟨_, .inl (.inl e3)⟩, fun D hD => ?_⟩
        refine lcW (walks_list (.inl (.inl e3))) hD (by omega) (fun y => decide (y ∉ t.2)) (fun _ => (1 : Int)) V.int (fun y v H6 kY kN hy s6 hv hY hN => ⟨rfl, ?_⟩) (fun H6 s6 hl6 => ?_)
        · subst hv
          refine ⟨.int y, rfl, .ref t.1, rfl, t.1, _, rfl, .inr (.inl (.inl (s6 _ _ ht5))), rfl, flat_ints t.2, ?_⟩
          refine ⟨_, rfl, ?_⟩
          rw [inV_int]
          by_cases e : y ∈ t.2
          · exact iteFF (by simp [e]) (hN (by simp [e]) _ (Same.refl _))
          · exact iteTT (by simp [e]) (hY (by simp [e]) _ (Same.refl _))
        · refine ⟨Nat.zero_le _, fun r nr => ?_⟩
          have s7 : Same H6 (upd H6 r (.lst [])) := same_put (Same.refl _) nr
          have hl7 := s7 _ _ hl6
          have hr7 : upd H6 r (.lst []) r = some (.lst []) := upd_same
          generalize upd H6 r (.lst []) = H7 at s7 hl7 hr7 ⊢
          refine ⟨_, _, dp_list hl7, dp_list0 hr7, sh_list _, sh_list [], ?_⟩
          rw [eqv_list]
          refine ⟨_, rfl, ?_⟩
          have s57 := s6.trans s7
          have eok : decide (((js.filter fun y => decide (y ∉ t.2)).map fun _ => (1 : Int)) = []) = okS t.2 := by
            rw [Bool.eq_iff_iff, decide_eq_true_eq, List.map_eq_nil_iff, List.filter_eq_nil_iff, put_test rel]
            constructor
            · intro h y hy
              have := h y ((e5 y).mpr hy)
              simpa using this
            · intro h y hy
              have := h y ((e5 y).mp hy)
              simpa using this
          rw [eok]
          have ek : (L.take (j + 1)).map (·.2) = (L.take j).map (·.2) ++ [t.2] := by
            rw [List.take_add_one, gt, List.map_append]
            rfl
          have keep : ∀ H8 : Hp, (∀ b u, b ≠ m → H5 b = some u → H8 b = some u) → ∀ b u, b ≠ m → H4 b = some u → H8 b = some u := fun H8 h b u hb e => h b u hb (kp b u hb e)
          cases eo : okS t.2 with
          | false =>
            refine iteF ⟨_, M, rfl, keep H7 fun b u _ e => s57 b u e, s57 _ _ hm5, hM.same s57, ?_⟩
            rw [eM, ek, List.filter_append, List.filter_cons_of_neg (by rw [eo]; decide)]
            simp
          | true =>
            refine iteT ⟨.ref m, rfl, .inl ⟨rfl, _, .inl (.inl (s57 _ _ hm5))⟩, .ref t.1, rfl, .int (0 + (i : Int)), rfl, by show 1 ≤ sizeLine; decide, fun u nu => ?_⟩
            have s8 : Same H7 (upd H7 u (.tup [.int (0 + (i : Int))])) := same_put (Same.refl _) nu
            have ht8 := s8 _ _ (s57 _ _ ht5)
            have tl : t.2.length ≤ 5 := by
              have hb := (hmem t.2).mp (List.mem_map_of_mem (List.mem_of_getElem? gt))
              have := asc_len t.2 0 n hb.1.asc hb.1.bd
              omega
            refine catA1 (.inl (.inl ht8)) upd_same (by simp) (by rw [List.length_map]; show _ + 1 ≤ _; omega) fun c H9 s9 hc _ => ?_
            have s59 := s57.trans (s8.trans s9)
            have lM : M.length ≤ 16 := by
              have := congrArg List.length eM
              rw [List.length_map, List.length_map] at this
              have h2 : (((L.take j).map (·.2)).filter okS).length ≤ L.length := Nat.le_trans (List.length_filter_le _ _) (by rw [List.length_map, List.length_take]; omega)
              omega
            have hm9 := s59 _ _ hm5
            have ncm : c ≠ m := ne_of hc hm9 (by intro z; cases z)
            refine ⟨m, _, _, rfl, rfl, hm9, by rw [List.length_map]; exact small20 (by omega), ?_⟩
            refine ⟨_, M ++ [(c, t.2 ++ [(i : Int)])], rfl, keep _ fun b u hb e => by rw [upd_ne hb]; exact s59 b u e, by rw [upd_same, List.map_append]; rfl, fun p hp => ?_, ?_⟩
            · rcases List.mem_append.mp hp with hp | hp
              · have e := s59 _ _ (hM p hp)
                rw [upd_ne (ne_of e hm9 (by intro z; cases z))]
                exact e
              · rw [List.mem_singleton.mp hp, upd_ne ncm, hc, List.map_append, Int.zero_add]
                rfl
            · rw [List.map_append, eM, ek, List.filter_append, List.filter_cons_of_pos (by rw [eo]), List.map_append]
              rfl
      · obtain ⟨y5, M, rfl, kp, hm5, hM, eM⟩ := hP
        rw [List.length_map, List.take_length] at eM
        have hg5 := kp g _ ngm (s4 _ _ hg)
        have kpS : Same H2 H5 := fun b u e => kp b u (ne_of_none e nmH) (s34 b u e)
        have lM : M.length ≤ L.length := by
          have := congrArg List.length eM
          rw [List.length_map, List.length_map] at this
          have h2 : ((L.map (·.2)).filter okS).length ≤ L.length := Nat.le_trans (List.length_filter_le _ _) (by rw [List.length_map]; exact Nat.le_refl _)
          omega
        refine ⟨.ref g, rfl, .ref m, rfl, g, m, _, _, rfl, rfl, hg5, hm5, by rw [List.length_map, List.length_map]; exact Nat.le_of_lt (small20 (by omega)), fun r nr => ?_⟩
        have s6 : Same H5 (upd H5 r (.lst ((L.map fun p => V.ref p.1) ++ M.map fun p => V.ref p.1))) := same_put (Same.refl _) nr
        refine ⟨r, _, _, _, L ++ M, rfl, kpS.trans s6, by rw [upd_same, List.map_append], fun p hp => ?_, ?_, ?_, fun S => ?_⟩
        · rcases List.mem_append.mp hp with hp | hp
          · have e4 := s4 _ _ (hT p hp)
            exact s6 _ _ (kp _ _ (ne_of e4 hm4 (by intro z; cases z)) e4)
          · exact s6 _ _ (hM p hp)
        · rw [List.map_append, eM]
          refine nodup_snoc hnd okS fun S hS hi => ?_
          have := ((hmem S).mp hS).2 _ hi
          omega
        · rw [List.length_append, Nat.pow_succ]
          omega
        · rw [List.map_append, List.mem_append, eM, hmem, show ((i + 1 : Nat) : Int) = (i : Int) + 1 by omega, lowB_step rel (by omega) (by omega)]
          constructor
          · rintro (h | h)
            · exact .inl h
            · obtain ⟨U, hU, rfl⟩ := List.mem_map.mp h
              obtain ⟨u1, u2⟩ := List.mem_filter.mp hU
              exact .inr ⟨U, rfl, (hmem U).mp u1, (put_test rel).mp u2⟩
          · rintro (h | ⟨U, rfl, h1, h2⟩)
            · exact .inl h
            · exact .inr (List.mem_map.mpr ⟨U, List.mem_filter.mpr ⟨(hmem U).mpr h1, (put_test rel).mpr h2⟩, rfl⟩)
    · obtain ⟨g, y3, y4, y5, L, rfl, s3, hg, hT, hnd, hlen, hmem⟩ := hP
      have hm : ∀ S, S ∈ L.map (·.2) ↔ Low n (ah ps) S := fun S => by
        rw [hmem]
        exact ⟨fun h => h.1, fun h => ⟨h, fun x hx => by have := h.bd x hx; omega⟩⟩
      have hnil : ([] : List Int) ∈ L.map (·.2) := (hm []).mpr ⟨.nil, (fun x hx => by cases hx), fun x hx => by cases hx⟩
      refine ⟨.ref g, rfl, g, L, rfl, .inl (.inl hg), hT, fun _ => ?_, fun L' r pm up nr => ?_⟩
      · obtain ⟨p, hp, e⟩ := List.mem_map.mp hnil
        exact ⟨p, hp, e⟩
      · have s4 := s1.trans (s2.trans s3)
        have pm2 : (L'.map (·.2)).Perm (L.map (·.2)) := pm.map _
        refine q _ r L' (same_new s4 nr) (free_of s4 nr) upd_same (fun p hp => same_put (Same.refl _) nr _ _ (hT p (pm.mem_iff.mp hp))) up (pm2.nodup_iff.mpr hnd) (fun S => (pm2.mem_iff).trans (hm S)) ?_
        rw [pm.length_eq]
        exact Nat.le_trans hlen (Nat.pow_le_pow_right (n := 2) (by decide) (show n.toNat ≤ 5 by omega))
end
end K37
/-! ## L7 -/
namespace K37
open PySem PySem.Spec PyProof.Rows L2
theorem nodup_sub {a b : List Int} (h : a.Nodup) (hb : ∀ x ∈ a, x ∈ b) : a.length ≤ b.length := by
  induction a generalizing b with
  | nil => exact Nat.zero_le _
  | cons x a ih =>
    have hx := hb x List.mem_cons_self
    have n := List.nodup_cons.mp h
    have := ih n.2 (b := b.erase x) fun y hy => by
      have e : y ≠ x := fun e => n.1 (e ▸ hy)
      exact (List.mem_erase_of_ne e).mpr (hb y (List.mem_cons_of_mem _ hy))
    rw [List.length_erase_of_mem hx] at this
    have := List.length_pos_of_mem hx
    rw [List.length_cons]
    omega
section
variable {P : Program} {w : World} {K : PySem.W.Frag} {mg : Str → Option Value} {base : Heap}
/-! ### _law_lots -/
def spLots (K : PySem.W.Frag) : Sp := fun vs H Q _ => ∃ (a : Addr) (js : List Int), vs = [.ref a] ∧ SqL K H a (js.map V.int) ∧ Asc js ∧ js.length ≤ 5 ∧ ∀ H' p (L : List (Addr × List Int)), Same H H' → H p = none → H' p = some (.lst (L.map fun q => V.ref q.1)) → TpsAt H' L → (∀ S, S ∈ L.map (·.2) ↔ S ≠ [] ∧ LotB js S) → L.length ≤ 32 → Q (.ref p) H'
theorem sc_lots : FnScope ["_law_items", "_law_rows_so", "_law_item", "_law_row"] ["_law_items"] (defScope (top 39)) := ⟨rfl, rfl, rfl, by decide +kernel, rfl, by decide +kernel, by decide +kernel⟩
theorem cut1L (xs : List V) : cutV xs (some 1) none = xs.drop 1 := cut1T xs
theorem ok_lots {f : Addr} {fd : FuncData} (F : FnP K "_law_lots" 39 f fd) (T : Tp mg) : FnOk P w K mg base CX0 1 f fd ["_law_items"] (spLots K) := by
  refine F.ok sc_lots (fun vs H Q E h => ?_) (fun cdv A outer s H vs Q E hr h => ⟨_, PSs.nox (pss_cons
      (ps_set (i := 1) sc_lots.nd rfl (.inl rfl) (pe_lst (pa_cons (pe_tup pa_nil) pa_nil)))
      (pss_cons (ps_for PassesOwn.never rfl (pi_list (pv 0)) (pg_name (i := 2) sc_lots.nd rfl (Or.inr rfl))
        (pss_one (ps_set (i := 1) sc_lots.nd rfl (.inl rfl) (pe_op op_cat (pv 1)
          (pe_lc (own := [("_law_row", 3)]) (g := gName 3) (tt := tYes) rfl sc_lots.nd (pi_list (pv 1)) (blkOk_by (N := ["_law_items", "_law_rows_so", "_law_item", "_law_row"]) (sc := defScope (top 39)) (by decide +kernel)) (fun _ _ _ _ _ => pg_name (i := 3) sc_lots.nd rfl (Or.inl rfl)) (fun _ _ _ _ _ => pts_nil)
            (fun _ _ _ _ _ => pe_op (catAK K) (pv 3) (pe_tup (pa_cons (pv 2) pa_nil))))))))
      (pss_one (ps_ret (pe_slice sl_list (pe_callB (cr_sortTs hr.units) (by rfl) T.sorted (by decide +kernel) (pa_cons (pv 1) pa_nil)) (po_some pe_int) po_none))))), ?_⟩)
  · obtain ⟨a, js, rfl, _⟩ := h
    rfl
  · obtain ⟨a, js, rfl, hS, asc, hl5, q⟩ := h
    refine ⟨Nat.zero_le _, fun e ne => ⟨by show 1 ≤ sizeLine; decide, fun g ng => ?_⟩⟩
    have s2 : Same H (upd (upd H e (.tup [])) g (.lst [.ref e])) := same_new (same_put (Same.refl _) ne) ng
    have he2 : upd (upd H e (.tup [])) g (.lst [.ref e]) e = some (.tup (([] : List Int).map V.int)) := same_put (Same.refl _) ng _ _ upd_same
    have hg2 : upd (upd H e (.tup [])) g (.lst [.ref e]) g = some (.lst ([(e, ([] : List Int))].map fun p => V.ref p.1)) := upd_same
    show L2.tSeq _ _ _ _ (upd (upd H e (.tup [])) g (.lst [.ref e]))
    generalize upd (upd H e (.tup [])) g (.lst [.ref e]) = H2 at s2 he2 hg2 ⊢
    refine ⟨.ref a, rfl, a, rfl, ⟨_, s2.seq hS⟩, ?_⟩
    refine for_list (K := K) (a := a) (xs := js.map V.int) (fun j σ H' => ∃ g y2, ∃ L : List (Addr × List Int), σ = [some (.ref a), some (.ref g), y2, none] ∧ Same H H' ∧ H' g = some (.lst (L.map fun p => V.ref p.1)) ∧ TpsAt H' L ∧ (L.map (·.2)).Nodup ∧ L.length ≤ 2 ^ j ∧ ∀ S, S ∈ L.map (·.2) ↔ LotB (js.take j) S)
      ⟨g, _, _, rfl, s2, hg2, (fun p hp => by rw [List.mem_singleton.mp hp]; exact he2), by simp, by simp, fun S => by rw [List.take_zero, lotB_nil]; simp⟩ (fun j σ H3 _ hP => ?_) (fun j v σ H3 hj hP => ?_) (fun σ H3 hP => ?_)
    · obtain ⟨g, y2, L, rfl, s3, _⟩ := hP
      exact s3.seq hS
    · obtain ⟨g, y2, L, rfl, s3, hg, hT, hnd, hlen, hmem⟩ := hP
      obtain ⟨i, gi, rfl⟩ := get_map hj
      have hjl := (List.getElem?_eq_some_iff.mp gi).1
      have hlen16 : L.length ≤ 16 := Nat.le_trans hlen (Nat.pow_le_pow_right (n := 2) (by decide) (show j ≤ 4 by omega))
      have hlt : ∀ x ∈ js.take j, x < i := fun x hx => by
        have e : js.drop j = i :: js.drop (j + 1) := by
          rw [List.drop_eq_getElem_cons hjl]
          congr 1
          exact (List.getElem?_eq_some_iff.mp gi).2
        have h := asc
        rw [← List.take_append_drop j js, e] at h
        exact (List.pairwise_append.mp h).2.2 x hx i List.mem_cons_self
      refine ⟨.ref g, rfl, .ref g, rfl, g, rfl, ⟨_, .inl (.inl hg)⟩, fun D hD => ?_⟩
      refine lcN (walks_list (.inl (.inl hg))) hD (by omega) (fun _ => true) (fun t y H => ∃ c, y = V.ref c ∧ H c = some (.tup ((t.2 ++ [i]).map V.int)))
        (fun t y H H' s h => by obtain ⟨c, e, h⟩ := h; exact ⟨c, e, s _ _ h⟩) (fun t v H4 kY kN ht s4 hv hacc hY _ => ?_) (fun H4 ys s4 hl hyl hys => ?_)
      · subst hv
        refine ⟨rfl, yesI ⟨.ref t.1, rfl, .int i, rfl, by show 1 ≤ sizeLine; decide, fun u nu => ?_⟩⟩
        have s5 : Same H4 (upd H4 u (.tup [.int i])) := same_put (Same.refl _) nu
        have tl : t.2.length ≤ 5 := by
          have hb := (hmem t.2).mp (List.mem_map_of_mem ht)
          have := nodup_sub (asc_nodup hb.1) fun x hx => List.mem_of_mem_take (hb.2 x hx)
          omega
        refine catA1 (.inl (.inl (s5 _ _ (s4 _ _ (hT t ht))))) upd_same (by simp) (by rw [List.length_map]; show _ + 1 ≤ _; omega) fun c H6 s6 hc _ => ?_
        obtain ⟨acc, ha⟩ := hacc
        have hD6 := s6 _ _ (s5 _ _ ha)
        refine hY rfl _ _ (s5.trans s6) ⟨c, rfl, ?_⟩
        rw [del_ne (ne_of hc hD6 (by intro z; cases z)), hc, List.map_append]
        rfl
      · rw [filter_all] at hyl hys
        obtain ⟨M, e1, e2, e3⟩ := tps_of (g := fun t : Addr × List Int => t.2 ++ [i]) hyl hys
        have e3 : TpsAt H4 M := e3.same same_of_del
        have lM : M.length = L.length := by
          have := congrArg List.length e2
          rw [List.length_map, List.length_map] at this
          exact this
        have eM : M.map (·.2) = ((L.map (·.2)).filter fun _ => true).map fun S => S ++ [i] := by
          rw [filter_all, e2, List.map_map]
          rfl
        rw [e1] at hl
        refine ⟨g, D, _, _, rfl, rfl, s4 _ _ hg, hl, by rw [List.length_map, List.length_map]; exact Nat.le_of_lt (small20 (by omega)), fun r nr => ?_⟩
        have s5 : Same H4 (upd H4 r (.lst ((L.map fun p => V.ref p.1) ++ M.map fun p => V.ref p.1))) := same_put (Same.refl _) nr
        refine ⟨r, _, L ++ M, rfl, s3.trans (s4.trans s5), by rw [upd_same, List.map_append], fun p hp => ?_, ?_, ?_, fun S => ?_⟩
        · rcases List.mem_append.mp hp with hp | hp
          · exact s5 _ _ (s4 _ _ (hT p hp))
          · exact s5 _ _ (e3 p hp)
        · rw [List.map_append, eM]
          refine nodup_snoc hnd _ fun S hS hi => ?_
          have := hlt i (((hmem S).mp hS).2 _ hi)
          omega
        · rw [List.length_append, Nat.pow_succ]
          omega
        · rw [List.map_append, List.mem_append, eM, filter_all, hmem, List.take_add_one, gi]
          show _ ↔ LotB (js.take j ++ [i]) S
          rw [lotB_step hlt]
          constructor
          · rintro (h | h)
            · exact .inl h
            · obtain ⟨U, hU, rfl⟩ := List.mem_map.mp h
              exact .inr ⟨U, rfl, (hmem U).mp hU⟩
          · rintro (h | ⟨U, rfl, h1⟩)
            · exact .inl h
            · exact .inr (List.mem_map.mpr ⟨U, (hmem U).mpr h1, rfl⟩)
    · obtain ⟨g, y2, L, rfl, s3, hg, hT, hnd, hlen, hmem⟩ := hP
      rw [List.length_map, List.take_length] at hmem
      rw [List.length_map] at hlen
      have hlen32 : L.length ≤ 32 := Nat.le_trans hlen (Nat.pow_le_pow_right (n := 2) (by decide) hl5)
      have hnil : ([] : List Int) ∈ L.map (·.2) := (hmem []).mpr ⟨.nil, fun x hx => by cases hx⟩
      refine ⟨.ref g, rfl, g, L, rfl, .inl (.inl hg), hT, fun _ => ?_, fun L' r pm up nr => ?_⟩
      · obtain ⟨p, hp, e⟩ := List.mem_map.mp hnil
        exact ⟨p, hp, e⟩
      · refine ⟨1, rfl, r, _, rfl, .inl (.inl upd_same), fun u nu => ?_⟩
        have pm2 : (L'.map (·.2)).Perm (L.map (·.2)) := pm.map _
        have hnil' := pm2.mem_iff.mpr hnil
        have nd' := pm2.nodup_iff.mpr hnd
        have s5 := same_new (o := HO.lst (cutV (L'.map fun q => V.ref q.1) (some 1) none)) (same_new (o := HO.lst (L'.map fun q => V.ref q.1)) s3 nr) nu
        have s56 : Same H3 (upd (upd H3 r (.lst (L'.map fun q => V.ref q.1))) u (.lst (cutV (L'.map fun q => V.ref q.1) (some 1) none))) := same_new (same_put (Same.refl _) nr) nu
        -- the first is ()
        cases L' with
        | nil => cases hnil'
        | cons p0 L1 =>
          have e0 : p0.2 = [] := by
            rcases List.mem_cons.mp hnil' with e | e
            · exact e.symm
            · obtain ⟨z, hz, ez⟩ := List.mem_map.mp e
              have h := (List.pairwise_cons.mp up).1 z hz
              rw [ez] at h
              cases e1 : p0.2 with
              | nil => rfl
              | cons c r =>
                rw [e1] at h
                cases h
          have n0 : ([] : List Int) ∉ L1.map (·.2) := by
            have : p0.2 ∉ L1.map (·.2) := (List.nodup_cons.mp nd').1
            rw [e0] at this
            exact this
          refine q _ u L1 s5 (free_of (same_new s3 nr) nu) (by rw [upd_same, cut1L]; rfl) (fun p hp => s56 _ _ (hT p (pm.mem_iff.mp (List.mem_cons_of_mem _ hp)))) (fun S => ?_) ?_
          · rw [← hmem, ← pm2.mem_iff, List.map_cons, List.mem_cons]
            show _ ↔ S ≠ [] ∧ (S = p0.2 ∨ _)
            rw [e0]
            constructor
            · intro h
              exact ⟨fun e => n0 (e ▸ h), .inr h⟩
            · rintro ⟨h1, h2 | h2⟩
              · exact absurd h2 h1
              · exact h2
          · have := pm.length_eq
            rw [List.length_cons] at this
            omega
end
end K37
/-! ## L8 -/
namespace K37
open PySem PySem.Spec PyProof.Rows L2
theorem for_enum {K : PySem.W.Frag} {a : Addr} {xs : List V} {g : TG} {tb : TS} {D : Ends} {σ : L2.St} {H : Hp} (Pv : Nat → L2.St → Hp → Prop) (h0 : Pv 0 σ H) (hl : ∀ i σ H, i ≤ xs.length → Pv i σ H → SqL K H a xs)
    (hs : ∀ (i : Nat) x σ H T, xs[i]? = some x → Pv i σ H → H T = none → g (.ref T) σ (upd H T (.tup [.int (i : Nat), x])) fun σ2 H2 => tb { D with nx := Pv (i + 1), ct := Pv (i + 1), bk := D.nx } σ2 H2) (hd : ∀ σ H, Pv xs.length σ H → D.nx σ H) :
    ∃ W : Nat → Nat → L2.St → Hp → Prop, (∃ m, W 0 m σ H) ∧ ∀ i m σ H, W i m σ H →
      ((Ite K a).stop i H ∧ D.nx σ H) ∨ ((Ite K a).go i H ∧ ∃ N : L2.St → Hp → Prop, (∀ σ' H', N σ' H' → ∃ m', m' < m ∧ W (i + 1) m' σ' H') ∧ ∀ x H', (Ite K a).yld i H x H' → g x σ H' fun σ2 H2 => tb { D with nx := N, ct := N, bk := D.nx } σ2 H2) := by
  refine ⟨fun i m σ H => m = xs.length - i ∧ i ≤ xs.length ∧ Pv i σ H, ⟨xs.length, by simp, Nat.zero_le _, h0⟩, ?_⟩
  rintro i m σ H ⟨rfl, hi, p⟩
  have q := hl i σ H hi p
  by_cases hlt : i < xs.length
  · refine .inr ⟨⟨xs, xs[i], q, by simp [hlt]⟩, Pv (i + 1), fun σ' H' p' => ⟨xs.length - (i + 1), by omega, rfl, hlt, p'⟩, fun v H' y => ?_⟩
    obtain ⟨T, x, rfl, nT, rfl, hx⟩ := y
    exact hs i x σ H T (hx xs q) p nT
  · have e : i = xs.length := by omega
    subst e
    exact .inl ⟨⟨xs, q, Nat.le_refl _⟩, hd σ H p⟩
section
variable {P : Program} {w : World} {K : PySem.W.Frag} {mg : Str → Option Value} {base : Heap}
/-! ### _law_free -/
def frB (n : Int) (R : Rl) (S : List Int) (i : Int) : Bool := (decide (i ∉ S) && (rng n).all fun j => !R j i || decide (j ∈ S)) || (decide (i ∈ S) && !S.any fun z => R i z)
def spFree (K : PySem.W.Frag) : Sp := fun vs H Q _ => ∃ (x : V) (a : Addr) (N : Addr → Prop) (n : Int) (R : Rl) (S : List Int), vs = [x, .ref a] ∧ AhL N H x n R ∧ Rel n R ∧ 0 ≤ n ∧ n ≤ 20 ∧ SqT K H a (S.map V.int) ∧ (∀ i ∈ S, 0 ≤ i ∧ i < n) ∧ S.length ≤ 20 ∧
  ∀ H' p, Same H H' → H p = none → H' p = some (.lst ((frL n R S).map V.int)) → Q (.ref p) H'
theorem sc_free : FnScope ["_law_aheads_here", "_law_some", "_law_found_so", "_law_item", "_law_near", "_law_one", "_law_far"] ["_law_aheads_here", "_law_some"] (defScope (top 40)) := ⟨rfl, rfl, rfl, by decide +kernel, rfl, by decide +kernel, by decide +kernel⟩
theorem ok_free {f : Addr} {fd : FuncData} (F : FnP K "_law_free" 40 f fd) (T : Tp mg) : FnOk P w K mg base CX0 1 f fd ["_law_aheads_here", "_law_some"] (spFree K) := by
  refine F.ok sc_free (fun vs H Q E h => ?_) (fun cdv A outer s H vs Q E hr h => ⟨_, PSs.nox (pss_cons
      (ps_set (i := 2) sc_free.nd rfl (.inl rfl) (pe_lst pa_nil))
      (pss_cons (ps_for PassesOwn.never rfl (pi_enum (by rfl) T.enum (pa_cons (pv 0) pa_nil)) (pg_tup rfl (pgs_cons (pg_name (i := 3) sc_free.nd rfl (Or.inr rfl)) (pgs_cons (pg_name (i := 4) sc_free.nd rfl (Or.inl rfl)) pgs_nil)))
        (pss_cons (ps_if (PW.pt (pw_and (pt_cmpR (ninK K) (pv 3) (pv 1) rfl) (pw_and1 (pt_cmpR (op_eqD hr.units)
            (pe_lc (own := [("_law_one", 5)]) (g := gName 5) rfl sc_free.nd (pi_list (pv 4)) (blkOk_by (N := ["_law_aheads_here", "_law_some", "_law_found_so", "_law_item", "_law_near", "_law_one", "_law_far"]) (sc := defScope (top 40)) (by decide +kernel)) (fun _ _ _ _ _ => pg_name (i := 5) sc_free.nd rfl (Or.inl rfl))
              (fun _ _ _ _ _ => pts_one (pt_cmpR (ninK K) (pv 5) (pv 1) rfl)) (fun _ _ _ _ _ => pv 5)) (pe_lst pa_nil) (nomark _)))))
          (pss_one (ps_expr (pe_bm PySem.F.plainAttrs_list PySem.F.slot_list_append PySem.F.type_list_append mt_append (pv 2) (pa_cons (pv 3) pa_nil)))) pss_nil)
        (pss_one (ps_if (PW.pt (pw_and (pt_cmpR (inK K) (pv 3) (pv 1) rfl) (pw_and1 (pt_cmpR (op_eqD hr.units)
            (pe_lc (own := [("_law_far", 6)]) (g := gName 6) rfl sc_free.nd (pi_tup (pv 1)) (blkOk_by (N := ["_law_aheads_here", "_law_some", "_law_found_so", "_law_item", "_law_near", "_law_one", "_law_far"]) (sc := defScope (top 40)) (by decide +kernel)) (fun _ _ _ _ _ => pg_name (i := 6) sc_free.nd rfl (Or.inl rfl))
              (fun _ _ _ _ _ => pts_one (pt_cmpR (inK K) (pv 3) (pe_ix (ixL K) (pv 0) (pv 6) (fun _ _ => rfl)) rfl)) (fun _ _ _ _ _ => pv 6)) (pe_lst pa_nil) (nomark _)))))
          (pss_one (ps_expr (pe_bm PySem.F.plainAttrs_list PySem.F.slot_list_append PySem.F.type_list_append mt_append (pv 2) (pa_cons (pv 3) pa_nil)))) pss_nil))))
      (pss_one (ps_ret (pv 2))))), ?_⟩)
  · obtain ⟨x, a, N, n, R, S, rfl, _⟩ := h
    rfl
  · obtain ⟨_, a, N, n, R, S, rfl, hA, rel, n0, n20, hS, hB, hlS, q⟩ := h
    have hA0 := hA
    obtain ⟨p, ds, rfl, _, hp, hds, hrow⟩ := hA0
    refine ⟨Nat.zero_le _, fun g ng => ?_⟩
    have s1 : Same H (upd H g (.lst [])) := same_put (Same.refl _) ng
    refine ⟨.ref p, rfl, p, _, rfl, .inl (.inl (s1 _ _ hp)), ?_⟩
    refine for_enum (K := K) (a := p) (xs := ds.map V.ref) (fun i σ H' => ∃ y3 y4, σ = [some (.ref p), some (.ref a), some (.ref g), y3, y4, none, none] ∧ Same H H' ∧ H' g = some (.lst ((((rng n).take i).filter (frB n R S)).map V.int)))
      ⟨_, _, rfl, s1, upd_same⟩ (fun i σ H' _ hP => ?_) (fun i v σ H2 U hv hP nU => ?_) (fun σ H' hP => ?_)
    · obtain ⟨y3, y4, rfl, s2, _⟩ := hP
      exact .inl (.inl (s2 _ _ hp))
    · obtain ⟨y3, y4, rfl, s2, hg⟩ := hP
      obtain ⟨d, hd, rfl⟩ := get_map hv
      obtain ⟨_, js, hj1, hj2, hj3⟩ := hrow i d hd
      have hil : i < n.toNat := by
        have := (List.getElem?_eq_some_iff.mp hd).1
        omega
      have s3 : Same H (upd H2 U (.tup [.int (i : Nat), .ref d])) := same_new s2 nU
      have hg3 : upd H2 U (.tup [.int (i : Nat), .ref d]) g = some (.lst ((((rng n).take i).filter (frB n R S)).map V.int)) := by rw [upd_ne (ne_of_none hg nU)]; exact hg
      refine ⟨U, _, rfl, .inl (.inl upd_same), rfl, _, _, rfl, _, _, rfl, rfl, ?_⟩
      show L2.tSeq _ _ _ _ (upd H2 U (.tup [.int (i : Nat), .ref d]))
      generalize upd H2 U (.tup [.int (i : Nat), .ref d]) = H3 at s3 hg3 ⊢
      have eT : ∀ b, frB n R S i = b → ((rng n).take (i + 1)).filter (frB n R S) = ((rng n).take i).filter (frB n R S) ++ (if b = true then [(i : Int)] else []) := fun b hb => by
        rw [List.take_add_one, rng_get hil, List.filter_append]
        congr 1
        show List.filter (frB n R S) [(i : Int)] = _
        cases b with
        | true => rw [List.filter_cons_of_pos hb]; rfl
        | false => rw [List.filter_cons_of_neg (by rw [hb]; decide)]; rfl
      have lF : (((rng n).take i).filter (frB n R S)).length ≤ 20 := Nat.le_trans (List.length_filter_le _ _) (by rw [List.length_take, rng_len]; omega)
      refine ⟨.int (i : Int), rfl, .ref a, rfl, a, _, rfl, .inr (same_T s3 hS), rfl, flat_ints S, ?_⟩
      refine ⟨_, rfl, ?_⟩
      rw [inV_int]
      by_cases hi : (i : Int) ∈ S
      · refine iteFF (by simp [hi]) (iteF ?_)
        -- the second: item in some
        refine ⟨.int (i : Int), rfl, .ref a, rfl, a, _, rfl, .inr (same_T s3 hS), rfl, flat_ints S, ?_⟩
        refine ⟨_, rfl, ?_⟩
        rw [inV_int]
        refine iteTT (by simp [hi]) ?_
        refine ⟨.ref a, rfl, a, rfl, ⟨_, same_T s3 hS⟩, fun D hD => ?_⟩
        refine lcW (walks_tup (same_T s3 hS)) hD (by omega) (fun far => R i far) id V.int (fun far v H4 kY kN hf s4 hv hY hN => ⟨rfl, ?_⟩) (fun H4 s4 hl4 => ?_)
        · subst hv
          have hfb := hB far hf
          obtain ⟨p2, xs, d2, js2, e0, e1, e2, e3, e4, e5⟩ := (hA.same (s3.trans s4)).get hfb.1 hfb.2
          cases e0
          refine ⟨.int (i : Int), rfl, .ref p, rfl, .int far, rfl, p, xs, far, .ref d2, rfl, rfl, .inl (.inl e1), e2, d2, _, rfl, .inl (.inl (.inl e3)), rfl, flat_ints js2, ?_⟩
          refine ⟨_, rfl, ?_⟩
          rw [inV_int]
          cases e : R i far with
          | true => exact iteTT (decide_eq_true ((e5 _).mpr e)) ⟨.int far, rfl, hY e _ (Same.refl _)⟩
          | false => exact iteFF (decide_eq_false fun z => by rw [(e5 _).mp z] at e; cases e) (hN e _ (Same.refl _))
        · rw [List.map_id] at hl4
          refine ⟨Nat.zero_le _, fun r nr => ?_⟩
          have s5 : Same H4 (upd H4 r (.lst [])) := same_put (Same.refl _) nr
          have hl5 := s5 _ _ hl4
          have hr5 : upd H4 r (.lst []) r = some (.lst []) := upd_same
          generalize upd H4 r (.lst []) = H5 at s5 hl5 hr5 ⊢
          have s35 := s4.trans s5
          refine ⟨_, _, dp_list hl5, dp_list0 hr5, sh_list _, sh_list [], ?_⟩
          rw [eqv_list]
          refine ⟨_, rfl, ?_⟩
          have eok : decide ((S.filter fun far => R i far) = []) = frB n R S i := by
            rw [Bool.eq_iff_iff, decide_eq_true_eq, List.filter_eq_nil_iff]
            simp [frB, hi]
          rw [eok]
          cases eb : frB n R S i with
          | true =>
            refine iteT ⟨.ref g, rfl, .inl ⟨rfl, _, .inl (.inl (s35 _ _ hg3))⟩, .int (i : Int), rfl, g, _, _, rfl, rfl, s35 _ _ hg3, by rw [List.length_map]; exact small20 (by omega), _, _, rfl, same_put (s3.trans s35) ng, ?_⟩
            rw [upd_same, eT _ eb, List.map_append]
            rfl
          | false =>
            refine iteF ⟨_, _, rfl, s3.trans s35, ?_⟩
            rw [s35 _ _ hg3, eT _ eb]
            simp
      · refine iteTT (by simp [hi]) ?_
        refine ⟨.ref d, rfl, d, rfl, ⟨_, .inl (.inl (s3 _ _ hj1))⟩, fun D hD => ?_⟩
        refine lcW (walks_list (.inl (.inl (s3 _ _ hj1)))) hD (by omega) (fun y => decide (y ∉ S)) id V.int (fun y v H4 kY kN hy s4 hv hY hN => ⟨rfl, ?_⟩) (fun H4 s4 hl4 => ?_)
        · subst hv
          refine ⟨.int y, rfl, .ref a, rfl, a, _, rfl, .inr (same_T (s3.trans s4) hS), rfl, flat_ints S, ?_⟩
          refine ⟨_, rfl, ?_⟩
          rw [inV_int]
          by_cases e : y ∈ S
          · exact iteFF (by simp [e]) (hN (by simp [e]) _ (Same.refl _))
          · exact iteTT (by simp [e]) ⟨.int y, rfl, hY (by simp [e]) _ (Same.refl _)⟩
        · rw [List.map_id] at hl4
          refine ⟨Nat.zero_le _, fun r nr => ?_⟩
          have s5 : Same H4 (upd H4 r (.lst [])) := same_put (Same.refl _) nr
          have hl5 := s5 _ _ hl4
          have hr5 : upd H4 r (.lst []) r = some (.lst []) := upd_same
          generalize upd H4 r (.lst []) = H5 at s5 hl5 hr5 ⊢
          have s35 := s4.trans s5
          refine ⟨_, _, dp_list hl5, dp_list0 hr5, sh_list _, sh_list [], ?_⟩
          rw [eqv_list]
          refine ⟨_, rfl, ?_⟩
          have eok : decide ((js.filter fun y => decide (y ∉ S)) = []) = frB n R S i := by
            rw [Bool.eq_iff_iff, decide_eq_true_eq, List.filter_eq_nil_iff]
            have : frB n R S i = ((rng n).all fun j => !R j i || decide (j ∈ S)) := by simp [frB, hi]
            rw [this, put_test rel]
            constructor
            · intro h y hy
              have := h y ((hj3 y).mpr hy)
              simpa using this
            · intro h y hy
              have := h y ((hj3 y).mp hy)
              simpa using this
          rw [eok]
          -- the second: item in some does not hold
          have fin : ∀ H6, Same H5 H6 ∨ True → ∀ Qc : Bool → Hp → Prop, SqT K H6 a (S.map V.int) → Qc false H6 →
              tAnd (tTest (tOp (rIn K false) (tVar 3) (tVar 1))) (tTest (tOp (rEqD K) (tLc (iTup K (tVar 1)) (gName 6) (tTest (tOp (rIn K false) (tVar 3) (tOp (rIxL K) (tVar 0) (tVar 6)))) (tVar 6) [6]) (tLst tNil)))
                [some (.ref p), some (.ref a), some (.ref g), some (.int (i : Int)), some (.ref d), none, none] H6 Qc := fun H6 _ Qc hT h => by
            refine ⟨.int (i : Int), rfl, .ref a, rfl, a, _, rfl, .inr hT, rfl, flat_ints S, ?_⟩
            refine ⟨_, rfl, ?_⟩
            rw [inV_int]
            exact iteFF (by simp [hi]) h
          cases eb : frB n R S i with
          | true =>
            refine iteT ⟨.ref g, rfl, .inl ⟨rfl, _, .inl (.inl (s35 _ _ hg3))⟩, .int (i : Int), rfl, g, _, _, rfl, rfl, s35 _ _ hg3, by rw [List.length_map]; exact small20 (by omega), ?_⟩
            have s6 : Same H (upd H5 g (.lst ((((rng n).take i).filter (frB n R S)).map V.int ++ [.int (i : Int)]))) := same_put (s3.trans s35) ng
            refine fin _ (.inr True.intro) _ (same_T s6 hS) (iteF ⟨_, _, rfl, s6, ?_⟩)
            rw [upd_same, eT _ eb, List.map_append]
            rfl
          | false =>
            refine iteF (fin _ (.inr True.intro) _ (same_T (s3.trans s35) hS) (iteF ⟨_, _, rfl, s3.trans s35, ?_⟩))
            rw [s35 _ _ hg3, eT _ eb]
            simp
    · obtain ⟨y3, y4, rfl, s2, hg⟩ := hP
      refine ⟨.ref g, rfl, q _ _ s2 ng ?_⟩
      rw [hg, List.length_map, hds, ← rng_len, List.take_length]
      rfl
end
end K37
/-! ## L9 -/
namespace K37
open PySem PySem.Spec PyProof.Rows L2
section
variable {P : Program} {w : World} {K : PySem.W.Frag} {mg : Str → Option Value} {base : Heap}
theorem neDK {X : Cx} (K : PySem.W.Frag) (hu : X.A.units + 64 < cLine) (h : X.K = K := by rfl) : OpR X (compareOp .NotEq) (rNeD K) := by subst h; exact op_neD hu
/-! ### _law_is_loose -/
def spLLoose (K : PySem.W.Frag) : Sp := fun vs H Q _ => ∃ (x : V) (a : Addr) (N : Addr → Prop) (n : Int) (R : Rl) (L : List Int), vs = [x, .ref a] ∧ AhL N H x n R ∧ SqT K H a (L.map V.int) ∧ (∀ i ∈ L, 0 ≤ i ∧ i < n) ∧ L.length ≤ 20 ∧
  ∀ H' b, Same H H' → (b = true ↔ Loose R L) → Q (.bl b) H'
theorem sc_lloose : FnScope ["_law_aheads_here", "_law_lot", "_law_far", "_law_item"] ["_law_aheads_here", "_law_lot"] (defScope (top 41)) := ⟨rfl, rfl, rfl, by decide +kernel, rfl, by decide +kernel, by decide +kernel⟩
def scLoo : Scope := match defBody (top 41) with
  | [.Return (some (.Compare (.ListComp _ _ sc _) _ _ _)) _] => sc
  | _ => defScope (top 41)
theorem ok_lloose {f : Addr} {fd : FuncData} (F : FnP K "_law_is_loose" 41 f fd) : FnOk P w K mg base CX0 1 f fd ["_law_aheads_here", "_law_lot"] (spLLoose K) := by
  refine F.ok sc_lloose (fun vs H Q E h => ?_) (fun cdv A outer s H vs Q E hr h => ⟨_, PSs.nox (pss_one (ps_ret (pe_cmpR (op_eqD hr.units)
      (pe_lc (own := [("_law_far", 2)]) (g := gName 2) rfl sc_lloose.nd (pi_tup (pv 1)) (blkOk_by (N := ["_law_aheads_here", "_law_lot", "_law_far", "_law_item"]) (sc := defScope (top 41)) (by decide +kernel)) (fun _ _ _ _ _ => pg_name (i := 2) sc_lloose.nd rfl (Or.inr rfl))
        (fun _ _ _ _ _ => pts_one (pt_cmpR (neDK K hr.units)
          (pe_lc (own := [("_law_item", 3)]) (g := gName 3) rfl sc_lloose.nd (pitK K (pv 1)) (blkOk_by (N := ["_law_aheads_here", "_law_lot", "_law_far", "_law_item"]) (sc := scIn (defScope (top 41)) scLoo) (by decide +kernel)) (fun _ _ _ _ _ => pg_name (i := 3) sc_lloose.nd rfl (Or.inl rfl))
            (fun _ _ _ _ _ => pts_one (pt_cmpR (inK K) (pv 3) (pe_ix (ixL K) (pv 0) (pv 2) (fun _ _ => rfl)) rfl)) (fun _ _ _ _ _ => pv 3)) (pe_lst pa_nil) (nomark _))) (fun _ _ _ _ _ => pe_int)) (pe_lst pa_nil) (nomark _)))), ?_⟩)
  · obtain ⟨x, a, N, n, R, L, rfl, _⟩ := h
    rfl
  · obtain ⟨x, a, N, n, R, L, rfl, hA, hS, hB, hl, q⟩ := h
    refine ⟨.ref a, rfl, a, rfl, ⟨_, hS⟩, fun D hD => ?_⟩
    refine lcW (walks_tup hS) hD (by omega) (fun far => decide ((L.filter fun i => R i far) ≠ [])) (fun _ => (1 : Int)) V.int (fun far v H1 kY kN hf s1 hv hY hN => ⟨rfl, ?_⟩) (fun H1 s1 hl1 => ?_)
    · subst hv
      have hfb := hB far hf
      refine ⟨.ref a, rfl, a, rfl, ⟨_, same_T s1 hS⟩, fun D2 hD2 => ?_⟩
      refine lcW (walks_tup (same_T s1 hS)) hD2 (by omega) (fun i => R i far) id V.int (fun i v H2 kY2 kN2 hi s2 hv hY2 hN2 => ⟨rfl, ?_⟩) (fun H2 s2 hl2 => ?_)
      · subst hv
        obtain ⟨p2, xs, d2, js2, rfl, e1, e2, e3, e4, e5⟩ := (hA.same (s1.trans s2)).get hfb.1 hfb.2
        refine ⟨.int i, rfl, .ref p2, rfl, .int far, rfl, p2, xs, far, .ref d2, rfl, rfl, .inl (.inl e1), e2, d2, _, rfl, .inl (.inl (.inl e3)), rfl, flat_ints js2, ?_⟩
        refine ⟨_, rfl, ?_⟩
        rw [inV_int]
        cases e : R i far with
        | true => exact iteTT (decide_eq_true ((e5 _).mpr e)) ⟨.int i, rfl, hY2 e _ (Same.refl _)⟩
        | false => exact iteFF (decide_eq_false fun z => by rw [(e5 _).mp z] at e; cases e) (hN2 e _ (Same.refl _))
      · rw [List.map_id] at hl2
        refine ⟨Nat.zero_le _, fun r nr => ?_⟩
        have s3 : Same H2 (upd H2 r (.lst [])) := same_put (Same.refl _) nr
        have hl3 := s3 _ _ hl2
        have hr3 : upd H2 r (.lst []) r = some (.lst []) := upd_same
        generalize upd H2 r (.lst []) = H3 at s3 hl3 hr3 ⊢
        refine ⟨_, _, dp_list hl3, dp_list0 hr3, sh_list _, sh_list [], ?_⟩
        rw [eqv_list]
        refine ⟨_, rfl, ?_⟩
        by_cases e : (L.filter fun i => R i far) = []
        · exact iteFF (by simp only [e, decide_true, Bool.not_true]) (hN (by simp only [e]; rfl) _ (s2.trans s3))
        · exact iteTT (by rw [decide_eq_false e]; rfl) (hY (decide_eq_true e) _ (s2.trans s3))
    · refine ⟨Nat.zero_le _, fun r nr => ?_⟩
      have s2 : Same H1 (upd H1 r (.lst [])) := same_put (Same.refl _) nr
      have hl2 := s2 _ _ hl1
      have hr2 : upd H1 r (.lst []) r = some (.lst []) := upd_same
      generalize upd H1 r (.lst []) = H2 at s2 hl2 hr2 ⊢
      refine ⟨_, _, dp_list hl2, dp_list0 hr2, sh_list _, sh_list [], ?_⟩
      rw [eqv_list]
      refine q _ _ (s1.trans s2) ?_
      rw [decide_eq_true_eq, List.map_eq_nil_iff, List.filter_eq_nil_iff]
      constructor
      · intro h x hx y hy
        have := h y hy
        rw [decide_eq_true_eq] at this
        have e : (L.filter fun i => R i y) = [] := Classical.byContradiction this
        rw [List.filter_eq_nil_iff] at e
        have := e x hx
        simpa using this
      · intro h y hy
        rw [decide_eq_true_eq]
        refine fun z => z ?_
        rw [List.filter_eq_nil_iff]
        intro x hx
        rw [h x hx y hy]
        decide
/-! ### _law_changed -/
def spChanged (K : PySem.W.Frag) : Sp := fun vs H Q _ => ∃ (a b : Addr) (S L : List Int), vs = [.ref a, .ref b] ∧ SqT K H a (S.map V.int) ∧ SqT K H b (L.map V.int) ∧ Asc S ∧ Asc L ∧ S.length ≤ 20 ∧ L.length ≤ 20 ∧
  ∀ H' p U, Same H H' → H' p = some (.tup (U.map V.int)) → Chg S L U → Q (.ref p) H'
theorem sc_changed : FnScope ["_law_some", "_law_lot", "_law_item"] ["_law_some", "_law_lot"] (defScope (top 42)) := ⟨rfl, rfl, rfl, by decide +kernel, rfl, by decide +kernel, by decide +kernel⟩
/-- [x for x in a if x not in b] -/
theorem dif_read {H : Hp} {a b : Addr} {S L : List Int} {i j k : Nat} {σ : L2.St} {Q : VK} (hS : SqT K H a (S.map V.int)) (hL : SqT K H b (L.map V.int)) (hl : S.length ≤ 1000) (ei : σ[i]? = some (some (.ref a)))
    (ej : ((wipe σ [k]).set k (some (.int 0)))[j]? = some (some (.ref b))) (hjk : j ≠ k) (hk : k < σ.length) (q : ∀ H' D, Same H H' → H' D = some (.lst ((dif S L).map V.int)) → Q (.ref D) H') :
    tLc (iTup K (tVar i)) (gName k) (tTest (tOp (rIn K true) (tVar k) (tVar j))) (tVar k) [k] σ H Q := by
  refine ⟨.ref a, ei, a, rfl, ⟨_, hS⟩, fun D hD => ?_⟩
  have hw : (wipe σ [k]).length = σ.length := wipe_length σ [k]
  have hg : ∀ v : Option V, ((wipe σ [k]).set k v)[j]? = some (some (.ref b)) := fun v => by
    rw [List.getElem?_set_ne (Ne.symm hjk)] at ej ⊢
    exact ej
  refine lcW (walks_tup hS) hD (by omega) (fun x => decide (x ∉ L)) id V.int (fun x v H2 kY kN hx s2 hv hY hN => ⟨?_, ?_⟩) (fun H2 s2 hl2 => ?_)
  · show (((σ.set k none).set k (some v)).set k none) = σ.set k none
    rw [List.set_set, List.set_set]
  · subst hv
    have hkk : ((wipe σ [k]).set k (some (.int x)))[k]? = some (some (.int x)) := by
      rw [List.getElem?_set_self (by rw [hw]; exact hk)]
    refine ⟨.int x, hkk, .ref b, hg _, b, _, rfl, .inr (same_T s2 hL), rfl, flat_ints L, ?_⟩
    refine ⟨_, rfl, ?_⟩
    rw [inV_int]
    by_cases e : x ∈ L
    · exact iteFF (by simp [e]) (hN (by simp [e]) _ (Same.refl _))
    · exact iteTT (by simp [e]) ⟨.int x, hkk, hY (by simp [e]) _ (Same.refl _)⟩
  · rw [List.map_id] at hl2
    exact q _ _ s2 hl2
theorem ret_of {te : TE} {D : Ends} {σ : L2.St} {H : Hp} (h : te σ H D.rt) : tRet te D σ H := h
theorem cb_of {r : List V → Hp → VK → Prop} {t : TA} {σ : L2.St} {H : Hp} {Q : VK} (h : t σ H fun vs H1 => r vs H1 Q) : tCB r t σ H Q := h
theorem cons_of {te : TE} {ta : TA} {σ : L2.St} {H : Hp} {Q : List V → Hp → Prop} (h : te σ H fun x H1 => ta σ H1 fun xs H2 => Q (x :: xs) H2) : tCons te ta σ H Q := h
theorem op_of {r : R2} {ta tb : TE} {σ : L2.St} {H : Hp} {Q : VK} (h : ta σ H fun x H1 => tb σ H1 fun y H2 => r x y H2 Q) : tOp r ta tb σ H Q := h
theorem ok_changed {f : Addr} {fd : FuncData} (F : FnP K "_law_changed" 42 f fd) (T : Tp mg) : FnOk P w K mg base CX0 1 f fd ["_law_some", "_law_lot"] (spChanged K) := by
  refine F.ok sc_changed (fun vs H Q E h => ?_) (fun cdv A outer s H vs Q E hr h => ⟨_, PSs.nox (pss_one (ps_ret (pe_callTy call_tuple_of (by rfl) T.tuple (by decide +kernel) (pa_cons (pe_callB cr_sortedI (by rfl) T.sorted (by decide +kernel) (pa_cons (pe_op op_cat
      (pe_lc (own := [("_law_item", 2)]) (g := gName 2) rfl sc_changed.nd (pi_tup (pv 0)) (blkOk_by (N := ["_law_some", "_law_lot", "_law_item"]) (sc := defScope (top 42)) (by decide +kernel)) (fun _ _ _ _ _ => pg_name (i := 2) sc_changed.nd rfl (Or.inl rfl))
        (fun _ _ _ _ _ => pts_one (pt_cmpR (ninK K) (pv 2) (pv 1) rfl)) (fun _ _ _ _ _ => pv 2))
      (pe_lc (own := [("_law_item", 2)]) (g := gName 2) rfl sc_changed.nd (pi_tup (pv 1)) (blkOk_by (N := ["_law_some", "_law_lot", "_law_item"]) (sc := defScope (top 42)) (by decide +kernel)) (fun _ _ _ _ _ => pg_name (i := 2) sc_changed.nd rfl (Or.inl rfl))
        (fun _ _ _ _ _ => pts_one (pt_cmpR (ninK K) (pv 2) (pv 0) rfl)) (fun _ _ _ _ _ => pv 2))) pa_nil)) pa_nil)))), ?_⟩)
  · obtain ⟨a, b, S, L, rfl, _⟩ := h
    rfl
  · obtain ⟨a, b, S, L, rfl, hS, hL, aS, aL, lS, lL, q⟩ := h
    refine ret_of (cb_of (cons_of (cb_of (cons_of (op_of (dif_read (i := 0) (j := 1) (k := 2) (σ := [some (.ref a), some (.ref b), none]) hS hL (by omega) rfl rfl (by decide) (by show 2 < 3; decide) fun H1 D s1 h1 => ?_))))))
    refine dif_read (i := 1) (j := 0) (k := 2) (σ := [some (.ref a), some (.ref b), none]) (same_T s1 hL) (same_T s1 hS) (by omega) rfl rfl (by decide) (by show 2 < 3; decide) fun H2 D2 s2 h2 => ?_
    have l1 : (dif S L).length ≤ S.length := List.length_filter_le _ _
    have l2 : (dif L S).length ≤ L.length := List.length_filter_le _ _
    refine ⟨D, D2, _, _, rfl, rfl, s2 _ _ h1, h2, by rw [List.length_map, List.length_map]; exact Nat.le_of_lt (small20 (by omega)), fun c nc => ?_⟩
    refine ⟨c, dif S L ++ dif L S, rfl, .inl (.inl (by rw [upd_same, List.map_append])), fun U r pm up nr => ?_⟩
    refine ⟨r, _, rfl, .inl ⟨.inl (.inl upd_same), fun t nt => ?_⟩⟩
    refine q _ t U (same_new (same_new (same_new (s1.trans s2) nc) nr) nt) upd_same ⟨?_, fun x => ?_⟩
    · have nd : U.Nodup := pm.nodup_iff.mpr (by
        rw [List.nodup_append]
        refine ⟨asc_nodup (asc_filter _ aS), asc_nodup (asc_filter _ aL), fun x hx y hy e => ?_⟩
        rw [e] at hx
        exact (mem_dif.mp hx).2 (mem_dif.mp hy).1)
      exact List.Pairwise.imp₂ (fun x y (h1 : x ≤ y) (h2 : x ≠ y) => by omega) up nd
    · rw [pm.mem_iff, List.mem_append, mem_dif, mem_dif]
/-! ### _law_longest -/
def spLLong (K : PySem.W.Frag) : Sp := fun vs H Q _ => ∃ (x : V) (a : Addr) (N : Addr → Prop) (n : Int) (R : Rl) (L : List Int), vs = [x, .ref a] ∧ AhL N H x n R ∧ Rel n R ∧ n ≤ 20 ∧ SqL K H a (L.map V.int) ∧ Asc L ∧ (∀ i ∈ L, 0 ≤ i ∧ i < n) ∧
  ∀ H', Same H H' → Q (.int (hgt R L)) H'
theorem sc_llong : FnScope ["_law_aheads_here", "_law_lot", "_law_found_so", "_law_item", "_law_near"] ["_law_aheads_here", "_law_lot"] (defScope (top 44)) := ⟨rfl, rfl, rfl, by decide +kernel, rfl, by decide +kernel, by decide +kernel⟩
theorem ok_llong {f : Addr} {fd : FuncData} (F : FnP K "_law_longest" 44 f fd) (T : Tp mg) : FnOk P w K mg base CX0 1 f fd ["_law_aheads_here", "_law_lot"] (spLLong K) := by
  refine F.ok sc_llong (fun vs H Q E h => ?_) (fun cdv A outer s H vs Q E hr h => ⟨_, PSs.nox (pss_cons
      (ps_set (i := 2) sc_llong.nd rfl (.inr rfl) pe_dnewK)
      (pss_cons (ps_for PassesOwn.never rfl (pi_list (pv 1)) (pg_name (i := 3) sc_llong.nd rfl (Or.inr rfl))
        (pss_one (ps_dput (hu_of hr) (pv 2) (pv 3) (pe_op op_add pe_int (pe_callB (maxK K rfl) (by rfl) T.max (by decide +kernel) (pa_cons (pe_op op_cat (pe_lst (pa_cons pe_int pa_nil))
          (pe_lc (own := [("_law_near", 4)]) (g := gName 4) rfl sc_llong.nd (pi_list (pv 1)) (blkOk_by (N := ["_law_aheads_here", "_law_lot", "_law_found_so", "_law_item", "_law_near"]) (sc := defScope (top 44)) (by decide +kernel)) (fun _ _ _ _ _ => pg_name (i := 4) sc_llong.nd rfl (Or.inl rfl))
            (fun _ _ _ _ _ => pts_one (pt_cmpR (inK K) (pv 4) (pe_ix (ixL K) (pv 0) (pv 3) (fun _ _ => rfl)) rfl)) (fun _ _ _ _ _ => pe_dget (hu_of hr) (pv 2) (pv 4) (fun _ _ => rfl)))) pa_nil))) rfl)))
      (pss_one (ps_ret (pe_callB (maxK K rfl) (by rfl) T.max (by decide +kernel) (pa_cons (pe_op op_cat (pe_lst (pa_cons pe_int pa_nil)) (pe_listVals rfl (pv 2) T.list)) pa_nil)))))), ?_⟩)
  · obtain ⟨x, a, N, n, R, L, rfl, _⟩ := h
    rfl
  · obtain ⟨x, a, N, n, R, L, rfl, hA, rel, n20, hS, asc, hB, q⟩ := h
    have lL : L.length ≤ n.toNat := by
      have := asc_len L 0 n asc hB
      omega
    refine fun p np => ?_
    have hS1 := (same_put (Same.refl H) np (o := .dK [])).seq hS
    refine ⟨.ref a, rfl, a, rfl, ⟨_, hS1⟩, ?_⟩
    refine for_list (K := K) (a := a) (xs := L.map V.int) (fun j σ H3 => ∃ y3, σ = [some x, some (.ref a), some (.ref p), y3, none] ∧ Same H H3 ∧ H3 p = some (.dK (FD (L.take j) (ht R L))))
      ⟨_, rfl, same_put (Same.refl _) np, upd_same⟩ (fun j σ H3 _ hP => ?_) (fun j v σ H3 hj hP => ?_) (fun σ H3 hP => ?_)
    · obtain ⟨y3, rfl, s3, _⟩ := hP
      exact s3.seq hS
    · obtain ⟨y3, rfl, s3, hp⟩ := hP
      obtain ⟨i, gi, rfl⟩ := get_map hj
      have hi := hB i (List.mem_of_getElem? gi)
      refine ⟨(by decide : 1 ≤ sizeLine), fun z nz => ?_⟩
      have s4 : Same H3 (upd H3 z (.lst [.int 0])) := same_put (Same.refl _) nz
      have s4' := s3.trans s4
      have hz4 : upd H3 z (.lst [V.int 0]) z = some (.lst [V.int 0]) := upd_same
      have hp4 : upd H3 z (.lst [V.int 0]) p = some (.dK (FD (L.take j) (ht R L))) := s4 _ _ hp
      generalize upd H3 z (.lst [V.int 0]) = H4 at s4 s4' hz4 hp4 ⊢
      refine ⟨.ref a, rfl, a, rfl, ⟨_, s4'.seq hS⟩, fun D hD => ?_⟩
      refine lcW (walks_list (s4'.seq hS)) hD (by omega) (fun y => R y i) (ht R L) V.int (fun y v H5 kY kN hy s5 hv hY hN => ⟨rfl, ?_⟩) (fun H5 s5 hl5 => ?_)
      · subst hv
        obtain ⟨p2, xs, d, js, rfl, e1, e2, e3, e4, e5⟩ := (hA.same (s4'.trans s5)).get hi.1 hi.2
        refine ⟨.int y, rfl, .ref p2, rfl, .int i, rfl, p2, xs, i, .ref d, rfl, rfl, .inl (.inl e1), e2, d, _, rfl, .inl (.inl (.inl e3)), rfl, flat_ints js, ?_⟩
        refine ⟨_, rfl, ?_⟩
        rw [inV_int]
        cases e : R y i with
        | true =>
          have hm := asc_take asc gi hy (rel.bd e).2.1
          have hg := DGet.k (k := Sum.inl y) (s5 _ _ hp4)
          rw [fd_some hm] at hg
          exact iteTT (decide_eq_true ((e5 _).mpr e)) ⟨.ref p, rfl, .int y, rfl, p, _, rfl, hg, hY e _ (Same.refl _)⟩
        | false => exact iteFF (decide_eq_false fun z => by rw [(e5 _).mp z] at e; cases e) (hN e _ (Same.refl _))
      · have lf : (L.filter fun y => R y i).length ≤ L.length := List.length_filter_le _ _
        refine ⟨z, D, [.int 0], _, rfl, rfl, s5 _ _ hz4, hl5, by rw [List.length_map, List.length_map]; exact Nat.le_of_lt (small20 (by show 1 + _ ≤ _; omega)), fun c nc => ?_⟩
        refine ⟨c, 0 :: (L.filter fun y => R y i).map (ht R L), rfl, .inl (.inl upd_same), Nat.succ_pos _, fun m hm1 hm2 => ?_⟩
        have em := mx_of hm1 hm2
        subst em
        refine ⟨1, _, rfl, rfl, .ref p, rfl, .int i, rfl, p, _, rfl, DPut.k (k := Sum.inl i) (by rw [upd_ne (ne_of_none (s5 _ _ hp4) nc)]; exact s5 _ _ hp4) (by rw [fd_len, List.length_take]; exact small20 (by omega)), ?_⟩
        have hrec : 1 + mx ((L.filter fun y => R y i).map (ht R L)) = ht R L i := (ht_rec rel hi.1).symm
        refine ⟨_, rfl, same_put (same_new (s4'.trans s5) nc) np, ?_⟩
        rw [upd_same]
        show some (HO.dK (putK (FD (L.take j) (ht R L)) (Sum.inl i) (.int (1 + mx ((L.filter fun y => R y i).map (ht R L)))))) = _
        rw [hrec, fd_put (asc_nottake asc gi), List.take_add_one, gi]
        rfl
    · obtain ⟨y3, rfl, s3, hp⟩ := hP
      rw [List.length_map, List.take_length] at hp
      refine ⟨(by decide : 1 ≤ sizeLine), fun z nz => ?_⟩
      have s4 : Same H3 (upd H3 z (.lst [.int 0])) := same_put (Same.refl _) nz
      have hz4 : upd H3 z (.lst [V.int 0]) z = some (.lst [V.int 0]) := upd_same
      generalize upd H3 z (.lst [V.int 0]) = H4 at s4 hz4 ⊢
      refine ⟨.ref p, rfl, p, _, rfl, s4 _ _ hp, fun v nv => ?_⟩
      have s5 : Same H4 (upd H4 v (.lst ((FD L (ht R L)).map (·.2)))) := same_put (Same.refl _) nv
      refine ⟨z, v, _, _, rfl, rfl, s5 _ _ hz4, upd_same, by rw [List.length_map, fd_len]; exact Nat.le_of_lt (small20 (by show 1 + _ ≤ _; omega)), fun c nc => ?_⟩
      refine ⟨c, 0 :: L.map (ht R L), rfl, .inl (.inl (by rw [upd_same, fd_vals]; rfl)), Nat.succ_pos _, fun m hq1 hq2 => ?_⟩
      have em : m = hgt R L := mx_of hq1 hq2
      rw [em]
      exact q _ (same_new ((s3.trans s4).trans s5) nc)
end
end K37
/-! ## Ru4 -/
namespace K37
open PySem PySem.Spec PyProof.Rows L2
section
variable {X : Cx} {k v : Expr} {tk tv : TE} {pos : Pos}
/-- {k: v}, k a tuple of ints and texts -/
def tDisp1 (tk tv : TE) : TE := fun σ H Q => ∀ p, H p = none → tk σ (upd H p (.dT [])) fun x H1 => tv σ H1 fun y H2 => H2 p = some (.dT []) ∧
  ∃ (ks : List Key) (b : Addr), x = .ref b ∧ H2 b = some (.tup (ks.map kV)) ∧ Q (.ref p) (upd H2 p (.dT [(ks, y)]))
theorem pe_disp1 (hu : X.A.units + 1 < cLine) (hk : PE X k tk) (hv : PE X v tv) : PE X (.Dict [some k] [v] pos) (tDisp1 tk tv) := by
  refine ⟨fun pins s σ H Q I q => ?_⟩
  have hn := I.hok.fresh (Nat.le_refl s.heap.objs.size)
  have I1 := I.laid (a := s.heap.objs.size) (o := .dT []) (h' := s.heap.push { cls := .type "dict", data := .dict #[] }) (t' := s.toks) (fun _ _ q => Heap.get?_push_of_some _ q) (Nat.le_refl _) (dt_empty s.heap I.big)
  have hr := (pps_cons (pos := pos) hk hv pps_nil).run pins _ σ _ (fun ps H2 => match ps with
    | [(x, y)] => H2 s.heap.objs.size = some (.dT []) ∧ ∃ (ks : List Key) (b : Addr), x = .ref b ∧ H2 b = some (.tup (ks.map kV)) ∧ Q (.ref s.heap.objs.size) (upd H2 s.heap.objs.size (.dT [(ks, y)]))
    | _ => False) I1 (q _ hn)
  have hn2 := pairTrees_length [some k] [v] X.env pos rfl rfl
  rw [arm_eval_Dict, zip_pairTrees [some k] [v] X.env pos rfl rfl, dictDisplay_pairs _ (by intro z; rw [z] at hn2; cases hn2) (by rw [hn2]; show 1 < 17; decide)]
  refine wpAny_bind (wpAny_standAt (wpAny_bind (wpAny_subDictH (knd := tupleKind (mixKind X.prog X.w)) (by show X.A.units < cLine; omega) (by rw [hn2]; show 1 ≤ 15; decide) (thn hr fun ws s2 hx => ?_))))
  obtain ⟨ps, H2, I2, rel, hx⟩ := hx
  obtain ⟨x, y, rfl⟩ : ∃ x y, ps = [(x, y)] := by
    match ps, hx with
    | [(x, y)], _ => exact ⟨x, y, rfl⟩
    | [], z => exact z.elim
    | _ :: _ :: _, z => exact z.elim
  obtain ⟨e, ks, b, rfl, hb, q2⟩ := hx
  cases rel with
  | @cons p0 q0 _ _ h0 t0 =>
    cases t0
    obtain ⟨u1, u2⟩ := q0
    obtain ⟨r1, r2⟩ := h0
    obtain rfl : u1 = Value.ref b := r1
    obtain ⟨z, hd, xs, kt, dd⟩ := dt_of I2.hok e
    cases kt
    refine ⟨[(ks, b, u2)], ⟨rfl, rfl, key_of I2.hok hb, True.intro⟩, dd, fun h' tk' dd' hs => wpAny_pure ?_⟩
    obtain ⟨ob, es, ep, g1, g2, g3, g4, _, g6⟩ := dd'
    refine ⟨.ref s.heap.objs.size, _, d_write (t' := tk') (ob := .dT [(ks, y)]) I2 (by rw [e]; exact True.intro) hs ⟨ob, g1⟩ ⟨(by show 1 ≤ sizeLine; decide), hd, [(ks, b, u2)], .cons ⟨rfl, ?_, r2⟩ .nil, ob, es, ep, g1, g2, g3, g4, g6⟩, rfl, q2⟩
    show upd H2 _ _ b = _
    rw [upd_ne (ne_of hb e (fun z => nomatch z))]
    exact hb
end
end K37
/-! ## L10 -/
namespace K37
open PySem PySem.Spec PyProof.Rows L2
/-! ### lists of tuples as data -/
theorem lay_tups : ∀ Ls : List (List Int), PyData.canLayAll0 (Ls.map tupD) = true ∧ PyData.depthAll (Ls.map tupD) ≤ 2
  | [] => by simp [PyData.canLayAll0, PyData.depthAll]
  | S :: Ls => by
    obtain ⟨h1, h2⟩ := lay_tups Ls
    obtain ⟨h3, h4⟩ := lay_ints S
    have e1 : (tupD S).canLay0 = true := by
      unfold tupD
      rw [PyData.canLay0]
      exact h3
    have e2 : (tupD S).depth ≤ 2 := by
      unfold tupD
      rw [PyData.depth]
      omega
    rw [List.map_cons]
    constructor
    · rw [PyData.canLayAll0, e1, h1]
      rfl
    · rw [PyData.depthAll]
      omega
theorem sh_tups (Ls : List (List Int)) : SeqAt.shaped (.list (Ls.map tupD)) = true := by
  obtain ⟨h1, h2⟩ := lay_tups Ls
  have e1 : (PyData.list (Ls.map tupD)).canLay0 = true := by
    rw [PyData.canLay0]
    exact h1
  have e2 : (PyData.list (Ls.map tupD)).depth ≤ 64 := by
    rw [PyData.depth]
    omega
  unfold SeqAt.shaped
  rw [e1, decide_eq_true e2]
  rfl
theorem eqv_tups : ∀ As Bs : List (List Int), PyData.eqvAll (As.map tupD) (Bs.map tupD) = decide (As = Bs)
  | [], [] => by simp [PyData.eqvAll]
  | [], _ :: _ => by simp [PyData.eqvAll]
  | _ :: _, [] => by simp [PyData.eqvAll]
  | S :: As, U :: Bs => by
    rw [List.map_cons, List.map_cons]
    simp only [PyData.eqvAll, eqv_tup, eqv_tups As Bs]
    by_cases h : S = U
    · subst h
      simp
    · simp [h]
theorem eqv_tupsL (As Bs : List (List Int)) : PyData.eqv (.list (As.map tupD)) (.list (Bs.map tupD)) = decide (As = Bs) := by
  rw [PyData.eqv]
  exact eqv_tups As Bs
theorem dpAll_tups {K : PySem.W.Frag} {H : Hp} : ∀ {L : List (Addr × List Int)}, TpsAt H L → DpAll K H (L.map fun p => V.ref p.1) ((L.map (·.2)).map tupD)
  | [], _ => .nil
  | p :: L, h => .cons (dp_tup (.inl (.inl (h p List.mem_cons_self)))) (dpAll_tups fun q hq => h q (List.mem_cons_of_mem _ hq))
theorem dp_tups {K : PySem.W.Frag} {H : Hp} {a : Addr} {L : List (Addr × List Int)} (h : H a = some (.lst (L.map fun p => V.ref p.1))) (hT : TpsAt H L) : Dp K H (.ref a) (.list ((L.map (·.2)).map tupD)) := .lst (.inl (.inl h)) (dpAll_tups hT)
/-! ### a dict from tuples to ints -/
def TD (kvs : List (List Int × Int)) : List (List Key × V) := kvs.map fun p => (p.1.map Sum.inl, V.int p.2)
theorem td_len (kvs : List (List Int × Int)) : (TD kvs).length = kvs.length := by simp [TD]
theorem td_keys (kvs : List (List Int × Int)) : (TD kvs).map (·.1) = (kvs.map (·.1)).map fun k => k.map Sum.inl := by
  unfold TD
  rw [List.map_map, List.map_map]
  rfl
theorem td_none {S : List Int} : ∀ {kvs : List (List Int × Int)}, S ∉ kvs.map (·.1) → valV (TD kvs) (S.map Sum.inl) = none
  | [], _ => rfl
  | p :: kvs, h => by
    show valV ((p.1.map Sum.inl, V.int p.2) :: TD kvs) (S.map Sum.inl) = none
    rw [valV_neg (by
      intro z
      have := inl_inj z
      exact h (by rw [← this]; exact List.mem_cons_self))]
    exact td_none fun z => h (List.mem_cons_of_mem _ z)
theorem td_some {S : List Int} : ∀ {kvs : List (List Int × Int)}, S ∈ kvs.map (·.1) → ∃ p ∈ kvs, p.1 = S ∧ valV (TD kvs) (S.map Sum.inl) = some (.int p.2)
  | p :: kvs, h => by
    by_cases e : p.1 = S
    · refine ⟨p, List.mem_cons_self, e, ?_⟩
      show valV ((p.1.map Sum.inl, V.int p.2) :: TD kvs) (S.map Sum.inl) = _
      rw [valV_pos (by rw [e])]
    · rcases List.mem_cons.mp h with h | h
      · exact absurd h.symm e
      · obtain ⟨q, h1, h2, h3⟩ := td_some h
        refine ⟨q, List.mem_cons_of_mem _ h1, h2, ?_⟩
        show valV ((p.1.map Sum.inl, V.int p.2) :: TD kvs) (S.map Sum.inl) = _
        rw [valV_neg (by intro z; exact e (inl_inj z))]
        exact h3
theorem td_put {kvs : List (List Int × Int)} {S : List Int} {m : Int} (h : S ∉ kvs.map (·.1)) : putK (TD kvs) (S.map Sum.inl) (.int m) = TD (kvs ++ [(S, m)]) := by
  rw [putK_new _ (td_none h)]
  unfold TD
  rw [List.map_append]
  rfl
theorem kV_inl (S : List Int) : (S.map (Sum.inl : Int → Key)).map kV = S.map V.int := by
  rw [List.map_map]
  rfl
theorem nodup_subL {a b : List (List Int)} (h : a.Nodup) (hb : ∀ x ∈ a, x ∈ b) : a.length ≤ b.length := by
  induction a generalizing b with
  | nil => exact Nat.zero_le _
  | cons x a ih =>
    have hx := hb x List.mem_cons_self
    have n := List.nodup_cons.mp h
    have := ih n.2 (b := b.erase x) fun y hy => by
      have e : y ≠ x := fun e => n.1 (e ▸ hy)
      exact (List.mem_erase_of_ne e).mpr (hb y (List.mem_cons_of_mem _ hy))
    rw [List.length_erase_of_mem hx] at this
    have := List.length_pos_of_mem hx
    rw [List.length_cons]
    omega
theorem chg_uniq {S A U U' : List Int} (h : Chg S A U) (h' : Chg S A U') : U = U' := asc_ext h.asc h'.asc fun x => (h.mem x).trans (h'.mem x).symm
section
variable {P : Program} {w : World} {K : PySem.W.Frag} {mg : Str → Option Value} {base : Heap}
/-! ### _law_layers -/
def spLayers (K : PySem.W.Frag) : Sp := fun vs H Q _ => ∃ (x : V) (a : Addr) (N : Addr → Prop) (n : Int) (R : Rl) (S : List Int) (Ls : List (List Int)), vs = [x, .ref a] ∧ AhL N H x n R ∧ Rel n R ∧ 0 ≤ n ∧ n ≤ 5 ∧ H a = some (.tup (S.map V.int)) ∧ Low n R S ∧ Ls.length ≤ 32 ∧ (∀ U, Low n R U → U ∈ Ls) ∧
  ∀ H' p (kvs : List (List Int × Int)), Same H H' → H' p = some (.dT (TD kvs)) → (kvs.map (·.1)).Nodup → (∀ U, Low n R U ↔ U ∈ kvs.map (·.1)) → (∀ q ∈ kvs, q.2 = dst R S q.1) → Q (.ref p) H'
theorem sc_layers : FnScope ["_law_aheads_here", "_law_start", "_law_found_so", "_law_layer", "_law_many", "_law_fresh", "_law_some", "_law_lot", "_law_late"] ["_law_aheads_here", "_law_start"] (defScope (top 43)) := ⟨rfl, rfl, rfl, by decide +kernel, rfl, by decide +kernel, by decide +kernel⟩
theorem ok_layers {f : Addr} {fd : FuncData} (F : FnP K "_law_layers" 43 f fd) (T : Tp mg) (C1 : Cl P w K mg base CX0 1 "_law_lots" (spLots K)) (C2 : Cl P w K mg base CX0 1 "_law_free" (spFree K)) (C3 : Cl P w K mg base CX0 1 "_law_changed" (spChanged K)) (C4 : Cl P w K mg base CX0 1 "_law_is_loose" (spLLoose K)) :
    FnOk P w K mg base CX0 2 f fd ["_law_aheads_here", "_law_start"] (spLayers K) := by
  refine F.ok sc_layers (fun vs H Q E h => ?_) (fun cdv A outer s H vs Q E hr h => ⟨_, PSs.nox (pss_cons
      (ps_par3 (i := 2) (j := 3) (l := 4) (by rfl) sc_layers.nd rfl rfl rfl (by decide) (by decide) (by decide) rfl rfl rfl (pa_cons (pe_disp1 (hu_of hr) (pv 1) pe_int) (pa_cons (pe_lst (pa_cons (pv 1) pa_nil)) (pa_cons pe_int pa_nil))) (by rfl))
      (pss_cons (ps_while PassesOwn.never (pt_cmpR (op_neD hr.units) (pv 3) (pe_lst pa_nil) (nomark _))
        (pss_cons (ps_par (i := 4) (j := 5) (by rfl) sc_layers.nd rfl rfl (by decide) rfl rfl (pa_cons (pe_op op_add (pv 4) pe_int) (pa_cons (pe_lst pa_nil) pa_nil)) (by rfl))
        (pss_cons (ps_for PassesOwn.never rfl (pi_list (pv 3)) (pg_name (i := 6) sc_layers.nd rfl (Or.inl rfl))
          (pss_one (ps_for PassesOwn.never rfl (pi_list (pe_cl C1 hr (by decide) (by rfl) pass0 (pa_cons (pe_cl C2 hr (by decide) (by rfl) pass0 (pa_cons (pv 0) (pa_cons (pv 6) pa_nil))) pa_nil))) (pg_name (i := 7) sc_layers.nd rfl (Or.inl rfl))
            (pss_cons (ps_set (i := 8) sc_layers.nd rfl (.inl rfl) (pe_cl C3 hr (by decide) (by rfl) pass0 (pa_cons (pv 6) (pa_cons (pv 7) pa_nil))))
            (pss_one (ps_if (PW.pt (pw_and (pt_val (pe_cl C4 hr (by decide) (by rfl) pass0 (pa_cons (pv 0) (pa_cons (pv 7) pa_nil)))) (pw_and1 (pt_cmp (pc_dnotin (hu_of hr) (pv 8) (pv 2)) rfl))))
              (pss_cons (ps_dput (hu_of hr) (pv 2) (pv 8) (pv 4) rfl)
              (pss_one (ps_expr (pe_bm PySem.F.plainAttrs_list PySem.F.slot_list_append PySem.F.type_list_append mt_append (pv 5) (pa_cons (pv 8) pa_nil))))) pss_nil))))))
        (pss_one (ps_set (i := 3) sc_layers.nd rfl (.inl rfl) (pv 5))))))
      (pss_one (ps_ret (pv 2))))), ?_⟩)
  · obtain ⟨x, a, N, n, R, S, Ls, rfl, _⟩ := h
    rfl
  · obtain ⟨x, a, N, n, R, S, Ls, rfl, hA, rel, n0, n5, ha, lS, hLs, hall, q⟩ := h
    intro f nf
    refine ⟨.ref a, rfl, upd_same, S.map Sum.inl, a, rfl, ?_, ?_⟩
    · rw [upd_ne (ne_of_none ha nf), kV_inl]
      exact ha
    have s1 : Same H (upd (upd H f (.dT [])) f (.dT [(S.map Sum.inl, V.int 0)])) := by
      rw [upd_upd]
      exact same_put (Same.refl _) nf
    have hf1 : upd (upd H f (.dT [])) f (.dT [(S.map Sum.inl, V.int 0)]) f = some (.dT (TD [(S, 0)])) := upd_same
    generalize upd (upd H f (.dT [])) f (.dT [(S.map Sum.inl, V.int 0)]) = H1 at s1 hf1 ⊢
    refine ⟨.ref a, rfl, by show 1 ≤ sizeLine; decide, fun y0 ny0 => ⟨_, _, _, rfl, ?_⟩⟩
    have hfy0 : f ≠ y0 := ne_of_none hf1 ny0
    -- the walk's turns
    let Pv : Nat → L2.St → Hp → Prop := fun k σ H' => ∃ (m : Int) (kvs : List (List Int × Int)) (L : List (Addr × List Int)) (y : Addr), k = (n + 1 - m).toNat ∧ 0 ≤ m ∧
      (∃ y5 y6 y7 y8, σ = [some x, some (.ref a), some (.ref f), some (.ref y), some (.int m), y5, y6, y7, y8]) ∧ Same H H' ∧ H' f = some (.dT (TD kvs)) ∧ H' y = some (.lst (L.map fun p => V.ref p.1)) ∧ TpsAt H' L ∧ BF n R S m kvs (L.map (·.2))
    have keyB : ∀ {kvs : List (List Int × Int)} {m : Int}, (kvs.map (·.1)).Nodup → (∀ p ∈ kvs, Low n R p.1 ∧ p.2 = dst R S p.1 ∧ dst R S p.1 ≤ m) → kvs.length ≤ 32 := fun {kvs m} nd hv => by
      have := nodup_subL nd fun U hU => by
        obtain ⟨p, hp, rfl⟩ := List.mem_map.mp hU
        exact hall _ (hv p hp).1
      rw [List.length_map] at this
      omega
    refine ⟨Pv, ⟨_, 0, [(S, 0)], [(a, S)], y0, rfl, Int.le_refl 0, ⟨none, none, none, none, rfl⟩, same_new s1 ny0, by rw [upd_ne hfy0]; exact hf1, upd_same, fun p hp => ?_, BF.start rel lS⟩, fun k σ H2 hP => ?_⟩
    · rw [List.mem_singleton.mp hp]
      exact same_put (Same.refl _) ny0 _ _ (s1 _ _ ha)
    · obtain ⟨m, kvs, L, y, rfl, m0, ⟨y5, y6, y7, y8, rfl⟩, s2, hf2, hy2, hT2, bf⟩ := hP
      refine ⟨.ref y, rfl, Nat.zero_le _, fun r nr => ?_⟩
      have s3 : Same H2 (upd H2 r (.lst [])) := same_put (Same.refl _) nr
      have hr3 : upd H2 r (.lst []) r = some (.lst (([] : List (Addr × List Int)).map fun p => V.ref p.1)) := upd_same
      generalize upd H2 r (.lst []) = H3 at s3 hr3 ⊢
      refine ⟨_, _, dp_tups (s3 _ _ hy2) (hT2.same s3), dp_tups hr3 (fun p hp => by cases hp), sh_tups _, sh_tups _, ?_⟩
      rw [eqv_tupsL]
      refine ⟨_, rfl, ?_⟩
      by_cases hL : L.map (·.2) = []
      · refine iteFF (by rw [show (([] : List (Addr × List Int)).map (·.2)) = [] from rfl, decide_eq_true hL]; rfl) ?_
        rw [hL] at bf
        obtain ⟨d1, d2⟩ := bf.done rel lS m0
        exact ⟨.ref f, rfl, q _ f kvs (s2.trans s3) (s3 _ _ hf2) bf.nd d1 d2⟩
      · refine iteTT (by rw [show (([] : List (Addr × List Int)).map (·.2)) = [] from rfl, decide_eq_false hL]; rfl) ?_
        have mn := bf.bound rel n0 lS hL
        refine ⟨fun σ' H' => ∃ k', k' < (n + 1 - m).toNat ∧ Pv k' σ' H', fun σ' H' h => h, ?_⟩
        refine ⟨_, rfl, m, 1, rfl, rfl, Nat.zero_le _, fun g ng => ⟨_, _, rfl, ?_⟩⟩
        have s4 : Same H3 (upd H3 g (.lst [])) := same_put (Same.refl _) ng
        have hg4 : upd H3 g (.lst []) g = some (.lst (([] : List (Addr × List Int)).map fun p => V.ref p.1)) := upd_same
        have s24 := s3.trans s4
        have ngH : H g = none := free_of (s2.trans s3) ng
        have hf4 := s4 _ _ (s3 _ _ hf2)
        have nfg : f ≠ g := ne_of_none (s3 _ _ hf2) ng
        have nyg : y ≠ g := ne_of_none (s3 _ _ hy2) ng
        have hy4 := s4 _ _ (s3 _ _ hy2)
        have hT4 := hT2.same s24
        show L2.tSeq _ _ _ _ (upd H3 g (.lst []))
        generalize upd H3 g (.lst []) = H4 at s4 hg4 s24 hf4 hy4 hT4 ⊢
        refine ⟨.ref y, rfl, y, rfl, ⟨_, .inl (.inl hy4)⟩, ?_⟩
        -- within the turn: what is found, the fresh ones
        let Iv : List (List Int × Int) → List (Addr × List Int) → Hp → Prop := fun kv M H' => Same H H' ∧ (∀ b u, b ≠ f → b ≠ g → H4 b = some u → H' b = some u) ∧ H' f = some (.dT (TD kv)) ∧ H' g = some (.lst (M.map fun p => V.ref p.1)) ∧ TpsAt H' M ∧ BW n R S m kv (M.map (·.2)) ∧ kv.length = kvs.length + M.length
        refine for_list (K := K) (a := y) (xs := L.map fun p => V.ref p.1) (fun i σ H' => ∃ y6 y7 y8, ∃ kv M, σ = [some x, some (.ref a), some (.ref f), some (.ref y), some (.int (m + 1)), some (.ref g), y6, y7, y8] ∧ Iv kv M H' ∧
            ∀ p ∈ L.take i, ∀ A U, Rnd n R p.2 A → Chg p.2 A U → U ∈ kv.map (·.1))
          ⟨_, _, _, kvs, [], rfl, ⟨s2.trans s24, fun b u _ _ e => e, hf4, hg4, (fun p hp => by cases hp), bf.enter, rfl⟩, fun p hp => by simp at hp⟩ (fun i σ H5 _ hP => ?_) (fun i v σ H5 hv hP => ?_) (fun σ H5 hP => ?_)
        · obtain ⟨y6, y7, y8, kv, M, rfl, ⟨_, kp, _⟩, _⟩ := hP
          have nyf : y ≠ f := ne_of hy4 hf4 (by intro z; cases z)
          exact .inl (.inl (kp y _ nyf nyg hy4))
        · obtain ⟨y6, y7, y8, kv, M, rfl, ⟨s5, kp5, hf5, hg5, hM5, bw5, hlen5⟩, hdone⟩ := hP
          obtain ⟨t, gt, rfl⟩ := get_map hv
          have ht4 := hT4 t (List.mem_of_getElem? gt)
          obtain ⟨lT, dT⟩ := (bf.lay t.2).mp (List.mem_map_of_mem (List.mem_of_getElem? gt))
          have ntf : t.1 ≠ f := ne_of ht4 hf4 (by intro z; cases z)
          have ntg : t.1 ≠ g := ne_of ht4 hg4 (by intro z; cases z)
          have ht5 := kp5 _ _ ntf ntg ht4
          have lTl : t.2.length ≤ 5 := by
            have := asc_len t.2 0 n lT.asc lT.bd
            omega
          refine ⟨x, rfl, .ref t.1, rfl, x, t.1, N, n, R, t.2, rfl, hA.same s5, rel, n0, by omega, .inl (.inl ht5), lT.bd, by omega, fun H6 fr s6 _ hfr => ?_⟩
          have lfr : (frL n R t.2).length ≤ 5 := Nat.le_trans (List.length_filter_le _ _) (by rw [rng_len]; omega)
          refine ⟨fr, frL n R t.2, rfl, .inl (.inl hfr), asc_frL, lfr, fun H7 z LL s7 nz hz hTL hmem hLL => ?_⟩
          have s57 := s6.trans s7
          refine ⟨z, rfl, ⟨_, .inl (.inl hz)⟩, ?_⟩
          have nzf : z ≠ f := ne_of hz (s57 _ _ hf5) (by intro z; cases z)
          have nzg : z ≠ g := (ne_of_none (s6 _ _ hg5) nz).symm
          refine for_list (K := K) (a := z) (xs := LL.map fun p => V.ref p.1) (fun j σ H' => ∃ y7 y8, ∃ kv M, σ = [some x, some (.ref a), some (.ref f), some (.ref y), some (.int (m + 1)), some (.ref g), some (.ref t.1), y7, y8] ∧ Iv kv M H' ∧ (∀ b u, b ≠ f → b ≠ g → H7 b = some u → H' b = some u) ∧
              (∀ p ∈ L.take i, ∀ A U, Rnd n R p.2 A → Chg p.2 A U → U ∈ kv.map (·.1)) ∧ ∀ c ∈ LL.take j, ∀ U, Rnd n R t.2 c.2 → Chg t.2 c.2 U → U ∈ kv.map (·.1))
            ⟨_, _, kv, M, rfl, ⟨s5.trans s57, fun b u h1 h2 e => s57 _ _ (kp5 b u h1 h2 e), s57 _ _ hf5, s57 _ _ hg5, hM5.same s57, bw5, hlen5⟩, fun b u _ _ e => e, hdone, fun c hc => by simp at hc⟩ (fun j σ H8 _ hP => ?_) (fun j v σ H8 hv hP => ?_) (fun σ H8 hP => ?_)
          · obtain ⟨y7, y8, kv, M, rfl, _, kp8, _⟩ := hP
            exact .inl (.inl (kp8 z _ nzf nzg hz))
          · obtain ⟨y7, y8, kv, M, rfl, ⟨s8, kp8, hf8, hg8, hM8, bw8, hlen8⟩, kq8, hd1, hd2⟩ := hP
            obtain ⟨c, gc, rfl⟩ := get_map hv
            have hc7 := hTL c (List.mem_of_getElem? gc)
            have hc8 := kq8 _ _ (ne_of hc7 (s57 _ _ hf5) (by intro z; cases z)) (ne_of hc7 (s57 _ _ hg5) (by intro z; cases z)) hc7
            have ht8 := kp8 _ _ ntf ntg ht4
            obtain ⟨cne, casc, csub⟩ := (hmem c.2).mp (List.mem_map_of_mem (List.mem_of_getElem? gc))
            have cfree : ∀ i ∈ c.2, Free n R t.2 i := fun i hi => (mem_frL rel).mp (csub i hi)
            have cl : c.2.length ≤ 5 := Nat.le_trans (nodup_sub (asc_nodup casc) csub) lfr
            refine ⟨.ref t.1, rfl, .ref c.1, rfl, t.1, c.1, t.2, c.2, rfl, .inl (.inl ht8), .inl (.inl hc8), lT.asc, casc, by omega, by omega, fun H9 p9 U s9 hp9 hU => ?_⟩
            have s89 := s8.trans s9
            refine ⟨x, rfl, .ref c.1, rfl, x, c.1, N, n, R, c.2, rfl, hA.same s89, .inl (.inl (s9 _ _ hc8)), fun i hi => ⟨(cfree i hi).1, (cfree i hi).2.1⟩, by omega, fun H10 b s10 hb => ⟨b, rfl, ?_⟩⟩
            have s8_10 := s9.trans s10
            have kp10 : ∀ b u, b ≠ f → b ≠ g → H4 b = some u → H10 b = some u := fun b u h1 h2 e => s8_10 _ _ (kp8 b u h1 h2 e)
            have kq10 : ∀ b u, b ≠ f → b ≠ g → H7 b = some u → H10 b = some u := fun b u h1 h2 e => s8_10 _ _ (kq8 b u h1 h2 e)
            have lkv := keyB bw8.nd bw8.val
            have et : LL.take (j + 1) = LL.take j ++ [c] := by rw [List.take_add_one, gc]; rfl
            -- nothing is put
            have stay : (∀ U', Rnd n R t.2 c.2 → Chg t.2 c.2 U' → U' ∈ kv.map (·.1)) → ∃ y7 y8, ∃ kv M, ([some x, some (.ref a), some (.ref f), some (.ref y), some (.int (m + 1)), some (.ref g), some (.ref t.1), some (.ref c.1), some (.ref p9)] : L2.St) = [some x, some (.ref a), some (.ref f), some (.ref y), some (.int (m + 1)), some (.ref g), some (.ref t.1), y7, y8] ∧ Iv kv M H10 ∧ (∀ b u, b ≠ f → b ≠ g → H7 b = some u → H10 b = some u) ∧
                (∀ p ∈ L.take i, ∀ A U, Rnd n R p.2 A → Chg p.2 A U → U ∈ kv.map (·.1)) ∧ ∀ c ∈ LL.take (j + 1), ∀ U, Rnd n R t.2 c.2 → Chg t.2 c.2 U → U ∈ kv.map (·.1) := fun h => by
              refine ⟨_, _, kv, M, rfl, ⟨s89.trans s10, kp10, s8_10 _ _ hf8, s8_10 _ _ hg8, hM8.same s8_10, bw8, hlen8⟩, kq10, hd1, fun c' hc' U' hr' hu' => ?_⟩
              rw [et] at hc'
              rcases List.mem_append.mp hc' with h1 | h1
              · exact hd2 c' h1 U' hr' hu'
              · rw [List.mem_singleton.mp h1] at hr' hu'
                exact h U' hr' hu'
            cases b with
            | false =>
              refine iteF (iteF (stay fun U' hr' _ => ?_))
              have := hb.mpr hr'.loose
              cases this
            | true =>
              have hloose := hb.mp rfl
              have hp10 := s10 _ _ hp9
              have hf10 := s8_10 _ _ hf8
              refine iteT ?_
              have hget := DGet.t (k := U.map Sum.inl) hf10 (by rw [kV_inl]; exact hp10)
              refine ⟨.ref p9, rfl, .ref f, rfl, f, _, rfl, hget, _, rfl, ?_⟩
              by_cases hUk : U ∈ kv.map (·.1)
              · obtain ⟨q0, _, _, e⟩ := td_some hUk
                rw [e]
                refine iteF (stay fun U' _ hu' => ?_)
                rw [← chg_uniq hU hu']
                exact hUk
              · rw [td_none hUk]
                refine iteT ?_
                refine ⟨.int (m + 1), rfl, .ref f, rfl, .ref p9, rfl, f, _, rfl, DPut.t (k := U.map Sum.inl) hf10 (by rw [kV_inl]; exact hp10) (by rw [td_len]; exact small20 (by omega)), ?_⟩
                rw [td_put hUk]
                have nfH : H f = none := nf
                have hg11 : upd H10 f (.dT (TD (kv ++ [(U, m + 1)]))) g = some (.lst (M.map fun p => V.ref p.1)) := by rw [upd_ne nfg.symm]; exact s8_10 _ _ hg8
                have lM : M.length ≤ 32 := by omega
                refine ⟨.ref g, rfl, .inl ⟨rfl, _, .inl (.inl hg11)⟩, .ref p9, rfl, g, _, _, rfl, rfl, hg11, by rw [List.length_map]; exact small20 (by omega), ?_⟩
                have kfin : ∀ b u, b ≠ f → b ≠ g → H10 b = some u → upd (upd H10 f (.dT (TD (kv ++ [(U, m + 1)])))) g (.lst (M.map (fun p => V.ref p.1) ++ [.ref p9])) b = some u := fun b u h1 h2 e => by
                  rw [upd_ne h2, upd_ne h1]
                  exact e
                have bw' := bw8.put rel lS lT dT cfree hloose hU hUk
                refine ⟨_, _, kv ++ [(U, m + 1)], M ++ [(p9, U)], rfl, ⟨same_put (same_put (s89.trans s10) nfH) ngH, fun b u h1 h2 e => kfin b u h1 h2 (kp10 b u h1 h2 e), by rw [upd_ne nfg, upd_same], by rw [upd_same, List.map_append]; rfl, fun p hp => ?_, by rw [List.map_append]; exact bw', by rw [List.length_append, List.length_append, hlen8]; simp; omega⟩, fun b u h1 h2 e => kfin b u h1 h2 (kq10 b u h1 h2 e), fun p hp A U' h1 h2 => ?_, fun c' hc' U' hr' hu' => ?_⟩
                · rcases List.mem_append.mp hp with h1 | h1
                  · have e := s8_10 _ _ (hM8 p h1)
                    exact kfin _ _ (ne_of e hf10 (by intro z; cases z)) (ne_of e (s8_10 _ _ hg8) (by intro z; cases z)) e
                  · rw [List.mem_singleton.mp h1]
                    exact kfin _ _ (ne_of hp10 hf10 (by intro z; cases z)) (ne_of hp10 (s8_10 _ _ hg8) (by intro z; cases z)) hp10
                · rw [List.map_append]
                  exact List.mem_append_left _ (hd1 p hp A U' h1 h2)
                · rw [List.map_append]
                  rw [et] at hc'
                  rcases List.mem_append.mp hc' with h1 | h1
                  · exact List.mem_append_left _ (hd2 c' h1 U' hr' hu')
                  · rw [List.mem_singleton.mp h1] at hu'
                    rw [← chg_uniq hU hu']
                    exact List.mem_append_right _ List.mem_cons_self
          · obtain ⟨y7, y8, kv, M, rfl, hI, _, hd1, hd2⟩ := hP
            rw [List.length_map, List.take_length] at hd2
            refine ⟨_, _, _, kv, M, rfl, hI, fun p hp A U hr hu => ?_⟩
            have et : L.take (i + 1) = L.take i ++ [t] := by rw [List.take_add_one, gt]; rfl
            rw [et] at hp
            rcases List.mem_append.mp hp with h1 | h1
            · exact hd1 p h1 A U hr hu
            · rw [List.mem_singleton.mp h1] at hr hu
              have hA : A ∈ LL.map (·.2) := (hmem A).mpr ⟨hr.ne, hr.asc, fun i hi => (mem_frL rel).mpr (hr.free i hi)⟩
              obtain ⟨c, hc, rfl⟩ := List.mem_map.mp hA
              exact hd2 c hc U hr hu
        · obtain ⟨y6, y7, y8, kv, M, rfl, ⟨s5, kp5, hf5, hg5, hM5, bw5, hlen5⟩, hdone⟩ := hP
          rw [List.length_map, List.take_length] at hdone
          refine ⟨.ref g, rfl, (n + 1 - (m + 1)).toNat, by omega, m + 1, kv, M, g, rfl, by omega, ⟨_, _, _, _, rfl⟩, s5, hf5, hg5, hM5, ?_⟩
          refine bw5.leave rel m0 lS fun U hU hd A V' hr hc => ?_
          obtain ⟨p, hp, rfl⟩ := List.mem_map.mp ((bf.lay U).mpr ⟨hU, hd⟩)
          exact hdone p hp A V' hr hc
end
end K37
/-! ## L11 -/
namespace K37
open PySem PySem.Spec PyProof.Rows L2
theorem lex_tri : ∀ a b : List Int, HT.lexLt a b = false → HT.lexLt b a = false → a = b
  | [], [], _, _ => rfl
  | [], _ :: _, h, _ => by cases h
  | _ :: _, [], _, h => by cases h
  | x :: a, y :: b, h1, h2 => by
    rw [HT.lexLt_cons] at h1 h2
    by_cases e : x = y
    · subst e
      rw [if_pos rfl] at h1 h2
      rw [lex_tri a b h1 h2]
    · rw [if_neg e] at h1
      rw [if_neg (fun z => e z.symm)] at h2
      have := of_decide_eq_false h1
      have := of_decide_eq_false h2
      omega
/-- two lists in lexical order, one a rearrangement of the other -/
theorem lex_uniq : ∀ {l m : List (List Int)}, l.Pairwise (fun p q => HT.lexLt q p = false) → m.Pairwise (fun p q => HT.lexLt q p = false) → l.Perm m → l = m
  | [], m, _, _, h => (List.Perm.nil_eq h)
  | x :: l, [], _, _, h => absurd h.length_eq (by simp)
  | x :: l, y :: m, hl, hm, h => by
    have a := List.pairwise_cons.mp hl
    have b := List.pairwise_cons.mp hm
    have e : x = y := by
      rcases List.mem_cons.mp (h.mem_iff.mp (List.mem_cons_self (a := x) (l := l))) with e | e
      · exact e
      · rcases List.mem_cons.mp (h.mem_iff.mpr (List.mem_cons_self (a := y) (l := m))) with e2 | e2
        · exact e2.symm
        · exact lex_tri x y (b.1 x e) (a.1 y e2)
    subst e
    rw [lex_uniq a.2 b.2 (List.Perm.cons_inv h)]
theorem cutV_mem {xs : List V} {lo hi : Option Int} {v : V} (h : v ∈ cutV xs lo hi) : v ∈ xs := by
  unfold cutV at h
  exact List.mem_of_mem_drop (List.mem_of_mem_take h)
theorem pass_no {X : Cx} : Passes (L2.CX X.prog X.w) X E0 := fun _ _ _ _ _ _ _ h => by
  obtain ⟨_, _, _, _, _, _, _, _, _, _, _, _, z⟩ := h
  exact z.elim
theorem name_of {i : Nat} {v : V} {σ : L2.St} {H : Hp} {Q : L2.St → Hp → Prop} (h : Q (σ.set i (some v)) H) : gName i v σ H Q := h
theorem seq_of {t u : TS} {D : Ends} {σ : L2.St} {H : Hp} (h : t { D with nx := u D } σ H) : tSeq t u D σ H := h
theorem par_of {i j : Nat} {ta : TA} {D : Ends} {σ : L2.St} {H : Hp} (h : ta σ H fun vs H1 => ∃ v w, vs = [v, w] ∧ D.nx ((σ.set i (some v)).set j (some w)) H1) : tPar i j ta D σ H := h
section
variable {P : Program} {w : World} {K : PySem.W.Frag} {mg : Str → Option Value} {base : Heap}
/-- the lower sets, in order -/
structure LwAt (H : Hp) (p : Addr) (L : List (Addr × List Int)) (n : Int) (R : Rl) : Prop where
  at_ : H p = some (.lst (L.map fun q => V.ref q.1))
  tps : TpsAt H L
  up : LexUp L
  nd : (L.map (·.2)).Nodup
  mem : ∀ S, S ∈ L.map (·.2) ↔ Low n R S
  few : L.length ≤ 32
theorem LwAt.kp {H H' : Hp} {p : Addr} {L : List (Addr × List Int)} {n : Int} {R : Rl} {s l c : Addr} {B : Int} (h : LwAt H p L n R) (st : StAt H s l c B) (hp : p ≠ s ∧ p ≠ l) (k : Kp s l H H') : LwAt H' p L n R :=
  ⟨k _ _ hp.1 hp.2 h.at_, fun q hq => by
    have e := h.tps q hq
    obtain ⟨n1, n2, _⟩ := st.apart e (fun _ z => nomatch z) (fun _ z => nomatch z)
    exact k _ _ n1 n2 e, h.up, h.nd, h.mem, h.few⟩
theorem LwAt.same {H H' : Hp} {p : Addr} {L : List (Addr × List Int)} {n : Int} {R : Rl} (h : LwAt H p L n R) (s : Same H H') : LwAt H' p L n R :=
  ⟨s _ _ h.at_, h.tps.same s, h.up, h.nd, h.mem, h.few⟩
/-! ### _law_few_right -/
def spFew (K : PySem.W.Frag) : Sp := fun vs H Q _ => ∃ (s l c p : Addr) (o x : V) (B n : Int) (ps : List (Int × Int)) (L : List (Addr × List Int)), vs = [.ref s, o, x, .ref p] ∧ StAt H s l c B ∧ B < 900000 ∧ OrdAt K H o n ps ∧ Ord n ps ∧ n ≤ 5 ∧ AhL (fun b => b ≠ s ∧ b ≠ l) H x n (ah ps) ∧
  LwAt H p L n (ah ps) ∧ (p ≠ s ∧ p ≠ l) ∧ ∀ H', Kp s l H H' → StAt H' s l c (B + 10) → Q (.bl true) H'
abbrev nFew : List Str := ["_law_state", "_law_order_so", "_law_aheads_here", "_law_some", "_law_start", "_law_known", "_law_late", "_law_back", "_law_on", "_law_due", "_law_turn", "_law_item"]
theorem sc_few : FnScope nFew ["_law_state", "_law_order_so", "_law_aheads_here", "_law_some"] (defScope (top 46)) := ⟨rfl, rfl, rfl, by decide +kernel, rfl, by decide +kernel, by decide +kernel⟩
theorem ok_few {CO CL : Addr} {f : Addr} {fd : FuncData} (F : FnP K "_law_few_right" 46 f fd) (T : Tp mg) (C1 : Cl P w K mg base CX0 3 "_law_of" (spOf K)) (C2 : Cl P w K mg base CX0 2 "_law_layers" (spLayers K)) (C3 : Cl P w K mg base CX0 1 "_law_longest" (spLLong K)) (C4 : Cl P w K mg base (L2.CX P w) 7 "fewest_rounds" (spFewest K CO CL)) :
    FnOk P w K mg base CX0 8 f fd ["_law_state", "_law_order_so", "_law_aheads_here", "_law_some"] (spFew K) := by
  refine F.ok sc_few (fun vs H Q E h => ?_) (fun cdv A outer s H vs Q E hr h => ⟨_, PSs.nox (pss_cons
      (ps_set (i := 4) sc_few.nd rfl (.inr rfl) (pe_cl C1 hr (by decide) (by rfl) pass0 (pa_cons (pv 0) (pa_cons (pv 3) pa_nil))))
      (pss_cons (ps_set (i := 5) sc_few.nd rfl (.inl rfl) (pe_cl C2 hr (by decide) (by rfl) pass0 (pa_cons (pv 2) (pa_cons (pv 4) pa_nil))))
      (pss_cons (ps_if (pt_cmpR (op_neD hr.units) (pe_callB (cr_sortTd rfl hr.units) (by rfl) T.sorted (by decide +kernel) (pa_cons (pv 5) pa_nil)) (pv 3) (nomark _)) (pss_one (ps_ret pe_bl)) pss_nil)
      (pss_cons (ps_for PassesOwn.never rfl (pi_list (pe_op op_cat (pe_op op_cat (pe_slice sl_list (pv 3) po_none (po_some pe_int))
          (pe_lc (own := [("_law_turn", 10)]) (g := gName 10) (tt := tYes) rfl sc_few.nd (pi_range1 rfl T.range (pa_cons pe_int pa_nil)) (blkOk_by (N := nFew) (sc := defScope (top 46)) (by decide +kernel)) (fun _ _ _ _ _ => pg_name (i := 10) sc_few.nd rfl (Or.inl rfl)) (fun _ _ _ _ _ => pts_nil)
            (fun _ _ _ _ _ => pe_cl C1 hr (by decide) (by rfl) pass0 (pa_cons (pv 0) (pa_cons (pv 3) pa_nil)))))
          (pe_slice sl_list (pv 3) (po_some (pe_un un_neg pe_int)) po_none))) (pg_name (i := 6) sc_few.nd rfl (Or.inr rfl))
        (pss_cons (ps_par (i := 7) (j := 8) (by rfl) sc_few.nd rfl rfl (by decide) rfl rfl (pa_cons
            (pe_lc (own := [("_law_item", 11)]) (g := gName 11) rfl sc_few.nd (pi_tup (pv 4)) (blkOk_by (N := nFew) (sc := defScope (top 46)) (by decide +kernel)) (fun _ _ _ _ _ => pg_name (i := 11) sc_few.nd rfl (Or.inl rfl))
              (fun _ _ _ _ _ => pts_one (pt_cmpR (ninK K) (pv 11) (pv 6) rfl)) (fun _ _ _ _ _ => pv 11)) (pa_cons
            (pe_lc (own := [("_law_item", 11)]) (g := gName 11) rfl sc_few.nd (pi_tup (pv 6)) (blkOk_by (N := nFew) (sc := defScope (top 46)) (by decide +kernel)) (fun _ _ _ _ _ => pg_name (i := 11) sc_few.nd rfl (Or.inl rfl))
              (fun _ _ _ _ _ => pts_one (pt_cmpR (ninK K) (pv 11) (pv 4) rfl)) (fun _ _ _ _ _ => pv 11)) pa_nil)) (by rfl))
        (pss_cons (ps_set (i := 9) sc_few.nd rfl (.inl rfl) (pe_callB (call_max2 rfl) (by rfl) T.max (by decide +kernel) (pa_cons (pe_cl C3 hr (by decide) (by rfl) pass0 (pa_cons (pv 2) (pa_cons (pv 7) pa_nil))) (pa_cons (pe_cl C3 hr (by decide) (by rfl) pass0 (pa_cons (pv 2) (pa_cons (pv 8) pa_nil))) pa_nil))))
        (pss_one (ps_if (PW.pt (pw_or (pt_cmpR op_ne (pe_dget (hu_of hr) (pv 5) (pv 6) (fun _ _ => rfl)) (pv 9) (nomark _)) (pw_or1 (pt_cmpR op_ne (pe_cl C4 hr (by decide) (by rfl) pass_no (pa_cons (pv 1) (pa_cons (pv 4) (pa_cons (pv 6) pa_nil)))) (pv 9) (nomark _)))))
          (pss_one (ps_ret pe_bl)) pss_nil)))))
      (pss_one (ps_ret pe_bl)))))), ?_⟩)
  · obtain ⟨s, l, c, p, o, x, B, n, ps, L, rfl, _⟩ := h
    rfl
  · obtain ⟨a, l, c, p, o, x, B, n, ps, L, rfl, hSt, hB, hO, hn, n5, hA, hL, np, q⟩ := h
    have n0 := hn.n0
    have rel := ah_rel hn.ok hn.n20
    have hL0 := hL.at_
    obtain ⟨nps, npl⟩ := np
    have hne : L.map (fun q => V.ref q.1) ≠ [] := by
      have : ([] : List Int) ∈ L.map (·.2) := (hL.mem []).mpr ⟨.nil, (fun x hx => by cases hx), fun x hx => by cases hx⟩
      intro z
      rw [List.map_eq_nil_iff] at z
      rw [z] at this
      cases this
    have few := hL.few
    refine ⟨.ref a, rfl, .ref p, rfl, a, l, c, p, _, B, rfl, hSt, by omega, hL0, npl, hne, by rw [List.length_map]; omega, fun v H1 hv k1 st1 => ?_⟩
    obtain ⟨t, ht, rfl⟩ := List.mem_map.mp hv
    have lT : Low n (ah ps) t.2 := (hL.mem _).mp (List.mem_map_of_mem ht)
    have hL1 := hL.kp hSt ⟨nps, npl⟩ k1
    have hA1 := hA.kp (fun b hb => hb) k1
    have hO1 := hO.kp hSt k1
    refine ⟨x, rfl, .ref t.1, rfl, x, t.1, _, n, ah ps, t.2, L.map (·.2), rfl, hA1, rel, n0, n5, hL1.tps t ht, lT, by rw [List.length_map]; exact few, fun U hU => (hL.mem U).mpr hU, fun H2 f kvs s2 hf ndk mk vk => ?_⟩
    have hL2 := hL1.same s2
    have lkv : kvs.length ≤ 32 := by
      have := nodup_subL ndk fun U hU => (hL.mem U).mpr ((mk U).mpr hU)
      rw [List.length_map, List.length_map] at this
      omega
    refine ⟨.ref f, rfl, f, _, kvs.map (·.1), rfl, hf, td_keys kvs, fun _ => (mk _).mp ⟨.nil, (fun x hx => by cases hx), fun x hx => by cases hx⟩, fun L' r pm up hT' nr => ?_⟩
    have s3 : Same H2 (upd H2 r (.lst (L'.map fun q => V.ref q.1))) := same_put (Same.refl _) nr
    have hr3 : upd H2 r (.lst (L'.map fun q => V.ref q.1)) r = some (.lst (L'.map fun q => V.ref q.1)) := upd_same
    generalize upd H2 r (.lst (L'.map fun q => V.ref q.1)) = H3 at s3 hr3 ⊢
    have hL3 := hL2.same s3
    refine ⟨.ref p, rfl, _, _, dp_tups hr3 (hT'.same s3), dp_tups hL3.at_ hL3.tps, sh_tups _, sh_tups _, ?_⟩
    rw [eqv_tupsL]
    have hf3 := s3 _ _ hf
    have eq : L'.map (·.2) = L.map (·.2) := by
      refine lex_uniq (List.pairwise_map.mpr up) (List.pairwise_map.mpr hL.up) (pm.trans ?_)
      exact (List.perm_ext_iff_of_nodup ndk hL.nd).mpr fun U => (mk U).symm.trans (hL.mem U).symm
    refine ⟨_, rfl, iteFF (by rw [decide_eq_true eq]; rfl) ?_⟩
    have s13 := s2.trans s3
    -- some[:3] + [..] + some[-2:]
    refine ⟨.ref p, rfl, 3, rfl, p, _, rfl, .inl (.inl hL3.at_), fun u nu => ?_⟩
    have s4 : Same H3 (upd H3 u (.lst (cutV (L.map fun q => V.ref q.1) none (some 3)))) := same_put (Same.refl _) nu
    have hu4 : upd H3 u (.lst (cutV (L.map fun q => V.ref q.1) none (some 3))) u = some (.lst (cutV (L.map fun q => V.ref q.1) none (some 3))) := upd_same
    have stU := ((st1.same s13)).new nu
    generalize upd H3 u (.lst (cutV (L.map fun q => V.ref q.1) none (some 3))) = H4 at s4 hu4 ⊢
    have st4 := (st1.same s13).same s4
    have hL4 := hL3.same s4
    have hf4 := s4 _ _ hf3
    refine ⟨4, rfl, by decide, by decide, fun D hD => ?_⟩
    obtain ⟨dD1, dD2, dD3⟩ := st4.new hD
    refine lc_range (lo := 0) (n := 4) (fun i H' => Kp a l H4 H' ∧ StAt H' a l c (B + 1 + i) ∧ ∃ acc, H' D = some (.lst acc) ∧ acc.length = i ∧ ∀ v ∈ acc, v ∈ L.map fun q => V.ref q.1)
      ⟨Kp.of (same_put (Same.refl _) hD), (st4.upd ⟨dD1, dD2, dD3⟩).mono (by omega), [], upd_same, rfl, fun v hv => by cases hv⟩ (fun i H5 hi hP => ?_) (fun H5 hP => ?_)
    · obtain ⟨k5, st5, acc, e1, e2, e3⟩ := hP
      refine ⟨rfl, yesI ⟨.ref a, rfl, .ref p, rfl, a, l, c, p, _, _, rfl, st5, by omega, k5 _ _ nps npl hL4.at_, npl, hne, by rw [List.length_map]; omega, fun v H6 hv k6 st6 => ?_⟩⟩
      have hDH : H4 D = none := hD
      refine ⟨acc, k6 _ _ dD1 dD2 e1, by rw [e2]; exact small20 (by omega), fun b o h1 h2 e => ?_, ?_, acc ++ [v], upd_same, by rw [List.length_append, e2]; rfl, fun w hw => ?_⟩
      · rw [upd_ne (ne_of_none e hDH)]
        exact k6 b o h1 h2 (k5 b o h1 h2 e)
      · exact (st6.upd ⟨dD1, dD2, dD3⟩).mono (by omega)
      · rcases List.mem_append.mp hw with h | h
        · exact e3 w h
        · rw [List.mem_singleton.mp h]
          exact hv
    · obtain ⟨k5, st5, acc, e1, e2, e3⟩ := hP
      have hu5 := k5 _ _ stU.1 stU.2.1 hu4
      have lc3 : (cutV (L.map fun q => V.ref q.1) none (some 3)).length ≤ 32 := Nat.le_trans (cutV_length _ _ _) (by rw [List.length_map]; exact few)
      refine ⟨u, D, _, _, rfl, rfl, hu5, e1, Nat.le_of_lt (small20 (by omega)), fun v nv => ?_⟩
      have hL5 := hL4.kp st4 ⟨nps, npl⟩ k5
      have s6 : Same H5 (upd H5 v (.lst (cutV (L.map fun q => V.ref q.1) none (some 3) ++ acc))) := same_put (Same.refl _) nv
      have hv6 : upd H5 v (.lst (cutV (L.map fun q => V.ref q.1) none (some 3) ++ acc)) v = some (.lst (cutV (L.map fun q => V.ref q.1) none (some 3) ++ acc)) := upd_same
      generalize upd H5 v (.lst (cutV (L.map fun q => V.ref q.1) none (some 3) ++ acc)) = H6 at s6 hv6 ⊢
      have hL6 := hL5.same s6
      refine ⟨.ref p, rfl, 2, rfl, -2, rfl, p, _, rfl, .inl (.inl hL6.at_), fun w nw => ?_⟩
      have s7 : Same H6 (upd H6 w (.lst (cutV (L.map fun q => V.ref q.1) (some (-2)) none))) := same_put (Same.refl _) nw
      have hw7 : upd H6 w (.lst (cutV (L.map fun q => V.ref q.1) (some (-2)) none)) w = some (.lst (cutV (L.map fun q => V.ref q.1) (some (-2)) none)) := upd_same
      generalize upd H6 w (.lst (cutV (L.map fun q => V.ref q.1) (some (-2)) none)) = H7 at s7 hw7 ⊢
      have lc2 : (cutV (L.map fun q => V.ref q.1) (some (-2)) none).length ≤ 32 := Nat.le_trans (cutV_length _ _ _) (by rw [List.length_map]; exact few)
      refine ⟨v, w, _, _, rfl, rfl, s7 _ _ hv6, hw7, by rw [List.length_append]; exact Nat.le_of_lt (small20 (by omega)), fun z nz => ?_⟩
      have hz : ∀ y ∈ (cutV (L.map fun q => V.ref q.1) none (some 3) ++ acc) ++ cutV (L.map fun q => V.ref q.1) (some (-2)) none, y ∈ L.map fun q => V.ref q.1 := fun y hy => by
        rcases List.mem_append.mp hy with h | h
        · rcases List.mem_append.mp h with h | h
          · exact cutV_mem h
          · exact e3 y h
        · exact cutV_mem h
      generalize (cutV (L.map fun q => V.ref q.1) none (some 3) ++ acc) ++ cutV (L.map fun q => V.ref q.1) (some (-2)) none = zs at hz ⊢
      have s8 : Same H7 (upd H7 z (.lst zs)) := same_put (Same.refl _) nz
      have hz8 : upd H7 z (.lst zs) z = some (.lst zs) := upd_same
      generalize upd H7 z (.lst zs) = H8 at s8 hz8 ⊢
      have s58 := (s6.trans s7).trans s8
      have st8 := st5.same s58
      have hL8 := hL5.same s58
      have k18 : Kp a l H1 H8 := (Kp.of (s13.trans s4)).trans (k5.trans (Kp.of s58))
      have hf8 : H8 f = some (.dT (TD kvs)) := by
        have := st4.apart hf4 (fun _ z => nomatch z) (fun _ z => nomatch z)
        exact s58 _ _ (k5 _ _ this.1 this.2.1 hf4)
      have hA8 := hA1.kp (fun b hb => hb) k18
      have hO8 := hO1.kp st1 k18
      have ht8 : H8 t.1 = some (.tup (t.2.map V.int)) := hL8.tps t ht
      refine ⟨z, rfl, ⟨_, .inl (.inl hz8)⟩, ?_⟩
      refine for_list (K := K) (a := z) (xs := zs) (fun j σ H' => ∃ y6 y7 y8 y9, σ = [some (.ref a), some o, some x, some (.ref p), some (.ref t.1), some (.ref f), y6, y7, y8, y9, none, none] ∧ Same H8 H') ⟨_, _, _, _, rfl, Same.refl _⟩ (fun j σ H9 _ hP => ?_) (fun j v' σ H9 hj hP => ?_) (fun σ H9 hP => ?_)
      · obtain ⟨_, _, _, _, rfl, s9⟩ := hP
        exact .inl (.inl (s9 _ _ hz8))
      · obtain ⟨y6, y7, y8, y9, rfl, s9⟩ := hP
        obtain ⟨u', hu', rfl⟩ := List.mem_map.mp (hz _ (List.mem_of_getElem? hj))
        have hL9 := hL8.same s9
        have lU : Low n (ah ps) u'.2 := (hL.mem _).mp (List.mem_map_of_mem hu')
        have ht9 : SqT K H9 t.1 (t.2.map V.int) := .inl (.inl (hL9.tps t ht))
        have hu9 : SqT K H9 u'.1 (u'.2.map V.int) := .inl (.inl (hL9.tps u' hu'))
        have fT := asc_len t.2 0 n lT.asc lT.bd
        have fU := asc_len u'.2 0 n lU.asc lU.bd
        refine name_of (seq_of (par_of (cons_of (dif_read (K := K) (i := 4) (j := 6) (k := 11) (σ := [some (.ref a), some o, some x, some (.ref p), some (.ref t.1), some (.ref f), some (.ref u'.1), y7, y8, y9, none, none]) ht9 hu9 (by omega) rfl rfl (by decide) (by show 11 < 12; decide) fun H10 b1 s10 hb1 => ?_))))
        refine dif_read (K := K) (i := 6) (j := 4) (k := 11) (σ := [some (.ref a), some o, some x, some (.ref p), some (.ref t.1), some (.ref f), some (.ref u'.1), y7, y8, y9, none, none]) (same_T s10 hu9) (same_T s10 ht9) (by omega) rfl rfl (by decide) (by show 11 < 12; decide) fun H11 b2 s11 hb2 => ⟨_, _, rfl, ?_⟩
        have s911 := s9.trans (s10.trans s11)
        refine ⟨x, rfl, .ref b1, rfl, x, b1, _, n, ah ps, dif t.2 u'.2, rfl, hA8.same s911, rel, hn.n20, .inl (.inl (s11 _ _ hb1)), asc_filter _ lT.asc, fun i hi => lT.bd i (mem_dif.mp hi).1, fun H12 s12 => ?_⟩
        refine ⟨x, rfl, .ref b2, rfl, x, b2, _, n, ah ps, dif u'.2 t.2, rfl, hA8.same (s911.trans s12), rel, hn.n20, .inl (.inl (s12 _ _ hb2)), asc_filter _ lU.asc, fun i hi => lU.bd i (mem_dif.mp hi).1, fun H13 s13' => ?_⟩
        have s9_13 := s911.trans (s12.trans s13')
        refine ⟨_, _, rfl, ?_⟩
        have ed : (if hgt (ah ps) (dif u'.2 t.2) > hgt (ah ps) (dif t.2 u'.2) then hgt (ah ps) (dif u'.2 t.2) else hgt (ah ps) (dif t.2 u'.2)) = dst (ah ps) t.2 u'.2 := by
          show _ = max _ _
          split <;> omega
        rw [ed]
        obtain ⟨q0, hq0, eq0, eval⟩ := td_some ((mk u'.2).mp lU)
        have hget := DGet.t (k := u'.2.map Sum.inl) (s9_13 _ _ hf8) (by rw [kV_inl]; exact s9_13 _ _ (hL8.tps u' hu'))
        rw [eval, vk q0 hq0, eq0] at hget
        refine ⟨.ref f, rfl, .ref u'.1, rfl, f, _, rfl, hget, _, rfl, rfl, _, rfl, iteFF (by simp) ?_⟩
        have s1213 := s9_13
        refine ⟨o, rfl, .ref t.1, rfl, .ref u'.1, rfl, o, .ref t.1, .ref u'.1, rfl, .inr (.inr ⟨n, ps, tupD t.2, tupD u'.2, hO8.same s1213, hn, dp_tup (.inl (.inl (s1213 _ _ ht8))), (by show (t.2.map PyData.int).length ≤ 1000; rw [List.length_map]; omega), dp_tup (.inl (.inl (s1213 _ _ (hL8.tps u' hu')))), (by show (u'.2.map PyData.int).length ≤ 1000; rw [List.length_map]; omega), .inr (.inr ⟨t.2, u'.2, rfl, rfl, lT, lU, fun H14 s14 => ?_⟩)⟩)⟩
        exact ⟨_, rfl, rfl, _, rfl, iteFF (by simp) ⟨_, _, _, _, rfl, s9_13.trans s14⟩⟩
      · obtain ⟨_, _, _, _, rfl, s9⟩ := hP
        exact q _ (k1.trans (k18.trans (Kp.of s9))) ((st8.mono (by omega)).same s9)
end
end K37
/-! ## Pl5 -/
namespace K37
open PySem
/-- the odd values, free being fr -/
def oddsD (n : Int) (fr : List Int) : List PyData :=
  [.tuple [], .none, .list (fr.map .int), tupD [n], tupD [-1], .tuple [.bool true], tupD [0, 0], tupD fr.reverse, .int 0, .tuple [.str "0"], .tuple [.none], .tuple [tupD fr]]
def dueB (fr : List Int) (d : PyData) : Bool := match fr with
  | [x] => decide (d.shown = (tupD [x]).shown)
  | _ => false
def okD (d : PyData) : Bool := d.showable && !d.hasDict && decide (d.depth ≤ 8) && decide (d.shown.length ≤ 100)
theorem odds_fin : ((List.range 5).all fun x => ((List.range 6).all fun n => decide (n ≤ x) || (((oddsD (n : Int) [(x : Int)]).all okD && okD (tupD [(x : Int)])) && decide ((oddsD (n : Int) [(x : Int)]).map (dueB [(x : Int)]) = [false, false, false, false, false, false, false, true, false, false, false, false])))) = true := by
  decide +kernel
theorem odds_one {n x : Int} (h0 : 0 ≤ x) (h1 : x < n) (h2 : n ≤ 5) : (oddsD n [x]).all okD = true ∧ okD (tupD [x]) = true ∧ (oddsD n [x]).map (dueB [x]) = [false, false, false, false, false, false, false, true, false, false, false, false] := by
  have h := List.all_eq_true.mp odds_fin x.toNat (List.mem_range.mpr (by omega))
  have h := List.all_eq_true.mp h n.toNat (List.mem_range.mpr (by omega))
  have e1 : ((x.toNat : Nat) : Int) = x := by omega
  have e2 : ((n.toNat : Nat) : Int) = n := by omega
  rw [e1, e2, decide_eq_false (by omega), Bool.false_or, Bool.and_eq_true, Bool.and_eq_true, decide_eq_true_eq] at h
  exact ⟨h.1.1, h.1.2, h.2⟩
def IsRnd0 (n : Int) (R : Rl) (S : List Int) (d : PyData) : Prop := ∃ L, d = tupD L ∧ Rnd n R S L
theorem tupD_tuple {ds : List PyData} {L : List Int} (h : PyData.tuple ds = tupD L) : ds = L.map PyData.int := PyData.tuple.inj h
/-- which odd values are rounds: none but the only free item alone -/
theorem odds_due {n : Int} {R : Rl} {S : List Int} (rel : Rel n R) (n5 : n ≤ 5) {d : PyData} (hd : d ∈ oddsD n (frL n R S)) : IsRnd0 n R S d ↔ dueB (frL n R S) d = true := by
  have hfree : ∀ i, i ∈ frL n R S ↔ Free n R S i := fun i => mem_frL rel
  have hasc : Asc (frL n R S) := asc_frL
  generalize frL n R S = fr at hd hfree hasc ⊢
  have no : ∀ d, (¬ IsRnd0 n R S d) → dueB fr d = false → (IsRnd0 n R S d ↔ dueB fr d = true) := fun d h1 h2 => ⟨fun z => absurd z h1, fun z => by rw [h2] at z; cases z⟩
  have single : ∀ y, ¬ (0 ≤ y ∧ y < n) → ¬ IsRnd0 n R S (tupD [y]) := fun y hy ⟨L, e, h⟩ => by
    have e := tupD_inj e
    subst e
    have := h.free y List.mem_cons_self
    exact hy ⟨this.1, this.2.1⟩
  -- what dueB says of all of them
  have due : (oddsD n fr).map (dueB fr) = [false, false, false, false, false, false, false, (match fr with | [_] => true | _ => false), false, false, false, false] := by
    cases fr with
    | nil => rfl
    | cons x r =>
      cases r with
      | nil =>
        have := (hfree x).mp List.mem_cons_self
        exact (odds_one this.1 this.2.1 n5).2.2
      | cons y r => rfl
  unfold oddsD at due
  simp only [List.map_cons, List.map_nil, List.cons.injEq, and_true] at due
  obtain ⟨e1, e2, e3, e4, e5, e6, e7, e8, e9, e10, e11, e12⟩ := due
  unfold oddsD at hd
  simp only [List.mem_cons, List.not_mem_nil, or_false] at hd
  rcases hd with rfl | rfl | rfl | rfl | rfl | rfl | rfl | rfl | rfl | rfl | rfl | rfl
  · refine no _ (fun ⟨L, e, h⟩ => ?_) e1
    have e := tupD_tuple e
    cases L with
    | nil => exact h.ne rfl
    | cons _ _ => cases e
  · exact no _ (fun ⟨L, e, h⟩ => by cases e) e2
  · exact no _ (fun ⟨L, e, h⟩ => by cases e) e3
  · exact no _ (single n fun z => by omega) e4
  · exact no _ (single (-1) fun z => by omega) e5
  · refine no _ (fun ⟨L, e, h⟩ => ?_) e6
    have e := tupD_tuple e
    cases L with
    | nil => cases e
    | cons _ _ => cases e
  · refine no _ (fun ⟨L, e, h⟩ => ?_) e7
    have e := tupD_inj e
    subst e
    have := (List.pairwise_cons.mp h.asc).1 0 List.mem_cons_self
    omega
  · rw [e8]
    constructor
    · rintro ⟨L, e, h⟩
      have e := tupD_inj e
      subst e
      cases fr with
      | nil => exact absurd rfl h.ne
      | cons x r =>
        cases r with
        | nil => rfl
        | cons y r =>
          have h1 := (List.pairwise_cons.mp hasc).1 y List.mem_cons_self
          have h2 := h.asc
          rw [List.reverse_cons, List.reverse_cons] at h2
          have h3 := (List.pairwise_append.mp h2).2.2 y (by simp) x (List.mem_singleton.mpr rfl)
          omega
    · intro h
      cases fr with
      | nil => cases h
      | cons x r =>
        cases r with
        | cons y r => cases h
        | nil =>
          refine ⟨[x], rfl, List.pairwise_singleton _ _, by simp, fun y hy => (hfree y).mp hy, fun a ha b hb => ?_⟩
          rw [List.mem_singleton.mp ha, List.mem_singleton.mp hb]
          cases e : R x x with
          | false => rfl
          | true =>
            have := rel.bd e
            omega
  · exact no _ (fun ⟨L, e, h⟩ => by cases e) e9
  · refine no _ (fun ⟨L, e, h⟩ => ?_) e10
    have e := tupD_tuple e
    cases L with
    | nil => cases e
    | cons _ _ => cases e
  · refine no _ (fun ⟨L, e, h⟩ => ?_) e11
    have e := tupD_tuple e
    cases L with
    | nil => cases e
    | cons _ _ => cases e
  · refine no _ (fun ⟨L, e, h⟩ => ?_) e12
    have e := tupD_tuple e
    cases L with
    | nil => cases e
    | cons _ _ => cases e
end K37
/-! ## L12 -/
namespace K37
open PySem PySem.Spec PyProof.Rows L2
/-! ### defs that are called where no text is being made (repr wants it) -/
structure FnG (P : Program) (w : World) (K : PySem.W.Frag) (mg : Str → Option Value) (base : Heap) (CX : CXT) (k : Nat) (f : Addr) (fd : FuncData) (ps : List Str) (sp : Sp) : Prop where
  len : ∀ vs H Q E, sp vs H Q E → vs.length = ps.length
  run : ∀ (A : Around) (outer : List Env) (s : Shared) (H : Hp) (args : Args) (us : List Value) (vs : List V) (Q : VK) (E : XK), A.guards = some [] → Room k A → Env0 P w K mg base A outer s H → BindsTo s fd args (ps.zip us) → Vals vs us → sp vs H Q E →
    codeAny (model P w) A (.call (.ref f) args) (CR CX outer P w H s Q E) s
theorem fng_ok {P : Program} {w : World} {K : PySem.W.Frag} {mg : Str → Option Value} {base : Heap} {CX : CXT} {N ps : List Str} {k : Nat} {sp : Sp} {x : Str} {i : Nat} {f : Addr} {fd : FuncData} (F : FnP K x i f fd) (S : FnScope N ps (defScope (top i))) (len : ∀ vs H Q E, sp vs H Q E → vs.length = ps.length)
    (hbody : ∀ (cdv : Value) (A : Around) (outer : List Env) (s : Shared) (H : Hp) (vs : List V) (Q : VK) (E : XK), A.guards = some [] → Room k (A.deeper (envOfC x (defScope (top i)) s.heap.objs.size f cdv)) → sp vs H Q E →
      ∃ t, PSs (cxOf CX P w K mg base N x (defScope (top i)) f cdv A outer s H E) (defBody (top i)) t ∧ t { nx := fun _ H' => Q .non H', rt := Q } (start N vs) H) : FnG P w K mg base CX (k + 1) f fd ps sp := by
  obtain ⟨oc, od, dV, kV, doc, pm, an, cdv, ct, osl, rfl, lk, hcd, _, _⟩ := F.ex
  exact ⟨len, fun A outer s H args us vs Q E hg hr e0 hb r hsp => LamX.run_ofS lk hcd S hr e0 hb r (len _ _ _ _ hsp) fun hr' => hbody cdv A outer s H vs Q E hg hr' hsp⟩
structure ClG (P : Program) (w : World) (K : PySem.W.Frag) (mg : Str → Option Value) (base : Heap) (CX : CXT) (k : Nat) (x : Str) (sp : Sp) : Prop where
  ex : ∃ (f : Addr) (fd : FuncData) (ps : List Str), FnG P w K mg base CX k f fd ps sp ∧ mg x = some (.ref f) ∧ PySem.W.keepIn K (.ref f) = true ∧ Binds K fd ps []
section
variable {X : Cx} {CX : CXT} {k j : Nat} {x : Str} {sp : Sp} {p pos : Pos} {e : Expr} {es : List Expr} {t : TA} {E : XK}
theorem pe_clg (hgd : X.A.guards = some []) (c : ClG X.prog X.w X.K X.mg X.base CX k x sp) (hr : Room j X.A) (hk : k ≤ j) (hg : Gl X x) (hx : Passes CX X E) (ha : PA X (e :: es) t)
    (hdb : (x == ("__debug__" : Str)) = false := by decide) (he : starEach (e :: es) X.env = (false, eval e X.env) :: starEach es X.env := by rfl) (hpl : (backTo pos (starEach es X.env)).any (·.1) = false := by rfl) :
    PE X (.Call (.Name x p) (e :: es) [] pos) (tCall sp [] E t) := by
  obtain ⟨f, fd, ps, F, hm, kp, b⟩ := c.ex
  refine ⟨fun pins s σ H Q I h => ?_⟩
  refine wpAny_Call_Name_kw (ld_glob I hg hm ?_ hdb)
  refine PySem.W.callWith_K (h₀ := X.base) I.ok.mod.kin kp (thn (ha.run pos pins s σ H _ I h) fun us s1 ⟨vs, H1, I1, r, q⟩ => ⟨I1.kIn, ?_⟩) he hpl
  have r2 : Vals (vs ++ []) (us ++ []) := r.append .nil
  have hl : (us ++ []).length = ps.length := by rw [← r2.length]; exact F.len _ _ _ _ q
  refine wpAny_call (codeAny_mono (F.run X.A X.stack s1 H1 ⟨us, []⟩ (us ++ []) (vs ++ []) Q E hgd (hr.mono hk) I1.env0 (b s1 us I1.kIn hl) r2 q) fun r s' hq => ?_)
  cases r with
  | error e => exact hx pins σ H1 s1 e s' I1 hq
  | ok fl =>
    cases fl with
    | ret u => exact I1.after hq
    | next => exact False.elim hq
    | brk => exact False.elim hq
    | cont => exact False.elim hq
end
/-! ### repr -/
def shwD : PyData → Bool
  | .none => true
  | .int _ => true
  | .list _ => true
  | .tuple _ => true
  | _ => false
def rRepr (K : PySem.W.Frag) : List V → Hp → VK → Prop := fun vs H Q => ∃ x d, vs = [x] ∧ Dp K H x d ∧ okD d = true ∧ shwD d = true ∧ Q (.str d.shown) H
theorem cr_repr {X : Cx} (K : PySem.W.Frag) (hg : X.A.guards = some []) (hu : X.A.units + 64 < cLine) (h : X.K = K := by rfl) : CallR X (.builtin "repr") (rRepr K) := by
  subst h
  intro pins s σ H vs us Q I r q
  obtain ⟨x, d, rfl, hd, ok, sh, q⟩ := q
  obtain ⟨u, rfl, ru⟩ := vals1 r
  have ok' := ok
  unfold okD at ok'
  rw [Bool.and_eq_true, Bool.and_eq_true, Bool.and_eq_true, decide_eq_true_eq, decide_eq_true_eq] at ok'
  obtain ⟨⟨⟨o1, o2⟩, o3⟩, o4⟩ := ok'
  have hz : d.shown.length ≤ sizeLine := Nat.le_trans o4 (by decide)
  have nd : d.hasDict = true → ∀ as : List Addr, sysModules ∉ as := fun z => by
    rw [z] at o2
    cases o2
  have big : ∀ a, u = .ref a → wpAny (model X.prog X.w) X.A (call (.builtin "repr") [u]) (EP X pins σ Q) X.xe s := fun a ea => by
    obtain ⟨as, hr⟩ := Dp.reads I d x u hd ru
    subst ea
    exact repr_of_reads' hr o1 (fun z => nd z as) hg (by omega) (fun _ _ e => e) (fun h' t tk k => ⟨.str d.shown, H, I.kept (t' := tk) k, ⟨t, rfl⟩, q⟩) hz
  cases hd with
  | non =>
    obtain rfl : u = Value.none := ru
    exact PySem.P.repr_of_none ⟨.str "None", H, I.tok _, ⟨_, rfl⟩, q⟩
  | bl b => cases sh
  | int i =>
    obtain ⟨t, rfl⟩ := (show ∃ t, u = Value.int i t from ru)
    refine PySem.P.repr_of_int (of_decide_eq_true (show decide (i.natAbs.log2 < 1920) = true from ?_)) ⟨.str (toString i), H, I.tok _, ⟨_, rfl⟩, q⟩
    have := o1
    rw [PyData.showable] at this
    exact this
  | str z => cases sh
  | lst h1 h2 => exact big _ ru
  | tup h1 h2 => exact big _ ru
end K37
/-! ## L13 -/
namespace K37
open PySem PySem.Spec PyProof.Rows L2
section
variable {P : Program} {w : World} {K : PySem.W.Frag} {mg : Str → Option Value} {base : Heap}
/-! ### _law_rounds_right -/
def spRounds (K : PySem.W.Frag) : Sp := fun vs H Q _ => ∃ (s l c p : Addr) (o x : V) (B n : Int) (ps : List (Int × Int)) (L : List (Addr × List Int)), vs = [.ref s, o, x, .ref p] ∧ StAt H s l c B ∧ B < 900000 ∧ OrdAt K H o n ps ∧ Ord n ps ∧ n ≤ 5 ∧ AhL (fun b => b ≠ s ∧ b ≠ l) H x n (ah ps) ∧
  LwAt H p L n (ah ps) ∧ (p ≠ s ∧ p ≠ l) ∧ ∀ H', Kp s l H H' → StAt H' s l c (B + 10) → Q (.bl true) H'
abbrev nRou : List Str := ["_law_state", "_law_order_so", "_law_aheads_here", "_law_some", "_law_start", "_law_many", "_law_free_here", "_law_lot", "_law_due", "_law_odds", "_law_odd", "_law_item"]
theorem sc_rounds : FnScope nRou ["_law_state", "_law_order_so", "_law_aheads_here", "_law_some"] (defScope (top 47)) := ⟨rfl, rfl, rfl, by decide +kernel, rfl, by decide +kernel, by decide +kernel⟩
theorem rgV_rng (n : Int) : rgV 0 n = (rng n).map V.int := by
  unfold rgV rng
  rw [List.map_map, Int.sub_zero]
  refine List.map_congr_left fun k _ => ?_
  show V.int (0 + (k : Int)) = V.int (k : Int)
  rw [Int.zero_add]
theorem odds_few {n : Int} {fr : List Int} (h : fr.length ≤ 1000) {d : PyData} (hd : d ∈ oddsD n fr) : fewD d ∧ shwD d = true := by
  unfold oddsD at hd
  simp only [List.mem_cons, List.not_mem_nil, or_false] at hd
  rcases hd with rfl | rfl | rfl | rfl | rfl | rfl | rfl | rfl | rfl | rfl | rfl | rfl
  · exact ⟨Nat.zero_le _, rfl⟩
  · exact ⟨trivial, rfl⟩
  · exact ⟨trivial, rfl⟩
  · exact ⟨by show 1 ≤ 1000; decide, rfl⟩
  · exact ⟨by show 1 ≤ 1000; decide, rfl⟩
  · exact ⟨by show 1 ≤ 1000; decide, rfl⟩
  · exact ⟨by show 2 ≤ 1000; decide, rfl⟩
  · refine ⟨?_, rfl⟩
    show (fr.reverse.map PyData.int).length ≤ 1000
    rw [List.length_map, List.length_reverse]
    exact h
  · exact ⟨trivial, rfl⟩
  · exact ⟨by show 1 ≤ 1000; decide, rfl⟩
  · exact ⟨by show 1 ≤ 1000; decide, rfl⟩
  · exact ⟨by show 1 ≤ 1000; decide, rfl⟩
/-- if is_round(order, start, value) != due: return False -/
theorem rnd_tail {CO CL : Addr} {i : Nat} {o v : V} {t : Addr} {n : Int} {ps : List (Int × Int)} {S : List Int} {d : PyData} {bd : Bool} {σ : L2.St} {H : Hp} {D : Ends} (e1 : σ[1]? = some (some o)) (e4 : σ[4]? = some (some (.ref t))) (ei : σ[i]? = some (some v)) (e8 : σ[8]? = some (some (.bl bd)))
    (hO : OrdAt K H o n ps) (hn : Ord n ps) (ht : SqT K H t (S.map V.int)) (hS : Low n (ah ps) S) (hd : Dp K H v d) (hf : fewD d) (hb : bd = true ↔ IsRnd n (ah ps) S d) (nx : ∀ H', Same H H' → D.nx σ H') :
    tIfS (tTest (tOp rNe (tCall (spRound K CO CL) [] E0 (tCons (tVar 1) (tCons (tVar 4) (tCons (tVar i) tNil)))) (tVar 8))) (tRet (tC (.bl false))) tNext D σ H := by
  have fS := asc_len S 0 n hS.asc hS.bd
  have n20 := hn.n20
  refine ⟨o, e1, .ref t, e4, v, ei, o, .ref t, v, rfl, .inr (.inr ⟨n, ps, tupD S, hO, hn, dp_tup ht, (by show (S.map PyData.int).length ≤ 1000; rw [List.length_map]; omega), .inr ⟨S, d, rfl, hS, hd, hf, fun H' b s hb' => ?_⟩⟩)⟩
  have eb : b = bd := by
    rw [Bool.eq_iff_iff, hb', hb]
  subst eb
  refine ⟨_, e8, by cases b <;> rfl, _, rfl, iteFF (by simp) (nx H' s)⟩
theorem ok_rounds {CO CL : Addr} {f : Addr} {fd : FuncData} (F : FnP K "_law_rounds_right" 47 f fd) (T : Tp mg) (C1 : Cl P w K mg base CX0 3 "_law_of" (spOf K)) (C2 : Cl P w K mg base CX0 1 "_law_free" (spFree K)) (C3 : Cl P w K mg base CX0 1 "_law_lots" (spLots K)) (C4 : Cl P w K mg base CX0 1 "_law_is_loose" (spLLoose K)) (C5 : Cl P w K mg base (L2.CX P w) 6 "is_round" (spRound K CO CL)) :
    FnG P w K mg base CX0 8 f fd ["_law_state", "_law_order_so", "_law_aheads_here", "_law_some"] (spRounds K) := by
  refine fng_ok F sc_rounds (fun vs H Q E h => ?_) (fun cdv A outer s H vs Q E hgd hr h => ⟨_, PSs.nox (pss_cons
      (ps_par (i := 4) (j := 5) (by rfl) sc_rounds.nd rfl rfl (by decide) rfl rfl (pa_cons (pe_cl C1 hr (by decide) (by rfl) pass0 (pa_cons (pv 0) (pa_cons (pv 3) pa_nil))) (pa_cons (pe_ix ix_tup (pv 1) pe_int (fun _ _ => rfl)) pa_nil)) (by rfl))
      (pss_cons (ps_set (i := 6) sc_rounds.nd rfl (.inr rfl) (pe_cl C2 hr (by decide) (by rfl) pass0 (pa_cons (pv 2) (pa_cons (pv 4) pa_nil))))
      (pss_cons (ps_for PassesOwn.never rfl (pi_list (pe_slice sl_list (pe_cl C3 hr (by decide) (by rfl) pass0 (pa_cons (pe_listRg rfl (by rfl) T.list (prg_1 (by rfl) T.range (pv 5))) pa_nil)) po_none (po_some pe_int))) (pg_name (i := 7) sc_rounds.nd rfl (Or.inl rfl))
        (pss_cons (ps_set (i := 8) sc_rounds.nd rfl (.inl rfl) (pe_and (pe_cmpR (op_eqD hr.units)
            (pe_lc (own := [("_law_item", 11)]) (g := gName 11) rfl sc_rounds.nd (pi_tup (pv 7)) (blkOk_by (N := nRou) (sc := defScope (top 47)) (by decide +kernel)) (fun _ _ _ _ _ => pg_name (i := 11) sc_rounds.nd rfl (Or.inl rfl))
              (fun _ _ _ _ _ => pts_one (pt_cmpR (ninK K) (pv 11) (pv 6) rfl)) (fun _ _ _ _ _ => pv 11)) (pe_lst pa_nil) (nomark _))
            (pe_one (pe_cl C4 hr (by decide) (by rfl) pass0 (pa_cons (pv 2) (pa_cons (pv 7) pa_nil))))))
        (pss_one (ps_if (pt_cmpR op_ne (pe_cl C5 hr (by decide) (by rfl) pass_no (pa_cons (pv 1) (pa_cons (pv 4) (pa_cons (pv 7) pa_nil)))) (pv 8) (nomark _)) (pss_one (ps_ret pe_bl)) pss_nil))))
      (pss_cons (ps_set (i := 9) sc_rounds.nd rfl (.inl rfl) (pe_lst (pa_cons (pe_tup pa_nil) (pa_cons pe_non (pa_cons (pe_callTy (callListK K) (by rfl) T.list (by decide +kernel) (pa_cons (pv 6) pa_nil)) (pa_cons (pe_tup (pa_cons (pv 5) pa_nil)) (pa_cons (pe_tup (pa_cons (pe_un un_neg pe_int) pa_nil)) (pa_cons (pe_tup (pa_cons pe_bl pa_nil))
          (pa_cons (pe_tup (pa_cons pe_int (pa_cons pe_int pa_nil))) (pa_cons (pe_callTy call_tuple_of (by rfl) T.tuple (by decide +kernel) (pa_cons (pe_revL (pv 6)) pa_nil)) (pa_cons pe_int (pa_cons (pe_tup (pa_cons pe_str pa_nil)) (pa_cons (pe_tup (pa_cons pe_non pa_nil)) pa_nil)))))))))))))
      (pss_cons (ps_expr (pe_bm PySem.F.plainAttrs_list PySem.F.slot_list_append PySem.F.type_list_append mt_append (pv 9) (pa_cons (pe_tup (pa_cons (pe_callTy call_tuple_of (by rfl) T.tuple (by decide +kernel) (pa_cons (pv 6) pa_nil)) pa_nil)) pa_nil)))
      (pss_cons (ps_for PassesOwn.never rfl (pi_list (pv 9)) (pg_name (i := 10) sc_rounds.nd rfl (Or.inl rfl))
        (pss_cons (ps_set (i := 8) sc_rounds.nd rfl (.inl rfl) (pe_and (pe_cmpR op_eq (pe_callB call_len_seq (by rfl) T.len PySem.boot_len (pa_cons (pv 6) pa_nil)) pe_int (nomark _))
            (pe_one (pe_cmpR op_eq (pe_callB (cr_repr K hgd hr.units) (by rfl) T.repr (by decide +kernel) (pa_cons (pv 10) pa_nil)) (pe_callB (cr_repr K hgd hr.units) (by rfl) T.repr (by decide +kernel) (pa_cons (pe_tup (pa_cons (pe_ix ix_list (pv 6) pe_int (fun _ _ => rfl)) pa_nil)) pa_nil)) (nomark _)))))
        (pss_one (ps_if (pt_cmpR op_ne (pe_cl C5 hr (by decide) (by rfl) pass_no (pa_cons (pv 1) (pa_cons (pv 4) (pa_cons (pv 10) pa_nil)))) (pv 8) (nomark _)) (pss_one (ps_ret pe_bl)) pss_nil))))
      (pss_one (ps_ret pe_bl)))))))), ?_⟩)
  · obtain ⟨s, l, c, p, o, x, B, n, ps, L, rfl, _⟩ := h
    rfl
  · obtain ⟨a, l, c, p, o, x, B, n, ps, L, rfl, hSt, hB, hO, hn, n5, hA, hL, np, q⟩ := h
    have n0 := hn.n0
    have rel := ah_rel hn.ok hn.n20
    have hL0 := hL.at_
    obtain ⟨nps, npl⟩ := np
    have hne : L.map (fun q => V.ref q.1) ≠ [] := by
      have : ([] : List Int) ∈ L.map (·.2) := (hL.mem []).mpr ⟨.nil, (fun x hx => by cases hx), fun x hx => by cases hx⟩
      intro z
      rw [List.map_eq_nil_iff] at z
      rw [z] at this
      cases this
    have few := hL.few
    refine ⟨.ref a, rfl, .ref p, rfl, a, l, c, p, _, B, rfl, hSt, by omega, hL0, npl, hne, by rw [List.length_map]; omega, fun v H1 hv k1 st1 => ?_⟩
    obtain ⟨t, ht, rfl⟩ := List.mem_map.mp hv
    have lT : Low n (ah ps) t.2 := (hL.mem _).mp (List.mem_map_of_mem ht)
    have hL1 := hL.kp hSt ⟨nps, npl⟩ k1
    have hA1 := hA.kp (fun b hb => hb) k1
    have hO1 := hO.kp hSt k1
    have ht1 : SqT K H1 t.1 (t.2.map V.int) := .inl (.inl (hL1.tps t ht))
    have fT := asc_len t.2 0 n lT.asc lT.bd
    obtain ⟨oo, q1, ts1, rfl, ho1, _⟩ := hO1
    have hO1 := hO.kp hSt k1
    refine ⟨.ref oo, rfl, oo, _, 0, .int n, rfl, rfl, ho1, rfl, _, _, rfl, ?_⟩
    refine ⟨x, rfl, .ref t.1, rfl, x, t.1, _, n, ah ps, t.2, rfl, hA1, rel, n0, by omega, ht1, lT.bd, by omega, fun H2 g s2 _ hg2 => ?_⟩
    have lfr : (frL n (ah ps) t.2).length ≤ 5 := Nat.le_trans (List.length_filter_le _ _) (by rw [rng_len]; omega)
    -- the lots
    refine ⟨.int n, rfl, n, rfl, RgOk.of_le (Int.le_refl 0) (by omega) (by decide) n0, fun r nr => ?_⟩
    have s3 : Same H2 (upd H2 r (.lst (rgV 0 n))) := same_put (Same.refl _) nr
    have hr3 : upd H2 r (.lst (rgV 0 n)) r = some (.lst ((rng n).map V.int)) := by rw [upd_same, rgV_rng]
    generalize upd H2 r (.lst (rgV 0 n)) = H3 at s3 hr3 ⊢
    refine ⟨r, rng n, rfl, .inl (.inl hr3), asc_rng n, by rw [rng_len]; omega, fun H4 z LL s4 _ hz hTL hmem hLL => ?_⟩
    refine ⟨20, rfl, z, _, rfl, .inl (.inl hz), fun u nu => ?_⟩
    have s5 : Same H4 (upd H4 u (.lst (cutV (LL.map fun q => V.ref q.1) none (some 20)))) := same_put (Same.refl _) nu
    have hu5 : upd H4 u (.lst (cutV (LL.map fun q => V.ref q.1) none (some 20))) u = some (.lst (cutV (LL.map fun q => V.ref q.1) none (some 20))) := upd_same
    have hzs : ∀ y ∈ cutV (LL.map fun q => V.ref q.1) none (some 20), y ∈ LL.map fun q => V.ref q.1 := fun y hy => cutV_mem hy
    generalize upd H4 u (.lst (cutV (LL.map fun q => V.ref q.1) none (some 20))) = H5 at s5 hu5 ⊢
    generalize cutV (LL.map fun q => V.ref q.1) none (some 20) = zs at hu5 hzs
    have s15 := (s2.trans s3).trans (s4.trans s5)
    have s25 := s3.trans (s4.trans s5)
    have hTL5 := hTL.same s5
    refine ⟨u, rfl, ⟨_, .inl (.inl hu5)⟩, ?_⟩
    refine for_list (K := K) (a := u) (xs := zs) (fun j σ H' => ∃ y7 y8, σ = [some (.ref a), some (.ref oo), some x, some (.ref p), some (.ref t.1), some (.int n), some (.ref g), y7, y8, none, none, none] ∧ Same H5 H') ⟨_, _, rfl, Same.refl _⟩ (fun j σ H6 _ hP => ?_) (fun j v' σ H6 hj hP => ?_) (fun σ H6 hP => ?_)
    · obtain ⟨_, _, rfl, s6⟩ := hP
      exact .inl (.inl (s6 _ _ hu5))
    · obtain ⟨y7, y8, rfl, s6⟩ := hP
      obtain ⟨e, he, rfl⟩ := List.mem_map.mp (hzs _ (List.mem_of_getElem? hj))
      obtain ⟨ene, easc, esub⟩ := (hmem e.2).mp (List.mem_map_of_mem he)
      have eb : ∀ i ∈ e.2, 0 ≤ i ∧ i < n := fun i hi => mem_rng.mp (esub i hi)
      have el := asc_len e.2 0 n easc eb
      have he6 : SqT K H6 e.1 (e.2.map V.int) := .inl (.inl (s6 _ _ (hTL5 e he)))
      have hg6 : SqL K H6 g ((frL n (ah ps) t.2).map V.int) := .inl (.inl (s6 _ _ (s25 _ _ hg2)))
      have s16 := s15.trans s6
      refine ⟨.ref e.1, rfl, e.1, rfl, ⟨_, he6⟩, fun D hD => ?_⟩
      refine lcW (walks_tup he6) hD (by omega) (fun i => decide (i ∉ frL n (ah ps) t.2)) id V.int (fun i v H7 kY kN hi s7 hv hY hN => ⟨rfl, ?_⟩) (fun H7 s7 hl7 => ?_)
      · subst hv
        refine ⟨.int i, rfl, .ref g, rfl, g, _, rfl, .inl (s7.seq hg6), rfl, flat_ints _, ?_⟩
        refine ⟨_, rfl, ?_⟩
        rw [inV_int]
        by_cases e : i ∈ frL n (ah ps) t.2
        · exact iteFF (by simp [e]) (hN (by simp [e]) _ (Same.refl _))
        · exact iteTT (by simp [e]) ⟨.int i, rfl, hY (by simp [e]) _ (Same.refl _)⟩
      · rw [List.map_id] at hl7
        refine ⟨Nat.zero_le _, fun w nw => ?_⟩
        have s8 : Same H7 (upd H7 w (.lst [])) := same_put (Same.refl _) nw
        have hl8 := s8 _ _ hl7
        have hw8 : upd H7 w (.lst []) w = some (.lst []) := upd_same
        generalize upd H7 w (.lst []) = H8 at s8 hl8 hw8 ⊢
        have s68 := s7.trans s8
        refine ⟨_, _, dp_list hl8, dp_list0 hw8, sh_list _, sh_list [], ?_⟩
        rw [eqv_list]
        refine ⟨_, rfl, ?_⟩
        have fewE : fewD (tupD e.2) := by
          show (e.2.map PyData.int).length ≤ 1000
          rw [List.length_map]
          omega
        have tail : ∀ (bd : Bool) H9, Same H6 H9 → (bd = true ↔ IsRnd n (ah ps) t.2 (tupD e.2)) → ∀ D : Ends, (∀ H', Same H9 H' → D.nx [some (.ref a), some (.ref oo), some x, some (.ref p), some (.ref t.1), some (.int n), some (.ref g), some (.ref e.1), some (.bl bd), none, none, none] H') →
            tIfS (tTest (tOp rNe (tCall (spRound K CO CL) [] E0 (tCons (tVar 1) (tCons (tVar 4) (tCons (tVar 7) tNil)))) (tVar 8))) (tRet (tC (.bl false))) tNext D [some (.ref a), some (.ref oo), some x, some (.ref p), some (.ref t.1), some (.int n), some (.ref g), some (.ref e.1), some (.bl bd), none, none, none] H9 := fun bd H9 s9 hb D nx =>
          rnd_tail rfl rfl rfl rfl (hO1.same (s16.trans s9)) hn (same_T (s16.trans s9) ht1) lT (dp_same s9 (dp_tup he6)) fewE hb nx
        by_cases hE : (e.2.filter fun i => decide (i ∉ frL n (ah ps) t.2)) = []
        · refine iteTT (decide_eq_true hE) ?_
          refine ⟨x, rfl, .ref e.1, rfl, x, e.1, _, n, ah ps, e.2, rfl, hA1.same (s16.trans s68), same_T s68 he6, eb, by omega, fun H9 b s9 hb => ?_⟩
          refine tail b H9 (s68.trans s9) ?_ _ fun H' s' => ⟨_, _, rfl, s6.trans ((s68.trans s9).trans s')⟩
          rw [hb]
          rw [List.filter_eq_nil_iff] at hE
          have hin : ∀ i ∈ e.2, Free n (ah ps) t.2 i := fun i hi => (mem_frL rel).mp (by have := hE i hi; simpa using this)
          constructor
          · exact fun h => ⟨e.2, rfl, easc, ene, hin, h⟩
          · rintro ⟨L', e', hR⟩
            rw [← tupD_inj e'] at hR
            exact hR.loose
        · refine iteFF (decide_eq_false hE) ?_
          refine tail false H8 s68 ⟨(fun z => by cases z), fun z => ?_⟩ _ fun H' s' => ⟨_, _, rfl, s6.trans (s68.trans s')⟩
          obtain ⟨L', e', hR⟩ := z
          rw [← tupD_inj e'] at hR
          refine absurd ?_ hE
          rw [List.filter_eq_nil_iff]
          intro i hi
          have := (mem_frL rel).mpr (hR.free i hi)
          simp [this]
    · obtain ⟨y7, y8, rfl, s6⟩ := hP
      have s26 := s25.trans s6
      have s16 := s15.trans s6
      have hg6 := s26 _ _ hg2
      -- the odd values
      refine ⟨Nat.zero_le _, fun p0 m0 => ?_⟩
      have t0 : Same H6 (upd H6 p0 (.tup [])) := same_put (Same.refl _) m0
      have d0 : Dp K (upd H6 p0 (.tup [])) (.ref p0) (.tuple []) := .tup (.inl (.inl upd_same)) .nil
      generalize upd H6 p0 (.tup []) = G0 at t0 d0 ⊢
      refine ⟨.ref g, rfl, g, _, rfl, .inl (.inl (.inl (t0 _ _ hg6))), fun p2 m2 => ?_⟩
      have t2 : Same G0 (upd G0 p2 (.lst ((frL n (ah ps) t.2).map V.int))) := same_put (Same.refl _) m2
      have d2 : Dp K (upd G0 p2 (.lst ((frL n (ah ps) t.2).map V.int))) (.ref p2) (.list ((frL n (ah ps) t.2).map .int)) := dp_list upd_same
      generalize upd G0 p2 (.lst ((frL n (ah ps) t.2).map V.int)) = G2 at t2 d2 ⊢
      refine ⟨.int n, rfl, by show 1 ≤ sizeLine; decide, fun p3 m3 => ?_⟩
      have t3 : Same G2 (upd G2 p3 (.tup [.int n])) := same_put (Same.refl _) m3
      have d3 : Dp K (upd G2 p3 (.tup [.int n])) (.ref p3) (tupD [n]) := dp_tup (S := [n]) (.inl (.inl upd_same))
      generalize upd G2 p3 (.tup [.int n]) = G3 at t3 d3 ⊢
      refine ⟨1, rfl, by show 1 ≤ sizeLine; decide, fun p4 m4 => ?_⟩
      have t4 : Same G3 (upd G3 p4 (.tup [.int (-1)])) := same_put (Same.refl _) m4
      have d4 : Dp K (upd G3 p4 (.tup [.int (-1)])) (.ref p4) (tupD [-1]) := dp_tup (S := [-1]) (.inl (.inl upd_same))
      generalize upd G3 p4 (.tup [.int (-1)]) = G4 at t4 d4 ⊢
      refine ⟨by show 1 ≤ sizeLine; decide, fun p5 m5 => ?_⟩
      have t5 : Same G4 (upd G4 p5 (.tup [.bl true])) := same_put (Same.refl _) m5
      have d5 : Dp K (upd G4 p5 (.tup [.bl true])) (.ref p5) (.tuple [.bool true]) := .tup (.inl (.inl upd_same)) (.cons (.bl true) .nil)
      generalize upd G4 p5 (.tup [.bl true]) = G5 at t5 d5 ⊢
      refine ⟨by show 2 ≤ sizeLine; decide, fun p6 m6 => ?_⟩
      have t6 : Same G5 (upd G5 p6 (.tup [.int 0, .int 0])) := same_put (Same.refl _) m6
      have d6 : Dp K (upd G5 p6 (.tup [.int 0, .int 0])) (.ref p6) (tupD [0, 0]) := dp_tup (S := [0, 0]) (.inl (.inl upd_same))
      generalize upd G5 p6 (.tup [.int 0, .int 0]) = G6 at t6 d6 ⊢
      have t06 := t2.trans (t3.trans (t4.trans (t5.trans t6)))
      refine ⟨.ref g, rfl, g, _, rfl, .inl (.inl (t06 _ _ (t0 _ _ hg6))), fun r7 n7 => ?_⟩
      refine ⟨r7, _, rfl, .inl ⟨.inl (.inl upd_same), fun p7 m7 => ?_⟩⟩
      have t7 : Same G6 (upd (upd G6 r7 (.lst ((frL n (ah ps) t.2).map V.int).reverse)) p7 (.tup ((frL n (ah ps) t.2).map V.int).reverse)) := same_new (same_put (Same.refl _) n7) m7
      have d7 : Dp K (upd (upd G6 r7 (.lst ((frL n (ah ps) t.2).map V.int).reverse)) p7 (.tup ((frL n (ah ps) t.2).map V.int).reverse)) (.ref p7) (tupD (frL n (ah ps) t.2).reverse) := dp_tup (.inl (.inl (by rw [upd_same, List.map_reverse])))
      generalize upd (upd G6 r7 (.lst ((frL n (ah ps) t.2).map V.int).reverse)) p7 (.tup ((frL n (ah ps) t.2).map V.int).reverse) = G7 at t7 d7 ⊢
      refine ⟨by show 1 ≤ sizeLine; decide, fun p9 m9 => ?_⟩
      have t9 : Same G7 (upd G7 p9 (.tup [.str "0"])) := same_put (Same.refl _) m9
      have d9 : Dp K (upd G7 p9 (.tup [.str "0"])) (.ref p9) (.tuple [.str "0"]) := .tup (.inl (.inl upd_same)) (.cons (.str "0") .nil)
      generalize upd G7 p9 (.tup [.str "0"]) = G9 at t9 d9 ⊢
      refine ⟨by show 1 ≤ sizeLine; decide, fun p10 m10 => ?_⟩
      have t10 : Same G9 (upd G9 p10 (.tup [.non])) := same_put (Same.refl _) m10
      have d10 : Dp K (upd G9 p10 (.tup [.non])) (.ref p10) (.tuple [.none]) := .tup (.inl (.inl upd_same)) (.cons .non .nil)
      generalize upd G9 p10 (.tup [.non]) = G10 at t10 d10 ⊢
      refine ⟨by show 11 ≤ sizeLine; decide, fun po mo => ?_⟩
      have to : Same G10 (upd G10 po (.lst [.ref p0, .non, .ref p2, .ref p3, .ref p4, .ref p5, .ref p6, .ref p7, .int 0, .ref p9, .ref p10])) := same_put (Same.refl _) mo
      have ho : upd G10 po (.lst [.ref p0, .non, .ref p2, .ref p3, .ref p4, .ref p5, .ref p6, .ref p7, .int 0, .ref p9, .ref p10]) po = some (.lst [.ref p0, .non, .ref p2, .ref p3, .ref p4, .ref p5, .ref p6, .ref p7, .int 0, .ref p9, .ref p10]) := upd_same
      have t6o := t06.trans (t7.trans (t9.trans t10))
      have npoH : H6 po = none := free_of (t0.trans t6o) mo
      generalize upd G10 po (.lst [.ref p0, .non, .ref p2, .ref p3, .ref p4, .ref p5, .ref p6, .ref p7, .int 0, .ref p9, .ref p10]) = Go at to ho ⊢
      have tHo := (t0.trans t6o).trans to
      refine ⟨.ref po, rfl, .inl ⟨rfl, _, .inl (.inl ho)⟩, .ref g, rfl, g, _, rfl, .inl ⟨.inl (.inl (tHo _ _ hg6)), fun p11 m11 => ⟨by show 1 ≤ sizeLine; decide, fun p12 m12 => ?_⟩⟩⟩
      have tu : Same Go (upd (upd Go p11 (.tup ((frL n (ah ps) t.2).map V.int))) p12 (.tup [.ref p11])) := same_new (same_put (Same.refl _) m11) m12
      have e12 : upd (upd Go p11 (.tup ((frL n (ah ps) t.2).map V.int))) p12 (.tup [.ref p11]) p12 = some (.tup [.ref p11]) := upd_same
      have e11 : upd (upd Go p11 (.tup ((frL n (ah ps) t.2).map V.int))) p12 (.tup [.ref p11]) p11 = some (.tup ((frL n (ah ps) t.2).map V.int)) := same_put (Same.refl _) m12 _ _ upd_same
      generalize upd (upd Go p11 (.tup ((frL n (ah ps) t.2).map V.int))) p12 (.tup [.ref p11]) = Gu at tu e11 e12 ⊢
      have hou := tu _ _ ho
      refine ⟨po, _, _, rfl, rfl, hou, by show 11 < sizeLine; decide, ?_⟩
      have npo10 : G10 po = none := mo
      have tf : Same G10 (upd Gu po (.lst ([.ref p0, .non, .ref p2, .ref p3, .ref p4, .ref p5, .ref p6, .ref p7, .int 0, .ref p9, .ref p10] ++ [.ref p12]))) := same_put (to.trans tu) npo10
      have n11 : p11 ≠ po := ne_of e11 hou (by intro z; cases z)
      have n12 : p12 ≠ po := ne_of e12 hou (by intro z; cases z)
      have d12 : Dp K (upd Gu po (.lst ([.ref p0, .non, .ref p2, .ref p3, .ref p4, .ref p5, .ref p6, .ref p7, .int 0, .ref p9, .ref p10] ++ [.ref p12]))) (.ref p12) (.tuple [tupD (frL n (ah ps) t.2)]) :=
        .tup (.inl (.inl (by rw [upd_ne n12]; exact e12))) (.cons (dp_tup (.inl (.inl (by rw [upd_ne n11]; exact e11)))) .nil)
      have hof : upd Gu po (.lst ([.ref p0, .non, .ref p2, .ref p3, .ref p4, .ref p5, .ref p6, .ref p7, .int 0, .ref p9, .ref p10] ++ [.ref p12])) po = some (.lst [.ref p0, .non, .ref p2, .ref p3, .ref p4, .ref p5, .ref p6, .ref p7, .int 0, .ref p9, .ref p10, .ref p12]) := upd_same
      show L2.tSeq _ _ _ _ (upd Gu po (.lst ([.ref p0, .non, .ref p2, .ref p3, .ref p4, .ref p5, .ref p6, .ref p7, .int 0, .ref p9, .ref p10] ++ [.ref p12])))
      generalize upd Gu po (.lst ([.ref p0, .non, .ref p2, .ref p3, .ref p4, .ref p5, .ref p6, .ref p7, .int 0, .ref p9, .ref p10] ++ [.ref p12])) = Gf at tf d12 hof ⊢
      have f9 := t10.trans tf
      have f7 := t9.trans f9
      have f6 := t7.trans f7
      have f5 := t6.trans f6
      have f4 := t5.trans f5
      have f3 := t4.trans f4
      have f2 := t3.trans f3
      have f0 := t2.trans f2
      have hst := t0.trans f0
      let od : List (V × PyData) := [(.ref p0, .tuple []), (.non, .none), (.ref p2, .list ((frL n (ah ps) t.2).map .int)), (.ref p3, tupD [n]), (.ref p4, tupD [-1]), (.ref p5, .tuple [.bool true]), (.ref p6, tupD [0, 0]), (.ref p7, tupD (frL n (ah ps) t.2).reverse), (.int 0, .int 0), (.ref p9, .tuple [.str "0"]), (.ref p10, .tuple [.none]), (.ref p12, .tuple [tupD (frL n (ah ps) t.2)])]
      have od1 : [V.ref p0, .non, .ref p2, .ref p3, .ref p4, .ref p5, .ref p6, .ref p7, .int 0, .ref p9, .ref p10, .ref p12] = od.map (·.1) := rfl
      have od2 : od.map (·.2) = oddsD n (frL n (ah ps) t.2) := rfl
      have od3 : ∀ y ∈ od, Dp K Gf y.1 y.2 := fun y hy => by
        simp only [od, List.mem_cons, List.not_mem_nil, or_false] at hy
        rcases hy with rfl | rfl | rfl | rfl | rfl | rfl | rfl | rfl | rfl | rfl | rfl | rfl
        · exact dp_same f0 d0
        · exact .non
        · exact dp_same f2 d2
        · exact dp_same f3 d3
        · exact dp_same f4 d4
        · exact dp_same f5 d5
        · exact dp_same f6 d6
        · exact dp_same f7 d7
        · exact .int 0
        · exact dp_same f9 d9
        · exact dp_same tf d10
        · exact d12
      rw [od1] at hof
      clear_value od
      have s1f := s16.trans hst
      have hgf := hst _ _ hg6
      refine ⟨.ref po, rfl, po, rfl, ⟨_, .inl (.inl hof)⟩, ?_⟩
      refine for_list (K := K) (a := po) (xs := od.map (·.1)) (fun j σ H' => ∃ y8 y10, σ = [some (.ref a), some (.ref oo), some x, some (.ref p), some (.ref t.1), some (.int n), some (.ref g), y7, y8, some (.ref po), y10, none] ∧ Same Gf H') ⟨_, _, rfl, Same.refl _⟩ (fun j σ H7 _ hP => ?_) (fun j v' σ H7 hj hP => ?_) (fun σ H7 hP => ?_)
      · obtain ⟨_, _, rfl, s7⟩ := hP
        exact .inl (.inl (s7 _ _ hof))
      · obtain ⟨y8', y10, rfl, s7⟩ := hP
        obtain ⟨y, gy, rfl⟩ := get_map hj
        have hym := List.mem_of_getElem? gy
        have hyd := dp_same s7 (od3 y hym)
        have hyo : y.2 ∈ oddsD n (frL n (ah ps) t.2) := by rw [← od2]; exact List.mem_map_of_mem hym
        obtain ⟨fewY, shwY⟩ := odds_few (by omega) hyo
        have dueY := odds_due rel n5 hyo
        have s17 := s1f.trans s7
        have tail : ∀ (bd : Bool) H9, Same H7 H9 → (bd = true ↔ dueB (frL n (ah ps) t.2) y.2 = true) → ∀ D : Ends, (∀ H', Same H9 H' → D.nx [some (.ref a), some (.ref oo), some x, some (.ref p), some (.ref t.1), some (.int n), some (.ref g), y7, some (.bl bd), some (.ref po), some y.1, none] H') →
            tIfS (tTest (tOp rNe (tCall (spRound K CO CL) [] E0 (tCons (tVar 1) (tCons (tVar 4) (tCons (tVar 10) tNil)))) (tVar 8))) (tRet (tC (.bl false))) tNext D [some (.ref a), some (.ref oo), some x, some (.ref p), some (.ref t.1), some (.int n), some (.ref g), y7, some (.bl bd), some (.ref po), some y.1, none] H9 := fun bd H9 s9 hb D nx =>
          rnd_tail rfl rfl rfl rfl (hO1.same (s17.trans s9)) hn (same_T (s17.trans s9) ht1) lT (dp_same s9 hyd) fewY (hb.trans dueY.symm) nx
        have hg7 := s7 _ _ hgf
        refine ⟨.ref g, rfl, g, _, rfl, .inl (.inl (.inl hg7)), rfl, _, rfl, ?_⟩
        rw [List.length_map, decInt]
        by_cases h1 : (((frL n (ah ps) t.2).length : Nat) : Int) = 1
        · refine iteTT (decide_eq_true h1) ?_
          obtain ⟨xx, hxx⟩ : ∃ xx, frL n (ah ps) t.2 = [xx] := by
            cases e : frL n (ah ps) t.2 with
            | nil =>
              rw [e] at h1
              cases h1
            | cons b r =>
              cases r with
              | nil => exact ⟨b, rfl⟩
              | cons b' r =>
                rw [e, List.length_cons, List.length_cons] at h1
                omega
          have hfx := (mem_frL rel).mp (show xx ∈ frL n (ah ps) t.2 by rw [hxx]; exact List.mem_cons_self)
          obtain ⟨ok1, ok2, _⟩ := odds_one hfx.1 hfx.2.1 n5
          rw [hxx] at hyo hg7 tail
          refine ⟨y.1, rfl, y.1, y.2, rfl, hyd, List.all_eq_true.mp ok1 _ hyo, shwY, ?_⟩
          refine ⟨.ref g, rfl, g, _, 0, .int xx, rfl, rfl, .inl (.inl hg7), atI_nat (j := 0) rfl, by show 1 ≤ sizeLine; decide, fun w nw => ?_⟩
          have s8 : Same H7 (upd H7 w (.tup [.int xx])) := same_put (Same.refl _) nw
          refine ⟨.ref w, tupD [xx], rfl, dp_tup (S := [xx]) (.inl (.inl upd_same)), ok2, rfl, rfl, ?_⟩
          refine tail _ _ s8 ?_ _ fun H' s' => ⟨_, _, rfl, s7.trans (s8.trans s')⟩
          show decide (V.str y.2.shown = V.str (tupD [xx]).shown) = true ↔ decide (y.2.shown = (tupD [xx]).shown) = true
          rw [decide_eq_true_eq, decide_eq_true_eq]
          exact ⟨fun z => V.str.inj z, fun z => by rw [z]⟩
        · refine iteFF (decide_eq_false h1) ?_
          refine tail false H7 (Same.refl _) ⟨(fun z => by cases z), fun z => ?_⟩ _ fun H' s' => ⟨_, _, rfl, s7.trans s'⟩
          cases e : frL n (ah ps) t.2 with
          | nil =>
            rw [e] at z
            cases z
          | cons b r =>
            cases r with
            | nil =>
              rw [e] at h1
              exact absurd rfl h1
            | cons b' r =>
              rw [e] at z
              cases z
      · obtain ⟨_, _, rfl, s7⟩ := hP
        have sE := s1f.trans s7
        exact q _ (k1.trans (Kp.of sE)) ((st1.mono (by omega)).same sE)
end
end K37
/-! ## L14 -/
namespace K37
open PySem PySem.Spec PyProof.Rows L2
/-! ### several clauses «except x as n», n in slot i -/
def wManyN (K : PySem.W.Frag) (m i : Nat) (Wout : WX) (D : Ends) : List (Value × (Addr → Value → Option Addr → TS)) → WX
  | [] => Wout
  | (c, ts) :: r => fun cls d σ H => ∃ b, PySem.W.exmOne K cls c = some b ∧
      (b = true → σ.length = m → ∀ a, H a = none → ts a cls d { nx := fun σ' H' => D.nx (σ'.set i none) H', rt := D.rt, bk := fun σ' H' => D.bk (σ'.set i none) H', ct := fun σ' H' => D.ct (σ'.set i none) H' } (σ.set i (some (.ref a))) H) ∧
      (b = false → wManyN K m i Wout D r cls d σ H)
inductive HdsN (X : Cx) (n : Str) : List ExceptHandler → List (Value × (Addr → Value → Option Addr → TS)) → Prop
  | nil : HdsN X n [] []
  | cons {x : Str} {c : Value} {ts : Addr → Value → Option Addr → TS} {b₀ : Stmt} {suite : List Stmt} {np pos' : Pos} {hds : List ExceptHandler} {l : List (Value × (Addr → Value → Option Addr → TS))} (hc : Names X x c)
      (hsu : ∀ (a : Addr) (oe : Obj) (cls : Value) (d : Option Addr) (pn : List (Addr × Obj)), Zc cls d oe → (∃ vs, oe.data = .fields vs) → PSs (X.suite a ((a, oe) :: pn)) (b₀ :: suite) (ts a cls d)) (r : HdsN X n hds l) :
      HdsN X n (.ExceptHandler (some (.Name x np)) (some n) (b₀ :: suite) pos' :: hds) ((c, ts) :: l)
section
variable {X : Cx} {n : Str} {i : Nat} {body : List Stmt} {h₀ : ExceptHandler} {hds : List ExceptHandler} {l : List (Value × (Addr → Value → Option Addr → TS))} {pos : Pos} {tb : WX → TS} {Wout : WX}
theorem ps_try_manyN (hs : X.stack = X.env :: X.outer) (hf : X.env.frame = some X.env.locals) (hN : X.N.Nodup) (hi : X.N[i]? = some n) (hln : X.env.kindOf n = some .local) (tk : Takes X Wout)
    (hb : ∀ (W : WX) (pn : List (Addr × Obj)) (xe : Value → Shared → Prop), Takes (X.tr pn xe) W → PassesOwn (model X.prog X.w) X.A X.env xe → PSs (X.tr pn xe) body (tb W))
    (hh : HdsN X n (h₀ :: hds) l) : PS X (.Try body (h₀ :: hds) [] [] pos) (fun D σ H => tb (wManyN X.K X.N.length i Wout D l) D σ H) := by
  refine ⟨fun pins s σ H D I h => ?_⟩
  have ok := I.ok
  have hfr : X.A.frames = some (X.env :: X.outer) := by rw [ok.frames, hs]
  have hloc : Loc X.env.scope n := .inl hln
  refine wpAny_Try_except ?_
  refine wpAny_mono ((hb (wManyN X.K X.N.length i Wout D l) (X.pn ++ pins) (fun e s₁ => wpAny (model X.prog X.w) X.A (noteFrame e X.env) (fun _ s₂ => wpAny (model X.prog X.w) X.A (setFlight e none) (fun _ s₃ =>
    wpAny (model X.prog X.w) X.A (handleBy e X.env (h₀ :: hds)) (SP X pins D) X.xe s₃) X.xe s₂) X.xe s₁) (fun u s' xx => ?_) PassesOwn.looking).run [] s σ H D (I.toTry _) h) (fun f s1 hsp => ?_) (fun e s1 he => he)
  · obtain ⟨a, B, sI, pins', σ', H', cls, d, rfl, J', nb, up, sky, na, os, ag, w⟩ := xx
    have J : Inv X pins σ' H' sI := J'.ofTry ok
    have sky' : Sky B (X.env :: X.outer) a (Zc cls d) X.env.locals s'.heap := by rw [← hs]; exact sky
    show wpAny (model X.prog X.w) X.A (noteFrame (.ref a) X.env) _ _ _
    refine Sky.land Zc.steady hfr hf sky' fun h3 fl3 up3 => ?_
    have J3 : Inv X pins σ' H' { s' with heap := h3 } := J.landed nb fl3.1 (up.trans up3) os ag
    obtain ⟨oe3, vs3, he3, hz3, hd3⟩ := fl3.there
    have nfr : a ∉ frs (X.env :: X.outer) := fun hm => by
      obtain ⟨_, o', e', hnf⟩ := fl3.2.2.1.mem hm
      rw [he3] at e'
      cases e'
      exact hnf _ hd3
    have nL : a ≠ X.env.locals := fun z => nfr (List.mem_filterMap.mpr ⟨X.env, List.mem_cons_self, by rw [hf, z]⟩)
    have nF : a ∉ X.fs := fun hm => by
      obtain ⟨e, he, q⟩ := List.mem_filterMap.mp hm
      exact nfr (List.mem_filterMap.mpr ⟨e, List.mem_cons_of_mem _ he, q⟩)
    have S3 := J3.suite he3 hd3 na nL nF
    -- the clauses from one on
    have go : ∀ {hds' : List ExceptHandler} {l' : List (Value × (Addr → Value → Option Addr → TS))}, HdsN X n hds' l' → wManyN X.K X.N.length i Wout D l' cls d σ' H' →
        wpAny (model X.prog X.w) X.A (handleBy (.ref a) X.env hds') (SP X pins D) X.xe { s' with heap := h3 } := by
      intro hds' l' hk
      induction hk with
      | nil =>
        intro w
        refine wpAny_handleBy_nil ?_
        obtain ⟨k1, k2, k3, oe, vs, T, oT, ts', he, hz, hd, h1, hr⟩ := id fl3
        unfold PySem.passOn
        refine wpAny_bind (wpAny_field he hd h1 ?_)
        rw [if_neg (show ¬ ((Value.ref T == Value.none) = true) from by simp)]
        have fin : wpAny (model X.prog X.w) X.A (setFlight (.ref a) X.env.frame) (fun _ s4 => wpAny (model X.prog X.w) X.A (throw (.ref a) : Sem Flow) (SP X pins D) X.xe s4) X.xe { s' with heap := h3 } := by
          rw [hf]
          refine HandSPX.setFlight_upZ fl3 fun h4 hh4 up4 => wpAny_throw (tk _ _ ?_)
          exact ⟨a, B, sI, pins, σ', H', cls, d, rfl, J, nb, (up.trans up3).trans up4, .inr (.inr (by rw [hs]; exact hh4)), na, os, ag, w⟩
        first
          | exact wpAny_bind (wpAny_pure (wpAny_bind fin))
          | exact wpAny_bind fin
      | @cons x c ts b₀ suite np pos' hds2 l2 hc hsu r ih =>
        intro w
        obtain ⟨b, hb1, hyes, hno⟩ := w
        refine wpAny_handleBy_cons (codeAny_handlers_test ?_) (by intro q; cases q)
        have LM := PySem.W.exm_one (M := model X.prog X.w) (J3.kIn) (fun A Q E s k q => wpAny_typeOf_ref (k _ _ he3) (by rw [hz3.1]; exact q) : PySem.W.Looks (model X.prog X.w) h3 (typeOf (.ref a)) cls) hb1
        have test : ∀ {Q : Value → Shared → Prop} {E : Value → Shared → Prop}, Q c { s' with heap := h3 } → wpAny (model X.prog X.w) (X.A.mark (some (.ref a))) (eval (.Name x np) X.env) Q E { s' with heap := h3 } := fun {Q E} q => by
          obtain ⟨hg, hdbg, hm | ⟨hm, hv, hnn⟩⟩ := hc
          · exact ld_glob (X := X.suite a ((a, oe3) :: (X.pn ++ pins))) S3 hg hm q hdbg
          · exact ld_blt (X := X.suite a ((a, oe3) :: (X.pn ++ pins))) S3 hg hm hv q hnn hdbg
        refine test (LM.here ?_)
        cases b with
        | true =>
          refine codeAny_handlers_suite_as ?_
          refine HandSPX.lands_againZ fl3 fun h4 fl4 up4 => ?_
          have J4 : Inv X pins σ' H' { s' with heap := h4 } := J.landed nb fl4.1 ((up.trans up3).trans up4) os ag
          obtain ⟨oe4, vs4, he4, hz4, hd4⟩ := fl4.there
          have S4 := J4.suite he4 hd4 na nL nF
          refine store_ok (X := X.suite a ((a, oe4) :: (X.pn ++ pins))) (v := .ref a) S4 hN hi hloc rfl (fun s5 S5 => ?_) (.inr hln)
          refine wpAny_mono ((hsu a oe4 cls d (X.pn ++ pins) hz4 ⟨_, hd4⟩).run [] s5 _ H' _ S5 (hyes rfl J.len a na)) (fun f s6 hsp => ?_) (fun _ _ z => False.elim z)
          have end_ : ∀ {σ6 : L2.St} {H6 : Hp} {Q : Shared → Prop}, Inv (X.suite a ((a, oe4) :: (X.pn ++ pins))) [] σ6 H6 s6 → (∀ s7, Inv X pins (σ6.set i none) H6 s7 → Q s7) →
              wpAny (model X.prog X.w) X.A (do bindName X.env n .none; unbindBehindTheSuite X.env n pos') (fun _ s7 => Q s7) X.xe s6 := fun {σ6 H6 Q} S6 hq => gone_ok (S6.unsuite ok) hN hi hln hq
          cases f with
          | next =>
            obtain ⟨σ6, H6, S6, q6⟩ := hsp
            exact end_ S6 fun s7 J7 => ⟨_, _, J7, q6⟩
          | brk =>
            obtain ⟨σ6, H6, S6, q6⟩ := hsp
            exact end_ S6 fun s7 J7 => ⟨_, _, J7, q6⟩
          | cont =>
            obtain ⟨σ6, H6, S6, q6⟩ := hsp
            exact end_ S6 fun s7 J7 => ⟨_, _, J7, q6⟩
          | ret u =>
            obtain ⟨v6, σ6, H6, S6, r6, q6⟩ := hsp
            exact end_ S6 fun s7 J7 => ⟨_, _, _, J7, r6, q6⟩
        | false =>
          show wpAny _ X.A (handleBy (.ref a) X.env hds2) _ _ _
          exact ih (hno rfl)
    exact go hh w
  · cases f with
    | next =>
      obtain ⟨σ', H', J', q⟩ := hsp
      exact wpAny_execs_nil ⟨σ', H', J'.ofTry ok, q⟩
    | brk =>
      obtain ⟨σ', H', J', q⟩ := hsp
      exact ⟨σ', H', J'.ofTry ok, q⟩
    | cont =>
      obtain ⟨σ', H', J', q⟩ := hsp
      exact ⟨σ', H', J'.ofTry ok, q⟩
    | ret u =>
      obtain ⟨v, σ', H', J', r, q⟩ := hsp
      exact ⟨v, σ', H', J'.ofTry ok, r, q⟩
end
end K37
/-! ## L15 -/
namespace K37
open PySem PySem.Spec PyProof.Rows L2
/-! ### _law_heard -/
/-- what is made of a lambda's reading -/
def TH (CO CL : Addr) : (XK → Hp → VK → Prop) → Hp → VK → Prop := fun tl H Q =>
  tl (fun cls d H' => (cls = .ref CO ∧ ∃ dd v, d = some dd ∧ H' dd = some (.xd [("part", v)]) ∧ ∀ p, H' p = none → Q (.ref p) (upd H' p (.tup [.str "order", v]))) ∨
      (cls = .ref CL ∧ ∃ dd v, d = some dd ∧ H' dd = some (.xd [("given", v)]) ∧ ∀ p, H' p = none → Q (.ref p) (upd H' p (.tup [.str "lower", v])))) H
    (fun v H1 => 1 ≤ sizeLine ∧ ∀ p, H1 p = none → Q (.ref p) (upd H1 p (.lst [v])))
abbrev nHeard : List Str := ["_law_call", "e"]
theorem sc_heard : FnScope nHeard ["_law_call"] (defScope (top 45)) := ⟨rfl, rfl, rfl, by decide +kernel, rfl, by decide +kernel, by decide +kernel⟩
structure Exm (K : PySem.W.Frag) (CO CL : Addr) : Prop where
  oo : PySem.W.exmOne K (.ref CO) (.ref CO) = some true
  lo : PySem.W.exmOne K (.ref CL) (.ref CO) = some false
  ll : PySem.W.exmOne K (.ref CL) (.ref CL) = some true
theorem heard_gives {X : Cx} {CO CL fO fL g : Addr} {fdO fdL : FuncData} {cdg : Value} {q : Str} (TO : Er X.K X.mg "BadOrder" "part" 2 CO fO fdO) (TL : Er X.K X.mg "BadLower" "given" 3 CL fL fdL) (ex : Exm X.K CO CL) :
    LamX.GivesTo X nHeard "_law_heard" (defScope (top 45)) g cdg (defBody (top 45)) "_law_call" q (TH CO CL) := by
  intro f c' s H Q tl act hc h
  refine ⟨_, pss_one (ps_try_manyN (X := (cxOf C8.CX0 X.prog X.w X.K X.mg X.base nHeard "_law_heard" (defScope (top 45)) g cdg X.A X.stack s H C8.E0).nox) (i := 1) (n := "e")
      (l := [(.ref CO, fun a cls d => tRet (tTup (tCons (tC (.str "order")) (tCons (tXf a cls d CO "part" (tVar 1)) tNil)))), (.ref CL, fun a cls d => tRet (tTup (tCons (tC (.str "lower")) (tCons (tXf a cls d CL "given" (tVar 1)) tNil))))])
      (tb := fun W D σ H => ∃ Ech : XK, (∀ cls d σ' H', Ech cls d H' → W cls d σ' H') ∧ σ[0]? = some (some (.ref f)) ∧ H c' = some (LamX.CodeO c' q) ∧ tl Ech H (fun v H1 => 1 ≤ sizeLine ∧ ∀ p, H1 p = none → D.rt (.ref p) (upd H1 p (.lst [v]))))
      rfl rfl sc_heard.nd rfl rfl LamX.takes0 (fun W pn xe tk _ => ?_)
      (.cons ⟨rfl, by decide, .inl TO.gl⟩ (fun a oe cls d pn hz hf => pss_one (ps_ret (pe_tup (pa_cons pe_str (pa_cons (pe_xf TO.xf TO.no hz hf (pv 1)) pa_nil)))))
        (.cons ⟨rfl, by decide, .inl TL.gl⟩ (fun a oe cls d pn hz hf => pss_one (ps_ret (pe_tup (pa_cons pe_str (pa_cons (pe_xf TL.xf TL.no hz hf (pv 1)) pa_nil))))) .nil))), ?_⟩
  · refine ⟨fun pins s' σ H' D I h' => ?_⟩
    obtain ⟨Ech, hW, h1, h2, h3⟩ := h'
    exact PSs.run (pss_one (ps_ret (pe_lst (pa_cons (act W pn xe Ech _ _ tk hW) pa_nil)))) pins s' σ H' D I ⟨h1, h2, h3⟩
  · refine ⟨_, fun cls d σ' H' z => ?_, rfl, hc, h⟩
    rcases z with ⟨rfl, dd, v, rfl, hdd, q⟩ | ⟨rfl, dd, v, rfl, hdd, q⟩
    · refine ⟨true, ex.oo, fun _ hl a na => ?_, fun z => by cases z⟩
      have hg : (σ'.set 1 (some (V.ref a)))[1]? = some (some (.ref a)) := by
        rw [List.getElem?_set_self (by rw [hl]; show 1 < 2; decide)]
      exact ⟨.ref a, hg, rfl, rfl, dd, _, v, rfl, hdd, rfl, by show 2 ≤ sizeLine; decide, fun p np => q p np⟩
    · refine ⟨false, ex.lo, (fun z => by cases z), fun _ => ⟨true, ex.ll, fun _ hl a na => ?_, fun z => by cases z⟩⟩
      have hg : (σ'.set 1 (some (V.ref a)))[1]? = some (some (.ref a)) := by
        rw [List.getElem?_set_self (by rw [hl]; show 1 < 2; decide)]
      exact ⟨.ref a, hg, rfl, rfl, dd, _, v, rfl, hdd, rfl, by show 2 ≤ sizeLine; decide, fun p np => q p np⟩
end K37
/-! ## L16 -/
namespace K37
open PySem PySem.Spec PySem.Calls PyProof.Rows L2 LamX
/-! ### a lambda with one parameter that has a default (a tuple of it at T), handed to a def -/
abbrev kld_fn (qual : Str) (params : Arguments) (body : Expr) (scope : Scope) (pm cdv ct : Value) (T : Addr) : FuncData :=
  { name := "<lambda>", qualname := qual, params, body := .expr body, scope, globals := mainGlobals, closure := [], defaults := .ref T, kwdefaults := .none, doc := .none, pyModule := pm, annotations := none, code := cdv, closureTuple := ct, builtins := builtinsNs }
section
variable {M : Model} {A : Around} {E : Value → Shared → Prop} {s : Shared} {qual : Str} {params : Arguments} {body : Expr} {scope : Scope} {env : Env} {c P T : Addr} {ps : Array Value} {pos : Pos} {firstLine : Nat} {mg : Str → Option Value} {Q : Value → Shared → Prop}
theorem kld_new (hcl : closureFor scope env = pure []) (hge0 : env.globals = mainGlobals) (hg : s.heap.Ns mainGlobals mg) (hcode : env.code = .ref c) (C : PySem.W.CodeHd s.heap c P) (hP : s.heap.get? P = some { cls := .none, data := .fields ps }) (ht : TriplesOk ps.toList)
    (hnf : codeAmong pos ps.toList = none) (hgP : mainGlobals ≠ P) (hb : s.heap.BuiltinsAt mg P)
    (h : ∀ c' h' tk, Heap.ExtBut P s.heap h' → s.heap.objs.size ≤ c' → c' < h'.objs.size → h'.CodeRec (.ref c') qual → h'.get? P = some { cls := .none, data := .fields (ps ++ #[rawInt pos.line, rawInt pos.col, .ref c']) } →
      Q (.ref h'.objs.size) { s with heap := h'.push { cls := .type "function", data := .func (kld_fn qual params body scope ((mg "__name__").getD .none) (.ref c') .none T) }, toks := tk }) :
    wpAny M A (makeTail "<lambda>" qual params (.expr body) scope env (.ref T) .none none pos firstLine) Q E s := by
  obtain ⟨bm, ob, hbm, hne0, _, hneP, hbo, hcls, hdict, hdata⟩ := hb
  unfold makeTail
  rw [hcl, hge0]
  refine wpAny_bind (wpAny_pure ?_)
  simp only [List.isEmpty_nil, if_true]
  refine wpAny_bind (wpAny_pure ?_)
  refine wpAny_bind (wpAny_functionCodeX hcode (C.code hP ht) (C.tab hP) hnf fun c' h' tk hx hge hlt _ hrec htb _ => ?_)
  have hg' := hg.extBut hx hgP
  refine wpAny_bind (wpAny_builtinsFor hg' hbm hne0 (hx _ _ hneP hbo) hcls hdict hdata ?_)
  refine wpAny_bind (wpAny_nsGet hg' ?_)
  exact wpAny_bind (wpAny_pure (wpAny_newObj_type (h c' h' tk hx hge hlt hrec htb.2) (by size_fits)))
theorem kld_hit {cv : Value} (hcl : closureFor scope env = pure []) (hge0 : env.globals = mainGlobals) (hg : s.heap.Ns mainGlobals mg) (hcode : env.code = .ref c) (C : PySem.W.CodeHd s.heap c P) (hP : s.heap.get? P = some { cls := .none, data := .fields ps }) (ht : TriplesOk ps.toList)
    (hf : codeAmong pos ps.toList = some cv) (hb : s.heap.BuiltinsAt mg P)
    (h : Q (.ref s.heap.objs.size) { s with heap := s.heap.push { cls := .type "function", data := .func (kld_fn qual params body scope ((mg "__name__").getD .none) cv .none T) } }) :
    wpAny M A (makeTail "<lambda>" qual params (.expr body) scope env (.ref T) .none none pos firstLine) Q E s := by
  obtain ⟨bm, ob, hbm, hne0, _, hneP, hbo, hcls, hdict, hdata⟩ := hb
  unfold makeTail
  rw [hcl, hge0]
  refine wpAny_bind (wpAny_pure ?_)
  simp only [List.isEmpty_nil, if_true]
  refine wpAny_bind (wpAny_pure ?_)
  refine wpAny_bind (wpAny_functionCode_hit hcode (C.code hP ht) hf ?_)
  refine wpAny_bind (wpAny_builtinsFor hg hbm hne0 hbo hcls hdict hdata ?_)
  refine wpAny_bind (wpAny_nsGet hg ?_)
  exact wpAny_bind (wpAny_pure (wpAny_newObj_type h (by size_fits)))
end
section
variable {X : Cx} {pins : List (Addr × Obj)} {σ : L2.St} {H : Hp} {s : Shared}
theorem lamD_make {T : List (Addr × Str)} {c P : Addr} {params : Arguments} {body : Expr} {scope : Scope} {pos p0 : Pos} {j : Nat} {E : Value → Shared → Prop} {Q : Value → Shared → Prop} (I : L2.Inv X pins σ H s) (TB : TabB X.base X.mg c P) (hcode : X.env.code = .ref c)
    (hm : (P, X.env.qual ++ "<lambda>") ∈ T) (hu : ∀ p ∈ T, p.1 = P → p.2 = X.env.qual ++ "<lambda>") (hT : Tabs T H) (hdef : defaultsOf params X.env = ([eval (.Constant (.int 0) j p0) X.env], [])) (hcl : closureFor scope X.env = pure [])
    (h : ∀ (f c' D : Addr) (pm ctv : Value) (H1 : Hp) (s' : Shared), L2.Inv X pins σ H1 s' → ExtN H H1 → Tabs T H1 →
      s'.heap.get? f = some { cls := .type "function", data := .func (kld_fn (X.env.qual ++ "<lambda>") params body scope pm (.ref c') ctv D) } → H1 f = none → f ∉ frs X.stack → H1 c' = some (CodeO c' (X.env.qual ++ "<lambda>")) → H1 D = some (.tup [.int 0]) → Q (.ref f) s')
    (hxe : ∀ u s', X.xe u s' → E u s') :
    wpAny (model X.prog X.w) X.A (eval (.Lambda params body scope pos) X.env) Q E s := by
  rw [arm_eval_Lambda, hdef]
  show wpAny _ _ (do let dv ← evalAll [eval (.Constant (.int 0) j p0) X.env]; let kdv ← holding dv (evalAllOpt []); makeFunction "<lambda>" (X.env.qual ++ "<lambda>") params (.expr body) scope X.env dv kdv [] pos pos.line) Q E s
  refine wpAny_bind (wpAny_evalAll_cons (wpAny_mono ((pe_int (X := X) (i := 0)).run pins s σ H (fun v H' => v = .int 0 ∧ H' = H) I ⟨rfl, rfl⟩) (fun u s1 hu => ?_) hxe))
  obtain ⟨v, H1, I1, rv, rfl, rfl⟩ := hu
  refine wpAny_evalAll_nil (wpAny_bind (wpAny_holding (wpAny_pure ?_)))
  rw [makeFunction_eq]
  simp only [List.zip_nil_right, List.filterMap_nil, List.isEmpty_nil, List.isEmpty_cons, if_true, Bool.false_eq_true, if_false, pure_bind]
  refine wpAny_bind (wpAny_newTextTuple ?_)
  -- the defaults' tuple
  have nD := I1.hok.fresh (Nat.le_refl s1.heap.objs.size)
  have I2 := I1.laid (t' := s1.toks) (a := s1.heap.objs.size) (o := .tup [.int 0]) (h' := s1.heap.push { cls := .type "tuple", data := .seq [u].toArray }) (fun b ob q => Heap.get?_push_of_some _ q) (Nat.le_refl _)
    ⟨by show 1 ≤ sizeLine; decide, [u], .cons rv .nil, IsTup.new _ _⟩
  have sD : ∀ b o, H1 b = some o → upd H1 s1.heap.objs.size (.tup [.int 0]) b = some o := fun b o e => by rw [upd_ne (ne_of_none e nD)]; exact e
  have hD2 : upd H1 s1.heap.objs.size (.tup [.int 0]) s1.heap.objs.size = some (.tup [.int 0]) := upd_same
  have hT2 := hT.ext sD
  generalize upd H1 s1.heap.objs.size (.tup [.int 0]) = H2 at I2 sD hD2 hT2
  obtain ⟨ps, hP, ht, ha⟩ := hT2 _ hm
  generalize hs2 : ({ s1 with heap := s1.heap.push { cls := .type "tuple", data := .seq [u].toArray } } : Shared) = s2 at I2 ⊢
  have bP : s2.heap.BuiltinsAt X.mg P := TB.bm.keeps I2.bk
  have hP' : s2.heap.get? P = some { cls := .none, data := .fields ps } := I2.hok P _ hP
  have nofr : ∀ f, s2.heap.objs.size ≤ f → f ∉ frs X.stack := fun f hf z => by
    rcases List.mem_cons.mp (I2.stkSub _ z) with e | e
    · have h1 := I2.lt
      rw [← e] at h1
      exact Nat.lt_irrefl _ (Nat.lt_of_lt_of_le h1 hf)
    · exact I2.nofs hf e
  have eD : ExtN H1 H2 := ExtN.of sD
  cases hc : codeAmong pos ps.toList with
  | none =>
    refine kld_new (mg := X.mg) (c := c) (P := P) (ps := ps) hcl I2.ok.glob (I2.mod.glob.keeps I2.bk) hcode (TB.code.keeps I2.bk) hP' ht hc TB.gP bP fun c' h' tk hx hge hlt hrec htb => ?_
    obtain ⟨c2, oc, vs, t, e2, hoc, hd, hv⟩ := hrec
    cases e2
    have hsz : s2.heap.objs.size ≤ h'.objs.size := Nat.le_trans hge (Nat.le_of_lt hlt)
    have nC : H2 c' = none := I2.hok.fresh hge
    have I3 := inv_table (t' := tk) (more := #[rawInt pos.line, rawInt pos.col, .ref c']) (h' := h'.push { cls := .type "function", data := .func (kld_fn (X.env.qual ++ "<lambda>") params body scope ((X.mg "__name__").getD .none) (.ref c') .none s1.heap.objs.size) }) I2 hP
      (fun b o hb e => Heap.get?_push_of_some _ (hx b o hb e)) (Heap.get?_push_of_some _ htb) hge ⟨oc, vs, t, Heap.get?_push_of_some _ hoc, hd, hv⟩
    have hE : ExtN H2 (upd (upd H2 P (.tbl (ps ++ #[rawInt pos.line, rawInt pos.col, .ref c']))) c' (CodeO c' (X.env.qual ++ "<lambda>"))) := fun b o e n => by
      rw [upd_ne (ne_of_none e nC), upd_ne (fun z => n ps (Option.some.inj (e.symm.trans (by rw [z]; exact hP))))]
      exact e
    have eL : (ps ++ #[rawInt pos.line, rawInt pos.col, .ref c']).toList = ps.toList ++ [rawInt pos.line, rawInt pos.col, .ref c'] := by simp
    refine h h'.objs.size c' s1.heap.objs.size _ _ _ _ I3 (eD.trans hE) (fun p hp => ?_) (Heap.get?_push_size _ rfl) ?_ (nofr _ hsz) upd_same (hE _ _ hD2 fun _ z => by cases z)
    · by_cases hb : p.1 = P
      · rw [hu p hp hb, hb]
        refine ⟨_, by rw [upd_ne (ne_of_none hP nC), upd_same], by rw [eL]; exact PySem.TriplesOk_snoc _ _ _ _ ht, fun p' cv hcv => ?_⟩
        rw [eL] at hcv
        rcases among_app _ ht hcv with z | z
        · obtain ⟨c0, e1, e2⟩ := ha p' cv z
          exact ⟨c0, e1, hE _ _ e2 codeO_ne⟩
        · exact ⟨c', z, upd_same⟩
      · obtain ⟨ps', a1, a2, a3⟩ := hT2 p hp
        refine ⟨ps', by rw [upd_ne (ne_of_none a1 nC), upd_ne hb]; exact a1, a2, fun p' cv hcv => ?_⟩
        obtain ⟨c0, e1, e2⟩ := a3 p' cv hcv
        exact ⟨c0, e1, hE _ _ e2 codeO_ne⟩
    · have n1 : h'.objs.size ≠ c' := Nat.ne_of_gt hlt
      have n2 : h'.objs.size ≠ P := Nat.ne_of_gt (Nat.lt_of_lt_of_le (Heap.lt_size hP') hsz)
      rw [upd_ne n1, upd_ne n2]
      exact I2.hok.fresh hsz
  | some cv =>
    obtain ⟨c', e, hco⟩ := ha pos cv hc
    subst e
    refine kld_hit (mg := X.mg) (c := c) (P := P) (ps := ps) hcl I2.ok.glob (I2.mod.glob.keeps I2.bk) hcode (TB.code.keeps I2.bk) hP' ht hc bP ?_
    have I3 : L2.Inv X pins σ H2 { s2 with heap := s2.heap.push { cls := .type "function", data := .func (kld_fn (X.env.qual ++ "<lambda>") params body scope ((X.mg "__name__").getD .none) (.ref c') .none s1.heap.objs.size) } } := I2.kept (t' := s2.toks) fun b o e => Heap.get?_push_of_some _ e
    exact h s2.heap.objs.size c' s1.heap.objs.size _ _ H2 _ I3 eD hT2 (Heap.get?_push_size _ rfl) (I2.hok.fresh (Nat.le_refl _)) (nofr _ (Nat.le_refl _)) hco hD2
end
end K37
/-! ## L17 -/
namespace K37
open PySem PySem.Spec PySem.Calls PyProof.Rows L2 LamX
/-- one parameter y0 that the body never names, nothing captured -/
structure LamD (N : List Str) (scope : Scope) (y0 : Str) : Prop where
  kind : scope.kind = .function
  co : scope.isCoroutine = false
  gen : scope.isGenerator = false
  own : ∀ y ∈ scope.names, y.2 ≠ .cell ∧ y.2 ≠ .free ∧ (y.2 = .local → y.1 = y0)
  loc : scope.names.lookup y0 = some .local
  out : y0 ∉ N
abbrev lamEnvD (X : Cx) (scope : Scope) (L f c' : Addr) : Env := PySem.W.envX (X.env.qual ++ "<lambda>") scope L f (.ref c') []
def lamCxD (X : Cx) (A : Around) (outer : List Env) (s : Shared) (H : Hp) (E : XK) (scope : Scope) (f c' : Addr) : Cx where
  prog := X.prog
  w := X.w
  K := X.K
  mg := X.mg
  base := X.base
  A := A.deeper (lamEnvD X scope s.heap.objs.size f c')
  N := X.N
  s_0 := s
  H_0 := H
  env := lamEnvD X scope s.heap.objs.size f c'
  outer := outer
  stack := lamEnvD X scope s.heap.objs.size f c' :: outer
  ex := []
  fn := fun _ => false
  calm := true
  pn := []
  xe := fun e s' => wpAny (model X.prog X.w) (A.deeper (lamEnvD X scope s.heap.objs.size f c')) (leaving (lamEnvD X scope s.heap.objs.size f c') e) (fun _ s'' => L2.CX X.prog X.w outer H s E e s'') (fun e' s'' => L2.CX X.prog X.w outer H s E e' s'') s'
section
variable {X : Cx} {pins : List (Addr × Obj)} {σ : L2.St} {H HZ : Hp} {s s1 : Shared}
theorem lamD_start {A : Around} {outer : List Env} {E : XK} {scope : Scope} {y0 : Str} {f c' : Addr} {h₁ : Heap} {tk : Nat} {u : Value} (hlen : σ.length = X.N.length) (L : LamD X.N scope y0) (e0 : Env0 X.prog X.w X.K X.mg X.base A outer s1 HZ) (hd : A.handled = none)
    (hns : h₁.Ns s1.heap.objs.size fun y => [(y0, u)].reverse.lookup y) (kp : ∀ b o, s1.heap.get? b = some o → h₁.get? b = some o) :
    L2.Inv (lamCxD X A outer s1 HZ E scope f c') [] σ HZ { s1 with heap := h₁, toks := tk } := by
  have noA : ∀ b : Addr, b ∉ (lamCxD X A outer s1 HZ E scope f c').ex := fun b z => absurd (show b ∈ ([] : List Addr) from z) (by simp)
  have noC : ∀ {y : Str} {c : Addr}, (lamCxD X A outer s1 HZ E scope f c').env.cells.lookup y = some c → False := fun {y c} e => by
    have e : ([] : List (Str × Addr)).lookup y = some c := e
    cases e
  refine ⟨⟨e0.mod, L.kind, rfl, rfl, Nat.le_refl _, fun y z c e1 _ => (noC e1).elim, fun y hy => ?_, fun y c z _ => ?_, fun _ => hd, Around.frames_deeper e0.frames, .inr ⟨rfl, rfl⟩, fun b z => absurd z (noA b), e0.bs, e0.bsz, fun b _ _ => noA b,
      fun b z => absurd z (noA b), e0.funs, e0.frf⟩,
    rfl, e0.bare, Un.kept kp, ⟨_, hns, fun i y v e1 e2 e3 => ?_⟩, fun y c e => (noC e).elim, e0.hok.fresh (Nat.le_refl _), fun y c e => (noC e).elim, fun q hq => absurd (show q ∈ ([] : List (Addr × Obj)) ++ [] from hq) (by simp), e0.hok.kept kp, hlen⟩
  · have hy : scope.names.lookup y = some .cell ∨ scope.names.lookup y = some .free := hy
    rcases hy with hy | hy
    · exact absurd rfl (L.own _ (PySem.mem_of_lookup hy)).1
    · exact absurd rfl (L.own _ (PySem.mem_of_lookup hy)).2.1
  · have z : false = true := z
    cases z
  · have e3 : Vis scope y := e3
    rcases e3 with k | k | k
    · have e := (L.own _ (PySem.mem_of_lookup k)).2.2 rfl
      have e1 : X.N[i]? = some y := e1
      have hy := List.mem_of_getElem? e1
      have e : y = y0 := e
      rw [e] at hy
      exact absurd hy L.out
    · exact absurd rfl (L.own _ (PySem.mem_of_lookup k)).1
    · exact absurd rfl (L.own _ (PySem.mem_of_lookup k)).2.1
/-- x(), in the def that got the lambda -/
theorem pe_actD {CXg : CXT} {Eg : XK} {Ng : List Str} {qg : Str} {sg : Scope} {g f c' D : Addr} {cdg pm ctv : Value} {params : Arguments} {body : Expr} {scope : Scope} {y0 : Str} {k i : Nat} {a : Str} {pn : List (Addr × Obj)} {xe : Value → Shared → Prop} {W : WX} {E : XK} {tb : TE} {p1 p2 : Pos}
    (I : L2.Inv X pins σ H s) (L : LamD X.N scope y0) (hf : s.heap.get? f = some { cls := .type "function", data := .func (kld_fn (X.env.qual ++ "<lambda>") params body scope pm (.ref c') ctv D) }) (hfn : H f = none) (hfr : f ∉ frs X.stack) (hD : H D = some (.tup [.int 0]))
    (hbind : ∃ kk, bindArgs (kld_fn (X.env.qual ++ "<lambda>") params body scope pm (.ref c') ctv D) ⟨[], []⟩ = seqItems? (.ref D) >>= kk ∧ ∀ u, kk (some #[u]) = pure [(y0, u)])
    (tk : Takes ((cxOf CXg X.prog X.w X.K X.mg X.base Ng qg sg g cdg X.A X.stack s H Eg).tr pn xe) W) (hW : ∀ cls d σ' H', E cls d H' → W cls d σ' H') (hr : Room (k + 1) (X.A.deeper (envOfC qg sg s.heap.objs.size g cdg)))
    (hbody : ∀ (A : Around) (outer : List Env) (s : Shared) (H : Hp), Room k (A.deeper (lamEnvD X scope s.heap.objs.size f c')) → PE (lamCxD X A outer s H E scope f c') body tb)
    (hN : Ng[i]? = some a) (hv : Vis sg a) (hd : (a == ("__debug__" : Str)) = false := by decide) (hcd : (a == ("__classdict__" : Str)) = false := by decide) :
    PE ((cxOf CXg X.prog X.w X.K X.mg X.base Ng qg sg g cdg X.A X.stack s H Eg).tr pn xe) (.Call (.Name a p1) [] [] p2)
      (fun σZ HZ Q => σZ[i]? = some (some (.ref f)) ∧ HZ c' = some (CodeO c' (X.env.qual ++ "<lambda>")) ∧ tb σ HZ Q) := by
  refine ⟨fun pinsZ sZ σZ HZ Q IZ h => ?_⟩
  obtain ⟨hs, hc, ht⟩ := h
  refine wpAny_Call_Name_kw (thn ((pe_var (pos := p1) (i := i) hN hv hd hcd).run pinsZ sZ σZ HZ (fun v H1 => v = .ref f ∧ H1 = HZ) IZ ⟨.ref f, hs, rfl, rfl⟩) fun u s1 ⟨v, H1, I1, r1, q1⟩ => ?_)
  obtain ⟨ev, eH⟩ := q1
  subst ev
  rw [eH] at I1
  obtain rfl : u = Value.ref f := r1
  have of1 : s1.heap.get? f = some { cls := .type "function", data := .func (kld_fn (X.env.qual ++ "<lambda>") params body scope pm (.ref c') ctv D) } := I1.base.keep f _ hf hfn hfr (fun z => nomatch (show f ∈ ([] : List Addr) from z))
  refine PySem.W.callWith_F0 ⟨_, _, _, _, of1⟩ ?_
  have un : Un (frs X.stack) [] H HZ s.heap s1.heap := I1.base
  have hDZ : HZ D = some (.tup [.int 0]) := un.tups _ _ hD
  obtain ⟨⟨oc, vs, t, hoc, hdc, hvc⟩, _, _⟩ := I1.hok c' _ hc
  have rc : codeAny (model X.prog X.w) (X.A.deeper (envOfC qg sg s.heap.objs.size g cdg)) (.call (.ref f) ⟨[], []⟩) (CR (L2.CX X.prog X.w) (envOfC qg sg s.heap.objs.size g cdg :: X.stack) X.prog X.w HZ s1 Q E) s1 := by
    refine PySem.W.kla_callFunE hr.depth of1 rfl L.co L.gen rfl ⟨c', oc, vs, t, rfl, hoc, hdc, hvc⟩ ?_
    obtain ⟨kk, eb, ek⟩ := hbind
    rw [eb]
    obtain ⟨_, its, rits, oD, gD, _, nD, dD⟩ := (show ObjOk X.prog X.w HZ s1.heap D (.tup [.int 0]) from I1.hok D _ hDZ)
    obtain ⟨u0, rfl, _⟩ := vals1 rits
    refine wpAny_bind (wpAny_seqItems gD dD ?_)
    show wpAny _ _ (kk (some #[u0])) _ _ _
    rw [ek u0]
    refine wpAny_pure (wpAny_newFunctionEnv (fun y hy => (L.own y hy).1) (fun y hy => ?_) (fun h₁ hns hsb => ⟨I1.nolimit.fresh _ hsb, ?_⟩) L.kind)
    · rw [List.mem_singleton.mp hy]
      exact L.loc
    show codeAny _ _ (.expr body (lamEnvD X scope s1.heap.objs.size f c')) _ _
    have kp : ∀ b o, s1.heap.get? b = some o → h₁.get? b = some o := fun b o e => hsb.extBut b o (Nat.ne_of_lt (Heap.lt_size e)) (Heap.get?_push_of_some _ e)
    have J : L2.Inv (lamCxD X (X.A.deeper (envOfC qg sg s.heap.objs.size g cdg)) (envOfC qg sg s.heap.objs.size g cdg :: X.stack) s1 HZ E scope f c') [] σ HZ { s1 with heap := h₁, toks := s1.toks + [(y0, u0)].length } :=
      lamD_start I.len L I1.env0 hr.hd hns kp
    refine PySem.W.kla_codeExpr (wpAny_mono ((hbody _ _ s1 HZ (hr.deeper _)).run [] _ _ HZ Q J ht) (fun v s' hq => ?_) fun e s' hq => hq)
    obtain ⟨w', H', J', rv, q⟩ := hq
    exact ⟨w', H', J'.os, J'.bare, J'.base, J'.hok, rv, q⟩
  have hx : Passes (L2.CX X.prog X.w) ((cxOf CXg X.prog X.w X.K X.mg X.base Ng qg sg g cdg X.A X.stack s H Eg).tr pn xe) E := passes_call tk hW
  refine wpAny_call (codeAny_mono rc fun r s' hq => ?_)
  cases r with
  | error e => exact hx pinsZ σZ HZ s1 e s' I1 hq
  | ok fl =>
    cases fl with
    | ret u => exact I1.after hq
    | next => exact False.elim hq
    | brk => exact False.elim hq
    | cont => exact False.elim hq
/-- x(lambda y0=0: body) -/
theorem pe_lamcallD {T : List (Addr × Str)} {TT : (XK → Hp → VK → Prop) → Hp → VK → Prop} {x a y0 : Str} {g c P : Addr} {k j : Nat} {pg : Arguments} {bg : List Stmt} {sg : Scope} {dV kV doc pm cdv ct oc : Value} {an od : Option Addr} {osl : Array (Option Value)} {Ng : List Str}
    {params : Arguments} {body : Expr} {scope : Scope} {t : XK → TE} {p lpos pos p0 : Pos} (hg : Gl X x) (hm : X.mg x = some (.ref g)) (hk : PySem.W.keepIn X.K (.ref g) = true)
    (lk : X.K.lookup g = some ⟨oc, od, .func (PySem.W.fnOf x x pg bg sg dV kV doc pm an cdv ct), osl⟩) (hcg : PySem.W.codeIn X.K cdv x = true) (hb : L2.Binds X.K (PySem.W.fnOf x x pg bg sg dV kV doc pm an cdv ct) [a] []) (Sg : FnScope Ng [a] sg) (hNg : Ng[0]? = some a) (hva : Vis sg a)
    (hG : GivesTo X Ng x sg g cdv bg a (X.env.qual ++ "<lambda>") TT)
    (TB : TabB X.base X.mg c P) (hcode : X.env.code = .ref c) (hmT : (P, X.env.qual ++ "<lambda>") ∈ T) (hu : ∀ p ∈ T, p.1 = P → p.2 = X.env.qual ++ "<lambda>") (hr : Room (k + 2) X.A) (L : LamD X.N scope y0)
    (hdef : defaultsOf params X.env = ([eval (.Constant (.int 0) j p0) X.env], [])) (hcl : closureFor scope X.env = pure [])
    (hbind : ∀ (q : Str) (pm cv ctv : Value) (D : Addr), ∃ kk, bindArgs (kld_fn q params body scope pm cv ctv D) ⟨[], []⟩ = seqItems? (.ref D) >>= kk ∧ ∀ u, kk (some #[u]) = pure [(y0, u)])
    (hbody : ∀ (A : Around) (outer : List Env) (s : Shared) (H : Hp) (E : XK) (f c' : Addr), Room k (A.deeper (lamEnvD X scope s.heap.objs.size f c')) → PE (lamCxD X A outer s H E scope f c') body (t E))
    (hdb : (x == ("__debug__" : Str)) = false := by decide) (hd : (a == ("__debug__" : Str)) = false := by decide) (hcd : (a == ("__classdict__" : Str)) = false := by decide) :
    PE X (.Call (.Name x p) [.Lambda params body scope lpos] [] pos) (tLam T TT t) := by
  refine ⟨fun pins s σ H Q I h => ?_⟩
  obtain ⟨hT, h⟩ := h
  refine wpAny_Call_Name_kw (ld_glob I hg hm ?_ hdb)
  refine PySem.W.callWith_K (h₀ := X.base) I.ok.mod.kin hk ?_ (by rfl) (by rfl)
  show wpAny _ _ (spliced ((false, eval (.Lambda params body scope lpos) X.env) :: backTo pos (starEach [] X.env))) _ _ s
  refine Calls.spliced_cons (lamD_make I TB hcode hmT hu hT hdef hcl (fun f c' D pm' ctv H1 s' I1 eN T1 hf hfn hfr hco hD => ?_) (fun _ _ e => e))
  refine Calls.spliced_nil ⟨I1.kIn, ?_⟩
  have rc : codeAny (model X.prog X.w) X.A (.call (.ref g) ⟨[.ref f], []⟩) (CR C8.CX0 X.stack X.prog X.w H1 s' Q C8.E0) s' := by
    refine run_ofS (N := Ng) (ps := [a]) (us := [.ref f]) (vs := [.ref f]) lk hcg Sg hr I1.env0 (hb s' [.ref f] I1.kIn rfl) (.cons rfl .nil) rfl fun hr' => ?_
    obtain ⟨t', ht', hq'⟩ := hG f c' s' H1 Q (fun E H' Q' => t E σ H' Q') (fun W pn xe E p1 p2 tk hW => pe_actD (i := 0) I1 L hf hfn hfr hD (hbind _ _ _ _ _) tk hW hr' (fun A outer s H hr2 => hbody A outer s H E f c' hr2) hNg hva hd hcd) hco (h H1 eN T1)
    exact ⟨t', ht'.nox, hq'⟩
  refine wpAny_call (codeAny_mono rc fun r s2 hq => ?_)
  cases r with
  | error e => exact (show False from hq).elim
  | ok fl =>
    cases fl with
    | ret u => exact I1.after hq
    | next => exact False.elim hq
    | brk => exact False.elim hq
    | cont => exact False.elim hq
end
end K37
/-! ## L18a -/
namespace K37
open PySem PySem.Spec PyProof.Rows L2
/-- the lambdas' name -/
def qL : Str := (envOfC "law" (defScope (top 48)) 0 0 .none).qual ++ "<lambda>"
abbrev nLaw : List Str := ["_law_script", "_law_state", "_law_lap", "_law_aheads_here", "_law_some", "_law_told", "_law_two", "_law_odd", "_law_order_so"]
def stL (i : Nat) : Stmt := (defBody (top 48)).getD i (.Pass ⟨0,0,0,0⟩)
def lam1 : Expr := match stL 3 with
  | .Assign _ (.List [e] _) _ => e
  | _ => .Constant .none 0 ⟨0,0,0,0⟩
def lam2 : Expr := match stL 4 with
  | .Expr (.Call _ [e] _ _) _ => e
  | _ => .Constant .none 0 ⟨0,0,0,0⟩
def lam3 : Expr := match stL 5 with
  | .If (.Compare (.BinOp _ _ (.List [e] _) _) _ _ _) _ _ _ => e
  | _ => .Constant .none 0 ⟨0,0,0,0⟩
def lam4 : Expr := match stL 6 with
  | .Assign _ (.List [e, _] _) _ => e
  | _ => .Constant .none 0 ⟨0,0,0,0⟩
def lam5 : Expr := match stL 6 with
  | .Assign _ (.List [_, e] _) _ => e
  | _ => .Constant .none 0 ⟨0,0,0,0⟩
section
variable {P : Program} {w : World} {K : PySem.W.Frag} {mg : Str → Option Value} {base : Heap}
theorem pe_lam1 {CO CL fO fL : Addr} {fdO fdL : FuncData} {f g c Pt : Addr} (TO : Er K mg "BadOrder" "part" 2 CO fO fdO) (TL : Er K mg "BadLower" "given" 3 CL fL fdL) (ex : Exm K CO CL)
    {A : Around} {outer : List Env} {s : Shared} {H : Hp} {E : XK} (hr : Room 9 (A.deeper (envOfC "law" (defScope (top 48)) s.heap.objs.size f (.ref c)))) (gH : mg "_law_heard" = some (.ref g))
    {ocH : Value} {odH : Option Addr} {dVH kVH docH pmH : Value} {anH : Option Addr} {cdvH ctH : Value} {oslH : Array (Option Value)}
    (bH : Binds K (PySem.W.fnOf "_law_heard" "_law_heard" (defArgs (top 45)) (defBody (top 45)) (defScope (top 45)) dVH kVH docH pmH anH cdvH ctH) ["_law_call"] []) (TB : LamX.TabB base mg c Pt) (kH : PySem.W.keepIn K (.ref g) = true)
    (lkH : K.lookup g = some ⟨ocH, odH, .func (PySem.W.fnOf "_law_heard" "_law_heard" (defArgs (top 45)) (defBody (top 45)) (defScope (top 45)) dVH kVH docH pmH anH cdvH ctH), oslH⟩) (hcdH : PySem.W.codeIn K cdvH "_law_heard" = true)
    (C7 : Cl P w K mg base (L2.CX P w) 7 "fewest_rounds" (spFewest K CO CL)) : PE (cxOf CX0 P w K mg base nLaw "law" (defScope (top 48)) f (.ref c) A outer s H E).nox lam1 (LamX.tLam [(Pt, qL)] (TH CO CL) (fun E => tCall (spFewest K CO CL) [] E (tCons (tVar 8) (tCons (tVar 7) (tCons (tC (.int 5)) tNil))))) := by
  refine LamX.pe_lamcall (T := [(Pt, qL)]) (k := 7) (TT := TH CO CL) (Ng := nHeard) (a := "_law_call") (c := c) (P := Pt) (t := fun E => tCall (spFewest K CO CL) [] E (tCons (tVar 8) (tCons (tVar 7) (tCons (tC (.int 5)) tNil)))) ?hg ?gH kH lkH hcdH bH sc_heard ?a1 ?a2 ?hG ?TB ?a3 ?a4 ?a5 hr ?LS ?hdef ?hb ?body
  case hg => rfl
  case gH => exact gH
  case a1 => rfl
  case a2 => exact .inl rfl
  case hG => exact heard_gives TO TL ex
  case TB => exact TB
  case a3 => rfl
  case a4 => exact List.mem_singleton.mpr rfl
  case a5 => exact (fun p hp _ => by rw [List.mem_singleton.mp hp]; rfl)
  case LS => exact (LamX.lamS_by (sc := defScope (top 48)) (by decide +kernel))
  case hdef => rfl
  case hb => exact (fun _ _ _ _ _ => rfl)
  case body => exact (fun A outer s H E f c' hr2 => pe_cl C7 hr2 (by decide) (by rfl) (passes_call (E := E) (takes_of rfl rfl rfl rfl) (fun _ _ _ _ h => h)) (pa_cons (pv 8) (pa_cons (pv 7) (pa_cons pe_int pa_nil))))
theorem pe_lam2 {CO CL fO fL : Addr} {fdO fdL : FuncData} {f g c Pt : Addr} (TO : Er K mg "BadOrder" "part" 2 CO fO fdO) (TL : Er K mg "BadLower" "given" 3 CL fL fdL) (ex : Exm K CO CL)
    {A : Around} {outer : List Env} {s : Shared} {H : Hp} {E : XK} (hr : Room 9 (A.deeper (envOfC "law" (defScope (top 48)) s.heap.objs.size f (.ref c)))) (gH : mg "_law_heard" = some (.ref g))
    {ocH : Value} {odH : Option Addr} {dVH kVH docH pmH : Value} {anH : Option Addr} {cdvH ctH : Value} {oslH : Array (Option Value)}
    (bH : Binds K (PySem.W.fnOf "_law_heard" "_law_heard" (defArgs (top 45)) (defBody (top 45)) (defScope (top 45)) dVH kVH docH pmH anH cdvH ctH) ["_law_call"] []) (TB : LamX.TabB base mg c Pt) (kH : PySem.W.keepIn K (.ref g) = true)
    (lkH : K.lookup g = some ⟨ocH, odH, .func (PySem.W.fnOf "_law_heard" "_law_heard" (defArgs (top 45)) (defBody (top 45)) (defScope (top 45)) dVH kVH docH pmH anH cdvH ctH), oslH⟩) (hcdH : PySem.W.codeIn K cdvH "_law_heard" = true)
    (C7 : Cl P w K mg base (L2.CX P w) 7 "fewest_rounds" (spFewest K CO CL)) : PE (cxOf CX0 P w K mg base nLaw "law" (defScope (top 48)) f (.ref c) A outer s H E).nox lam2 (LamX.tLam [(Pt, qL)] (TH CO CL) (fun E => tCall (spFewest K CO CL) [] E (tCons (tVar 8) (tCons (tTup tNil) (tCons (tVar 7) tNil))))) := by
  refine LamX.pe_lamcall (T := [(Pt, qL)]) (k := 7) (TT := TH CO CL) (Ng := nHeard) (a := "_law_call") (c := c) (P := Pt) (t := fun E => tCall (spFewest K CO CL) [] E (tCons (tVar 8) (tCons (tTup tNil) (tCons (tVar 7) tNil)))) ?hg ?gH kH lkH hcdH bH sc_heard ?a1 ?a2 ?hG ?TB ?a3 ?a4 ?a5 hr ?LS ?hdef ?hb ?body
  case hg => rfl
  case gH => exact gH
  case a1 => rfl
  case a2 => exact .inl rfl
  case hG => exact heard_gives TO TL ex
  case TB => exact TB
  case a3 => rfl
  case a4 => exact List.mem_singleton.mpr rfl
  case a5 => exact (fun p hp _ => by rw [List.mem_singleton.mp hp]; rfl)
  case LS => exact (LamX.lamS_by (sc := defScope (top 48)) (by decide +kernel))
  case hdef => rfl
  case hb => exact (fun _ _ _ _ _ => rfl)
  case body => exact (fun A outer s H E f c' hr2 => pe_cl C7 hr2 (by decide) (by rfl) (passes_call (E := E) (takes_of rfl rfl rfl rfl) (fun _ _ _ _ h => h)) (pa_cons (pv 8) (pa_cons (pe_tup pa_nil) (pa_cons (pv 7) pa_nil))))
theorem pe_lam3 {CO CL fO fL : Addr} {fdO fdL : FuncData} {f g c Pt : Addr} (TO : Er K mg "BadOrder" "part" 2 CO fO fdO) (TL : Er K mg "BadLower" "given" 3 CL fL fdL) (ex : Exm K CO CL)
    {A : Around} {outer : List Env} {s : Shared} {H : Hp} {E : XK} (hr : Room 9 (A.deeper (envOfC "law" (defScope (top 48)) s.heap.objs.size f (.ref c)))) (gH : mg "_law_heard" = some (.ref g))
    {ocH : Value} {odH : Option Addr} {dVH kVH docH pmH : Value} {anH : Option Addr} {cdvH ctH : Value} {oslH : Array (Option Value)}
    (bH : Binds K (PySem.W.fnOf "_law_heard" "_law_heard" (defArgs (top 45)) (defBody (top 45)) (defScope (top 45)) dVH kVH docH pmH anH cdvH ctH) ["_law_call"] []) (TB : LamX.TabB base mg c Pt) (kH : PySem.W.keepIn K (.ref g) = true)
    (lkH : K.lookup g = some ⟨ocH, odH, .func (PySem.W.fnOf "_law_heard" "_law_heard" (defArgs (top 45)) (defBody (top 45)) (defScope (top 45)) dVH kVH docH pmH anH cdvH ctH), oslH⟩) (hcdH : PySem.W.codeIn K cdvH "_law_heard" = true)
    (C8 : Cl P w K mg base (L2.CX P w) 6 "is_round" (spRound K CO CL)) : PE (cxOf CX0 P w K mg base nLaw "law" (defScope (top 48)) f (.ref c) A outer s H E).nox lam3 (LamX.tLam [(Pt, qL)] (TH CO CL) (fun E => tCall (spRound K CO CL) [] E (tCons (tVar 8) (tCons (tVar 7) (tCons (tC .non) tNil))))) := by
  refine LamX.pe_lamcall (T := [(Pt, qL)]) (k := 7) (TT := TH CO CL) (Ng := nHeard) (a := "_law_call") (c := c) (P := Pt) (t := fun E => tCall (spRound K CO CL) [] E (tCons (tVar 8) (tCons (tVar 7) (tCons (tC .non) tNil)))) ?hg ?gH kH lkH hcdH bH sc_heard ?a1 ?a2 ?hG ?TB ?a3 ?a4 ?a5 hr ?LS ?hdef ?hb ?body
  case hg => rfl
  case gH => exact gH
  case a1 => rfl
  case a2 => exact .inl rfl
  case hG => exact heard_gives TO TL ex
  case TB => exact TB
  case a3 => rfl
  case a4 => exact List.mem_singleton.mpr rfl
  case a5 => exact (fun p hp _ => by rw [List.mem_singleton.mp hp]; rfl)
  case LS => exact (LamX.lamS_by (sc := defScope (top 48)) (by decide +kernel))
  case hdef => rfl
  case hb => exact (fun _ _ _ _ _ => rfl)
  case body => exact (fun A outer s H E f c' hr2 => pe_cl C8 hr2 (by decide) (by rfl) (passes_call (E := E) (takes_of rfl rfl rfl rfl) (fun _ _ _ _ h => h)) (pa_cons (pv 8) (pa_cons (pv 7) (pa_cons pe_non pa_nil))))
theorem pe_lam4 {CO CL fO fL : Addr} {fdO fdL : FuncData} {f g c Pt : Addr} (TO : Er K mg "BadOrder" "part" 2 CO fO fdO) (TL : Er K mg "BadLower" "given" 3 CL fL fdL) (ex : Exm K CO CL)
    {A : Around} {outer : List Env} {s : Shared} {H : Hp} {E : XK} (hr : Room 9 (A.deeper (envOfC "law" (defScope (top 48)) s.heap.objs.size f (.ref c)))) (gH : mg "_law_heard" = some (.ref g))
    {ocH : Value} {odH : Option Addr} {dVH kVH docH pmH : Value} {anH : Option Addr} {cdvH ctH : Value} {oslH : Array (Option Value)}
    (bH : Binds K (PySem.W.fnOf "_law_heard" "_law_heard" (defArgs (top 45)) (defBody (top 45)) (defScope (top 45)) dVH kVH docH pmH anH cdvH ctH) ["_law_call"] []) (TB : LamX.TabB base mg c Pt) (kH : PySem.W.keepIn K (.ref g) = true)
    (lkH : K.lookup g = some ⟨ocH, odH, .func (PySem.W.fnOf "_law_heard" "_law_heard" (defArgs (top 45)) (defBody (top 45)) (defScope (top 45)) dVH kVH docH pmH anH cdvH ctH), oslH⟩) (hcdH : PySem.W.codeIn K cdvH "_law_heard" = true)
    (C7 : Cl P w K mg base (L2.CX P w) 7 "fewest_rounds" (spFewest K CO CL)) : PE (cxOf CX0 P w K mg base nLaw "law" (defScope (top 48)) f (.ref c) A outer s H E).nox lam4 (LamX.tLam [(Pt, qL)] (TH CO CL) (fun E => tCall (spFewest K CO CL) [] E (tCons (tLst tNil) (tCons (tC (.int 5)) (tCons (tC (.int 5)) tNil))))) := by
  refine LamX.pe_lamcall (T := [(Pt, qL)]) (k := 7) (TT := TH CO CL) (Ng := nHeard) (a := "_law_call") (c := c) (P := Pt) (t := fun E => tCall (spFewest K CO CL) [] E (tCons (tLst tNil) (tCons (tC (.int 5)) (tCons (tC (.int 5)) tNil)))) ?hg ?gH kH lkH hcdH bH sc_heard ?a1 ?a2 ?hG ?TB ?a3 ?a4 ?a5 hr ?LS ?hdef ?hb ?body
  case hg => rfl
  case gH => exact gH
  case a1 => rfl
  case a2 => exact .inl rfl
  case hG => exact heard_gives TO TL ex
  case TB => exact TB
  case a3 => rfl
  case a4 => exact List.mem_singleton.mpr rfl
  case a5 => exact (fun p hp _ => by rw [List.mem_singleton.mp hp]; rfl)
  case LS => exact (LamX.lamS_by (sc := defScope (top 48)) (by decide +kernel))
  case hdef => rfl
  case hb => exact (fun _ _ _ _ _ => rfl)
  case body => exact (fun A outer s H E f c' hr2 => pe_cl C7 hr2 (by decide) (by rfl) (passes_call (E := E) (takes_of rfl rfl rfl rfl) (fun _ _ _ _ h => h)) (pa_cons (pe_lst pa_nil) (pa_cons pe_int (pa_cons pe_int pa_nil))))
theorem pe_lam5 {CO CL fO fL : Addr} {fdO fdL : FuncData} {f g c Pt : Addr} (TO : Er K mg "BadOrder" "part" 2 CO fO fdO) (TL : Er K mg "BadLower" "given" 3 CL fL fdL) (ex : Exm K CO CL)
    {A : Around} {outer : List Env} {s : Shared} {H : Hp} {E : XK} (hr : Room 9 (A.deeper (envOfC "law" (defScope (top 48)) s.heap.objs.size f (.ref c)))) (gH : mg "_law_heard" = some (.ref g))
    {ocH : Value} {odH : Option Addr} {dVH kVH docH pmH : Value} {anH : Option Addr} {cdvH ctH : Value} {oslH : Array (Option Value)}
    (bH : Binds K (PySem.W.fnOf "_law_heard" "_law_heard" (defArgs (top 45)) (defBody (top 45)) (defScope (top 45)) dVH kVH docH pmH anH cdvH ctH) ["_law_call"] []) (TB : LamX.TabB base mg c Pt) (kH : PySem.W.keepIn K (.ref g) = true)
    (lkH : K.lookup g = some ⟨ocH, odH, .func (PySem.W.fnOf "_law_heard" "_law_heard" (defArgs (top 45)) (defBody (top 45)) (defScope (top 45)) dVH kVH docH pmH anH cdvH ctH), oslH⟩) (hcdH : PySem.W.codeIn K cdvH "_law_heard" = true)
    (C8 : Cl P w K mg base (L2.CX P w) 6 "is_round" (spRound K CO CL)) : PE (cxOf CX0 P w K mg base nLaw "law" (defScope (top 48)) f (.ref c) A outer s H E).nox lam5 (LamX.tLam [(Pt, qL)] (TH CO CL) (fun E => tCall (spRound K CO CL) [] E (tCons (tTup (tCons (tC (.bl true)) (tCons (tTup tNil) tNil))) (tCons (tC (.int 5)) (tCons (tC (.int 5)) tNil))))) := by
  refine pe_lamcallD (T := [(Pt, qL)]) (k := 7) (TT := TH CO CL) (Ng := nHeard) (a := "_law_call") (y0 := "_law_x") (c := c) (P := Pt) (t := fun E => tCall (spRound K CO CL) [] E (tCons (tTup (tCons (tC (.bl true)) (tCons (tTup tNil) tNil))) (tCons (tC (.int 5)) (tCons (tC (.int 5)) tNil)))) ?hg ?gH kH lkH hcdH bH sc_heard ?a1 ?a2 ?hG ?TB ?a3 ?a4 ?a5 hr ?LS rfl ?hcl ?hb ?body
  case hg => rfl
  case gH => exact gH
  case a1 => rfl
  case a2 => exact .inl rfl
  case hG => exact heard_gives TO TL ex
  case TB => exact TB
  case a3 => rfl
  case a4 => exact List.mem_singleton.mpr rfl
  case a5 => exact (fun p hp _ => by rw [List.mem_singleton.mp hp]; rfl)
  case LS => exact ⟨rfl, rfl, rfl, by decide +kernel, rfl, (show ("_law_x" : Str) ∉ nLaw from by decide +kernel)⟩
  case hcl => rfl
  case hb => exact (fun _ _ _ _ _ => ⟨_, rfl, fun _ => rfl⟩)
  case body => exact (fun A outer s H E f c' hr2 => pe_cl C8 hr2 (by decide) (by rfl) (passes_call (E := E) (takes_of rfl rfl rfl rfl) (fun _ _ _ _ h => h)) (pa_cons (pe_tup (pa_cons pe_bl (pa_cons (pe_tup pa_nil) pa_nil))) (pa_cons pe_int (pa_cons pe_int pa_nil))))
end
end K37
/-! ## L18b -/
namespace K37
open PySem PySem.Spec PyProof.Rows L2
/-! ### what stands while lists and tables are written -/
def ExtT (H H' : Hp) : Prop := ∀ b o, H b = some o → (∀ ps, o ≠ .tbl ps) → (∀ xs, o ≠ .lst xs) → H' b = some o
theorem ExtT.of {H H' : Hp} (e : LamX.ExtN H H') : ExtT H H' := fun b o h n _ => e b o h n
theorem ExtT.ofS {H H' : Hp} (e : Same H H') : ExtT H H' := fun b o h _ _ => e b o h
theorem ExtT.trans {H H1 H2 : Hp} (a : ExtT H H1) (b : ExtT H1 H2) : ExtT H H2 := fun c o h n m => b c o (a c o h n m) n m
theorem ExtT.updL {H : Hp} {a : Addr} {xs : List V} {o : HO} (h : H a = some (.lst xs)) : ExtT H (upd H a o) := fun b o' e n m => by
  rw [upd_ne]
  · exact e
  · intro z
    rw [z, h] at e
    exact m xs (Option.some.inj e).symm
theorem same_L {K : PySem.W.Frag} {H H' : Hp} {a : Addr} {xs : List V} (e : Same H H') (h : SqL K H a xs) : SqL K H' a xs := by
  rcases h with (h | ⟨o, h⟩) | h
  · exact .inl (.inl (e _ _ h))
  · exact .inl (.inr ⟨o, e _ _ h⟩)
  · exact .inr h
theorem sqT_ext {K : PySem.W.Frag} {H H' : Hp} {a : Addr} {xs : List V} (e : ExtT H H') (h : SqT K H a xs) : SqT K H' a xs := by
  rcases h with (h | ⟨o, h⟩) | h
  · exact .inl (.inl (e _ _ h (fun _ z => nomatch z) (fun _ z => nomatch z)))
  · exact .inl (.inr ⟨o, e _ _ h (fun _ z => nomatch z) (fun _ z => nomatch z)⟩)
  · exact .inr h
theorem OrdAt.ext {K : PySem.W.Frag} {H H' : Hp} {x : V} {n : Int} {ps : List (Int × Int)} (h : OrdAt K H x n ps) (e : ExtT H H') : OrdAt K H' x n ps := by
  obtain ⟨o, q, ts, rfl, h1, h2, h3, h4⟩ := h
  exact ⟨o, q, ts, rfl, sqT_ext e h1, sqT_ext e h2, fun t ht => sqT_ext e (h3 t ht), h4⟩
theorem tabs_updL {T : List (Addr × Str)} {H : Hp} {a : Addr} {xs ys : List V} (t : LamX.Tabs T H) (h : H a = some (.lst xs)) : LamX.Tabs T (upd H a (.lst ys)) := fun p hp => by
  obtain ⟨ps, h1, h2, h3⟩ := t p hp
  refine ⟨ps, ?_, h2, fun pos cv hc => ?_⟩
  · rw [upd_ne]
    · exact h1
    · intro z
      rw [z, h] at h1
      cases h1
  · obtain ⟨c, e, hc⟩ := h3 pos cv hc
    refine ⟨c, e, ?_⟩
    rw [upd_ne]
    · exact hc
    · intro z
      rw [z, h] at hc
      cases hc
/-- what a lambda's error is heard as -/
def EX (CO CL : Addr) (Q : VK) : XK := fun cls d H' => (cls = .ref CO ∧ ∃ dd v, d = some dd ∧ H' dd = some (.xd [("part", v)]) ∧ ∀ p, H' p = none → Q (.ref p) (upd H' p (.tup [.str "order", v]))) ∨
      (cls = .ref CL ∧ ∃ dd v, d = some dd ∧ H' dd = some (.xd [("given", v)]) ∧ ∀ p, H' p = none → Q (.ref p) (upd H' p (.tup [.str "lower", v])))
theorem rz_low {CO CL : Addr} {v : V} {H : Hp} {Q : VK} (h : ∀ H' p, Same H H' → H' p = none → Q (.ref p) (upd H' p (.tup [.str "lower", v]))) : Rz (EX CO CL Q) CL "given" v H :=
  fun d H' s e => .inr ⟨rfl, d, v, rfl, e, fun p np => h H' p s np⟩
theorem rz_ord {CO CL : Addr} {v : V} {H : Hp} {Q : VK} (h : ∀ H' p, Same H H' → H' p = none → Q (.ref p) (upd H' p (.tup [.str "order", v]))) : Rz (EX CO CL Q) CO "part" v H :=
  fun d H' s e => .inl ⟨rfl, d, v, rfl, e, fun p np => h H' p s np⟩
/-! ### small sets, told by Bools -/
def ascB (S : List Int) : Bool := decide (Asc S)
def lowChk (n : Int) (ps : List (Int × Int)) (S : List Int) : Bool := decide (Asc S) && S.all fun x => decide (0 ≤ x ∧ x < n) && (rng n).all fun y => !ah ps y x || decide (y ∈ S)
theorem low_chk {n : Int} {ps : List (Int × Int)} {S : List Int} (hn : Ord n ps) : lowChk n ps S = true → Low n (ah ps) S := fun h => by
  have rel := ah_rel hn.ok hn.n20
  unfold lowChk at h
  rw [Bool.and_eq_true, decide_eq_true_eq, List.all_eq_true] at h
  refine ⟨h.1, fun x hx => ?_, fun x hx y hy => ?_⟩
  · have := h.2 x hx
    rw [Bool.and_eq_true, decide_eq_true_eq] at this
    exact this.1
  · have t := h.2 x hx
    rw [Bool.and_eq_true, decide_eq_true_eq] at t
    exact (put_test rel).mp t.2 y hy
def rndChk (n : Int) (ps : List (Int × Int)) (S A : List Int) : Bool := decide (Asc A) && decide (A ≠ []) && (A.all fun x => decide (x ∈ frL n (ah ps) S)) && A.all fun x => A.all fun y => !ah ps x y
theorem rnd_chk {n : Int} {ps : List (Int × Int)} {S A : List Int} (hn : Ord n ps) : rndChk n ps S A = true ↔ IsRnd n (ah ps) S (tupD A) := by
  have rel := ah_rel hn.ok hn.n20
  unfold rndChk
  rw [Bool.and_eq_true, Bool.and_eq_true, Bool.and_eq_true, decide_eq_true_eq, decide_eq_true_eq, List.all_eq_true, List.all_eq_true]
  constructor
  · rintro ⟨⟨⟨h1, h2⟩, h3⟩, h4⟩
    refine ⟨A, rfl, h1, h2, fun x hx => (mem_frL rel).mp (of_decide_eq_true (h3 x hx)), fun x hx y hy => ?_⟩
    have := List.all_eq_true.mp (h4 x hx) y hy
    simpa using this
  · rintro ⟨L, e, h⟩
    have e := tupD_inj e
    subst e
    refine ⟨⟨⟨h.asc, h.ne⟩, fun x hx => decide_eq_true ((mem_frL rel).mpr (h.free x hx))⟩, fun x hx => List.all_eq_true.mpr fun y hy => ?_⟩
    have := h.loose x hx y hy
    rw [this]
    rfl
abbrev psT : List (Int × Int) := [(0, 1), (2, 3)]
abbrev psR : List (Int × Int) := [(0, 1), (1, 2), (2, 3)]
theorem ord_two : Ord 4 psT := ⟨by decide, by decide, by unfold PsOk; decide, by decide, by decide⟩
theorem ord_row : Ord 4 psR := ⟨by decide, by decide, by unfold PsOk; decide, by decide, by decide⟩
theorem ord_none : Ord 20 [] := ⟨by decide, by decide, by unfold PsOk; decide, by decide, by decide⟩
theorem f1 : dst (ah psT) [] [0, 1, 2, 3] = 2 := by decide +kernel
theorem f2 : dst (ah psT) [0, 1] [2, 3] = 2 := by decide +kernel
theorem f3 : dst (ah psR) [] [0, 1, 2, 3] = 4 := by decide +kernel
theorem f4 : dst (ah []) [] (rng 20) = 1 := by decide +kernel
theorem f5 : dst (ah psT) [0] [0] = 0 := by decide +kernel
theorem r1 : rndChk 4 psT [0, 1] [1, 2] = true := by decide +kernel
theorem r2 : rndChk 4 psT [] [0, 1] = false := by decide +kernel
theorem r3 : rndChk 4 psT [0] [0, 1] = false := by decide +kernel
theorem r4 : rndChk 4 psT [0] [0, 2] = true := by decide +kernel
theorem r5 : rndChk 4 psT [0] [] = false := by decide +kernel
theorem w1 : lowChk 4 psT [] = true := by decide +kernel
theorem w2 : lowChk 4 psT [0, 1, 2, 3] = true := by decide +kernel
theorem w3 : lowChk 4 psT [0, 1] = true := by decide +kernel
theorem w4 : lowChk 4 psT [2, 3] = true := by decide +kernel
theorem w5 : lowChk 4 psR [] = true := by decide +kernel
theorem w6 : lowChk 4 psR [0, 1, 2, 3] = true := by decide +kernel
theorem w7 : lowChk 4 psT [0] = true := by decide +kernel
theorem w8 : lowChk 20 [] [] = true := by decide +kernel
theorem w9 : lowChk 20 [] (rng 20) = true := by decide +kernel
section
variable {K : PySem.W.Frag} {CO CL : Addr} {H : Hp} {E : XK} {Q : VK}
theorem few_conc {o x y : V} {n : Int} {ps : List (Int × Int)} {S U : List Int} (hO : OrdAt K H o n ps) (hn : Ord n ps) (hx : ∃ a, x = .ref a ∧ SqT K H a (S.map V.int)) (hy : ∃ a, y = .ref a ∧ SqT K H a (U.map V.int)) (fS : S.length ≤ 1000) (fU : U.length ≤ 1000) (lS : lowChk n ps S = true) (lU : lowChk n ps U = true)
    (q : ∀ H', Same H H' → Q (.int (dst (ah ps) S U)) H') : spFewest K CO CL [o, x, y] H Q E := by
  obtain ⟨a, rfl, ha⟩ := hx
  obtain ⟨b, rfl, hb⟩ := hy
  exact ⟨o, .ref a, .ref b, rfl, .inr (.inr ⟨n, ps, tupD S, tupD U, hO, hn, dp_tup ha, (by show (S.map PyData.int).length ≤ 1000; rw [List.length_map]; exact fS), dp_tup hb, (by show (U.map PyData.int).length ≤ 1000; rw [List.length_map]; exact fU), .inr (.inr ⟨S, U, rfl, rfl, low_chk hn lS, low_chk hn lU, q⟩)⟩)⟩
theorem rnd_conc {o x y : V} {n : Int} {ps : List (Int × Int)} {S A : List Int} (hO : OrdAt K H o n ps) (hn : Ord n ps) (hx : ∃ a, x = .ref a ∧ SqT K H a (S.map V.int)) (hy : ∃ a, y = .ref a ∧ SqT K H a (A.map V.int)) (fS : S.length ≤ 1000) (fA : A.length ≤ 1000) (lS : lowChk n ps S = true)
    (q : ∀ H', Same H H' → Q (.bl (rndChk n ps S A)) H') : spRound K CO CL [o, x, y] H Q E := by
  obtain ⟨a, rfl, ha⟩ := hx
  obtain ⟨b, rfl, hb⟩ := hy
  refine ⟨o, .ref a, .ref b, rfl, .inr (.inr ⟨n, ps, tupD S, hO, hn, dp_tup ha, (by show (S.map PyData.int).length ≤ 1000; rw [List.length_map]; exact fS), .inr ⟨S, tupD A, rfl, low_chk hn lS, dp_tup hb, (by show (A.map PyData.int).length ≤ 1000; rw [List.length_map]; exact fA), fun H' b s hb => ?_⟩⟩)⟩
  have : b = rndChk n ps S A := by
    rw [Bool.eq_iff_iff, hb, rnd_chk hn]
  rw [this]
  exact q H' s
/-- (n,) is no lower set -/
theorem odd_no {n : Int} {R : Rl} : ¬ IsLow n R (tupD [n]) := fun ⟨S, e, h⟩ => by
  have e := tupD_inj e
  subst e
  have := (h.bd n (List.mem_singleton.mpr rfl)).2
  omega
theorem emp_low {n : Int} {R : Rl} : IsLow n R (tupD []) := ⟨[], rfl, .nil, (fun x hx => by cases hx), fun x hx => by cases hx⟩
/-- what is told thrice -/
def oddD (n : Int) : PyData := .list [.tuple [.str "lower", tupD [n]], .tuple [.str "lower", tupD [n]], .tuple [.str "lower", tupD [n]]]
theorem sh_odd {n : Int} : SeqAt.shaped (oddD n) = true := by
  simp [SeqAt.shaped, oddD, tupD, PyData.canLay0, PyData.canLayAll0, PyData.depth, PyData.depthAll]
  decide +kernel
theorem eqv_odd {n : Int} : PyData.eqv (oddD n) (oddD n) = true := by
  simp [oddD, tupD, PyData.eqv, PyData.eqvAll]
def twoD : PyData := .list [.tuple [.str "order", .str "form"], .tuple [.str "order", .str "many"]]
theorem sh_two : SeqAt.shaped twoD = true := by
  simp [SeqAt.shaped, twoD, PyData.canLay0, PyData.canLayAll0, PyData.depth, PyData.depthAll]
  decide +kernel
theorem eqv_two : PyData.eqv twoD twoD = true := by
  simp [twoD, PyData.eqv, PyData.eqvAll]
theorem few_at {o x y : V} {n v : Int} {ps : List (Int × Int)} (S U : List Int) (hO : OrdAt K H o n ps) (hn : Ord n ps) (hx : ∃ a, x = .ref a ∧ SqT K H a (S.map V.int)) (hy : ∃ a, y = .ref a ∧ SqT K H a (U.map V.int)) (fS : S.length ≤ 1000) (fU : U.length ≤ 1000) (lS : lowChk n ps S = true) (lU : lowChk n ps U = true)
    (hv : dst (ah ps) S U = v) (q : ∀ H', Same H H' → Q (.int v) H') : spFewest K CO CL [o, x, y] H Q E := by
  subst hv
  exact few_conc hO hn hx hy fS fU lS lU q
theorem rnd_at {o x y : V} {n : Int} {b : Bool} {ps : List (Int × Int)} (S A : List Int) (hO : OrdAt K H o n ps) (hn : Ord n ps) (hx : ∃ a, x = .ref a ∧ SqT K H a (S.map V.int)) (hy : ∃ a, y = .ref a ∧ SqT K H a (A.map V.int)) (fS : S.length ≤ 1000) (fA : A.length ≤ 1000) (lS : lowChk n ps S = true)
    (hv : rndChk n ps S A = b) (q : ∀ H', Same H H' → Q (.bl b) H') : spRound K CO CL [o, x, y] H Q E := by
  subst hv
  exact rnd_conc hO hn hx hy fS fA lS q
end
end K37
/-! ## L18 -/
namespace K37
open PySem PySem.Spec PyProof.Rows L2
theorem fng_okC {P : Program} {w : World} {K : PySem.W.Frag} {mg : Str → Option Value} {base : Heap} {CX : CXT} {N ps : List Str} {k : Nat} {sp : Sp} {x : Str} {i : Nat} {f c : Addr} {fd : FuncData} (F : FnP K x i f fd) (hc : fd.code = .ref c) (S : FnScope N ps (defScope (top i))) (len : ∀ vs H Q E, sp vs H Q E → vs.length = ps.length)
    (hbody : ∀ (A : Around) (outer : List Env) (s : Shared) (H : Hp) (vs : List V) (Q : VK) (E : XK), A.guards = some [] → Room k (A.deeper (envOfC x (defScope (top i)) s.heap.objs.size f (.ref c))) → sp vs H Q E →
      ∃ t, PSs (cxOf CX P w K mg base N x (defScope (top i)) f (.ref c) A outer s H E) (defBody (top i)) t ∧ t { nx := fun _ H' => Q .non H', rt := Q } (start N vs) H) : FnG P w K mg base CX (k + 1) f fd ps sp := by
  obtain ⟨oc, od, dV, kV, doc, pm, an, cdv, ct, osl, rfl, lk, hcd, _, _⟩ := F.ex
  have e : cdv = .ref c := hc
  subst e
  exact ⟨len, fun A outer s H args us vs Q E hg hr e0 hb r hsp => LamX.run_ofS lk hcd S hr e0 hb r (len _ _ _ _ hsp) fun hr' => hbody A outer s H vs Q E hg hr' hsp⟩
theorem sc_law : FnScope nLaw ["_law_script"] (defScope (top 48)) := ⟨rfl, rfl, rfl, by decide +kernel, rfl, by decide +kernel, by decide +kernel⟩
theorem repK {X : Cx} (h : True := trivial) : OpR X (binaryOp .Mult) rRep := op_rep
def spLaw (K : PySem.W.Frag) (Pt : Addr) : Sp := fun vs H Q _ => ∃ (a : Addr) (ns : List Int), vs = [.ref a] ∧ SqL K H a (ns.map V.int) ∧ ns.length ≤ 63 ∧ H Pt = some (.tbl #[]) ∧ ∀ H', Q (.bl true) H'
section
variable {P : Program} {w : World} {K : PySem.W.Frag} {mg : Str → Option Value} {base : Heap}
theorem ok_law {CO CL fO fL : Addr} {fdO fdL : FuncData} {f g c Pt : Addr} {fd fdH : FuncData} (F : FnP K "law" 48 f fd) (hc : fd.code = .ref c) (T : Tp mg) (TO : Er K mg "BadOrder" "part" 2 CO fO fdO) (TL : Er K mg "BadLower" "given" 3 CL fL fdL) (ex : Exm K CO CL)
    (FH : FnP K "_law_heard" 45 g fdH) (gH : mg "_law_heard" = some (.ref g)) (bH : Binds K fdH ["_law_call"] []) (TB : LamX.TabB base mg c Pt)
    (C1 : Cl P w K mg base CX0 1 "_law_begin" (spBegin K)) (C2 : Cl P w K mg base CX0 3 "_law_order" (spOrder K)) (C3 : Cl P w K mg base CX0 1 "_law_aheads" (spAheads K)) (C4 : Cl P w K mg base CX0 2 "_law_lowers" (spLowers K))
    (C5 : Cl P w K mg base CX0 8 "_law_few_right" (spFew K)) (C6 : ClG P w K mg base CX0 8 "_law_rounds_right" (spRounds K)) (C7 : Cl P w K mg base (L2.CX P w) 7 "fewest_rounds" (spFewest K CO CL)) (C8 : Cl P w K mg base (L2.CX P w) 6 "is_round" (spRound K CO CL)) :
    FnG P w K mg base CX0 10 f fd ["_law_script"] (spLaw K Pt) := by
  have kH := FH.kp
  obtain ⟨ocH, odH, dVH, kVH, docH, pmH, anH, cdvH, ctH, oslH, rfl, lkH, hcdH, _, _⟩ := FH.ex
  refine fng_okC F hc sc_law (fun vs H Q E h => ?_) (fun A outer s H vs Q E hgd hr h => ⟨_, PSs.nox (pss_cons
      (ps_set (i := 1) sc_law.nd rfl (.inl rfl) (pe_cl C1 hr (by decide) (by rfl) pass0 (pa_cons (pv 0) pa_nil)))
      (pss_cons (ps_for PassesOwn.never rfl (pi_range1 rfl T.range (pa_cons (pe_op op_add pe_int (pe_callB (call_min2 rfl) (by rfl) T.min (by decide +kernel) (pa_cons (pe_callB call_len_seq (by rfl) T.len PySem.boot_len (pa_cons (pv 0) pa_nil)) (pa_cons pe_int pa_nil)))) pa_nil)) (pg_name (i := 2) sc_law.nd rfl (Or.inl rfl))
        (pss_cons (ps_set (i := 8) sc_law.nd rfl (.inr rfl) (pe_cl C2 hr (by decide) (by rfl) pass0 (pa_cons (pv 1) (pa_cons pe_int pa_nil))))
        (pss_cons (ps_par (i := 3) (j := 4) (by rfl) sc_law.nd rfl rfl (by decide) rfl rfl (pa_cons (pe_cl C3 hr (by decide) (by rfl) pass0 (pa_cons (pv 8) pa_nil)) (pa_cons (pe_cl C4 hr (by decide) (by rfl) pass0 (pa_cons (pv 8) pa_nil)) pa_nil)) (by rfl))
        (pss_one (ps_if (PW.pt (pw_or (pt_not (pt_val (pe_cl C5 hr (by decide) (by rfl) pass0 (pa_cons (pv 1) (pa_cons (pv 8) (pa_cons (pv 3) (pa_cons (pv 4) pa_nil))))))) (pw_or1 (pt_not (pt_val (pe_clg hgd C6 hr (by decide) (by rfl) pass0 (pa_cons (pv 1) (pa_cons (pv 8) (pa_cons (pv 3) (pa_cons (pv 4) pa_nil)))))))))) (pss_one (ps_ret pe_bl)) pss_nil)))))
      (pss_cons (ps_set (i := 7) sc_law.nd rfl (.inr rfl) (pe_tup (pa_cons (pe_ix ix_tup (pv 8) pe_int (fun _ _ => rfl)) pa_nil)))
      (pss_cons (ps_set (i := 5) sc_law.nd rfl (.inl rfl) (pe_lst (pa_cons (pe_lam1 TO TL ex hr gH bH TB kH lkH hcdH C7) pa_nil)))
      (pss_cons (ps_expr (pe_bm PySem.F.plainAttrs_list PySem.F.slot_list_append PySem.F.type_list_append mt_append (pv 5) (pa_cons (pe_lam2 TO TL ex hr gH bH TB kH lkH hcdH C7) pa_nil)))
      (pss_cons (ps_if (pt_cmpR (op_neD hr.units) (pe_op op_cat (pv 5) (pe_lst (pa_cons (pe_lam3 TO TL ex hr gH bH TB kH lkH hcdH C8) pa_nil))) (pe_op op_rep (pe_lst (pa_cons (pe_tup (pa_cons pe_str (pa_cons (pv 7) pa_nil))) pa_nil)) pe_int) (nomark _)) (pss_one (ps_ret pe_bl)) pss_nil)
      (pss_cons (ps_set (i := 5) sc_law.nd rfl (.inl rfl) (pe_lst (pa_cons (pe_lam4 TO TL ex hr gH bH TB kH lkH hcdH C7) (pa_cons (pe_lam5 TO TL ex hr gH bH TB kH lkH hcdH C8) pa_nil))))
      (pss_cons (ps_if (pt_cmpR (op_neD hr.units) (pv 5) (pe_lst (pa_cons (pe_tup (pa_cons pe_str (pa_cons pe_str pa_nil))) (pa_cons (pe_tup (pa_cons pe_str (pa_cons pe_str pa_nil))) pa_nil))) (nomark _)) (pss_one (ps_ret pe_bl)) pss_nil)
      (pss_cons (ps_set (i := 6) sc_law.nd rfl (.inl rfl) (pe_tup (pa_cons pe_int (pa_cons (pe_tup (pa_cons (pe_tup (pa_cons pe_int (pa_cons pe_int pa_nil))) (pa_cons (pe_tup (pa_cons pe_int (pa_cons pe_int pa_nil))) pa_nil))) pa_nil))))
      (pss_cons (ps_if (PW.pt (pw_or (pt_cmpR op_ne (pe_cl C7 hr (by decide) (by rfl) pass_no (pa_cons (pv 6) (pa_cons (pe_tup pa_nil) (pa_cons (pe_tup (pa_cons pe_int (pa_cons pe_int (pa_cons pe_int (pa_cons pe_int pa_nil))))) pa_nil)))) pe_int (nomark _)) (pw_or (pt_not (pt_val (pe_cl C8 hr (by decide) (by rfl) pass_no (pa_cons (pv 6) (pa_cons (pe_tup (pa_cons pe_int (pa_cons pe_int pa_nil))) (pa_cons (pe_tup (pa_cons pe_int (pa_cons pe_int pa_nil))) pa_nil)))))) (pw_or1 (pt_val (pe_cl C8 hr (by decide) (by rfl) pass_no (pa_cons (pv 6) (pa_cons (pe_tup pa_nil) (pa_cons (pe_tup (pa_cons pe_int (pa_cons pe_int pa_nil))) pa_nil))))))))) (pss_one (ps_ret pe_bl)) pss_nil)
      (pss_cons (ps_if (PW.pt (pw_or (pt_cmpR op_ne (pe_cl C7 hr (by decide) (by rfl) pass_no (pa_cons (pv 6) (pa_cons (pe_tup (pa_cons pe_int (pa_cons pe_int pa_nil))) (pa_cons (pe_tup (pa_cons pe_int (pa_cons pe_int pa_nil))) pa_nil)))) pe_int (nomark _)) (pw_or1 (pt_cmpR op_ne (pe_cl C7 hr (by decide) (by rfl) pass_no (pa_cons (pe_tup (pa_cons pe_int (pa_cons (pe_tup (pa_cons (pe_tup (pa_cons pe_int (pa_cons pe_int pa_nil))) (pa_cons (pe_tup (pa_cons pe_int (pa_cons pe_int pa_nil))) (pa_cons (pe_tup (pa_cons pe_int (pa_cons pe_int pa_nil))) pa_nil)))) pa_nil))) (pa_cons (pe_tup pa_nil) (pa_cons (pe_tup (pa_cons pe_int (pa_cons pe_int (pa_cons pe_int (pa_cons pe_int pa_nil))))) pa_nil)))) pe_int (nomark _))))) (pss_one (ps_ret pe_bl)) pss_nil)
      (pss_cons (ps_if (PW.pt (pw_or (pt_val (pe_cl C8 hr (by decide) (by rfl) pass_no (pa_cons (pv 6) (pa_cons (pe_tup (pa_cons pe_int pa_nil)) (pa_cons (pe_tup (pa_cons pe_int (pa_cons pe_int pa_nil))) pa_nil))))) (pw_or (pt_not (pt_val (pe_cl C8 hr (by decide) (by rfl) pass_no (pa_cons (pv 6) (pa_cons (pe_tup (pa_cons pe_int pa_nil)) (pa_cons (pe_tup (pa_cons pe_int (pa_cons pe_int pa_nil))) pa_nil)))))) (pw_or1 (pt_val (pe_cl C8 hr (by decide) (by rfl) pass_no (pa_cons (pv 6) (pa_cons (pe_tup (pa_cons pe_int pa_nil)) (pa_cons (pe_tup pa_nil) pa_nil))))))))) (pss_one (ps_ret pe_bl)) pss_nil)
      (pss_one (ps_ret (pe_and (pe_cmpR op_eq (pe_cl C7 hr (by decide) (by rfl) pass_no (pa_cons (pe_tup (pa_cons pe_int (pa_cons (pe_tup pa_nil) pa_nil))) (pa_cons (pe_tup pa_nil) (pa_cons (pe_tupRg rfl (by rfl) T.tuple (prg_1 (by rfl) T.range pe_int)) pa_nil)))) pe_int (nomark _)) (pe_one (pe_cmpR op_eq (pe_cl C7 hr (by decide) (by rfl) pass_no (pa_cons (pv 6) (pa_cons (pe_tup (pa_cons pe_int pa_nil)) (pa_cons (pe_tup (pa_cons pe_int pa_nil)) pa_nil)))) pe_int (nomark _)))))))))))))))))), ?_⟩)
  · obtain ⟨a, ns, rfl, _⟩ := h
    rfl
  · obtain ⟨a, ns, rfl, ha, hl, hP, q⟩ := h
    refine ⟨.ref a, rfl, a, ns, rfl, ha, hl, fun H1 s l cc s1 hs hl' st => ?_⟩
    have hP1 := s1 _ _ hP
    have nP := st.apart hP1 (fun _ z => nomatch z) (fun _ z => nomatch z)
    refine ⟨.ref a, rfl, a, _, rfl, .inl (same_L s1 ha), _, _, rfl, 2, _, rfl, rfl, _, rfl, by split <;> omega, by split <;> omega, ?_⟩
    have hm : 2 ≤ (2 + (if 2 < (((ns.map V.int).length : Nat) : Int) then 2 else (((ns.map V.int).length : Nat) : Int))).toNat ∧ (2 + (if 2 < (((ns.map V.int).length : Nat) : Int) then 2 else (((ns.map V.int).length : Nat) : Int))).toNat ≤ 4 := by
      split <;> omega
    generalize (2 + (if 2 < (((ns.map V.int).length : Nat) : Int) then 2 else (((ns.map V.int).length : Nat) : Int))).toNat = m at hm ⊢
    refine for_range (lo := 0) (n := m) (fun i σ H' => ∃ y2 y3 y4 y8, σ = [some (.ref a), some (.ref s), y2, y3, y4, none, none, none, y8] ∧ Kp s l H1 H' ∧ StAt H' s l cc (200 * i) ∧ (1 ≤ i → ∃ o n ps, y8 = some o ∧ OrdAt K H' o n ps ∧ Ord n ps ∧ n ≤ 5))
      ⟨_, _, _, _, rfl, Kp.of (Same.refl _), by simpa using st, fun z => by omega⟩ (fun i σ H2 hi hI => ?_) (fun σ H2 hI => ?_)
    · obtain ⟨y2, y3, y4, y8, rfl, k2, st2, _⟩ := hI
      refine ⟨.ref s, rfl, s, l, cc, _, rfl, st2, by omega, fun H3 o n ps k3 st3 hO hn n5 => ?_⟩
      refine ⟨o, rfl, o, n, ps, rfl, hO, hn, fun H4 x s4 hA => ?_⟩
      have st4 := st3.same s4
      have hA4 : AhL (fun b => b ≠ s ∧ b ≠ l) H4 x n (ah ps) := hA.imp fun b o _ nb => ⟨(st3.new nb).1, (st3.new nb).2.1⟩
      refine ⟨o, rfl, o, n, ps, rfl, hO.same s4, hn, n5, fun H5 p L s5 np hp hT up nd mem few => ⟨_, _, rfl, ?_⟩⟩
      have np' := st4.new np
      have hL5 : LwAt H5 p L n (ah ps) := ⟨hp, hT, up, nd, mem, few⟩
      have st5 := st4.same s5
      have hA5 := hA4.same s5
      have hO5 := hO.same (s4.trans s5)
      refine ⟨.ref s, rfl, o, rfl, x, rfl, .ref p, rfl, s, l, cc, p, o, x, _, n, ps, L, rfl, st5, by omega, hO5, hn, n5, hA5, hL5, ⟨np'.1, np'.2.1⟩, fun H6 k6 st6 => ?_⟩
      refine ⟨_, rfl, iteF ?_⟩
      refine ⟨.ref s, rfl, o, rfl, x, rfl, .ref p, rfl, s, l, cc, p, o, x, _, n, ps, L, rfl, st6, by omega, hO5.kp st5 k6, hn, n5, hA5.kp (fun b hb => hb) k6, hL5.kp st5 ⟨np'.1, np'.2.1⟩ k6, ⟨np'.1, np'.2.1⟩, fun H7 k7 st7 => ?_⟩
      refine ⟨_, rfl, iteF ?_⟩
      exact ⟨_, _, _, _, rfl, (k2.trans (k3.trans (Kp.of (s4.trans s5)))).trans (k6.trans k7), st7.mono (by omega), fun _ => ⟨o, n, ps, rfl, (hO5.kp st5 k6).kp st6 k7, hn, n5⟩⟩
    · obtain ⟨y2, y3, y4, y8, rfl, k2, st2, hy⟩ := hI
      obtain ⟨o, n, ps, rfl, hO, hn, n5⟩ := hy (by omega)
      have hT2 : LamX.Tabs [(Pt, qL)] H2 := fun p hp => by
        rw [List.mem_singleton.mp hp]
        exact .nil (k2 _ _ nP.1 nP.2.1 hP1)
      have hO' := hO
      obtain ⟨oa, qa, ts, rfl, hO1, _⟩ := hO'
      refine ⟨.ref oa, rfl, oa, _, 0, .int n, rfl, rfl, hO1, rfl, by show 1 ≤ sizeLine; decide, fun pd npd => ?_⟩
      have s23 : Same H2 (upd H2 pd (.tup [.int n])) := same_put (Same.refl _) npd
      have hd3 : upd H2 pd (.tup [.int n]) pd = some (.tup ([n].map V.int)) := upd_same
      generalize upd H2 pd (.tup [.int n]) = H3 at s23 hd3 ⊢
      have hT3 := hT2.ext s23
      have hO3 := hO.same s23
      refine ⟨hT3, fun H4 e4 hT4 => ?_⟩
      have x4 := ExtT.of e4
      have hd4 : SqT K H4 pd ([n].map V.int) := sqT_ext x4 (.inl (.inl hd3))
      refine ⟨.ref oa, rfl, .ref pd, rfl, .ref oa, .ref pd, .int 5, rfl, .inr (.inr ⟨n, ps, tupD [n], .int 5, hO3.ext x4, hn, dp_tup hd4, (by show 1 ≤ 1000; decide), .int 5, True.intro, .inl ⟨odd_no, fun d5 H5 s5 e5 => .inr ⟨rfl, d5, _, rfl, e5, fun p1 np1 => ?_⟩⟩⟩)⟩
      refine ⟨by show 1 ≤ sizeLine; decide, fun tl ntl => ?_⟩
      have ha6 : upd H5 p1 (.tup [.str "lower", .ref pd]) p1 = some (.tup [.str "lower", .ref pd]) := upd_same
      have s46 : Same H4 (upd H5 p1 (.tup [.str "lower", .ref pd])) := same_new s5 np1
      generalize upd H5 p1 (.tup [.str "lower", .ref pd]) = H6 at s46 ha6 ntl ⊢
      have s47 : Same H4 (upd H6 tl (.lst [.ref p1])) := same_new s46 ntl
      have s67 : Same H6 (upd H6 tl (.lst [.ref p1])) := same_put (Same.refl _) ntl
      have ht7 : upd H6 tl (.lst [.ref p1]) tl = some (.lst [.ref p1]) := upd_same
      have ha7 := s67 _ _ ha6
      generalize upd H6 tl (.lst [.ref p1]) = H7 at s47 ht7 ha7 ⊢
      have x37 : ExtT H3 H7 := x4.trans (ExtT.ofS s47)
      have hT7 := hT4.ext s47
      refine ⟨.ref tl, rfl, .inl ⟨rfl, _, .inl (.inl ht7)⟩, hT7, fun H8 e8 hT8 => ?_⟩
      have x38 : ExtT H3 H8 := x37.trans (ExtT.of e8)
      have ht8 := e8 _ _ ht7 (fun _ z => nomatch z)
      have ha8 := e8 _ _ ha7 (fun _ z => nomatch z)
      refine ⟨.ref oa, rfl, by show 0 ≤ sizeLine; decide, fun pe npe => ?_⟩
      have s89 : Same H8 (upd H8 pe (.tup [])) := same_put (Same.refl _) npe
      have he9 : SqT K (upd H8 pe (.tup [])) pe (([] : List Int).map V.int) := .inl (.inl upd_same)
      generalize upd H8 pe (.tup []) = H9 at s89 he9 ⊢
      have x39 := x38.trans (ExtT.ofS s89)
      have hd9 : SqT K H9 pd ([n].map V.int) := sqT_ext x39 (.inl (.inl hd3))
      refine ⟨.ref pd, rfl, .ref oa, .ref pe, .ref pd, rfl, .inr (.inr ⟨n, ps, tupD [], tupD [n], hO3.ext x39, hn, dp_tup he9, (by show 0 ≤ 1000; decide), dp_tup hd9, (by show 1 ≤ 1000; decide), .inr (.inl ⟨emp_low, odd_no, fun d10 H10 s10 e10 => .inr ⟨rfl, d10, _, rfl, e10, fun p2 np2 => ?_⟩⟩)⟩)⟩
      have hb11 : upd H10 p2 (.tup [.str "lower", .ref pd]) p2 = some (.tup [.str "lower", .ref pd]) := upd_same
      have s8_11 : Same H8 (upd H10 p2 (.tup [.str "lower", .ref pd])) := same_new (s89.trans s10) np2
      generalize upd H10 p2 (.tup [.str "lower", .ref pd]) = H11 at s8_11 hb11 ⊢
      have ht11 := s8_11 _ _ ht8
      have ha11 := s8_11 _ _ ha8
      refine ⟨tl, _, _, rfl, rfl, ht11, by show 1 < sizeLine; decide, ?_⟩
      have x12 : ExtT H11 (upd H11 tl (.lst ([.ref p1] ++ [.ref p2]))) := ExtT.updL ht11
      have hT12 := tabs_updL (ys := [.ref p1] ++ [.ref p2]) (hT8.ext s8_11) ht11
      have ht12 : upd H11 tl (.lst ([.ref p1] ++ [.ref p2])) tl = some (.lst [.ref p1, .ref p2]) := upd_same
      generalize upd H11 tl (.lst ([.ref p1] ++ [.ref p2])) = H12 at x12 hT12 ht12 ⊢
      have ha12 := x12 _ _ ha11 (fun _ z => nomatch z) (fun _ z => nomatch z)
      have hb12 := x12 _ _ hb11 (fun _ z => nomatch z) (fun _ z => nomatch z)
      have x3_12 : ExtT H3 H12 := (x38.trans (ExtT.ofS s8_11)).trans x12
      refine ⟨.ref tl, rfl, hT12, fun H13 e13 hT13 => ?_⟩
      have x3_13 : ExtT H3 H13 := x3_12.trans (ExtT.of e13)
      have ht13 := e13 _ _ ht12 (fun _ z => nomatch z)
      have ha13 := e13 _ _ ha12 (fun _ z => nomatch z)
      have hb13 := e13 _ _ hb12 (fun _ z => nomatch z)
      have hd13 : SqT K H13 pd ([n].map V.int) := sqT_ext x3_13 (.inl (.inl hd3))
      refine ⟨.ref oa, rfl, .ref pd, rfl, .ref oa, .ref pd, .non, rfl, .inr (.inr ⟨n, ps, tupD [n], hO3.ext x3_13, hn, dp_tup hd13, (by show 1 ≤ 1000; decide), .inl ⟨odd_no, fun d14 H14 s14 e14 => .inr ⟨rfl, d14, _, rfl, e14, fun p3 np3 => ?_⟩⟩⟩)⟩
      refine ⟨by show 1 ≤ sizeLine; decide, fun l3 nl3 => ?_⟩
      have hc15 : upd H14 p3 (.tup [.str "lower", .ref pd]) p3 = some (.tup [.str "lower", .ref pd]) := upd_same
      have s15 : Same H13 (upd H14 p3 (.tup [.str "lower", .ref pd])) := same_new s14 np3
      generalize upd H14 p3 (.tup [.str "lower", .ref pd]) = H15 at s15 hc15 nl3 ⊢
      have s15_16 : Same H15 (upd H15 l3 (.lst [.ref p3])) := same_put (Same.refl _) nl3
      have hl16 : upd H15 l3 (.lst [.ref p3]) l3 = some (.lst [.ref p3]) := upd_same
      generalize upd H15 l3 (.lst [.ref p3]) = H16 at s15_16 hl16 ⊢
      have s13_16 := s15.trans s15_16
      refine ⟨tl, l3, _, _, rfl, rfl, s13_16 _ _ ht13, hl16, by show 2 + 1 ≤ sizeLine; decide, fun l4 nl4 => ?_⟩
      have s16_17 : Same H16 (upd H16 l4 (.lst ([.ref p1, .ref p2] ++ [.ref p3]))) := same_put (Same.refl _) nl4
      have hl17 : upd H16 l4 (.lst ([.ref p1, .ref p2] ++ [.ref p3])) l4 = some (.lst [.ref p1, .ref p2, .ref p3]) := upd_same
      generalize upd H16 l4 (.lst ([.ref p1, .ref p2] ++ [.ref p3])) = H17 at s16_17 hl17 ⊢
      refine ⟨.ref pd, rfl, by show 2 ≤ sizeLine; decide, fun q1 nq1 => ?_⟩
      have s17_18 : Same H17 (upd H17 q1 (.tup [.str "lower", .ref pd])) := same_put (Same.refl _) nq1
      have hq18 : upd H17 q1 (.tup [.str "lower", .ref pd]) q1 = some (.tup [.str "lower", .ref pd]) := upd_same
      generalize upd H17 q1 (.tup [.str "lower", .ref pd]) = H18 at s17_18 hq18 ⊢
      refine ⟨by show 1 ≤ sizeLine; decide, fun l5 nl5 => ?_⟩
      have s18_19 : Same H18 (upd H18 l5 (.lst [.ref q1])) := same_put (Same.refl _) nl5
      have hl19 : upd H18 l5 (.lst [.ref q1]) l5 = some (.lst [.ref q1]) := upd_same
      generalize upd H18 l5 (.lst [.ref q1]) = H19 at s18_19 hl19 ⊢
      refine ⟨l5, 3, _, rfl, rfl, hl19, by decide, by decide, by show 3 ≤ sizeLine; decide, fun l6 nl6 => ?_⟩
      have s19_20 : Same H19 (upd H19 l6 (.lst (List.replicate (3 : Int).toNat [V.ref q1]).flatten)) := same_put (Same.refl _) nl6
      have hl20 : upd H19 l6 (.lst (List.replicate (3 : Int).toNat [V.ref q1]).flatten) l6 = some (.lst [.ref q1, .ref q1, .ref q1]) := upd_same
      generalize upd H19 l6 (.lst (List.replicate (3 : Int).toNat [V.ref q1]).flatten) = H20 at s19_20 hl20 ⊢
      have s18_20 := s18_19.trans s19_20
      have s17_20 := s17_18.trans s18_20
      have s15_20 := (s15_16.trans s16_17).trans s17_20
      have s13_20 := s15.trans s15_20
      have hd20 : Dp K H20 (.ref pd) (tupD [n]) := dp_tup (same_T s13_20 hd13)
      have pr : ∀ p, H20 p = some (.tup [.str "lower", .ref pd]) → Dp K H20 (.ref p) (.tuple [.str "lower", tupD [n]]) := fun p hp => .tup (.inl (.inl hp)) (.cons (.str _) (.cons hd20 .nil))
      have pq := pr _ (s18_20 _ _ hq18)
      refine ⟨oddD n, oddD n,
        .lst (.inl (.inl (s17_20 _ _ hl17))) (.cons (pr _ (s13_20 _ _ ha13)) (.cons (pr _ (s13_20 _ _ hb13)) (.cons (pr _ (s15_20 _ _ hc15)) .nil))), .lst (.inl (.inl hl20)) (.cons pq (.cons pq (.cons pq .nil))), sh_odd, sh_odd, ?_⟩
      rw [eqv_odd]
      refine ⟨_, rfl, iteF ?_⟩
      have hT20 := hT13.ext s13_20
      refine ⟨hT20, fun H21 e21 hT21 => ?_⟩
      refine ⟨by show 0 ≤ sizeLine; decide, fun le nle => ?_⟩
      have s22 : Same H21 (upd H21 le (.lst [])) := same_put (Same.refl _) nle
      refine ⟨.ref le, .int 5, .int 5, rfl, .inl ⟨[], .lst (.inl (.inl upd_same)) .nil, fun d22 H22 s22' e22 => .inl ⟨rfl, d22, _, rfl, e22, fun p4 np4 => ?_⟩⟩⟩
      have s21_23 : Same H21 (upd H22 p4 (.tup [.str "order", .str "form"])) := same_new (s22.trans s22') np4
      have hf23 : upd H22 p4 (.tup [.str "order", .str "form"]) p4 = some (.tup [.str "order", .str "form"]) := upd_same
      generalize upd H22 p4 (.tup [.str "order", .str "form"]) = H23 at s21_23 hf23 ⊢
      refine ⟨hT21.ext s21_23, fun H24 e24 hT24 => ?_⟩
      have hf24 := e24 _ _ hf23 (fun _ z => nomatch z)
      refine ⟨by show 0 ≤ sizeLine; decide, fun t1 nt1 => ⟨by show 2 ≤ sizeLine; decide, fun t2 nt2 => ?_⟩⟩
      have s25 : Same H24 (upd H24 t1 (.tup [])) := same_put (Same.refl _) nt1
      have h25 : upd H24 t1 (.tup []) t1 = some (.tup []) := upd_same
      generalize upd H24 t1 (.tup []) = H25 at s25 h25 nt2 ⊢
      have s26 : Same H25 (upd H25 t2 (.tup [.bl true, .ref t1])) := same_put (Same.refl _) nt2
      have h26 : upd H25 t2 (.tup [.bl true, .ref t1]) t2 = some (.tup [.bl true, .ref t1]) := upd_same
      generalize upd H25 t2 (.tup [.bl true, .ref t1]) = H26 at s26 h26 ⊢
      refine ⟨.ref t2, .int 5, .int 5, rfl, .inr (.inl ⟨.tup (.inl (.inl h26)) (.cons (.bl true) (.cons (.tup (.inl (.inl (s26 _ _ h25))) .nil) .nil)), fun d27 H27 s27 e27 => .inl ⟨rfl, d27, _, rfl, e27, fun p5 np5 => ?_⟩⟩)⟩
      have s24_28 : Same H24 (upd H27 p5 (.tup [.str "order", .str "many"])) := same_new ((s25.trans s26).trans s27) np5
      have hg28 : upd H27 p5 (.tup [.str "order", .str "many"]) p5 = some (.tup [.str "order", .str "many"]) := upd_same
      generalize upd H27 p5 (.tup [.str "order", .str "many"]) = H28 at s24_28 hg28 ⊢
      have hf28 := s24_28 _ _ hf24
      refine ⟨by show 2 ≤ sizeLine; decide, fun l7 nl7 => ?_⟩
      have s28_29 : Same H28 (upd H28 l7 (.lst [.ref p4, .ref p5])) := same_put (Same.refl _) nl7
      have hl29 : upd H28 l7 (.lst [.ref p4, .ref p5]) l7 = some (.lst [.ref p4, .ref p5]) := upd_same
      generalize upd H28 l7 (.lst [.ref p4, .ref p5]) = H29 at s28_29 hl29 ⊢
      have hf29 := s28_29 _ _ hf28
      have hg29 := s28_29 _ _ hg28
      refine ⟨.ref l7, rfl, by show 2 ≤ sizeLine; decide, fun r1 nr1 => ⟨by show 2 ≤ sizeLine; decide, fun r2 nr2 => ⟨by show 2 ≤ sizeLine; decide, fun r3 nr3 => ?_⟩⟩⟩
      have s30 : Same H29 (upd H29 r1 (.tup [.str "order", .str "form"])) := same_put (Same.refl _) nr1
      have h30 : upd H29 r1 (.tup [.str "order", .str "form"]) r1 = some (.tup [.str "order", .str "form"]) := upd_same
      generalize upd H29 r1 (.tup [.str "order", .str "form"]) = H30 at s30 h30 nr2 nr3 ⊢
      have s31 : Same H30 (upd H30 r2 (.tup [.str "order", .str "many"])) := same_put (Same.refl _) nr2
      have h31 : upd H30 r2 (.tup [.str "order", .str "many"]) r2 = some (.tup [.str "order", .str "many"]) := upd_same
      generalize upd H30 r2 (.tup [.str "order", .str "many"]) = H31 at s31 h31 nr3 ⊢
      have s32 : Same H31 (upd H31 r3 (.lst [.ref r1, .ref r2])) := same_put (Same.refl _) nr3
      have h32 : upd H31 r3 (.lst [.ref r1, .ref r2]) r3 = some (.lst [.ref r1, .ref r2]) := upd_same
      generalize upd H31 r3 (.lst [.ref r1, .ref r2]) = H32 at s32 h32 ⊢
      have s30_32 := s31.trans s32
      have s29_32 := s30.trans s30_32
      have pr2 : ∀ p w, H32 p = some (.tup [.str "order", .str w]) → Dp K H32 (.ref p) (.tuple [.str "order", .str w]) := fun p w hp => .tup (.inl (.inl hp)) (.cons (.str _) (.cons (.str _) .nil))
      refine ⟨twoD, twoD, .lst (.inl (.inl (s29_32 _ _ hl29))) (.cons (pr2 _ _ (s29_32 _ _ hf29)) (.cons (pr2 _ _ (s29_32 _ _ hg29)) .nil)), .lst (.inl (.inl h32)) (.cons (pr2 _ _ (s30_32 _ _ h30)) (.cons (pr2 _ _ (s32 _ _ h31)) .nil)), sh_two, sh_two, ?_⟩
      rw [eqv_two]
      refine ⟨_, rfl, iteF ?_⟩
      refine ⟨by show 2 ≤ sizeLine; decide, fun a1 na1 => ?_⟩
      have s33 : Same H32 (upd H32 a1 (.tup [.int 0, .int 1])) := same_put (Same.refl _) na1
      have ha1 : upd H32 a1 (.tup [.int 0, .int 1]) a1 = some (.tup [.int 0, .int 1]) := upd_same
      generalize upd H32 a1 (.tup [.int 0, .int 1]) = H33 at s33 ha1 ⊢
      refine ⟨by show 2 ≤ sizeLine; decide, fun a2 na2 => ?_⟩
      have s34 : Same H33 (upd H33 a2 (.tup [.int 2, .int 3])) := same_put (Same.refl _) na2
      have ha2 : upd H33 a2 (.tup [.int 2, .int 3]) a2 = some (.tup [.int 2, .int 3]) := upd_same
      generalize upd H33 a2 (.tup [.int 2, .int 3]) = H34 at s34 ha2 ⊢
      have ha1 := s34 _ _ ha1
      refine ⟨by show 2 ≤ sizeLine; decide, fun a3 na3 => ?_⟩
      have s35 : Same H34 (upd H34 a3 (.tup [.ref a1, .ref a2])) := same_put (Same.refl _) na3
      have ha3 : upd H34 a3 (.tup [.ref a1, .ref a2]) a3 = some (.tup [.ref a1, .ref a2]) := upd_same
      generalize upd H34 a3 (.tup [.ref a1, .ref a2]) = H35 at s35 ha3 ⊢
      have ha1 := s35 _ _ ha1
      have ha2 := s35 _ _ ha2
      refine ⟨by show 2 ≤ sizeLine; decide, fun a4 na4 => ?_⟩
      have s36 : Same H35 (upd H35 a4 (.tup [.int 4, .ref a3])) := same_put (Same.refl _) na4
      have ha4 : upd H35 a4 (.tup [.int 4, .ref a3]) a4 = some (.tup [.int 4, .ref a3]) := upd_same
      generalize upd H35 a4 (.tup [.int 4, .ref a3]) = H36 at s36 ha4 ⊢
      have ha1 := s36 _ _ ha1
      have ha2 := s36 _ _ ha2
      have ha3 := s36 _ _ ha3
      have hTwo : OrdAt K H36 (.ref a4) 4 psT := ⟨a4, a3, [(a1, 0, 1), (a2, 2, 3)], rfl, .inl (.inl ha4), .inl (.inl ha3), fun t ht => ?_, rfl⟩
      rotate_left
      · rcases List.mem_cons.mp ht with rfl | ht
        · exact .inl (.inl ha1)
        · rw [List.mem_singleton.mp ht]
          exact .inl (.inl ha2)
      refine ⟨.ref a4, rfl, by show 0 ≤ sizeLine; decide, fun b1 nb1 => ?_⟩
      have s37 : Same H36 (upd H36 b1 (.tup [])) := same_put (Same.refl _) nb1
      have hb1 : upd H36 b1 (.tup []) b1 = some (.tup []) := upd_same
      generalize upd H36 b1 (.tup []) = H37 at s37 hb1 ⊢
      have hTwo := hTwo.same s37
      refine ⟨by show 4 ≤ sizeLine; decide, fun b2 nb2 => ?_⟩
      have s38 : Same H37 (upd H37 b2 (.tup [.int 0, .int 1, .int 2, .int 3])) := same_put (Same.refl _) nb2
      have hb2 : upd H37 b2 (.tup [.int 0, .int 1, .int 2, .int 3]) b2 = some (.tup [.int 0, .int 1, .int 2, .int 3]) := upd_same
      generalize upd H37 b2 (.tup [.int 0, .int 1, .int 2, .int 3]) = H38 at s38 hb2 ⊢
      have hb1 := s38 _ _ hb1
      have hTwo := hTwo.same s38
      refine ⟨.ref a4, .ref b1, .ref b2, rfl, .inr (.inr ⟨4, psT, tupD [], tupD ([0, 1, 2, 3]), hTwo, ord_two, dp_tup (S := []) (.inl (.inl hb1)), (by show (0 : Nat) ≤ 1000; decide), dp_tup (S := [0, 1, 2, 3]) (.inl (.inl hb2)), (by show (4 : Nat) ≤ 1000; decide), .inr (.inr ⟨[], [0, 1, 2, 3], rfl, rfl, low_chk ord_two w1, low_chk ord_two w2, fun H39 s39 => ?_⟩)⟩)⟩
      rw [f1]
      have hTwo := hTwo.same s39
      refine ⟨rfl, _, rfl, iteFF (by decide) ?_⟩
      refine ⟨.ref a4, rfl, by show 2 ≤ sizeLine; decide, fun b3 nb3 => ?_⟩
      have s40 : Same H39 (upd H39 b3 (.tup [.int 0, .int 1])) := same_put (Same.refl _) nb3
      have hb3 : upd H39 b3 (.tup [.int 0, .int 1]) b3 = some (.tup [.int 0, .int 1]) := upd_same
      generalize upd H39 b3 (.tup [.int 0, .int 1]) = H40 at s40 hb3 ⊢
      have hTwo := hTwo.same s40
      refine ⟨by show 2 ≤ sizeLine; decide, fun b4 nb4 => ?_⟩
      have s41 : Same H40 (upd H40 b4 (.tup [.int 1, .int 2])) := same_put (Same.refl _) nb4
      have hb4 : upd H40 b4 (.tup [.int 1, .int 2]) b4 = some (.tup [.int 1, .int 2]) := upd_same
      generalize upd H40 b4 (.tup [.int 1, .int 2]) = H41 at s41 hb4 ⊢
      have hb3 := s41 _ _ hb3
      have hTwo := hTwo.same s41
      refine ⟨.ref a4, .ref b3, .ref b4, rfl, .inr (.inr ⟨4, psT, tupD [0, 1], hTwo, ord_two, dp_tup (S := [0, 1]) (.inl (.inl hb3)), (by show (2 : Nat) ≤ 1000; decide), .inr ⟨[0, 1], tupD [1, 2], rfl, low_chk ord_two w3, dp_tup (S := [1, 2]) (.inl (.inl hb4)), (by show (2 : Nat) ≤ 1000; decide), fun H42 bb s42 hbb => ?_⟩⟩)⟩
      obtain rfl : bb = true := by rw [← K37.r1, Bool.eq_iff_iff, hbb, rnd_chk ord_two]
      have hTwo := hTwo.same s42
      refine ⟨_, rfl, iteF ?_⟩
      refine ⟨.ref a4, rfl, by show 0 ≤ sizeLine; decide, fun b5 nb5 => ?_⟩
      have s43 : Same H42 (upd H42 b5 (.tup [])) := same_put (Same.refl _) nb5
      have hb5 : upd H42 b5 (.tup []) b5 = some (.tup []) := upd_same
      generalize upd H42 b5 (.tup []) = H43 at s43 hb5 ⊢
      have hTwo := hTwo.same s43
      refine ⟨by show 2 ≤ sizeLine; decide, fun b6 nb6 => ?_⟩
      have s44 : Same H43 (upd H43 b6 (.tup [.int 0, .int 1])) := same_put (Same.refl _) nb6
      have hb6 : upd H43 b6 (.tup [.int 0, .int 1]) b6 = some (.tup [.int 0, .int 1]) := upd_same
      generalize upd H43 b6 (.tup [.int 0, .int 1]) = H44 at s44 hb6 ⊢
      have hb5 := s44 _ _ hb5
      have hTwo := hTwo.same s44
      refine ⟨.ref a4, .ref b5, .ref b6, rfl, .inr (.inr ⟨4, psT, tupD [], hTwo, ord_two, dp_tup (S := []) (.inl (.inl hb5)), (by show (0 : Nat) ≤ 1000; decide), .inr ⟨[], tupD [0, 1], rfl, low_chk ord_two w1, dp_tup (S := [0, 1]) (.inl (.inl hb6)), (by show (2 : Nat) ≤ 1000; decide), fun H45 bb s45 hbb => ?_⟩⟩)⟩
      obtain rfl : bb = false := by rw [← K37.r2, Bool.eq_iff_iff, hbb, rnd_chk ord_two]
      have hTwo := hTwo.same s45
      refine ⟨_, rfl, iteF ?_⟩
      refine ⟨.ref a4, rfl, by show 2 ≤ sizeLine; decide, fun b7 nb7 => ?_⟩
      have s46 : Same H45 (upd H45 b7 (.tup [.int 0, .int 1])) := same_put (Same.refl _) nb7
      have hb7 : upd H45 b7 (.tup [.int 0, .int 1]) b7 = some (.tup [.int 0, .int 1]) := upd_same
      generalize upd H45 b7 (.tup [.int 0, .int 1]) = H46 at s46 hb7 ⊢
      have hTwo := hTwo.same s46
      refine ⟨by show 2 ≤ sizeLine; decide, fun b8 nb8 => ?_⟩
      have s47 : Same H46 (upd H46 b8 (.tup [.int 2, .int 3])) := same_put (Same.refl _) nb8
      have hb8 : upd H46 b8 (.tup [.int 2, .int 3]) b8 = some (.tup [.int 2, .int 3]) := upd_same
      generalize upd H46 b8 (.tup [.int 2, .int 3]) = H47 at s47 hb8 ⊢
      have hb7 := s47 _ _ hb7
      have hTwo := hTwo.same s47
      refine ⟨.ref a4, .ref b7, .ref b8, rfl, .inr (.inr ⟨4, psT, tupD [0, 1], tupD ([2, 3]), hTwo, ord_two, dp_tup (S := [0, 1]) (.inl (.inl hb7)), (by show (2 : Nat) ≤ 1000; decide), dp_tup (S := [2, 3]) (.inl (.inl hb8)), (by show (2 : Nat) ≤ 1000; decide), .inr (.inr ⟨[0, 1], [2, 3], rfl, rfl, low_chk ord_two w3, low_chk ord_two w4, fun H48 s48 => ?_⟩)⟩)⟩
      rw [f2]
      have hTwo := hTwo.same s48
      refine ⟨rfl, _, rfl, iteFF (by decide) ?_⟩
      refine ⟨by show 2 ≤ sizeLine; decide, fun c1 nc1 => ?_⟩
      have s49 : Same H48 (upd H48 c1 (.tup [.int 0, .int 1])) := same_put (Same.refl _) nc1
      have hc1 : upd H48 c1 (.tup [.int 0, .int 1]) c1 = some (.tup [.int 0, .int 1]) := upd_same
      generalize upd H48 c1 (.tup [.int 0, .int 1]) = H49 at s49 hc1 ⊢
      have hTwo := hTwo.same s49
      refine ⟨by show 2 ≤ sizeLine; decide, fun c2 nc2 => ?_⟩
      have s50 : Same H49 (upd H49 c2 (.tup [.int 1, .int 2])) := same_put (Same.refl _) nc2
      have hc2 : upd H49 c2 (.tup [.int 1, .int 2]) c2 = some (.tup [.int 1, .int 2]) := upd_same
      generalize upd H49 c2 (.tup [.int 1, .int 2]) = H50 at s50 hc2 ⊢
      have hc1 := s50 _ _ hc1
      have hTwo := hTwo.same s50
      refine ⟨by show 2 ≤ sizeLine; decide, fun c3 nc3 => ?_⟩
      have s51 : Same H50 (upd H50 c3 (.tup [.int 2, .int 3])) := same_put (Same.refl _) nc3
      have hc3 : upd H50 c3 (.tup [.int 2, .int 3]) c3 = some (.tup [.int 2, .int 3]) := upd_same
      generalize upd H50 c3 (.tup [.int 2, .int 3]) = H51 at s51 hc3 ⊢
      have hc1 := s51 _ _ hc1
      have hc2 := s51 _ _ hc2
      have hTwo := hTwo.same s51
      refine ⟨by show 3 ≤ sizeLine; decide, fun c4 nc4 => ?_⟩
      have s52 : Same H51 (upd H51 c4 (.tup [.ref c1, .ref c2, .ref c3])) := same_put (Same.refl _) nc4
      have hc4 : upd H51 c4 (.tup [.ref c1, .ref c2, .ref c3]) c4 = some (.tup [.ref c1, .ref c2, .ref c3]) := upd_same
      generalize upd H51 c4 (.tup [.ref c1, .ref c2, .ref c3]) = H52 at s52 hc4 ⊢
      have hc1 := s52 _ _ hc1
      have hc2 := s52 _ _ hc2
      have hc3 := s52 _ _ hc3
      have hTwo := hTwo.same s52
      refine ⟨by show 2 ≤ sizeLine; decide, fun c5 nc5 => ?_⟩
      have s53 : Same H52 (upd H52 c5 (.tup [.int 4, .ref c4])) := same_put (Same.refl _) nc5
      have hc5 : upd H52 c5 (.tup [.int 4, .ref c4]) c5 = some (.tup [.int 4, .ref c4]) := upd_same
      generalize upd H52 c5 (.tup [.int 4, .ref c4]) = H53 at s53 hc5 ⊢
      have hc1 := s53 _ _ hc1
      have hc2 := s53 _ _ hc2
      have hc3 := s53 _ _ hc3
      have hc4 := s53 _ _ hc4
      have hTwo := hTwo.same s53
      refine ⟨by show 0 ≤ sizeLine; decide, fun b9 nb9 => ?_⟩
      have s54 : Same H53 (upd H53 b9 (.tup [])) := same_put (Same.refl _) nb9
      have hb9 : upd H53 b9 (.tup []) b9 = some (.tup []) := upd_same
      generalize upd H53 b9 (.tup []) = H54 at s54 hb9 ⊢
      have hc1 := s54 _ _ hc1
      have hc2 := s54 _ _ hc2
      have hc3 := s54 _ _ hc3
      have hc4 := s54 _ _ hc4
      have hc5 := s54 _ _ hc5
      have hTwo := hTwo.same s54
      refine ⟨by show 4 ≤ sizeLine; decide, fun b10 nb10 => ?_⟩
      have s55 : Same H54 (upd H54 b10 (.tup [.int 0, .int 1, .int 2, .int 3])) := same_put (Same.refl _) nb10
      have hb10 : upd H54 b10 (.tup [.int 0, .int 1, .int 2, .int 3]) b10 = some (.tup [.int 0, .int 1, .int 2, .int 3]) := upd_same
      generalize upd H54 b10 (.tup [.int 0, .int 1, .int 2, .int 3]) = H55 at s55 hb10 ⊢
      have hc1 := s55 _ _ hc1
      have hc2 := s55 _ _ hc2
      have hc3 := s55 _ _ hc3
      have hc4 := s55 _ _ hc4
      have hc5 := s55 _ _ hc5
      have hb9 := s55 _ _ hb9
      have hTwo := hTwo.same s55
      have hRow : OrdAt K H55 (.ref c5) 4 psR := ⟨c5, c4, [(c1, 0, 1), (c2, 1, 2), (c3, 2, 3)], rfl, .inl (.inl hc5), .inl (.inl hc4), fun t ht => ?_, rfl⟩
      rotate_left
      · rcases List.mem_cons.mp ht with rfl | ht
        · exact .inl (.inl hc1)
        · rcases List.mem_cons.mp ht with rfl | ht
          · exact .inl (.inl hc2)
          · rw [List.mem_singleton.mp ht]
            exact .inl (.inl hc3)
      refine ⟨.ref c5, .ref b9, .ref b10, rfl, .inr (.inr ⟨4, psR, tupD [], tupD ([0, 1, 2, 3]), hRow, ord_row, dp_tup (S := []) (.inl (.inl hb9)), (by show (0 : Nat) ≤ 1000; decide), dp_tup (S := [0, 1, 2, 3]) (.inl (.inl hb10)), (by show (4 : Nat) ≤ 1000; decide), .inr (.inr ⟨[], [0, 1, 2, 3], rfl, rfl, low_chk ord_row w5, low_chk ord_row w6, fun H56 s56 => ?_⟩)⟩)⟩
      rw [f3]
      have hTwo := hTwo.same s56
      refine ⟨rfl, _, rfl, iteFF (by decide) ?_⟩
      refine ⟨.ref a4, rfl, by show 1 ≤ sizeLine; decide, fun b11 nb11 => ?_⟩
      have s57 : Same H56 (upd H56 b11 (.tup [.int 0])) := same_put (Same.refl _) nb11
      have hb11 : upd H56 b11 (.tup [.int 0]) b11 = some (.tup [.int 0]) := upd_same
      generalize upd H56 b11 (.tup [.int 0]) = H57 at s57 hb11 ⊢
      have hTwo := hTwo.same s57
      refine ⟨by show 2 ≤ sizeLine; decide, fun b12 nb12 => ?_⟩
      have s58 : Same H57 (upd H57 b12 (.tup [.int 0, .int 1])) := same_put (Same.refl _) nb12
      have hb12 : upd H57 b12 (.tup [.int 0, .int 1]) b12 = some (.tup [.int 0, .int 1]) := upd_same
      generalize upd H57 b12 (.tup [.int 0, .int 1]) = H58 at s58 hb12 ⊢
      have hb11 := s58 _ _ hb11
      have hTwo := hTwo.same s58
      refine ⟨.ref a4, .ref b11, .ref b12, rfl, .inr (.inr ⟨4, psT, tupD [0], hTwo, ord_two, dp_tup (S := [0]) (.inl (.inl hb11)), (by show (1 : Nat) ≤ 1000; decide), .inr ⟨[0], tupD [0, 1], rfl, low_chk ord_two w7, dp_tup (S := [0, 1]) (.inl (.inl hb12)), (by show (2 : Nat) ≤ 1000; decide), fun H59 bb s59 hbb => ?_⟩⟩)⟩
      obtain rfl : bb = false := by rw [← K37.r3, Bool.eq_iff_iff, hbb, rnd_chk ord_two]
      have hTwo := hTwo.same s59
      refine ⟨_, rfl, iteF ?_⟩
      refine ⟨.ref a4, rfl, by show 1 ≤ sizeLine; decide, fun b13 nb13 => ?_⟩
      have s60 : Same H59 (upd H59 b13 (.tup [.int 0])) := same_put (Same.refl _) nb13
      have hb13 : upd H59 b13 (.tup [.int 0]) b13 = some (.tup [.int 0]) := upd_same
      generalize upd H59 b13 (.tup [.int 0]) = H60 at s60 hb13 ⊢
      have hTwo := hTwo.same s60
      refine ⟨by show 2 ≤ sizeLine; decide, fun b14 nb14 => ?_⟩
      have s61 : Same H60 (upd H60 b14 (.tup [.int 0, .int 2])) := same_put (Same.refl _) nb14
      have hb14 : upd H60 b14 (.tup [.int 0, .int 2]) b14 = some (.tup [.int 0, .int 2]) := upd_same
      generalize upd H60 b14 (.tup [.int 0, .int 2]) = H61 at s61 hb14 ⊢
      have hb13 := s61 _ _ hb13
      have hTwo := hTwo.same s61
      refine ⟨.ref a4, .ref b13, .ref b14, rfl, .inr (.inr ⟨4, psT, tupD [0], hTwo, ord_two, dp_tup (S := [0]) (.inl (.inl hb13)), (by show (1 : Nat) ≤ 1000; decide), .inr ⟨[0], tupD [0, 2], rfl, low_chk ord_two w7, dp_tup (S := [0, 2]) (.inl (.inl hb14)), (by show (2 : Nat) ≤ 1000; decide), fun H62 bb s62 hbb => ?_⟩⟩)⟩
      obtain rfl : bb = true := by rw [← K37.r4, Bool.eq_iff_iff, hbb, rnd_chk ord_two]
      have hTwo := hTwo.same s62
      refine ⟨_, rfl, iteF ?_⟩
      refine ⟨.ref a4, rfl, by show 1 ≤ sizeLine; decide, fun b15 nb15 => ?_⟩
      have s63 : Same H62 (upd H62 b15 (.tup [.int 0])) := same_put (Same.refl _) nb15
      have hb15 : upd H62 b15 (.tup [.int 0]) b15 = some (.tup [.int 0]) := upd_same
      generalize upd H62 b15 (.tup [.int 0]) = H63 at s63 hb15 ⊢
      have hTwo := hTwo.same s63
      refine ⟨by show 0 ≤ sizeLine; decide, fun b16 nb16 => ?_⟩
      have s64 : Same H63 (upd H63 b16 (.tup [])) := same_put (Same.refl _) nb16
      have hb16 : upd H63 b16 (.tup []) b16 = some (.tup []) := upd_same
      generalize upd H63 b16 (.tup []) = H64 at s64 hb16 ⊢
      have hb15 := s64 _ _ hb15
      have hTwo := hTwo.same s64
      refine ⟨.ref a4, .ref b15, .ref b16, rfl, .inr (.inr ⟨4, psT, tupD [0], hTwo, ord_two, dp_tup (S := [0]) (.inl (.inl hb15)), (by show (1 : Nat) ≤ 1000; decide), .inr ⟨[0], tupD [], rfl, low_chk ord_two w7, dp_tup (S := []) (.inl (.inl hb16)), (by show (0 : Nat) ≤ 1000; decide), fun H65 bb s65 hbb => ?_⟩⟩)⟩
      obtain rfl : bb = false := by rw [← K37.r5, Bool.eq_iff_iff, hbb, rnd_chk ord_two]
      have hTwo := hTwo.same s65
      refine ⟨_, rfl, iteF ?_⟩
      refine ⟨by show 0 ≤ sizeLine; decide, fun u1 nu1 => ?_⟩
      have s66 : Same H65 (upd H65 u1 (.tup [])) := same_put (Same.refl _) nu1
      have hu1 : upd H65 u1 (.tup []) u1 = some (.tup []) := upd_same
      generalize upd H65 u1 (.tup []) = H66 at s66 hu1 ⊢
      have hTwo := hTwo.same s66
      refine ⟨by show 2 ≤ sizeLine; decide, fun u2 nu2 => ?_⟩
      have s67 : Same H66 (upd H66 u2 (.tup [.int 20, .ref u1])) := same_put (Same.refl _) nu2
      have hu2 : upd H66 u2 (.tup [.int 20, .ref u1]) u2 = some (.tup [.int 20, .ref u1]) := upd_same
      generalize upd H66 u2 (.tup [.int 20, .ref u1]) = H67 at s67 hu2 ⊢
      have hu1 := s67 _ _ hu1
      have hTwo := hTwo.same s67
      refine ⟨by show 0 ≤ sizeLine; decide, fun b17 nb17 => ?_⟩
      have s68 : Same H67 (upd H67 b17 (.tup [])) := same_put (Same.refl _) nb17
      have hb17 : upd H67 b17 (.tup []) b17 = some (.tup []) := upd_same
      generalize upd H67 b17 (.tup []) = H68 at s68 hb17 ⊢
      have hu1 := s68 _ _ hu1
      have hu2 := s68 _ _ hu2
      have hTwo := hTwo.same s68
      refine ⟨20, rfl, ⟨by decide, by decide, by decide, by decide, by decide⟩, fun u3 nu3 => ?_⟩
      have s69 : Same H68 (upd H68 u3 (.tup (rgV 0 20))) := same_put (Same.refl _) nu3
      have hu3 : upd H68 u3 (.tup (rgV 0 20)) u3 = some (.tup ((rng 20).map V.int)) := by rw [upd_same, rgV_rng]
      generalize upd H68 u3 (.tup (rgV 0 20)) = H69 at s69 hu3 ⊢
      have hu1 := s69 _ _ hu1
      have hu2 := s69 _ _ hu2
      have hb17 := s69 _ _ hb17
      have hTwo := hTwo.same s69
      refine ⟨.ref u2, .ref b17, .ref u3, rfl, .inr (.inr ⟨20, [], tupD [], tupD ((rng 20)), ⟨u2, u1, [], rfl, .inl (.inl hu2), .inl (.inl hu1), (fun t ht => by cases ht), rfl⟩, ord_none, dp_tup (S := []) (.inl (.inl hb17)), (by show (0 : Nat) ≤ 1000; decide), dp_tup (S := (rng 20)) (.inl (.inl hu3)), (by show (20 : Nat) ≤ 1000; decide), .inr (.inr ⟨[], (rng 20), rfl, rfl, low_chk ord_none w8, low_chk ord_none w9, fun H70 s70 => ?_⟩)⟩)⟩
      rw [f4]
      have hTwo := hTwo.same s70
      refine ⟨rfl, _, rfl, iteTT (by decide) ?_⟩
      refine ⟨.ref a4, rfl, by show 1 ≤ sizeLine; decide, fun b18 nb18 => ?_⟩
      have s71 : Same H70 (upd H70 b18 (.tup [.int 0])) := same_put (Same.refl _) nb18
      have hb18 : upd H70 b18 (.tup [.int 0]) b18 = some (.tup [.int 0]) := upd_same
      generalize upd H70 b18 (.tup [.int 0]) = H71 at s71 hb18 ⊢
      have hTwo := hTwo.same s71
      refine ⟨by show 1 ≤ sizeLine; decide, fun b19 nb19 => ?_⟩
      have s72 : Same H71 (upd H71 b19 (.tup [.int 0])) := same_put (Same.refl _) nb19
      have hb19 : upd H71 b19 (.tup [.int 0]) b19 = some (.tup [.int 0]) := upd_same
      generalize upd H71 b19 (.tup [.int 0]) = H72 at s72 hb19 ⊢
      have hb18 := s72 _ _ hb18
      have hTwo := hTwo.same s72
      refine ⟨.ref a4, .ref b18, .ref b19, rfl, .inr (.inr ⟨4, psT, tupD [0], tupD ([0]), hTwo, ord_two, dp_tup (S := [0]) (.inl (.inl hb18)), (by show (1 : Nat) ≤ 1000; decide), dp_tup (S := [0]) (.inl (.inl hb19)), (by show (1 : Nat) ≤ 1000; decide), .inr (.inr ⟨[0], [0], rfl, rfl, low_chk ord_two w7, low_chk ord_two w7, fun H73 s73 => ?_⟩)⟩)⟩
      rw [f5]
      have hTwo := hTwo.same s73
      exact ⟨rfl, q _⟩
end
end K37
/-! ## E1 -/
namespace K37
open PySem PySem.Spec PyProof.Rows L2
/-! ### the law's call from outside: one table of code objects, empty -/
section
variable {P : Program} {w : World} {K : PySem.W.Frag} {mg mb : Str → Option Value} {k : Nat} {fa a c Pt : Addr} {fd : FuncData} {x : Str} {sp : Sp} {s₁ : Shared} {vs : List Value} {ns : List Int}
/-- from a heap told by H: the script as it stands, or in K; the table; nothing else -/
theorem call_from (H : Hp) (KX : K.In s₁.heap) (hns : s₁.heap.Ns mainGlobals mg) (hb : s₁.heap.Ns builtinsNs mb) (hbb : ∀ x : Str, x ≠ "__name__" → mb x = bootBuiltins x) (hlim : s₁.heap.NoLimit) (hg : s₁.gens = #[])
    (hT : s₁.heap.get? Pt = some { cls := .none, data := .fields #[] }) (nT : K.lookup Pt = none) (C : PySem.W.CodeHd s₁.heap c Pt)
    (hbm : ∃ (bm : Addr) (ob : Obj), mg "__builtins__" = some (.ref bm) ∧ bm ≠ builtinsNs ∧ s₁.heap.get? bm = some ob ∧ ob.cls = .type "module" ∧ ob.dict = some builtinsNs ∧ ob.data = .plain)
    (ha : s₁.heap.get? a = some { cls := .type "list", data := .seq vs.toArray }) (hr : Room k callerA)
    (F : ∀ base : Heap, K.In base → base.Ns mainGlobals mg → LamX.TabB base mg c Pt → FnG P w K mg base CX0 k fa fd [x] sp) (hbind : ∀ (s : Shared) (u : Value), BindsTo s fd ⟨[u], []⟩ [(x, u)])
    (hsp : sp [.ref a] H (fun v _ => v = .bl true) fun _ _ _ => False)
    (hP : H Pt = some (.tbl #[])) (hO : ∀ b, H b ≠ none → b = Pt ∨ (b = a ∧ K.lookup a = none ∧ ∃ o xs, H b = some (.frz o (.lst xs)))) (hok : HOk P w H s₁.heap) :
    codeAny (model P w) callerA (.call (.ref fa) ⟨[.ref a], []⟩) (fun r s' => r = .ok (.ret (.bool true)) ∧ OldK s₁.heap s'.heap ∧ s'.os = s₁.os ∧ AllBare s'.gens) s₁ := by
  -- what H does not track stands in the hidden heap too
  have hid : ∀ {b : Addr} {o : Obj}, s₁.heap.get? b = some o → H b = none → (hidT s₁.heap H).get? b = some o := fun e n => hidT_get e n
  have free : ∀ {b : Addr} {o : Obj}, s₁.heap.get? b = some o → (∀ us n, o.data ≠ .seq us n) → o.data ≠ .fields #[] → H b = none := fun {b o} e h1 h2 => by
    refine Classical.byContradiction fun z => ?_
    rcases hO b z with rfl | ⟨rfl, _, _⟩
    · rw [hT] at e
      cases e
      exact h2 rfl
    · rw [ha] at e
      cases e
      exact h1 _ _ rfl
  have dict : ∀ {b : Addr} {o : Obj} {es : Array DictEntry} {ep : Nat}, s₁.heap.get? b = some o → o.data = .dict es ep → H b = none := fun e d =>
    free e (fun _ _ z => by rw [d] at z; cases z) fun z => by rw [d] at z; cases z
  have ns' : ∀ {b : Addr} {m : Str → Option Value}, s₁.heap.Ns b m → (hidT s₁.heap H).Ns b m := fun ⟨o, es, ep, e, d, r⟩ => ⟨o, es, ep, hid e (dict e d), d, r⟩
  have inK : K.In (hidT s₁.heap H) := fun b o e => hid (KX b o e) (Classical.byContradiction fun z => by
    rcases hO b z with rfl | ⟨rfl, n, _⟩
    · rw [nT] at e
      cases e
    · rw [n] at e
      cases e)
  have modul : L2.Mod K mg (hidT s₁.heap H) := ⟨inK, ns' hns, ⟨mb, ns' hb, hbb⟩, let ⟨mc, h1, h2⟩ := hlim; ⟨mc, ns' h1, h2⟩⟩
  have TB : LamX.TabB (hidT s₁.heap H) mg c Pt := by
    obtain ⟨go, ges, gep, ge, gd, _⟩ := hns
    refine ⟨?_, ?_, fun z => ?_⟩
    · obtain ⟨o, us, file, tf, flags, tg, inF, text, tt, e1, r1, r2, r3, r⟩ := C
      exact ⟨o, us, file, tf, flags, tg, inF, text, tt, hid e1 (free e1 (fun _ _ z => by rw [r2] at z; cases z) fun z => by rw [r2] at z; cases z; simp at r3), r1, r2, r3, r⟩
    · obtain ⟨bm, ob, b1, b2, b3, b4, b5, b6⟩ := hbm
      refine ⟨bm, ob, b1, b2, fun q => ?_, fun q => ?_, hid b3 (free b3 (fun _ _ z => by rw [b6] at z; cases z) fun z => by rw [b6] at z; cases z), b4, b5, b6⟩
      · rw [q, ge] at b3
        cases b3
        rw [gd] at b6
        cases b6
      · rw [q, hT] at b3
        cases b3
        cases b6
    · rw [z, hT] at ge
      cases ge
      cases gd
  have e0 : Env0 P w K mg (hidT s₁.heap H) callerA [] s₁ H := ⟨rfl, modul, fun b o e => of_hidT e, Nat.le_of_eq (hidT_size _ _), trivial, fun b hb => absurd (show b ∈ ([] : List Addr) from hb) (by simp), hok, .of_eq hg⟩
  refine codeAny_mono ((F _ inK (ns' hns) TB).run callerA [] s₁ H ⟨[.ref a], []⟩ [.ref a] [.ref a] _ _ rfl hr e0 (hbind s₁ (.ref a)) (.cons rfl .nil) hsp) fun r s' h => ?_
  cases r with
  | error e => exact (show False from h).elim
  | ok fl =>
    cases fl with
    | next => exact False.elim h
    | brk => exact False.elim h
    | cont => exact False.elim h
    | ret u =>
      obtain ⟨v, H', os, bare, un, hok', r', q⟩ := h
      obtain rfl : v = .bl true := q
      obtain rfl : u = Value.bool true := r'
      obtain ⟨more, z⟩ := un.tbls Pt #[] hP
      have grown := hok' Pt _ z
      have key : ∀ b o, b ≠ Pt → s₁.heap.get? b = some o → s'.heap.get? b = some o := fun b o nb e => by
        by_cases q : H b = none
        · exact un.keep b o e q (by intro z; exact absurd (show b ∈ ([] : List Addr) from z) (by simp)) (by simp)
        · rcases hO b q with z | ⟨_, _, ob, xs, z⟩
          · exact absurd z nb
          · obtain ⟨e1, _⟩ := hok b _ z
            obtain ⟨e2, _⟩ := hok' b _ (un.frzs b ob _ z)
            rw [e] at e1
            cases e1
            exact e2
      refine ⟨rfl, ⟨fun b o e => ?_, fun b o e => ?_⟩, os, bare⟩
      · by_cases hb : b = Pt
        · subst hb
          rw [hT] at e
          cases e
          exact .inr (.inl ⟨(C.tab hT).isCodeTable, rfl, #[], _, rfl, grown⟩)
        · exact .inl (key b o hb e)
      · by_cases hb : b = Pt
        · subst hb
          exact ⟨_, grown⟩
        · exact ⟨o, key b o hb e⟩
end
end K37
/-! ## E2 -/
namespace K37
open PySem PySem.Spec PyProof.Rows L2
section
variable {P : Program} {w : World} {K : PySem.W.Frag} {mg mb : Str → Option Value} {k : Nat} {fa a c Pt : Addr} {fd : FuncData} {x : Str} {sp : Sp} {s₁ : Shared} {vs : List Value} {ns : List Int}
theorem call_out (KX : K.In s₁.heap) (hns : s₁.heap.Ns mainGlobals mg) (hb : s₁.heap.Ns builtinsNs mb) (hbb : ∀ x : Str, x ≠ "__name__" → mb x = bootBuiltins x) (hlim : s₁.heap.NoLimit) (hg : s₁.gens = #[])
    (hT : s₁.heap.get? Pt = some { cls := .none, data := .fields #[] }) (nT : K.lookup Pt = none) (C : PySem.W.CodeHd s₁.heap c Pt)
    (hbm : ∃ (bm : Addr) (ob : Obj), mg "__builtins__" = some (.ref bm) ∧ bm ≠ builtinsNs ∧ s₁.heap.get? bm = some ob ∧ ob.cls = .type "module" ∧ ob.dict = some builtinsNs ∧ ob.data = .plain)
    (ha : s₁.heap.get? a = some { cls := .type "list", data := .seq vs.toArray }) (hi : IntsAre vs ns) (hl : ns.length ≤ sizeLine) (hr : Room k callerA)
    (F : ∀ base : Heap, K.In base → base.Ns mainGlobals mg → LamX.TabB base mg c Pt → FnG P w K mg base CX0 k fa fd [x] sp) (hbind : ∀ (s : Shared) (u : Value), BindsTo s fd ⟨[u], []⟩ [(x, u)])
    (hsp : ∀ H : Hp, H Pt = some (.tbl #[]) → SqL K H a (ns.map V.int) → sp [.ref a] H (fun v _ => v = .bl true) fun _ _ _ => False) :
    codeAny (model P w) callerA (.call (.ref fa) ⟨[.ref a], []⟩) (fun r s' => r = .ok (.ret (.bool true)) ∧ OldK s₁.heap s'.heap ∧ s'.os = s₁.os ∧ AllBare s'.gens) s₁ := by
  have rv := vals_ints hi
  have lenV := hi.length
  have ne : a ≠ Pt := fun z => by
    rw [z, hT] at ha
    cases ha
  cases hk : K.lookup a with
  | some o =>
    have e := KX a o hk
    rw [ha] at e
    cases e
    have hH : (fun b => if b = Pt then some (HO.tbl #[]) else none : Hp) Pt = some (.tbl #[]) := if_pos rfl
    refine call_from (fun b => if b = Pt then some (HO.tbl #[]) else none) KX hns hb hbb hlim hg hT nT C hbm ha hr F hbind
      (hsp _ hH (.inr ⟨_, vs.toArray, _, hk, rfl, rfl, rfl, by rw [List.size_toArray, lenV]; exact hl, by simpa using rv⟩)) hH (fun b z => .inl ?_) (fun b u z => ?_)
    · exact Classical.byContradiction fun q => z (if_neg q)
    · by_cases q : b = Pt
      · have z' := (if_pos q).symm.trans z
        cases z'
        rw [q]
        exact hT
      · have z' := (if_neg q).symm.trans z
        cases z'
  | none =>
    have hH : (fun b => if b = Pt then some (HO.tbl #[]) else if b = a then some (.frz { cls := .type "list", data := .seq vs.toArray } (.lst (ns.map V.int))) else none : Hp) Pt = some (.tbl #[]) := if_pos rfl
    have hA : (fun b => if b = Pt then some (HO.tbl #[]) else if b = a then some (.frz { cls := .type "list", data := .seq vs.toArray } (.lst (ns.map V.int))) else none : Hp) a = some (.frz { cls := .type "list", data := .seq vs.toArray } (.lst (ns.map V.int))) := (if_neg ne).trans (if_pos rfl)
    refine call_from (fun b => if b = Pt then some (HO.tbl #[]) else if b = a then some (.frz { cls := .type "list", data := .seq vs.toArray } (.lst (ns.map V.int))) else none) KX hns hb hbb hlim hg hT nT C hbm ha hr F hbind
      (hsp _ hH (.inl (.inr ⟨_, hA⟩))) hH (fun b z => ?_) (fun b u z => ?_)
    · by_cases q : b = Pt
      · exact .inl q
      · by_cases q2 : b = a
        · exact .inr ⟨q2, hk, _, _, (if_neg q).trans (if_pos q2)⟩
        · exact absurd ((if_neg q).trans (if_neg q2)) z
    · by_cases q : b = Pt
      · have z' := (if_pos q).symm.trans z
        cases z'
        rw [q]
        exact hT
      · by_cases q2 : b = a
        · have z' := (if_pos q2).symm.trans ((if_neg q).symm.trans z)
          cases z'
          rw [q2]
          exact ⟨ha, by rw [List.length_map]; exact hl, vs, _, rv, ha⟩
        · have z' := (if_neg q2).symm.trans ((if_neg q).symm.trans z)
          cases z'
end
/-- what is known of the law at the head's heap h -/
def LawHere (P : Program) (w : World) (K : PySem.W.Frag) (k n : Nat) (x : Str) (mg : Str → Option Value) (fa : Addr) (h : Heap) : Prop :=
  ∃ (fd : FuncData) (c Pt : Addr) (sp : Sp), h.get? Pt = some { cls := .none, data := .fields #[] } ∧ K.lookup Pt = none ∧ PySem.W.CodeHd h c Pt ∧ (∀ (s : Shared) (u : Value), BindsTo s fd ⟨[u], []⟩ [(x, u)]) ∧
    (∀ (H : Hp) (a : Addr) (ns : List Int), ns.length ≤ n → H Pt = some (.tbl #[]) → SqL K H a (ns.map V.int) → sp [.ref a] H (fun v _ => v = .bl true) fun _ _ _ => False) ∧
    ∀ base : Heap, K.In base → base.Ns mainGlobals mg → LamX.TabB base mg c Pt → FnG P w K mg base CX0 k fa fd [x] sp
theorem walk_end {l : PySem.W.OpenLaw} {n k : Nat} {q : Program} {loose : List Str} {XP : (Str → Option Value) → Heap → Prop} {YP : World → Heap → Prop} {d : DefRec} {x : Str}
    (hn : l.most = some n) (hn2 : n ≤ sizeLine) (hdf : d.params.defaults = []) (hr : Room k callerA)
    (F : ∀ (w : World) (mg : Str → Option Value) (fa : Addr) (h : Heap), YP w h → h.Ns mainGlobals mg → mg d.name = some (.ref fa) → ∃ K : PySem.W.Frag, K.In h ∧ LawHere l.prog w K k n x mg fa h) :
    PySem.W.WalkO q loose XP YP l.row.toRowW d [] (fun f vs => PySem.call f vs) := by
  refine Att.attach_callB hn hdf fun w s₀ s₁ mg mb fa o pm cd doc a vs ns G Y ho hd hcd hmg hobj hints hlen hbits hg => ?_
  obtain ⟨K, KX, fd, c, Pt, sp, hT, nT, C, hb, hsp, hF⟩ := F w mg fa _ Y G.T.g hmg
  exact call_out KX G.T.g G.T.b G.T.builtins G.T.nolimit hg hT nT C G.T.bmain hobj hints (Nat.le_trans hlen hn2) hr hF hb fun H hH hS => hsp H a ns hlen hH hS
end K37
/-! ## HeadB -/
namespace K37
open PySem PySem.Spec PyProof.Rows L2
def dD (x : Str) (i : Nat) : He.DefD := ⟨(x, none), x, x, defArgs (top i), defBody (top i), defScope (top i), [], []⟩
def fn : List He.DefD :=
  [⟨("BadOrder", some "__init__"), "__init__", "BadOrder.__init__", defArgs (inClass (top 2) 0), defBody (inClass (top 2) 0), defScope (inClass (top 2) 0), [], []⟩,
   ⟨("BadLower", some "__init__"), "__init__", "BadLower.__init__", defArgs (inClass (top 3) 0), defBody (inClass (top 3) 0), defScope (inClass (top 3) 0), [], []⟩,
   dD "is_integer" 6,
   dD "is_within" 7,
   dD "is_item_pair" 8,
   dD "do_ascend" 9,
   dD "order_fault" 10,
   dD "need_order" 11,
   dD "is_lot_of" 12,
   dD "ahead_in" 13,
   dD "behind_in" 14,
   dD "is_lower_in" 15,
   dD "need_lower" 16,
   dD "puttable" 18,
   dD "takable" 19,
   dD "need_two" 21,
   dD "alone_in" 22,
   dD "is_loose_in" 24,
   dD "is_round_in" 25,
   dD "is_round" 26,
   dD "steps_by" 27,
   dD "longest_chain" 28,
   dD "longer_chain" 29,
   dD "fewest_rounds" 30,
   dD "_law_mixed" 32,
   dD "_law_begin" 33,
   dD "_law_draw" 34,
   dD "_law_of" 35,
   dD "_law_order" 36,
   dD "_law_aheads" 37,
   dD "_law_lowers" 38,
   dD "_law_lots" 39,
   dD "_law_free" 40,
   dD "_law_is_loose" 41,
   dD "_law_changed" 42,
   dD "_law_layers" 43,
   dD "_law_longest" 44,
   dD "_law_heard" 45,
   dD "_law_few_right" 46,
   dD "_law_rounds_right" 47,
   dD "law" 48]
def fa : List He.Fa :=
  [.glo "is_integer", .glo "is_within", .glo "is_item_pair", .glo "do_ascend", .glo "order_fault", .glo "need_order",
   .glo "is_lot_of", .glo "ahead_in", .glo "behind_in", .glo "is_lower_in", .glo "need_lower", .glo "puttable",
   .glo "takable", .glo "need_two", .glo "alone_in", .glo "is_loose_in", .glo "is_round_in", .glo "is_round",
   .glo "steps_by", .glo "longest_chain", .glo "longer_chain", .glo "fewest_rounds", .glo "_law_mixed", .glo "_law_begin",
   .glo "_law_draw", .glo "_law_of", .glo "_law_order", .glo "_law_aheads", .glo "_law_lowers", .glo "_law_lots",
   .glo "_law_free", .glo "_law_is_loose", .glo "_law_changed", .glo "_law_layers", .glo "_law_longest", .glo "_law_heard",
   .glo "_law_few_right", .glo "_law_rounds_right", .glo "law", .glo "TurnError", .glo "BadOrder", .glo "BadLower",
   .free "isinstance", .free "int", .free "bool", .free "tuple", .free "len", .free "all",
   .free "zip", .free "range", .free "any", .free "max", .free "list", .free "min",
   .free "sorted", .free "enumerate", .free "repr", .free "ValueError", .int "MOST_ITEMS" 20, .exm "BadOrder" "BadOrder" true,
   .exm "BadOrder" "BadLower" false, .exm "BadLower" "BadOrder" false, .exm "BadLower" "BadLower" true, .noat "BadOrder" "part", .noat "BadLower" "given"]
def namesA : List PySem.Str := ["__name__", "TurnError", "BadOrder", "BadLower", "MOST_ITEMS", "is_integer", "is_within", "is_item_pair", "do_ascend", "order_fault", "need_order", "is_lot_of", "ahead_in", "behind_in", "is_lower_in", "need_lower", "puttable", "takable", "need_two", "alone_in", "is_loose_in", "is_round_in", "is_round", "steps_by", "longest_chain", "longer_chain", "fewest_rounds", "_law_mixed", "_law_begin", "_law_draw"]
def namesB : List PySem.Str := ["_law_of", "_law_order", "_law_aheads", "_law_lowers", "_law_lots", "_law_free", "_law_is_loose", "_law_changed", "_law_layers", "_law_longest", "_law_heard", "_law_few_right", "_law_rounds_right"]
def names : List PySem.Str := namesA ++ namesB
/-- an own error over ValueError, by way of another own one -/
def errB (K : PySem.W.Frag) (C : Addr) : Bool :=
  (match K.lookup C with
  | some ⟨.type t, _, .cls cd, sl⟩ => decide (t = "type") && (match cd.mro, sl with
    | .ref C' :: bm, ⟨[_, _, _, _, some (.builtin n), _]⟩ => decide (C' = C) && (decide (n = "ValueError.__new__") && (cd.hasDict && (!cd.hasDel && PySem.HandSPX.refsVE bm)))
    | _, _ => false)
  | _ => false) &&
  (decide (PySem.W.findIn K (.ref C) "__setattr__" = some (some (.builtin "object.__setattr__"))) &&
  (decide (PySem.W.subIn K (.ref C) (.type "BaseException") = some true) &&
  (decide (PySem.W.typeIn K (.ref C) = some (.type "type")) &&
  (PySem.W.keepIn K (.ref C) && (xfB K C &&
  (decide (PySem.W.findIn K (.ref C) "__init__" = some (some (.ref (He.ma K C "__init__")))) &&
  decide (PySem.W.typeIn K (.ref (He.ma K C "__init__")) = some (.type "function"))))))))
def ex (K : PySem.W.Frag) : Bool := errB K (He.ga K "BadOrder") && errB K (He.ga K "BadLower")
abbrev R : PySem.W.OpenRow := PySem.W.OpenLaw.row PySem.Challenge.rw_turnsall_k37_whole_rounds
abbrev hk : PySem.W.Hook := He.hookX 6 fa fn [] [("law", none)] ex
def ob (s : PySem.W.SharedT) : He.AlX := He.obsX 6 fa fn [] [("law", none)] ex (HandSHeadRun.getT s)
theorem ob_eq (s : PySem.W.SharedT) : ob s = hk.obs s.abs := He.obsX_eq (HandSHeadRun.getT_eq s)
theorem run (w : World) : HandSHeadRun.RunEq R (PySem.W.view R.prog [48]) hk ob 2000 names w := by
  intro os
  kernel_rfl
end K37
/-! ## Facts -/
namespace K37
open PySem PySem.Spec PyProof.Rows L2
section
variable {P : Program} {w : World} {h base : Heap} {K : PySem.W.Frag} {mg : Str → Option Value}
theorem band {a b : Bool} (h : (a && b) = true) : a = true ∧ b = true := Bool.and_eq_true_iff.mp h
theorem er_of {C : Addr} {x g : Str} {i : Nat} {fd : FuncData} (hb : errB K C = true) (gl : mg x = some (.ref C)) (no : PySem.W.findIn K (.ref C) g = some none) : Er K mg x g i C (He.ma K C "__init__") fd := by
  obtain ⟨h1, hb⟩ := band hb
  obtain ⟨h2, hb⟩ := band hb
  obtain ⟨h3, hb⟩ := band hb
  obtain ⟨h4, hb⟩ := band hb
  obtain ⟨h5, hb⟩ := band hb
  obtain ⟨h6, hb⟩ := band hb
  obtain ⟨h7, h8⟩ := band hb
  refine ⟨⟨?_, of_decide_eq_true h2, of_decide_eq_true h3, of_decide_eq_true h4, h5⟩, gl, of_decide_eq_true h7, of_decide_eq_true h8, no, xfB_ok h6⟩
  split at h1
  · rename_i t od cd sl hk
    obtain ⟨e1, h9⟩ := band h1
    clear h1
    split at h9
    · rename_i C' bm k0 k1 k2 k3 n k5 hmro
      obtain ⟨e2, h9⟩ := band h9
      obtain ⟨e3, h9⟩ := band h9
      obtain ⟨e4, h9⟩ := band h9
      obtain ⟨e5, e6⟩ := band h9
      obtain ⟨nm, bs, mro, N, qn, hd, sn, sb, ab, col, del⟩ := cd
      have e1 := of_decide_eq_true e1
      have e2 := of_decide_eq_true e2
      have e3 := of_decide_eq_true e3
      dsimp only at hmro e4 e5
      subst e1 e2 e3 hmro e4
      have e5 : del = false := by simpa using e5
      subst e5
      exact ⟨_, _, _, _, _, _, _, _, _, _, _, _, _, _, _, hk, e6⟩
    · cases h9
  · cases h1
theorem cl_of {CX : CXT} {k i : Nat} {x : Str} {sp : Sp} {f : Addr} {fd : FuncData} {ps : List Str} (F : FnP K x i f fd) (gl : mg x = some (.ref f)) (b : Binds K fd ps []) (o : FnOk P w K mg base CX k f fd ps sp) : Cl P w K mg base CX k x sp := ⟨f, fd, ps, o, gl, F.kp, b⟩
theorem clg_of {CX : CXT} {k i : Nat} {x : Str} {sp : Sp} {f : Addr} {fd : FuncData} {ps : List Str} (F : FnP K x i f fd) (gl : mg x = some (.ref f)) (b : Binds K fd ps []) (o : FnG P w K mg base CX k f fd ps sp) : ClG P w K mg base CX k x sp := ⟨f, fd, ps, o, gl, F.kp, b⟩
end
theorem law_here {P : Program} {w : World} {h : Heap} {K : PySem.W.Frag} {mg : Str → Option Value} {f : Addr} (KX : K.In h) (G : h.Ns mainGlobals mg) (hf : mg ("law" : Str) = some (.ref f)) (c : He.SaysX fa fn [] [("law", none)] ex w h K) : LawHere P w K 10 63 "_law_script" mg f h := by
  have d := c.t.d
  have T : Tp mg := ⟨He.free_ok KX G (d.fact 42 (f := .free "isinstance") rfl), He.free_ok KX G (d.fact 43 (f := .free "int") rfl), He.free_ok KX G (d.fact 44 (f := .free "bool") rfl), He.free_ok KX G (d.fact 45 (f := .free "tuple") rfl), He.free_ok KX G (d.fact 46 (f := .free "len") rfl), He.free_ok KX G (d.fact 47 (f := .free "all") rfl), He.free_ok KX G (d.fact 48 (f := .free "zip") rfl), He.free_ok KX G (d.fact 49 (f := .free "range") rfl), He.free_ok KX G (d.fact 50 (f := .free "any") rfl), He.free_ok KX G (d.fact 51 (f := .free "max") rfl), He.free_ok KX G (d.fact 52 (f := .free "list") rfl), He.free_ok KX G (d.fact 53 (f := .free "min") rfl), He.free_ok KX G (d.fact 54 (f := .free "sorted") rfl), He.free_ok KX G (d.fact 55 (f := .free "enumerate") rfl), He.free_ok KX G (d.fact 56 (f := .free "repr") rfl), He.int_ok KX G (d.fact 58 (f := .int "MOST_ITEMS" 20) rfl)⟩
  obtain ⟨eO, eL⟩ := band c.more
  obtain ⟨fdIO, FIO⟩ := d.def_ 0 rfl
  obtain ⟨fdIL, FIL⟩ := d.def_ 1 rfl
  have TO : Er K mg "BadOrder" "part" 2 (He.ga K "BadOrder") (He.ma K (He.ga K "BadOrder") "__init__") fdIO := er_of eO (He.glo_ok KX G (d.fact 40 (f := .glo "BadOrder") rfl)) (He.noat_ok (d.fact 63 (f := .noat "BadOrder" "part") rfl))
  have TL : Er K mg "BadLower" "given" 3 (He.ga K "BadLower") (He.ma K (He.ga K "BadLower") "__init__") fdIL := er_of eL (He.glo_ok KX G (d.fact 41 (f := .glo "BadLower") rfl)) (He.noat_ok (d.fact 64 (f := .noat "BadLower" "given") rfl))
  have exm : Exm K (He.ga K "BadOrder") (He.ga K "BadLower") := ⟨He.exm_ok (d.fact 59 (f := .exm "BadOrder" "BadOrder" true) rfl), He.exm_ok (d.fact 61 (f := .exm "BadLower" "BadOrder" false) rfl), He.exm_ok (d.fact 62 (f := .exm "BadLower" "BadLower" true) rfl)⟩
  have bIO : Binds K fdIO ["self", "part"] [] := FunD.bindsN FIO fun _ _ _ _ _ _ us hl => match us, hl with | [_, _], _ => rfl
  have bIL : Binds K fdIL ["self", "given"] [] := FunD.bindsN FIL fun _ _ _ _ _ _ us hl => match us, hl with | [_, _], _ => rfl
  obtain ⟨fd_6, F_6⟩ := d.def_ 2 rfl
  have F_6 : FnP K "is_integer" 6 (He.ga K "is_integer") fd_6 := F_6
  have b_6 : Binds K fd_6 ["thing"] [] := FunD.bindsN F_6 fun _ _ _ _ _ _ us hl => match us, hl with | [_], _ => rfl
  obtain ⟨fd_7, F_7⟩ := d.def_ 3 rfl
  have F_7 : FnP K "is_within" 7 (He.ga K "is_within") fd_7 := F_7
  have b_7 : Binds K fd_7 ["thing", "least", "most"] [] := FunD.bindsN F_7 fun _ _ _ _ _ _ us hl => match us, hl with | [_, _, _], _ => rfl
  obtain ⟨fd_8, F_8⟩ := d.def_ 4 rfl
  have F_8 : FnP K "is_item_pair" 8 (He.ga K "is_item_pair") fd_8 := F_8
  have b_8 : Binds K fd_8 ["thing", "many"] [] := FunD.bindsN F_8 fun _ _ _ _ _ _ us hl => match us, hl with | [_, _], _ => rfl
  obtain ⟨fd_9, F_9⟩ := d.def_ 5 rfl
  have F_9 : FnP K "do_ascend" 9 (He.ga K "do_ascend") fd_9 := F_9
  have b_9 : Binds K fd_9 ["some"] [] := FunD.bindsN F_9 fun _ _ _ _ _ _ us hl => match us, hl with | [_], _ => rfl
  obtain ⟨fd_10, F_10⟩ := d.def_ 6 rfl
  have F_10 : FnP K "order_fault" 10 (He.ga K "order_fault") fd_10 := F_10
  have b_10 : Binds K fd_10 ["thing"] [] := FunD.bindsN F_10 fun _ _ _ _ _ _ us hl => match us, hl with | [_], _ => rfl
  obtain ⟨fd_11, F_11⟩ := d.def_ 7 rfl
  have F_11 : FnP K "need_order" 11 (He.ga K "need_order") fd_11 := F_11
  have b_11 : Binds K fd_11 ["thing"] [] := FunD.bindsN F_11 fun _ _ _ _ _ _ us hl => match us, hl with | [_], _ => rfl
  obtain ⟨fd_12, F_12⟩ := d.def_ 8 rfl
  have F_12 : FnP K "is_lot_of" 12 (He.ga K "is_lot_of") fd_12 := F_12
  have b_12 : Binds K fd_12 ["order", "thing"] [] := FunD.bindsN F_12 fun _ _ _ _ _ _ us hl => match us, hl with | [_, _], _ => rfl
  obtain ⟨fd_13, F_13⟩ := d.def_ 9 rfl
  have F_13 : FnP K "ahead_in" 13 (He.ga K "ahead_in") fd_13 := F_13
  have b_13 : Binds K fd_13 ["order"] [] := FunD.bindsN F_13 fun _ _ _ _ _ _ us hl => match us, hl with | [_], _ => rfl
  obtain ⟨fd_14, F_14⟩ := d.def_ 10 rfl
  have F_14 : FnP K "behind_in" 14 (He.ga K "behind_in") fd_14 := F_14
  have b_14 : Binds K fd_14 ["order"] [] := FunD.bindsN F_14 fun _ _ _ _ _ _ us hl => match us, hl with | [_], _ => rfl
  obtain ⟨fd_15, F_15⟩ := d.def_ 11 rfl
  have F_15 : FnP K "is_lower_in" 15 (He.ga K "is_lower_in") fd_15 := F_15
  have b_15 : Binds K fd_15 ["order", "thing"] [] := FunD.bindsN F_15 fun _ _ _ _ _ _ us hl => match us, hl with | [_, _], _ => rfl
  obtain ⟨fd_16, F_16⟩ := d.def_ 12 rfl
  have F_16 : FnP K "need_lower" 16 (He.ga K "need_lower") fd_16 := F_16
  have b_16 : Binds K fd_16 ["order", "lower"] [] := FunD.bindsN F_16 fun _ _ _ _ _ _ us hl => match us, hl with | [_, _], _ => rfl
  obtain ⟨fd_18, F_18⟩ := d.def_ 13 rfl
  have F_18 : FnP K "puttable" 18 (He.ga K "puttable") fd_18 := F_18
  have b_18 : Binds K fd_18 ["order", "lower"] [] := FunD.bindsN F_18 fun _ _ _ _ _ _ us hl => match us, hl with | [_, _], _ => rfl
  obtain ⟨fd_19, F_19⟩ := d.def_ 14 rfl
  have F_19 : FnP K "takable" 19 (He.ga K "takable") fd_19 := F_19
  have b_19 : Binds K fd_19 ["order", "lower"] [] := FunD.bindsN F_19 fun _ _ _ _ _ _ us hl => match us, hl with | [_, _], _ => rfl
  obtain ⟨fd_21, F_21⟩ := d.def_ 15 rfl
  have F_21 : FnP K "need_two" 21 (He.ga K "need_two") fd_21 := F_21
  have b_21 : Binds K fd_21 ["order", "lower", "other_lower"] [] := FunD.bindsN F_21 fun _ _ _ _ _ _ us hl => match us, hl with | [_, _, _], _ => rfl
  obtain ⟨fd_22, F_22⟩ := d.def_ 16 rfl
  have F_22 : FnP K "alone_in" 22 (He.ga K "alone_in") fd_22 := F_22
  have b_22 : Binds K fd_22 ["lower", "other_lower"] [] := FunD.bindsN F_22 fun _ _ _ _ _ _ us hl => match us, hl with | [_, _], _ => rfl
  obtain ⟨fd_24, F_24⟩ := d.def_ 17 rfl
  have F_24 : FnP K "is_loose_in" 24 (He.ga K "is_loose_in") fd_24 := F_24
  have b_24 : Binds K fd_24 ["order", "lot"] [] := FunD.bindsN F_24 fun _ _ _ _ _ _ us hl => match us, hl with | [_, _], _ => rfl
  obtain ⟨fd_25, F_25⟩ := d.def_ 18 rfl
  have F_25 : FnP K "is_round_in" 25 (He.ga K "is_round_in") fd_25 := F_25
  have b_25 : Binds K fd_25 ["order", "lower", "value"] [] := FunD.bindsN F_25 fun _ _ _ _ _ _ us hl => match us, hl with | [_, _, _], _ => rfl
  obtain ⟨fd_26, F_26⟩ := d.def_ 19 rfl
  have F_26 : FnP K "is_round" 26 (He.ga K "is_round") fd_26 := F_26
  have b_26 : Binds K fd_26 ["order", "lower", "value"] [] := FunD.bindsN F_26 fun _ _ _ _ _ _ us hl => match us, hl with | [_, _, _], _ => rfl
  obtain ⟨fd_27, F_27⟩ := d.def_ 20 rfl
  have F_27 : FnP K "steps_by" 27 (He.ga K "steps_by") fd_27 := F_27
  have b_27 : Binds K fd_27 ["ahead", "lot"] [] := FunD.bindsN F_27 fun _ _ _ _ _ _ us hl => match us, hl with | [_, _], _ => rfl
  obtain ⟨fd_28, F_28⟩ := d.def_ 21 rfl
  have F_28 : FnP K "longest_chain" 28 (He.ga K "longest_chain") fd_28 := F_28
  have b_28 : Binds K fd_28 ["ahead", "lot"] [] := FunD.bindsN F_28 fun _ _ _ _ _ _ us hl => match us, hl with | [_, _], _ => rfl
  obtain ⟨fd_29, F_29⟩ := d.def_ 22 rfl
  have F_29 : FnP K "longer_chain" 29 (He.ga K "longer_chain") fd_29 := F_29
  have b_29 : Binds K fd_29 ["order", "lower", "other_lower"] [] := FunD.bindsN F_29 fun _ _ _ _ _ _ us hl => match us, hl with | [_, _, _], _ => rfl
  obtain ⟨fd_30, F_30⟩ := d.def_ 23 rfl
  have F_30 : FnP K "fewest_rounds" 30 (He.ga K "fewest_rounds") fd_30 := F_30
  have b_30 : Binds K fd_30 ["order", "lower", "other_lower"] [] := FunD.bindsN F_30 fun _ _ _ _ _ _ us hl => match us, hl with | [_, _, _], _ => rfl
  obtain ⟨fd_32, F_32⟩ := d.def_ 24 rfl
  have F_32 : FnP K "_law_mixed" 32 (He.ga K "_law_mixed") fd_32 := F_32
  have b_32 : Binds K fd_32 ["_law_cell", "_law_k"] [] := FunD.bindsN F_32 fun _ _ _ _ _ _ us hl => match us, hl with | [_, _], _ => rfl
  obtain ⟨fd_33, F_33⟩ := d.def_ 25 rfl
  have F_33 : FnP K "_law_begin" 33 (He.ga K "_law_begin") fd_33 := F_33
  have b_33 : Binds K fd_33 ["_law_script"] [] := FunD.bindsN F_33 fun _ _ _ _ _ _ us hl => match us, hl with | [_], _ => rfl
  obtain ⟨fd_34, F_34⟩ := d.def_ 26 rfl
  have F_34 : FnP K "_law_draw" 34 (He.ga K "_law_draw") fd_34 := F_34
  have b_34 : Binds K fd_34 ["_law_state", "_law_many"] [] := FunD.bindsN F_34 fun _ _ _ _ _ _ us hl => match us, hl with | [_, _], _ => rfl
  obtain ⟨fd_35, F_35⟩ := d.def_ 27 rfl
  have F_35 : FnP K "_law_of" 35 (He.ga K "_law_of") fd_35 := F_35
  have b_35 : Binds K fd_35 ["_law_state", "_law_some"] [] := FunD.bindsN F_35 fun _ _ _ _ _ _ us hl => match us, hl with | [_, _], _ => rfl
  obtain ⟨fd_36, F_36⟩ := d.def_ 28 rfl
  have F_36 : FnP K "_law_order" 36 (He.ga K "_law_order") fd_36 := F_36
  have b_36 : Binds K fd_36 ["_law_state", "_law_most"] [] := FunD.bindsN F_36 fun _ _ _ _ _ _ us hl => match us, hl with | [_, _], _ => rfl
  obtain ⟨fd_37, F_37⟩ := d.def_ 29 rfl
  have F_37 : FnP K "_law_aheads" 37 (He.ga K "_law_aheads") fd_37 := F_37
  have b_37 : Binds K fd_37 ["_law_order_so"] [] := FunD.bindsN F_37 fun _ _ _ _ _ _ us hl => match us, hl with | [_], _ => rfl
  obtain ⟨fd_38, F_38⟩ := d.def_ 30 rfl
  have F_38 : FnP K "_law_lowers" 38 (He.ga K "_law_lowers") fd_38 := F_38
  have b_38 : Binds K fd_38 ["_law_order_so"] [] := FunD.bindsN F_38 fun _ _ _ _ _ _ us hl => match us, hl with | [_], _ => rfl
  obtain ⟨fd_39, F_39⟩ := d.def_ 31 rfl
  have F_39 : FnP K "_law_lots" 39 (He.ga K "_law_lots") fd_39 := F_39
  have b_39 : Binds K fd_39 ["_law_items"] [] := FunD.bindsN F_39 fun _ _ _ _ _ _ us hl => match us, hl with | [_], _ => rfl
  obtain ⟨fd_40, F_40⟩ := d.def_ 32 rfl
  have F_40 : FnP K "_law_free" 40 (He.ga K "_law_free") fd_40 := F_40
  have b_40 : Binds K fd_40 ["_law_aheads_here", "_law_some"] [] := FunD.bindsN F_40 fun _ _ _ _ _ _ us hl => match us, hl with | [_, _], _ => rfl
  obtain ⟨fd_41, F_41⟩ := d.def_ 33 rfl
  have F_41 : FnP K "_law_is_loose" 41 (He.ga K "_law_is_loose") fd_41 := F_41
  have b_41 : Binds K fd_41 ["_law_aheads_here", "_law_lot"] [] := FunD.bindsN F_41 fun _ _ _ _ _ _ us hl => match us, hl with | [_, _], _ => rfl
  obtain ⟨fd_42, F_42⟩ := d.def_ 34 rfl
  have F_42 : FnP K "_law_changed" 42 (He.ga K "_law_changed") fd_42 := F_42
  have b_42 : Binds K fd_42 ["_law_some", "_law_lot"] [] := FunD.bindsN F_42 fun _ _ _ _ _ _ us hl => match us, hl with | [_, _], _ => rfl
  obtain ⟨fd_43, F_43⟩ := d.def_ 35 rfl
  have F_43 : FnP K "_law_layers" 43 (He.ga K "_law_layers") fd_43 := F_43
  have b_43 : Binds K fd_43 ["_law_aheads_here", "_law_start"] [] := FunD.bindsN F_43 fun _ _ _ _ _ _ us hl => match us, hl with | [_, _], _ => rfl
  obtain ⟨fd_44, F_44⟩ := d.def_ 36 rfl
  have F_44 : FnP K "_law_longest" 44 (He.ga K "_law_longest") fd_44 := F_44
  have b_44 : Binds K fd_44 ["_law_aheads_here", "_law_lot"] [] := FunD.bindsN F_44 fun _ _ _ _ _ _ us hl => match us, hl with | [_, _], _ => rfl
  obtain ⟨fd_45, F_45⟩ := d.def_ 37 rfl
  have F_45 : FnP K "_law_heard" 45 (He.ga K "_law_heard") fd_45 := F_45
  have b_45 : Binds K fd_45 ["_law_call"] [] := FunD.bindsN F_45 fun _ _ _ _ _ _ us hl => match us, hl with | [_], _ => rfl
  obtain ⟨fd_46, F_46⟩ := d.def_ 38 rfl
  have F_46 : FnP K "_law_few_right" 46 (He.ga K "_law_few_right") fd_46 := F_46
  have b_46 : Binds K fd_46 ["_law_state", "_law_order_so", "_law_aheads_here", "_law_some"] [] := FunD.bindsN F_46 fun _ _ _ _ _ _ us hl => match us, hl with | [_, _, _, _], _ => rfl
  obtain ⟨fd_47, F_47⟩ := d.def_ 39 rfl
  have F_47 : FnP K "_law_rounds_right" 47 (He.ga K "_law_rounds_right") fd_47 := F_47
  have b_47 : Binds K fd_47 ["_law_state", "_law_order_so", "_law_aheads_here", "_law_some"] [] := FunD.bindsN F_47 fun _ _ _ _ _ _ us hl => match us, hl with | [_, _, _, _], _ => rfl
  obtain ⟨fd_48, F_48⟩ := d.def_ 40 rfl
  have F_48 : FnP K "law" 48 (He.ga K "law") fd_48 := F_48
  have e := hf.symm.trans (He.glo_ok KX G (d.fact 38 (f := .glo "law") rfl))
  cases e
  have hb := FunD.bindsA (ps := ["_law_script"]) F_48 fun _ _ _ _ _ _ us hl => match us, hl with | [_], _ => rfl
  have hc : fd_48.code = .ref (He.cT K ("law", none)).1 := by
    obtain ⟨oc, od, dV, kV, doc, pm, an, cdv, ct, osl, rfl, lk, hcd, _, _⟩ := F_48.ex
    obtain ⟨cc, rfl⟩ := He.codeIn_ref hcd
    have lk' : K.lookup (He.fAd K ("law", none)) = _ := lk
    exact congrArg Value.ref (He.codeOf_eq lk' rfl).symm
  refine ⟨fd_48, (He.cT K ("law", none)).1, (He.cT K ("law", none)).2, spLaw K (He.cT K ("law", none)).2, c.empty _ (List.mem_singleton.mpr rfl), c.out _ (List.mem_singleton.mpr rfl), PySem.W.codeHd_of_K KX (c.hd _ (List.mem_singleton.mpr rfl)), fun s u => hb s [u] rfl, fun H a ns hl hP hS => ⟨a, ns, rfl, hS, hl, hP, fun _ => rfl⟩, fun base KB GB TB => ?_⟩
  have c_6 : Cl P w K mg base CX0 1 "is_integer" (spIsInt K) := cl_of F_6 (He.glo_ok KX G (d.fact 0 (f := .glo "is_integer") rfl)) b_6 (ok_is_integer F_6 T)
  have c_7 : Cl P w K mg base CX0 2 "is_within" (spWithin K) := cl_of F_7 (He.glo_ok KX G (d.fact 1 (f := .glo "is_within") rfl)) b_7 (ok_is_within F_7 c_6)
  have c_8 : Cl P w K mg base CX0 3 "is_item_pair" (spPair K) := cl_of F_8 (He.glo_ok KX G (d.fact 2 (f := .glo "is_item_pair") rfl)) b_8 (ok_is_item_pair F_8 T c_7)
  have c_9 : Cl P w K mg base CX0 1 "do_ascend" (spAsc K) := cl_of F_9 (He.glo_ok KX G (d.fact 3 (f := .glo "do_ascend") rfl)) b_9 (ok_do_ascend F_9 T)
  have c_10 : Cl P w K mg base CX0 4 "order_fault" (spFault K) := cl_of F_10 (He.glo_ok KX G (d.fact 4 (f := .glo "order_fault") rfl)) b_10 (ok_order_fault F_10 T c_7 c_8 c_9)
  have c_11 : Cl P w K mg base (L2.CX P w) 5 "need_order" (spNeedO K (He.ga K "BadOrder")) := cl_of F_11 (He.glo_ok KX G (d.fact 5 (f := .glo "need_order") rfl)) b_11 (ok_need_order F_11 c_10 TO (ok_init2 FIO TO) bIO)
  have c_12 : Cl P w K mg base CX0 3 "is_lot_of" (spLotOf K) := cl_of F_12 (He.glo_ok KX G (d.fact 6 (f := .glo "is_lot_of") rfl)) b_12 (ok_is_lot_of F_12 T c_7 c_9)
  have c_13 : Cl P w K mg base CX0 1 "ahead_in" (spAhead K) := cl_of F_13 (He.glo_ok KX G (d.fact 7 (f := .glo "ahead_in") rfl)) b_13 (ok_ahead_in F_13 T)
  have c_14 : Cl P w K mg base CX0 2 "behind_in" (spBehind K) := cl_of F_14 (He.glo_ok KX G (d.fact 8 (f := .glo "behind_in") rfl)) b_14 (ok_behind_in F_14 T c_13)
  have c_15 : Cl P w K mg base CX0 4 "is_lower_in" (spLowerIn K) := cl_of F_15 (He.glo_ok KX G (d.fact 9 (f := .glo "is_lower_in") rfl)) b_15 (ok_is_lower_in F_15 T c_12 c_13)
  have c_16 : Cl P w K mg base (L2.CX P w) 5 "need_lower" (spNeedL K (He.ga K "BadLower")) := cl_of F_16 (He.glo_ok KX G (d.fact 10 (f := .glo "need_lower") rfl)) b_16 (ok_need_lower F_16 c_15 TL (ok_init3 FIL TL) bIL)
  have c_18 : Cl P w K mg base CX0 2 "puttable" (spPut K) := cl_of F_18 (He.glo_ok KX G (d.fact 11 (f := .glo "puttable") rfl)) b_18 (ok_puttable F_18 T c_13)
  have c_19 : Cl P w K mg base CX0 3 "takable" (spTak K) := cl_of F_19 (He.glo_ok KX G (d.fact 12 (f := .glo "takable") rfl)) b_19 (ok_takable F_19 T c_14)
  have c_21 : Cl P w K mg base (L2.CX P w) 6 "need_two" (spNeedT K (He.ga K "BadOrder") (He.ga K "BadLower")) := cl_of F_21 (He.glo_ok KX G (d.fact 13 (f := .glo "need_two") rfl)) b_21 (ok_need_two F_21 c_11 c_16)
  have c_22 : Cl P w K mg base CX0 1 "alone_in" (spAlone K) := cl_of F_22 (He.glo_ok KX G (d.fact 14 (f := .glo "alone_in") rfl)) b_22 (ok_alone_in F_22 T)
  have c_24 : Cl P w K mg base CX0 2 "is_loose_in" (spLoose K) := cl_of F_24 (He.glo_ok KX G (d.fact 15 (f := .glo "is_loose_in") rfl)) b_24 (ok_is_loose_in F_24 T c_13)
  have c_25 : Cl P w K mg base CX0 4 "is_round_in" (spRoundIn K) := cl_of F_25 (He.glo_ok KX G (d.fact 16 (f := .glo "is_round_in") rfl)) b_25 (ok_is_round_in F_25 T c_12 c_18 c_19 c_24)
  have c_26 : Cl P w K mg base (L2.CX P w) 6 "is_round" (spRound K (He.ga K "BadOrder") (He.ga K "BadLower")) := cl_of F_26 (He.glo_ok KX G (d.fact 17 (f := .glo "is_round") rfl)) b_26 (ok_is_round F_26 c_11 c_16 c_25)
  have c_27 : Cl P w K mg base CX0 1 "steps_by" (spSteps K) := cl_of F_27 (He.glo_ok KX G (d.fact 18 (f := .glo "steps_by") rfl)) b_27 (ok_steps_by F_27 T)
  have c_28 : Cl P w K mg base CX0 2 "longest_chain" (spChain K) := cl_of F_28 (He.glo_ok KX G (d.fact 19 (f := .glo "longest_chain") rfl)) b_28 (ok_longest_chain F_28 T c_27)
  have c_29 : Cl P w K mg base CX0 3 "longer_chain" (spLonger K) := cl_of F_29 (He.glo_ok KX G (d.fact 20 (f := .glo "longer_chain") rfl)) b_29 (ok_longer_chain F_29 T c_13 c_22 c_28)
  have c_30 : Cl P w K mg base (L2.CX P w) 7 "fewest_rounds" (spFewest K (He.ga K "BadOrder") (He.ga K "BadLower")) := cl_of F_30 (He.glo_ok KX G (d.fact 21 (f := .glo "fewest_rounds") rfl)) b_30 (ok_fewest_rounds F_30 T c_21 c_29)
  have c_32 : Cl P w K mg base CX0 1 "_law_mixed" spMixed := cl_of F_32 (He.glo_ok KX G (d.fact 22 (f := .glo "_law_mixed") rfl)) b_32 (ok_mixed F_32 T)
  have c_33 : Cl P w K mg base CX0 1 "_law_begin" (spBegin K) := cl_of F_33 (He.glo_ok KX G (d.fact 23 (f := .glo "_law_begin") rfl)) b_33 (ok_begin F_33 T)
  have c_34 : Cl P w K mg base CX0 2 "_law_draw" spDraw := cl_of F_34 (He.glo_ok KX G (d.fact 24 (f := .glo "_law_draw") rfl)) b_34 (ok_draw F_34 T c_32)
  have c_35 : Cl P w K mg base CX0 3 "_law_of" (spOf K) := cl_of F_35 (He.glo_ok KX G (d.fact 25 (f := .glo "_law_of") rfl)) b_35 (ok_of F_35 T c_34)
  have c_36 : Cl P w K mg base CX0 3 "_law_order" (spOrder K) := cl_of F_36 (He.glo_ok KX G (d.fact 26 (f := .glo "_law_order") rfl)) b_36 (ok_order F_36 T c_34)
  have c_37 : Cl P w K mg base CX0 1 "_law_aheads" (spAheads K) := cl_of F_37 (He.glo_ok KX G (d.fact 27 (f := .glo "_law_aheads") rfl)) b_37 (ok_aheads F_37 T)
  have c_38 : Cl P w K mg base CX0 2 "_law_lowers" (spLowers K) := cl_of F_38 (He.glo_ok KX G (d.fact 28 (f := .glo "_law_lowers") rfl)) b_38 (ok_lowers F_38 T c_37)
  have c_39 : Cl P w K mg base CX0 1 "_law_lots" (spLots K) := cl_of F_39 (He.glo_ok KX G (d.fact 29 (f := .glo "_law_lots") rfl)) b_39 (ok_lots F_39 T)
  have c_40 : Cl P w K mg base CX0 1 "_law_free" (spFree K) := cl_of F_40 (He.glo_ok KX G (d.fact 30 (f := .glo "_law_free") rfl)) b_40 (ok_free F_40 T)
  have c_41 : Cl P w K mg base CX0 1 "_law_is_loose" (spLLoose K) := cl_of F_41 (He.glo_ok KX G (d.fact 31 (f := .glo "_law_is_loose") rfl)) b_41 (ok_lloose F_41 )
  have c_42 : Cl P w K mg base CX0 1 "_law_changed" (spChanged K) := cl_of F_42 (He.glo_ok KX G (d.fact 32 (f := .glo "_law_changed") rfl)) b_42 (ok_changed F_42 T)
  have c_43 : Cl P w K mg base CX0 2 "_law_layers" (spLayers K) := cl_of F_43 (He.glo_ok KX G (d.fact 33 (f := .glo "_law_layers") rfl)) b_43 (ok_layers F_43 T c_39 c_40 c_42 c_41)
  have c_44 : Cl P w K mg base CX0 1 "_law_longest" (spLLong K) := cl_of F_44 (He.glo_ok KX G (d.fact 34 (f := .glo "_law_longest") rfl)) b_44 (ok_llong F_44 T)
  have c_46 : Cl P w K mg base CX0 8 "_law_few_right" (spFew K) := cl_of F_46 (He.glo_ok KX G (d.fact 36 (f := .glo "_law_few_right") rfl)) b_46 (ok_few F_46 T c_35 c_43 c_44 c_30)
  have c_47 : ClG P w K mg base CX0 8 "_law_rounds_right" (spRounds K) := clg_of F_47 (He.glo_ok KX G (d.fact 37 (f := .glo "_law_rounds_right") rfl)) b_47 (ok_rounds F_47 T c_35 c_40 c_39 c_41 c_26)
  exact ok_law F_48 hc T TO TL exm F_45 (He.glo_ok KX G (d.fact 35 (f := .glo "_law_heard") rfl)) b_45 TB c_33 c_36 c_37 c_38 c_46 c_47 c_30 c_26
end K37
/-! ## End -/
open PySem PySem.W PySem.Calls PyProof.Rows
theorem PySem.Challenge.cw_turnsall_k37_whole_rounds_holds : PySem.Challenge.rw_turnsall_k37_whole_rounds.Holds := by
  w_on; o_law
  refine HandSHeadRun.head_any (r := OpenLaw.row PySem.Challenge.rw_turnsall_k37_whole_rounds) (q := view (OpenLaw.row PySem.Challenge.rw_turnsall_k37_whole_rounds).prog [48]) (H := K37.hk) (ob := K37.ob) (M := 2000) (loose := K37.names) (d := HandSHeadRun.topDef (OpenLaw.row PySem.Challenge.rw_turnsall_k37_whole_rounds).prog 48) (kwd := []) K37.ob_eq
    (by kernel_rfl) (fun s => by kernel_rfl) K37.run (by kernel_rfl) (by kernel_rfl) (by kernel_rfl) (by rfl) (by first | assumption | decide +kernel) (by decide +kernel) ⟨rfl, rfl, rfl, rfl, rfl, by decide +kernel⟩ ?hw ?hc
  case hw => w_witness2
  case hc =>
    refine K37.walk_end (l := PySem.Challenge.rw_turnsall_k37_whole_rounds) (n := 63) (k := 10) (x := "_law_script") rfl (by decide) (by kernel_rfl) ⟨rfl, by decide, by decide⟩ ?F
    intro w mg fa h Y G hmg0
    obtain ⟨K, KX, c⟩ := Y
    have hmg : mg ("law" : PySem.Str) = some (.ref fa) := by
      have e : (HandSHeadRun.topDef (OpenLaw.row PySem.Challenge.rw_turnsall_k37_whole_rounds).prog 48).name = ("law" : PySem.Str) := by kernel_rfl
      rw [← e]
      exact hmg0
    exact ⟨K, KX, K37.law_here KX G hmg c⟩
