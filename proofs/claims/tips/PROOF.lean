import PyProof.Rows.All
import Wide.All
import OpenK.AllK
import Wide.FinOn
import HandS.ForExc
import HandS.Comp
import HandS.Iter
import HandS.Walk
import HandS.IsInst
import HandS.ExcIs
import PySem.Challenge.RW_glazehall_k63_tips
set_option Elab.async false
set_option linter.all false
set_option maxRecDepth 100000
namespace K63
open PySem PySem.Spec PyProof.Rows L2
/-! ### the text by places -/
def topS (i : Nat) : Stmt := PySem.Challenge.pw_glazehall_k63_tips.main.body.getD i (.Pass ⟨0, 0, 0, 0⟩)
abbrev sSix : Stmt := topS 6
abbrev sWts : Stmt := topS 9
abbrev sIni : Stmt := inClass (topS 10) 0
abbrev sSpr : Stmt := inClass (topS 10) 1
abbrev sCel : Stmt := topS 12
abbrev sRow : Stmt := topS 13
abbrev sSpo : Stmt := topS 14
abbrev sRef : Stmt := topS 15
abbrev sDue : Stmt := topS 16
abbrev sLaw : Stmt := topS 17
/-! ### what the values are -/
/-- a weight that may be handed in: a whole number from 0 to 16 -/
def sixt : V → Bool
  | .int z => decide (0 ≤ z) && decide (z ≤ 16)
  | _ => false
/-- a thing in a row: flat, or a tuple -/
def CV (H : Hp) (x : V) : Prop := flatV x = true ∨ ∃ T ys, x = .ref T ∧ H T = some (.tup ys)
theorem CV.mono {H H' : Hp} {x : V} (s : Same H H') (h : CV H x) : CV H' x := by
  rcases h with h | ⟨T, ys, e, h⟩
  · exact .inl h
  · exact .inr ⟨T, ys, e, s _ _ h⟩
/-- a thing in the rows: a flat thing (none), or a list of things (some) -/
def RowD (K : PySem.W.Frag) (H : Hp) (v : V) : Option (List V) → Prop
  | none => flatV v = true
  | some xs => ∃ a, v = .ref a ∧ SqL K H a xs ∧ ∀ x ∈ xs, CV H x
theorem RowD.mono {K : PySem.W.Frag} {H H' : Hp} {v : V} (s : Same H H') : ∀ {d : Option (List V)}, RowD K H v d → RowD K H' v d
  | none, h => h
  | some _, ⟨a, e, h, c⟩ => ⟨a, e, s.seq h, fun x hx => (c x hx).mono s⟩
def rowOk (n : Nat) : Option (List V) → Bool
  | none => false
  | some xs => decide (xs.length = n) && xs.all sixt
/-- what is handed in as rows -/
def RowsD (K : PySem.W.Frag) (H : Hp) (v : V) : Option (List (Option (List V))) → Prop
  | none => flatV v = true
  | some ds => ∃ a vs, v = .ref a ∧ SqL K H a vs ∧ vs.length = ds.length ∧ ∀ (i : Nat) (u : V) (d : Option (List V)), vs[i]? = some u → ds[i]? = some d → RowD K H u d
def wide3 (n : Nat) : Bool := n == 1 || n == 3 || n == 5
def tipOk : Option (List (Option (List V))) → Bool
  | none => false
  | some ds => wide3 ds.length && ds.all (rowOk ds.length)
def rowItems : Option (List V) → List V
  | none => []
  | some xs => xs
/-- small: fewer than a thousand rows, of fewer than a thousand things -/
def SmallD (od : Option (List (Option (List V)))) : Prop := ∀ ds, od = some ds → ds.length < 1000 ∧ ∀ xs, some xs ∈ ds → xs.length < 1000
/-- what is spoilt -/
def Bad (K : PySem.W.Frag) (H : Hp) (v : V) : Prop := ∃ od, RowsD K H v od ∧ SmallD od ∧ tipOk od = false
/-- lists as stand at addresses -/
structure ListsAt (H : Hp) (bs : List Addr) (vss : List (List V)) : Prop where
  len : bs.length = vss.length
  at_ : ∀ (i : Nat) (b : Addr) (vs : List V), bs[i]? = some b → vss[i]? = some vs → H b = some (.lst vs)
/-- an instance's attributes: weights -/
def tf (l : Addr) : List (Str × V) := putF "weights" (.ref l) []
theorem tf_w (l : Addr) : (tf l).lookup ("weights" : Str) = some (.ref l) := by
  unfold tf
  rw [lookup_putF, if_pos rfl]
theorem tf_no (l : Addr) {m : Str} (h : ¬ m = "weights") : (tf l).lookup m = none := by
  unfold tf
  rw [lookup_putF, if_neg h]
  all_goals rfl
structure TipAt (C : Addr) (H : Hp) (x dx l : Addr) (bs : List Addr) (vss : List (List V)) : Prop where
  ob : H x = some (.ins C dx (tf l))
  lst : H l = some (.lst (bs.map V.ref))
  rows : ListsAt H bs vss
/-! ### types -/
theorem tyx_list {K : PySem.W.Frag} {H : Hp} {a : Addr} {xs : List V} (h : SqL K H a xs) : TyX K H (.ref a) (.type "list") := by
  rcases h with (h | ⟨o, h⟩) | ⟨o, its, n, h, c, _⟩
  · exact .base (.lst h)
  · exact .base (.frz h)
  · exact .kList h c
theorem same_upd {H : Hp} {p : Addr} {o : HO} (h : H p = none) : Same H (upd H p o) := fun b x e => by
  rw [upd_ne (ne_of_none e h)]
  exact e
/-- a new instance and its dict leave what stood -/
theorem same_make {H : Hp} {x dx C : Addr} (nx : H x = none) (nd : H dx = none) : Same H (upd (upd H dx (.own x)) x (.ins C dx [])) := fun b o e => by
  rw [upd_ne (ne_of_none e nx)]
  exact same_upd nd b o e
/-! ### what the top has written -/
structure Txt (mg : Str → Option Value) : Prop where
  isi : mg "isinstance" = none
  int : mg "int" = none
  bool : mg "bool" = none
  list : mg "list" = none
  tuple : mg "tuple" = none
  len : mg "len" = none
  all : mg "all" = none
  enum : mg "enumerate" = none
  range : mg "range" = none
  full : ∃ t, mg "FULL" = some (.int 16 t)
section
variable {P : Program} {w : World} {K : PySem.W.Frag} {mg : Str → Option Value} {base : Heap}
/-! ### is_sixteenth -/
def spSix : Sp := fun vs H Q _ => ∃ x, vs = [x] ∧ CV H x ∧ Q (.bl (sixt x)) H
theorem scSix : FnScope ["number"] ["number"] (defScope sSix) := ⟨rfl, rfl, rfl, by decide +kernel, rfl, by decide +kernel, by decide +kernel⟩
theorem kB1 : kitB "int" "int" = some true := by decide +kernel
theorem kB2 : kitB "int" "bool" = some false := by decide +kernel
theorem kB3 : kitB "bool" "int" = some true := by decide +kernel
theorem kB4 : kitB "bool" "bool" = some true := by decide +kernel
theorem kB5 : kitB "NoneType" "int" = some false := by decide +kernel
theorem kB6 : kitB "str" "int" = some false := by decide +kernel
theorem kB7 : kitB "tuple" "int" = some false := by decide +kernel
/-- no number, as is_sixteenth asks it -/
theorem notInt {H : Hp} {x : V} (hx : CV H x) (h1 : ∀ z, x ≠ .int z) (h2 : ∀ b, x ≠ .bl b) : ∃ ty, TyX K H x (.type ty) ∧ kitB ty "int" = some false ∧ sixt x = false := by
  rcases hx with h | ⟨T, ys, rfl, h⟩
  · cases x with
    | non => exact ⟨_, .base .non, kB5, rfl⟩
    | str y => exact ⟨_, .base (.str y), kB6, rfl⟩
    | int z => exact absurd rfl (h1 z)
    | bl b => exact absurd rfl (h2 b)
    | _ => exact absurd (show false = true from h) Bool.false_ne_true
  · exact ⟨_, .base (.tup h), kB7, rfl⟩
theorem ok_six {f : Addr} {fd : FuncData} (F : Fun K "is_sixteenth" "is_sixteenth" sSix f fd) (T : Txt mg) : FnOk P w K mg base CX0 1 f fd ["number"] spSix := by
  refine F.ok scSix (fun vs H Q E h => ?_) (fun cdv A outer s H vs Q E hr h => ?_)
  · obtain ⟨x, rfl, _⟩ := h
    rfl
  · obtain ⟨x, rfl, hx, q⟩ := h
    obtain ⟨t, hF⟩ := T.full
    refine ⟨_, pss_one (ps_ret (pe_and (pe_callB call_isi (by rfl) T.isi boot_isinstance (pa_cons (pv 0) (pa_cons (pe_bltn (v := .ty "int") (by rfl) T.int boot_int rfl) pa_nil)))
       (pe_and (pe_not (pe_callB call_isi (by rfl) T.isi boot_isinstance (pa_cons (pv 0) (pa_cons (pe_bltn (v := .ty "bool") (by rfl) T.bool boot_bool rfl) pa_nil))))
         (pe_one (pe_chain op_le op_le pe_int (pv 0) (pe_glob (v := .int 16) (by rfl) hF ⟨t, rfl⟩)))))), ?_⟩
    by_cases i1 : ∃ z, x = .int z
    · obtain ⟨z, rfl⟩ := i1
      refine ⟨_, rfl, _, _, _, _, true, rfl, .ty "int", .base (.int z), kit_ty kB1, true, rfl, iteT ?_⟩
      refine ⟨_, rfl, _, _, _, _, false, rfl, .ty "bool", .base (.int z), kit_ty kB2, false, rfl, true, rfl, iteT ?_⟩
      refine ⟨_, rfl, 0, z, rfl, rfl, _, rfl, ite2 (fun c => ?_) (fun c => ?_)⟩
      · refine ⟨z, 16, rfl, rfl, ?_⟩
        have e : sixt (.int z) = decide (z ≤ 16) := by
          show (decide (0 ≤ z) && decide (z ≤ 16)) = decide (z ≤ 16)
          rw [c, Bool.true_and]
        rw [e] at q
        exact q
      · have c0 : decide (0 ≤ z) = false := Bool.eq_false_iff.mpr c
        have e : sixt (.int z) = false := by
          show (decide (0 ≤ z) && decide (z ≤ 16)) = false
          rw [c0, Bool.false_and]
        rw [e] at q
        exact q
    · by_cases i2 : ∃ b, x = .bl b
      · obtain ⟨b, rfl⟩ := i2
        refine ⟨_, rfl, _, _, _, _, true, rfl, .ty "int", .base (.bl b), kit_ty kB3, true, rfl, iteT ?_⟩
        refine ⟨_, rfl, _, _, _, _, true, rfl, .ty "bool", .base (.bl b), kit_ty kB4, true, rfl, false, rfl, iteF ?_⟩
        exact q
      · obtain ⟨ty, h1, h2, h3⟩ := notInt (K := K) hx (fun z e => i1 ⟨z, e⟩) (fun b e => i2 ⟨b, e⟩)
        refine ⟨_, rfl, _, _, _, _, false, rfl, .ty "int", h1, kit_ty h2, false, rfl, iteF ?_⟩
        rw [h3] at q
        exact q
end
section
variable {P : Program} {w : World} {K : PySem.W.Frag} {mg : Str → Option Value} {base : Heap}
theorem kB8 : kitB "NoneType" "list" = some false := by decide +kernel
theorem kB9 : kitB "NoneType" "tuple" = some false := by decide +kernel
theorem kB10 : kitB "bool" "list" = some false := by decide +kernel
theorem kB11 : kitB "bool" "tuple" = some false := by decide +kernel
theorem kB12 : kitB "int" "list" = some false := by decide +kernel
theorem kB13 : kitB "int" "tuple" = some false := by decide +kernel
theorem kB14 : kitB "str" "list" = some false := by decide +kernel
theorem kB15 : kitB "str" "tuple" = some false := by decide +kernel
theorem kB16 : kitB "list" "list" = some true := by decide +kernel
theorem notSeq {H : Hp} {x : V} (h : flatV x = true) : ∃ ty, TyX K H x (.type ty) ∧ PySem.W.kitAny K (.type ty) [.type "list", .type "tuple"] = some false := by
  have two : ∀ {ty : String}, kitB ty "list" = some false → kitB ty "tuple" = some false → PySem.W.kitAny K (.type ty) [.type "list", .type "tuple"] = some false := fun {ty} h1 h2 =>
    kitAny_cons (kit_ty h1) (fun _ => kitAny_cons (kit_ty h2) (fun _ => kitAny_nil) (fun z => nomatch z)) (fun z => nomatch z)
  cases x with
  | non => exact ⟨_, .base .non, two kB8 kB9⟩
  | bl b => exact ⟨_, .base (.bl b), two kB10 kB11⟩
  | int z => exact ⟨_, .base (.int z), two kB12 kB13⟩
  | str y => exact ⟨_, .base (.str y), two kB14 kB15⟩
  | _ => exact absurd (show false = true from h) Bool.false_ne_true
theorem isList : PySem.W.kitAny K (.type "list") [.type "list", .type "tuple"] = some true := kitAny_cons (kit_ty kB16) (fun z => nomatch z) (fun _ => rfl)
theorem two_cls : Paired ClsV [.ty "list", .ty "tuple"] [.type "list", .type "tuple"] := .cons (.ty "list") (.cons (.ty "tuple") .nil)
theorem take_more {α : Type} : ∀ {l : List α} {i : Nat} {x : α}, l[i]? = some x → l.take (i + 1) = l.take i ++ [x]
  | [], i, x, h => by simp at h
  | a :: l, 0, x, h => by
    have e : a = x := Option.some.inj h
    subst e
    rfl
  | a :: l, i + 1, x, h => by
    have ih := take_more (l := l) (i := i) (x := x) h
    show a :: l.take (i + 1) = a :: l.take i ++ [x]
    rw [ih]
    rfl
theorem lt_of_some {α : Type} {l : List α} {i : Nat} {x : α} (h : l[i]? = some x) : i < l.length := (List.getElem?_eq_some_iff.mp h).1
theorem len_take {α : Type} {l : List α} {i : Nat} (h : i ≤ l.length) : (l.take i).length = i := by
  rw [List.length_take]
  omega
/-! ### is_weights -/
def spWts (K : PySem.W.Frag) : Sp := fun vs H Q _ => ∃ v n od, vs = [v, .int ((n : Nat) : Int)] ∧ RowD K H v od ∧ (∀ xs, od = some xs → xs.length < 1000) ∧ ∀ H', Same H H' → Q (.bl (rowOk n od)) H'
theorem scWts : FnScope ["row", "many", "weight"] ["row", "many"] (defScope sWts) := ⟨rfl, rfl, rfl, by decide +kernel, rfl, by decide +kernel, by decide +kernel⟩
theorem ok_wts {f fS : Addr} {fd fdS : FuncData} (F : Fun K "is_weights" "is_weights" sWts f fd) (T : Txt mg) (FS : Fun K "is_sixteenth" "is_sixteenth" sSix fS fdS) (bS : Binds K fdS ["number"] []) (gS : mg "is_sixteenth" = some (.ref fS)) :
    FnOk P w K mg base CX0 2 f fd ["row", "many"] (spWts K) := by
  have GS : FnOk P w K mg base CX0 1 fS fdS ["number"] spSix := ok_six FS T
  refine F.ok scWts (fun vs H Q E h => ?_) (fun cdv A outer s H vs Q E hr h => ?_)
  · obtain ⟨v, n, od, rfl, _⟩ := h
    rfl
  · obtain ⟨v, n, od, rfl, hd, hsm, q⟩ := h
    refine ⟨_, pss_cons (ps_if (PW.pt (pw_or (pt_not (pt_val (pe_callB call_isiT (by rfl) T.isi boot_isinstance (pa_cons (pv 0) (pa_cons (pe_tup (pa_cons (pe_bltn (v := .ty "list") (by rfl) T.list boot_list rfl) (pa_cons (pe_bltn (v := .ty "tuple") (by rfl) T.tuple boot_tuple rfl) pa_nil))) pa_nil)))))
        (pw_or1 (pt_cmpR op_ne (pe_callB call_len_seq (by rfl) T.len PySem.boot_len (pa_cons (pv 0) pa_nil)) (pv 1) (nomark _)))))
        (pss_one (ps_ret pe_bl)) pss_nil)
      (pss_one (ps_ret (pe_callB (cr_all rfl) (by rfl) T.all boot_all (pa_cons (pe_lc (own := [("weight", 2)]) (g := gName 2) (tt := tYes) rfl scWts.nd (pi_list (pv 0)) (blkOk_by (N := ["row", "many", "weight"]) (sc := defScope sWts) (by decide +kernel))
        (fun _ _ _ _ _ => pg_name (i := 2) scWts.nd rfl (Or.inl rfl)) (fun _ _ _ _ _ => pts_nil) (fun _ _ _ _ _ => pe_call GS hr (by rfl) gS FS.kp bS .nil pass0 (pa_cons (pv 2) pa_nil))) pa_nil)))), ?_⟩
    refine ⟨_, rfl, (by show 2 ≤ sizeLine; decide), fun p hp => ?_⟩
    have s1 : Same H (upd H p (.tup [.ty "list", .ty "tuple"])) := same_upd hp
    cases od with
    | none =>
      obtain ⟨ty, h1, h2⟩ := notSeq (K := K) (H := upd H p (.tup [.ty "list", .ty "tuple"])) hd
      refine ⟨v, p, _, _, _, false, rfl, upd_same, two_cls, h1, h2, false, rfl, iteT (iteT ?_)⟩
      exact q _ s1
    | some xs =>
      obtain ⟨a, rfl, hS, hc⟩ := hd
      have hS1 := s1.seq hS
      have hsm' : xs.length < sizeLine := small1000 (Nat.le_of_lt (hsm xs rfl))
      refine ⟨_, p, _, _, _, true, rfl, upd_same, two_cls, tyx_list hS1, isList, true, rfl, iteF ?_⟩
      refine ⟨_, rfl, a, xs, rfl, .inl hS1, .int ((n : Nat) : Int), rfl, rfl, _, rfl, ?_⟩
      by_cases e : xs.length = n
      · have e1 : (!decide (V.int ((xs.length : Nat) : Int) = V.int ((n : Nat) : Int))) = false := by
          rw [e, decide_eq_true rfl] <;> rfl
        rw [e1]
        refine iteF ?_
        refine ⟨_, rfl, a, rfl, ⟨xs, hS1⟩, fun D hD => lc_list (K := K) (a := a) (xs := xs) (fun i H3 => Same (upd H p (.tup [.ty "list", .ty "tuple"])) H3 ∧ H3 D = some (.lst ((xs.take i).map fun x => .bl (sixt x))))
          ⟨same_upd hD, upd_same⟩ (fun i H3 _ h3 => h3.1.seq hS1) (fun i x H3 hi h3 => ?_) (fun H3 h3 => ?_)⟩
        · refine ⟨rfl, ?_⟩
          refine ⟨_, rfl, x, rfl, (hc x (List.mem_of_getElem? hi)).mono (s1.trans h3.1), _, h3.2, ?_, ?_, ?_⟩
          · rw [List.length_map, List.length_take]
            exact Nat.lt_of_le_of_lt (Nat.min_le_right _ _) hsm'
          · intro b o eb
            rw [upd_ne (ne_of_none eb hD)]
            exact h3.1 b o eb
          · rw [upd_same, take_more hi, List.map_append]
            rfl
        · refine ⟨D, xs.map sixt, rfl, .inl (.inl ?_), ?_⟩
          · rw [h3.2, List.take_length, List.map_map]
            rfl
          · have e2 : rowOk n (some xs) = (xs.map sixt).all id := by
              show (decide (xs.length = n) && xs.all sixt) = (xs.map sixt).all id
              rw [decide_eq_true e, Bool.true_and, List.all_map]
              rfl
            rw [← e2]
            exact q _ (s1.trans h3.1)
      · have ne : ¬ V.int ((xs.length : Nat) : Int) = V.int ((n : Nat) : Int) := fun z => e (by
          have z2 := V.int.inj z
          omega)
        have e1 : (!decide (V.int ((xs.length : Nat) : Int) = V.int ((n : Nat) : Int))) = true := by
          rw [decide_eq_false ne] <;> rfl
        rw [e1]
        refine iteT ?_
        have e2 : rowOk n (some xs) = false := by
          show (decide (xs.length = n) && xs.all sixt) = false
          rw [decide_eq_false e, Bool.false_and]
        have q1 := q _ s1
        rw [e2] at q1
        exact q1
end
/-- what the top has written of the classes: Tip at C, NoTip at N -/
structure TxtC (K : PySem.W.Frag) (mg : Str → Option Value) (C N : Addr) : Prop where
  cl : Cls K C
  nW : NoAttr K C "weights"
  gC : mg "Tip" = some (.ref C)
  gN : mg "NoTip" = some (.ref N)
  xN : PySem.W.excIn K N [.type "ValueError", .type "Exception", .type "BaseException", .type "object"] "ValueError.__new__" = true
  kN : PySem.W.keepIn K (.ref N) = true
  bN : PySem.W.subIn K (.ref N) (.type "BaseException") = some true
  tN : PySem.W.typeIn K (.ref N) = some (.type "type")
  wid : ∃ wA, mg "WIDTHS" = some (.ref wA) ∧ ∀ H : Hp, SqT K H wA [.int 1, .int 3, .int 5]
theorem inV_w (n : Nat) : inV (.int ((n : Nat) : Int)) [.int 1, .int 3, .int 5] = wide3 n := by
  show ((1 : Int) == (n : Int) || ((3 : Int) == (n : Int) || ((5 : Int) == (n : Int) || false))) = (n == 1 || n == 3 || n == 5)
  rw [Bool.eq_iff_iff]
  simp only [Bool.or_eq_true, beq_iff_eq, Bool.or_false]
  omega
theorem get_of {α : Type} {l : List α} {i : Nat} (h : i < l.length) : ∃ x, l[i]? = some x := ⟨l[i], List.getElem?_eq_getElem h⟩
theorem all_take {α : Type} {p : α → Bool} {l : List α} {i : Nat} {x : α} (h : l[i]? = some x) : (l.take (i + 1)).all p = ((l.take i).all p && p x) := by
  rw [take_more h, List.all_append]
  simp
theorem all_of_get {α : Type} {p : α → Bool} {l : List α} {i : Nat} {x : α} (h : l[i]? = some x) (a : l.all p = true) : p x = true := List.all_eq_true.mp a x (List.mem_of_getElem? h)
theorem all_false {α : Type} {p : α → Bool} {l : List α} {i : Nat} {x : α} (h : l[i]? = some x) (a : p x = false) : l.all p = false := by
  cases e : l.all p with
  | false => rfl
  | true =>
    rw [all_of_get h e] at a
    cases a
/-! ### Tip.__init__ -/
/-- list(x) of a list or tuple -/
def rLs (K : PySem.W.Frag) : List V → Hp → VK → Prop := fun xs H Q => ∃ p ys, xs = [.ref p] ∧ (SqL K H p ys ∨ SqT K H p ys) ∧ ∀ l, H l = none → Q (.ref l) (upd H l (.lst ys))
def spIni (K : PySem.W.Frag) (C N : Addr) : Sp := fun vs H Q E => ∃ x dx rv ord, vs = [.ref x, rv] ∧ H x = some (.ins C dx []) ∧ RowsD K H rv ord ∧ SmallD ord ∧
  (tipOk ord = false → ∀ H', Same H H' → E (.ref N) none H') ∧
  (tipOk ord = true → ∀ ds l bs H', ord = some ds → TipAt C H' x dx l bs (ds.map rowItems) → H l = none → (∀ b ∈ bs, H b = none) → (∀ b o, H b = some o → b ≠ x → H' b = some o) → Q .non H')
theorem scIni : FnScope ["self", "rows", "row"] ["self", "rows"] (defScope sIni) := ⟨rfl, rfl, rfl, by decide +kernel, rfl, by decide +kernel, by decide +kernel⟩
section
variable {P : Program} {w : World} {K : PySem.W.Frag} {mg : Str → Option Value} {base : Heap}
theorem ok_ini {f fW fS C N : Addr} {fd fdW fdS : FuncData} (F : Fun K "__init__" "Tip.__init__" sIni f fd) (T : Txt mg) (TC : TxtC K mg C N) (FW : Fun K "is_weights" "is_weights" sWts fW fdW) (bW : Binds K fdW ["row", "many"] []) (gW : mg "is_weights" = some (.ref fW))
    (FS : Fun K "is_sixteenth" "is_sixteenth" sSix fS fdS) (bS : Binds K fdS ["number"] []) (gS : mg "is_sixteenth" = some (.ref fS)) : FnOk P w K mg base (L2.CX P w) 3 f fd ["self", "rows"] (spIni K C N) := by
  have GW : FnOk P w K mg base CX0 2 fW fdW ["row", "many"] (spWts K) := ok_wts FW T FS bS gS
  refine F.okX scIni (fun vs H Q E h => ?_) (fun cdv A outer s H vs Q E hr h => ?_)
  · obtain ⟨x, dx, rv, ord, rfl, _⟩ := h
    rfl
  · obtain ⟨x, dx, rv, ord, rfl, hx, hd, hsm, kE, kQ⟩ := h
    obtain ⟨wA, gA, hW⟩ := TC.wid
    refine ⟨_, pss_cons (ps_if (PW.pt (pw_or (pt_not (pt_val (pe_callB call_isiT (by rfl) T.isi boot_isinstance (pa_cons (pv 1) (pa_cons (pe_tup (pa_cons (pe_bltn (v := .ty "list") (by rfl) T.list boot_list rfl) (pa_cons (pe_bltn (v := .ty "tuple") (by rfl) T.tuple boot_tuple rfl) pa_nil))) pa_nil)))))
        (pw_or1 (pt_cmpR op_notIn_seq (pe_callB call_len_seq (by rfl) T.len PySem.boot_len (pa_cons (pv 1) pa_nil)) (pe_glob (v := .ref wA) (by rfl) gA rfl) (by rfl)))))
        (pss_one (ps_raise rfl (takes_of rfl rfl rfl rfl) (pmk_own PySem.F.excBase_ValueError TC.xN TC.gN TC.kN (raises_own TC.bN TC.tN) rfl))) pss_nil)
      (pss_cons (ps_for (passes_of rfl) rfl (pi_list (pv 1)) (pg_name (i := 2) scIni.nd rfl (Or.inl rfl))
        (pss_one (ps_if (pt_not (pt_val (pe_call GW hr (by rfl) gW FW.kp bW .nil pass0 (pa_cons (pv 2) (pa_cons (pe_callB call_len_seq (by rfl) T.len PySem.boot_len (pa_cons (pv 1) pa_nil)) pa_nil)))))
          (pss_one (ps_raise rfl (takes_of rfl rfl rfl rfl) (pmk_own PySem.F.excBase_ValueError TC.xN TC.gN TC.kN (raises_own TC.bN TC.tN) rfl))) pss_nil)))
      (pss_one (ps_fld (pv 0) (pe_lc (own := [("row", 2)]) (g := gName 2) (tt := tYes) (te := tCB (rLs K) (tCons (tVar 2) tNil)) rfl scIni.nd (pi_list (pv 1)) (blkOk_by (N := ["self", "rows", "row"]) (sc := defScope sIni) (by decide +kernel))
        (fun _ _ _ _ _ => pg_name (i := 2) scIni.nd rfl (Or.inl rfl)) (fun _ _ _ _ _ => pts_nil) (fun _ _ _ _ _ => pe_callTy (r := rLs K) call_list_of (by rfl) T.list boot_list (pa_cons (pv 2) pa_nil))) rfl))), ?_⟩
    refine ⟨_, rfl, (by show 2 ≤ sizeLine; decide), fun p hp => ?_⟩
    have s1 : Same H (upd H p (.tup [.ty "list", .ty "tuple"])) := same_upd hp
    cases ord with
    | none =>
      obtain ⟨ty, h1, h2⟩ := notSeq (K := K) (H := upd H p (.tup [.ty "list", .ty "tuple"])) hd
      refine ⟨_, p, _, _, _, false, rfl, upd_same, two_cls, h1, h2, false, rfl, iteT (iteT ?_)⟩
      exact kE rfl _ s1
    | some ds =>
      obtain ⟨a, vs, rfl, hS, hlen, hr'⟩ := hd
      obtain ⟨sm1, sm2⟩ := hsm ds rfl
      have hS1 := s1.seq hS
      refine ⟨_, p, _, _, _, true, rfl, upd_same, two_cls, tyx_list hS1, isList, true, rfl, iteF ?_⟩
      refine ⟨_, rfl, a, vs, rfl, .inl hS1, wA, _, rfl, .inr (hW _), rfl, rfl, _, rfl, ?_⟩
      rw [if_pos rfl, inV_w, hlen]
      cases hw : wide3 ds.length with
      | false =>
        refine iteT ?_
        refine kE ?_ _ s1
        show (wide3 ds.length && ds.all (rowOk ds.length)) = false
        rw [hw, Bool.false_and]
      | true =>
        refine iteF ?_
        refine ⟨_, rfl, a, rfl, ⟨_, hS1⟩, for_list (K := K) (a := a) (xs := vs) (fun i σ H3 => ∃ y, σ = [some (.ref x), some (.ref a), y] ∧ Same H H3 ∧ (ds.take i).all (rowOk ds.length) = true)
          ⟨none, rfl, s1, by rw [List.take_zero] <;> rfl⟩ (fun i σ H3 _ ⟨_, _, s3, _⟩ => s3.seq hS) ?_ ?_⟩
        · rintro i u σ H3 hi ⟨y, rfl, s3, hok⟩
          obtain ⟨d, hdi⟩ := get_of (l := ds) (i := i) (by rw [← hlen]; exact lt_of_some hi)
          have hrow := (hr' i u d hi hdi).mono s3
          refine ⟨_, rfl, _, rfl, a, vs, rfl, .inl (s3.seq hS), u, vs.length, d, rfl, hrow, fun xs e => sm2 xs (e ▸ List.mem_of_getElem? hdi), fun H4 s4 => ⟨_, rfl, ?_⟩⟩
          rw [hlen]
          cases hb : rowOk ds.length d with
          | false =>
            refine iteT ?_
            refine kE ?_ _ (s3.trans s4)
            show (wide3 ds.length && ds.all (rowOk ds.length)) = false
            rw [all_false hdi hb, Bool.and_false]
          | true =>
            refine iteF ?_
            exact ⟨_, rfl, s3.trans s4, by rw [all_take hdi, hok, hb] <;> rfl⟩
        · rintro σ H3 ⟨y, rfl, s3, hok⟩
          rw [hlen, List.take_length] at hok
          have hS3 := s3.seq hS
          have good : tipOk (some ds) = true := by
            show (wide3 ds.length && ds.all (rowOk ds.length)) = true
            rw [hw, hok] <;> rfl
          refine ⟨_, rfl, a, rfl, ⟨_, hS3⟩, fun D hD => lc_list (K := K) (a := a) (xs := vs) (fun i H4 => ∃ bs : List Addr, Same H3 H4 ∧ H4 D = some (.lst (bs.map V.ref)) ∧ bs.length = i ∧ (∀ b ∈ bs, H3 b = none ∧ b ≠ D) ∧
              ∀ (j : Nat) (b : Addr) (d : Option (List V)), bs[j]? = some b → ds[j]? = some d → H4 b = some (.lst (rowItems d)))
            ⟨[], same_upd hD, upd_same, rfl, fun b hb => (by cases hb), fun j b d hb => (by simp at hb)⟩ (fun i H4 _ ⟨_, s4, _⟩ => s4.seq hS3) (fun i u H4 hi h4 => ?_) (fun H4 h4 => ?_)⟩
          · obtain ⟨bs, s4, eD, el, hbs, hat⟩ := h4
            obtain ⟨d, hdi⟩ := get_of (l := ds) (i := i) (by rw [← hlen]; exact lt_of_some hi)
            have hrow := (hr' i u d hi hdi).mono (s3.trans s4)
            have hb := all_of_get hdi hok
            cases d with
            | none => cases hb
            | some xs =>
              obtain ⟨c, rfl, hc, _⟩ := hrow
              refine ⟨rfl, ?_⟩
              refine ⟨_, rfl, c, xs, rfl, .inl hc, fun l hl => ?_⟩
              have nD : D ≠ l := ne_of_none eD hl
              refine ⟨bs.map V.ref, by rw [upd_ne nD]; exact eD, ?_, bs ++ [l], ?_, ?_, ?_, ?_, ?_⟩
              · rw [List.length_map, el]
                exact small1000 (Nat.le_of_lt (Nat.lt_trans (lt_of_some hdi) sm1))
              · intro b o eb
                rw [upd_ne (ne_of_none eb hD), upd_ne (ne_of_none (s4 b o eb) hl)]
                exact s4 b o eb
              · rw [upd_same, List.map_append]
                rfl
              · rw [List.length_append, el]
                rfl
              · intro b hb'
                rcases List.mem_append.mp hb' with hb' | hb'
                · exact hbs b hb'
                · have e : b = l := by simpa using hb'
                  rw [e]
                  exact ⟨s4.free hl, nD.symm⟩
              · intro j b d hj hdj
                by_cases hji : j < bs.length
                · rw [List.getElem?_append_left hji] at hj
                  have e1 := hat j b d hj hdj
                  rw [upd_ne (hbs b (List.mem_of_getElem? hj)).2, upd_ne (ne_of_none e1 hl)]
                  exact e1
                · have ej : j = bs.length := by
                    have := lt_of_some hj
                    rw [List.length_append] at this
                    have e1 : ([l] : List Addr).length = 1 := rfl
                    omega
                  subst ej
                  rw [List.getElem?_append_right (Nat.le_refl _), Nat.sub_self] at hj
                  have e : l = b := Option.some.inj hj
                  subst e
                  rw [el, hdi] at hdj
                  have e2 : some xs = d := Option.some.inj hdj
                  subst e2
                  rw [upd_ne nD.symm, upd_same]
                  rfl
          · obtain ⟨bs, s4, eD, el, hbs, hat⟩ := h4
            have hx4 : H4 x = some (.ins C dx []) := s4 _ _ (s3 _ _ hx)
            refine ⟨_, rfl, x, C, dx, [], rfl, hx4, TC.cl, TC.nW, (by show 0 < 1000; decide), ?_⟩
            have nxD : D ≠ x := (ne_of_none (s3 _ _ hx) hD).symm
            refine kQ good ds D bs _ rfl ⟨upd_same, by rw [upd_ne nxD]; exact eD, by rw [List.length_map, el, hlen], fun j b us hj hu => ?_⟩ (s3.free hD) (fun b hb => s3.free (hbs b hb).1) fun b o e hb => ?_
            · rw [List.getElem?_map] at hu
              cases e : ds[j]? with
              | none =>
                rw [e] at hu
                cases hu
              | some d =>
                rw [e] at hu
                have e2 : rowItems d = us := Option.some.inj hu
                subst e2
                have e1 := hat j b d hj e
                rw [upd_ne (ne_of_none (s3 _ _ hx) (hbs b (List.mem_of_getElem? hj)).1).symm]
                exact e1
            · rw [upd_ne hb]
              exact s4 _ _ (s3 _ _ e)
end
/-! ### what is told: the mathematics -/
abbrev Told := (Int × Int) × Int
def cellDue (x y h : Int) (d a : Nat) (z : Int) : List Told := if 0 < z then [((x + (a : Int) - h, y + (d : Int) - h), z)] else []
def rowDue (x y h : Int) (d : Nat) (r : List Int) : Nat → List Told
  | 0 => []
  | j + 1 => rowDue x y h d r j ++ cellDue x y h d j (r.getD j 0)
def allDue (x y h : Int) (rs : List (List Int)) : Nat → List Told
  | 0 => []
  | i + 1 => allDue x y h rs i ++ rowDue x y h i (rs.getD i []) (rs.getD i []).length
theorem cellDue_len (x y h : Int) (d a : Nat) (z : Int) : (cellDue x y h d a z).length ≤ 1 := by
  unfold cellDue
  split <;> simp
theorem rowDue_len (x y h : Int) (d : Nat) (r : List Int) : ∀ j, (rowDue x y h d r j).length ≤ j
  | 0 => Nat.le_refl _
  | j + 1 => by
    show (rowDue x y h d r j ++ cellDue x y h d j (r.getD j 0)).length ≤ j + 1
    rw [List.length_append]
    have h1 := rowDue_len x y h d r j
    have h2 := cellDue_len x y h d j (r.getD j 0)
    omega
theorem getD_len {rs : List (List Int)} (h5 : ∀ r ∈ rs, r.length ≤ 5) (i : Nat) : (rs.getD i []).length ≤ 5 := by
  rw [List.getD_eq_getElem?_getD]
  cases e : rs[i]? with
  | none => exact Nat.zero_le _
  | some r => exact h5 r (List.mem_of_getElem? e)
theorem allDue_len (x y h : Int) {rs : List (List Int)} (h5 : ∀ r ∈ rs, r.length ≤ 5) : ∀ i, (allDue x y h rs i).length ≤ 5 * i
  | 0 => Nat.le_refl _
  | i + 1 => by
    show (allDue x y h rs i ++ rowDue x y h i (rs.getD i []) (rs.getD i []).length).length ≤ 5 * (i + 1)
    rw [List.length_append]
    have h1 := allDue_len x y h h5 i
    have h2 := rowDue_len x y h i (rs.getD i []) (rs.getD i []).length
    have h3 := getD_len h5 i
    omega
theorem getD_of {α : Type} {l : List α} {i : Nat} {x d : α} (h : l[i]? = some x) : l.getD i d = x := by
  rw [List.getD_eq_getElem?_getD, h]
  rfl
/-! ### what is told, in the heap -/
def ToldAt (H : Hp) (v : V) (d : Told) : Prop := ∃ T T1, v = .ref T ∧ H T = some (.tup [.ref T1, .int d.2]) ∧ H T1 = some (.tup [.int d.1.1, .int d.1.2])
abbrev DueAt (H : Hp) : List V → List Told → Prop := Paired (ToldAt H)
theorem DueAt.keep {H H' : Hp} {ws : List V} {ds : List Told} (k : ∀ b xs, H b = some (.tup xs) → H' b = some (.tup xs)) (h : DueAt H ws ds) : DueAt H' ws ds :=
  Paired.mapP h fun _ _ ⟨T, T1, e, h1, h2⟩ => ⟨T, T1, e, k _ _ h1, k _ _ h2⟩
theorem DueAt.snoc {H : Hp} {v : V} {d : Told} (h1 : ToldAt H v d) : ∀ {ws : List V} {ds : List Told}, DueAt H ws ds → DueAt H (ws ++ [v]) (ds ++ [d])
  | _, _, .nil => .cons h1 .nil
  | _, _, .cons q r => .cons q (DueAt.snoc h1 r)
/-- the list at f tells ds; all that stood stands -/
def Tells (H0 : Hp) (f : Addr) (ds : List Told) (H : Hp) : Prop := Same H0 H ∧ ∃ ws, H f = some (.lst ws) ∧ DueAt H ws ds
theorem Tells.new {H0 : Hp} {f : Addr} (hf : H0 f = none) : Tells H0 f [] (upd H0 f (.lst [])) := ⟨same_upd hf, [], upd_same, .nil⟩
theorem Tells.lay {H0 H : Hp} {f T : Addr} {ds : List Told} {o : HO} (t : Tells H0 f ds H) (hT : H T = none) : Tells H0 f ds (upd H T o) := by
  obtain ⟨s, ws, hf, hd⟩ := t
  have u : Same H (upd H T o) := same_upd hT
  exact ⟨s.trans u, ws, u _ _ hf, hd.keep fun b xs e => u _ _ e⟩
theorem Tells.more {H0 H : Hp} {f T T1 : Addr} {ws : List V} {ds : List Told} {a b z : Int} (h0 : H0 f = none) (t : Tells H0 f ds H) (hf : H f = some (.lst ws)) (h1 : H T1 = none)
    (h2 : upd H T1 (.tup [.int a, .int b]) T = none) : Tells H0 f (ds ++ [((a, b), z)]) (upd (upd (upd H T1 (.tup [.int a, .int b])) T (.tup [.ref T1, .int z])) f (.lst (ws ++ [.ref T]))) := by
  obtain ⟨s, ws', hf', hd⟩ := t
  rw [hf] at hf'
  have ew : ws = ws' := by
    have e := Option.some.inj hf'
    exact HO.lst.inj e
  subst ew
  have u1 : Same H (upd H T1 (.tup [.int a, .int b])) := same_upd h1
  have u2 : Same (upd H T1 (.tup [.int a, .int b])) (upd (upd H T1 (.tup [.int a, .int b])) T (.tup [.ref T1, .int z])) := same_upd h2
  have k : ∀ c xs, (upd (upd H T1 (.tup [.int a, .int b])) T (.tup [.ref T1, .int z])) c = some (.tup xs) → (upd (upd (upd H T1 (.tup [.int a, .int b])) T (.tup [.ref T1, .int z])) f (.lst (ws ++ [.ref T]))) c = some (.tup xs) := fun c xs e => by
    have nf : c ≠ f := ne_of e (u2 _ _ (u1 _ _ hf)) (by intro q; cases q)
    rw [upd_ne nf]
    exact e
  refine ⟨fun c o e => ?_, _, upd_same, ?_⟩
  · have nf : c ≠ f := ne_of_none e h0
    rw [upd_ne nf]
    exact u2 _ _ (u1 _ _ (s _ _ e))
  · have hd2 : DueAt (upd (upd H T1 (.tup [.int a, .int b])) T (.tup [.ref T1, .int z])) ws ds := hd.keep fun c xs e => u2 _ _ (u1 _ _ e)
    have new : ToldAt (upd (upd H T1 (.tup [.int a, .int b])) T (.tup [.ref T1, .int z])) (.ref T) ((a, b), z) := ⟨T, T1, rfl, upd_same, u2 _ _ upd_same⟩
    exact (hd2.snoc new).keep k
theorem Tells.at_ {H0 H : Hp} {f : Addr} {ds : List Told} (t : Tells H0 f ds H) : ∃ ws, H f = some (.lst ws) ∧ ws.length = ds.length := by
  obtain ⟨s, ws, hf, hd⟩ := t
  exact ⟨ws, hf, Paired.length hd⟩
section
variable {P : Program} {w : World} {K : PySem.W.Frag} {mg : Str → Option Value} {base : Heap}
/-! ### spread. Slots: self, cell, half, found, down, row, across, weight -/
def spSpr (C : Addr) : Sp := fun vs H Q _ => ∃ (t c dx l : Addr) (bs : List Addr) (rs : List (List Int)) (x y : Int), vs = [.ref t, .ref c] ∧ TipAt C H t dx l bs (rs.map fun r => r.map V.int) ∧ H c = some (.tup [.int x, .int y]) ∧
  rs.length ≤ 5 ∧ (∀ r ∈ rs, r.length ≤ 5) ∧ ∀ p H', H p = none → Tells H p (allDue x y (((rs.length : Nat) : Int) / 2) rs rs.length) H' → Q (.ref p) H'
theorem scSpr : FnScope ["self", "cell", "half", "found", "down", "row", "across", "weight"] ["self", "cell"] (defScope sSpr) := ⟨rfl, rfl, rfl, by decide +kernel, rfl, by decide +kernel, by decide +kernel⟩
theorem ok_spr {f C N : Addr} {fd : FuncData} (F : Fun K "spread" "Tip.spread" sSpr f fd) (T : Txt mg) (TC : TxtC K mg C N) : FnOk P w K mg base CX0 1 f fd ["self", "cell"] (spSpr C) := by
  refine F.ok scSpr (fun vs H Q E h => ?_) (fun cdv A outer s H vs Q E hr h => ?_)
  · obtain ⟨t, c, dx, l, bs, rs, x, y, rfl, _⟩ := h
    rfl
  · obtain ⟨t, c, dx, l, bs, rs, x, y, rfl, hT, hc, h5, hr5, q⟩ := h
    refine ⟨_, pss_cons (ps_set (i := 2) scSpr.nd rfl (Or.inl rfl) (pe_op op_fdiv (pe_callB call_len_seq (by rfl) T.len PySem.boot_len (pa_cons (pe_fld (pv 0) rfl) pa_nil)) pe_int))
      (pss_cons (ps_set (i := 3) scSpr.nd rfl (Or.inl rfl) (pe_lst pa_nil))
      (pss_cons (ps_for PassesOwn.never rfl (pi_enum (by rfl) T.enum (pa_cons (pe_fld (pv 0) rfl) pa_nil)) (pg_tup rfl (pgs_cons (pg_name (i := 4) scSpr.nd rfl (Or.inl rfl)) (pgs_cons (pg_name (i := 5) scSpr.nd rfl (Or.inl rfl)) pgs_nil)))
        (pss_one (ps_for PassesOwn.never rfl (pi_enum (by rfl) T.enum (pa_cons (pv 5) pa_nil)) (pg_tup rfl (pgs_cons (pg_name (i := 6) scSpr.nd rfl (Or.inl rfl)) (pgs_cons (pg_name (i := 7) scSpr.nd rfl (Or.inl rfl)) pgs_nil)))
          (pss_one (ps_if (pt_cmpR op_gt (pv 7) pe_int (nomark _))
            (pss_one (ps_expr (pe_bm PySem.F.plainAttrs_list PySem.F.slot_list_append PySem.F.type_list_append mt_append (pv 3) (pa_cons (pe_tup (pa_cons (pe_tup
              (pa_cons (pe_op op_sub (pe_op op_add (pe_ix ix_tup (pv 1) pe_int (fun _ _ => rfl)) (pv 6)) (pv 2)) (pa_cons (pe_op op_sub (pe_op op_add (pe_ix ix_tup (pv 1) pe_int (fun _ _ => rfl)) (pv 4)) (pv 2)) pa_nil)))
              (pa_cons (pv 7) pa_nil))) pa_nil)))) pss_nil)))))
      (pss_one (ps_ret (pv 3))))), ?_⟩
    have hlen : bs.length = rs.length := by rw [hT.rows.len, List.length_map]
    have hlb : (bs.map V.ref).length = rs.length := by rw [List.length_map, hlen]
    -- half = len(self.weights) // 2
    refine ⟨_, rfl, t, C, dx, _, _, rfl, hT.ob, TC.cl, TC.nW, tf_w l, l, _, rfl, .inl (SqL.of hT.lst), _, _, rfl, rfl, ⟨by decide, by decide⟩, ?_⟩
    rw [hlb]
    -- found = []
    refine ⟨Nat.zero_le _, fun p hp => ?_⟩
    have t0 := Tells.new hp
    -- for down, row in enumerate(self.weights)
    refine ⟨_, rfl, t, C, dx, _, _, rfl, t0.1 _ _ hT.ob, TC.cl, TC.nW, tf_w l, l, _, rfl, SqL.of (t0.1 _ _ hT.lst), for_it (walk_enum (K := K) (a := l) (xs := bs.map V.ref))
      (fun i σ H3 => ∃ y4 y5 y6 y7, σ = [some (.ref t), some (.ref c), some (.int (((rs.length : Nat) : Int) / 2)), some (.ref p), y4, y5, y6, y7] ∧ Tells H p (allDue x y (((rs.length : Nat) : Int) / 2) rs i) H3)
      ⟨none, none, none, none, rfl, t0⟩ (fun i σ H3 _ ⟨_, _, _, _, _, t3⟩ => SqL.of (t3.1 _ _ hT.lst)) ?_ ?_⟩
    · rintro i v σ H3 H4 hi ⟨y4, y5, y6, y7, rfl, t3⟩ ⟨T0, v1, v2, rfl, nT, rfl, e1, e2⟩
      have hi' : i < rs.length := by rw [hlb] at hi; exact hi
      obtain ⟨b, hb⟩ := get_of (l := bs) (i := i) (by rw [hlen]; exact hi')
      obtain ⟨r, hri⟩ := get_of hi'
      have e1' : V.int ((i : Nat) : Int) = v1 := Option.some.inj e1
      subst e1'
      have e2' : V.ref b = v2 := by
        dsimp only at e2
        rw [List.getElem?_map, hb] at e2
        exact Option.some.inj e2
      subst e2'
      have hrow : H b = some (.lst (r.map V.int)) := hT.rows.at_ i b _ hb (by rw [List.getElem?_map, hri]; rfl)
      have t4 := t3.lay (o := .tup [.int ((i : Nat) : Int), .ref b]) nT
      refine ⟨T0, _, rfl, SqT.of upd_same, rfl, _, _, rfl, _, _, rfl, rfl, ?_⟩
      -- for across, weight in enumerate(row)
      refine ⟨_, rfl, b, _, rfl, SqL.of (t4.1 _ _ hrow), for_it (walk_enum (K := K) (a := b) (xs := r.map V.int))
        (fun j σ H5 => ∃ y6 y7, σ = [some (.ref t), some (.ref c), some (.int (((rs.length : Nat) : Int) / 2)), some (.ref p), some (.int ((i : Nat) : Int)), some (.ref b), y6, y7] ∧
          Tells H p (allDue x y (((rs.length : Nat) : Int) / 2) rs i ++ rowDue x y (((rs.length : Nat) : Int) / 2) i r j) H5)
        ⟨_, _, rfl, by rw [show rowDue x y (((rs.length : Nat) : Int) / 2) i r 0 = [] from rfl, List.append_nil]; exact t4⟩ (fun j σ H5 _ ⟨_, _, _, t5⟩ => SqL.of (t5.1 _ _ hrow)) ?_ ?_⟩
      · rintro j v σ H5 H6 hj ⟨y6, y7, rfl, t5⟩ ⟨T2, v1, v2, rfl, nT2, rfl, e1, e2⟩
        have e1' : V.int ((j : Nat) : Int) = v1 := Option.some.inj e1
        subst e1'
        have hj' : j < r.length := by rw [List.length_map] at hj; exact hj
        obtain ⟨z, hz⟩ := get_of hj'
        have e2' : V.int z = v2 := by
          dsimp only at e2
          rw [List.getElem?_map, hz] at e2
          exact Option.some.inj e2
        subst e2'
        have t6 := t5.lay (o := .tup [.int ((j : Nat) : Int), .int z]) nT2
        have estep : rowDue x y (((rs.length : Nat) : Int) / 2) i r (j + 1) = rowDue x y (((rs.length : Nat) : Int) / 2) i r j ++ cellDue x y (((rs.length : Nat) : Int) / 2) i j z := by
          show _ ++ cellDue x y (((rs.length : Nat) : Int) / 2) i j (r.getD j 0) = _
          rw [getD_of hz]
        refine ⟨T2, _, rfl, SqT.of upd_same, rfl, _, _, rfl, _, _, rfl, rfl, ?_⟩
        -- if weight > 0
        refine ⟨_, rfl, z, 0, rfl, rfl, _, rfl, ite2 (fun cz => ?_) (fun cz => ?_)⟩
        · have hz0 : 0 < z := of_decide_eq_true cz
          have ecell : cellDue x y (((rs.length : Nat) : Int) / 2) i j z = [((x + ((j : Nat) : Int) - ((rs.length : Nat) : Int) / 2, y + ((i : Nat) : Int) - ((rs.length : Nat) : Int) / 2), z)] := if_pos hz0
          obtain ⟨ws, hws, hwl⟩ := t6.at_
          have hc6 : (upd H5 T2 (.tup [.int ((j : Nat) : Int), .int z])) c = some (.tup [.int x, .int y]) := t6.1 _ _ hc
          refine ⟨_, rfl, .inl ⟨rfl, _, SqL.of hws⟩, ?_⟩
          refine ⟨_, rfl, c, _, 0, .int x, rfl, rfl, SqT.of hc6, atI_nat (j := 0) rfl, _, rfl, _, _, rfl, rfl, _, rfl, _, _, rfl, rfl, ?_⟩
          refine ⟨_, rfl, c, _, 1, .int y, rfl, rfl, SqT.of hc6, atI_nat (j := 1) rfl, _, rfl, _, _, rfl, rfl, _, rfl, _, _, rfl, rfl, ?_⟩
          refine ⟨(by show 2 ≤ sizeLine; decide), fun T1 h1 => ?_⟩
          refine ⟨_, rfl, (by show 2 ≤ sizeLine; decide), fun TT h2 => ?_⟩
          have u1 := same_upd (o := .tup [.int (x + ((j : Nat) : Int) - ((rs.length : Nat) : Int) / 2), .int (y + ((i : Nat) : Int) - ((rs.length : Nat) : Int) / 2)]) h1
          refine ⟨p, ws, _, rfl, rfl, same_upd h2 _ _ (u1 _ _ hws), ?_, _, _, rfl, ?_⟩
          · rw [hwl, List.length_append]
            have b1 := allDue_len x y (((rs.length : Nat) : Int) / 2) hr5 i
            have b2 := rowDue_len x y (((rs.length : Nat) : Int) / 2) i r j
            have b3 := hr5 r (List.mem_of_getElem? hri)
            exact small1000 (by omega)
          · rw [estep, ecell, ← List.append_assoc]
            exact Tells.more hp t6 hws h1 h2
        · have hz0 : ¬ 0 < z := fun q => cz (decide_eq_true q)
          have ecell : cellDue x y (((rs.length : Nat) : Int) / 2) i j z = [] := if_neg hz0
          refine ⟨_, _, rfl, ?_⟩
          rw [estep, ecell, List.append_nil]
          exact t6
      · rintro σ H5 ⟨y6, y7, rfl, t5⟩
        refine ⟨_, _, _, _, rfl, ?_⟩
        show Tells H p (allDue x y (((rs.length : Nat) : Int) / 2) rs i ++ rowDue x y (((rs.length : Nat) : Int) / 2) i (rs.getD i []) (rs.getD i []).length) H5
        rw [getD_of hri]
        rw [List.length_map] at t5
        exact t5
    · rintro σ H3 ⟨y4, y5, y6, y7, rfl, t3⟩
      rw [hlb] at t3
      exact ⟨_, rfl, q p H3 hp t3⟩
end
section
variable {P : Program} {w : World} {K : PySem.W.Frag} {mg : Str → Option Value} {base : Heap}
/-! ### _law_due. Slots: rows, x, y, half, found, down, across -/
def spDue : Sp := fun vs H Q _ => ∃ (a : Addr) (as : List Addr) (rs : List (List Int)) (x y : Int), vs = [.ref a, .int x, .int y] ∧ H a = some (.lst (as.map V.ref)) ∧ ListsAt H as (rs.map fun r => r.map V.int) ∧
  rs.length ≤ 5 ∧ (∀ r ∈ rs, r.length = rs.length) ∧ ∀ p H', H p = none → Tells H p (allDue x y (((rs.length : Nat) : Int) / 2) rs rs.length) H' → Q (.ref p) H'
theorem scDue : FnScope ["_law_rows_here", "_law_x", "_law_y", "_law_half", "_law_found", "_law_down", "_law_across"] ["_law_rows_here", "_law_x", "_law_y"] (defScope sDue) := ⟨rfl, rfl, rfl, by decide +kernel, rfl, by decide +kernel, by decide +kernel⟩
theorem ok_due {f : Addr} {fd : FuncData} (F : Fun K "_law_due" "_law_due" sDue f fd) (T : Txt mg) : FnOk P w K mg base CX0 1 f fd ["_law_rows_here", "_law_x", "_law_y"] spDue := by
  refine F.ok scDue (fun vs H Q E h => ?_) (fun cdv A outer s H vs Q E hr h => ?_)
  · obtain ⟨a, as, rs, x, y, rfl, _⟩ := h
    rfl
  · obtain ⟨a, as, rs, x, y, rfl, ha, hA, h5, hsq, q⟩ := h
    refine ⟨_, pss_cons (ps_set (i := 3) scDue.nd rfl (Or.inl rfl) (pe_op op_fdiv (pe_callB call_len_seq (by rfl) T.len PySem.boot_len (pa_cons (pv 0) pa_nil)) pe_int))
      (pss_cons (ps_set (i := 4) scDue.nd rfl (Or.inl rfl) (pe_lst pa_nil))
      (pss_cons (ps_for PassesOwn.never rfl (pi_range1 (by rfl) T.range (pa_cons (pe_callB call_len_seq (by rfl) T.len PySem.boot_len (pa_cons (pv 0) pa_nil)) pa_nil)) (pg_name (i := 5) scDue.nd rfl (Or.inl rfl))
        (pss_one (ps_for PassesOwn.never rfl (pi_range1 (by rfl) T.range (pa_cons (pe_callB call_len_seq (by rfl) T.len PySem.boot_len (pa_cons (pv 0) pa_nil)) pa_nil)) (pg_name (i := 6) scDue.nd rfl (Or.inl rfl))
          (pss_one (ps_if (pt_cmpR op_gt (pe_ix ix_list (pe_ix ix_list (pv 0) (pv 5) (fun _ _ => rfl)) (pv 6) (fun _ _ => rfl)) pe_int (nomark _))
            (pss_one (ps_expr (pe_bm PySem.F.plainAttrs_list PySem.F.slot_list_append PySem.F.type_list_append mt_append (pv 4) (pa_cons (pe_tup (pa_cons (pe_tup
              (pa_cons (pe_op op_sub (pe_op op_add (pv 1) (pv 6)) (pv 3)) (pa_cons (pe_op op_sub (pe_op op_add (pv 2) (pv 5)) (pv 3)) pa_nil)))
              (pa_cons (pe_ix ix_list (pe_ix ix_list (pv 0) (pv 5) (fun _ _ => rfl)) (pv 6) (fun _ _ => rfl)) pa_nil))) pa_nil)))) pss_nil)))))
      (pss_one (ps_ret (pv 4))))), ?_⟩
    have hlen : as.length = rs.length := by rw [hA.len, List.length_map]
    have hla : (as.map V.ref).length = rs.length := by rw [List.length_map, hlen]
    have hr5 : ∀ r ∈ rs, r.length ≤ 5 := fun r hr => by rw [hsq r hr]; exact h5
    have hn : (((as.map V.ref).length : Nat) : Int).toNat = rs.length := by rw [hla]; rfl
    refine ⟨_, rfl, a, _, rfl, .inl (SqL.of ha), _, _, rfl, rfl, ⟨by decide, by decide⟩, ?_⟩
    rw [hla]
    refine ⟨Nat.zero_le _, fun p hp => ?_⟩
    have t0 := Tells.new hp
    refine ⟨_, rfl, a, _, rfl, .inl (SqL.of (t0.1 _ _ ha)), _, rfl, by omega, by omega, ?_⟩
    rw [hn]
    refine for_range (lo := 0) (n := rs.length) (fun i σ H3 => ∃ y5 y6, σ = [some (.ref a), some (.int x), some (.int y), some (.int (((rs.length : Nat) : Int) / 2)), some (.ref p), y5, y6] ∧ Tells H p (allDue x y (((rs.length : Nat) : Int) / 2) rs i) H3)
      ⟨none, none, rfl, t0⟩ ?_ ?_
    · rintro i σ H3 hi ⟨y5, y6, rfl, t3⟩
      rw [Int.zero_add]
      obtain ⟨b, hb⟩ := get_of (l := as) (i := i) (by rw [hlen]; exact hi)
      obtain ⟨r, hri⟩ := get_of hi
      have hrl : r.length = rs.length := hsq r (List.mem_of_getElem? hri)
      have hrow : H b = some (.lst (r.map V.int)) := hA.at_ i b _ hb (by rw [List.getElem?_map, hri]; rfl)
      have hbi : (as.map V.ref)[i]? = some (.ref b) := by rw [List.getElem?_map, hb]; rfl
      refine ⟨_, rfl, a, _, rfl, .inl (SqL.of (t3.1 _ _ ha)), _, rfl, by omega, by omega, ?_⟩
      rw [hn]
      refine for_range (lo := 0) (n := rs.length) (fun j σ H5 => ∃ y6, σ = [some (.ref a), some (.int x), some (.int y), some (.int (((rs.length : Nat) : Int) / 2)), some (.ref p), some (.int ((i : Nat) : Int)), y6] ∧
          Tells H p (allDue x y (((rs.length : Nat) : Int) / 2) rs i ++ rowDue x y (((rs.length : Nat) : Int) / 2) i r j) H5)
        ⟨_, rfl, by rw [show rowDue x y (((rs.length : Nat) : Int) / 2) i r 0 = [] from rfl, List.append_nil]; exact t3⟩ ?_ ?_
      · rintro j σ H5 hj ⟨y6, rfl, t5⟩
        rw [Int.zero_add]
        obtain ⟨z, hz⟩ := get_of (l := r) (i := j) (by rw [hrl]; exact hj)
        have hzv : (r.map V.int)[j]? = some (.int z) := by rw [List.getElem?_map, hz]; rfl
        have estep : rowDue x y (((rs.length : Nat) : Int) / 2) i r (j + 1) = rowDue x y (((rs.length : Nat) : Int) / 2) i r j ++ cellDue x y (((rs.length : Nat) : Int) / 2) i j z := by
          show _ ++ cellDue x y (((rs.length : Nat) : Int) / 2) i j (r.getD j 0) = _
          rw [getD_of hz]
        refine ⟨_, rfl, _, rfl, a, _, _, _, rfl, rfl, SqL.of (t5.1 _ _ ha), atI_nat hbi, _, rfl, b, _, _, _, rfl, rfl, SqL.of (t5.1 _ _ hrow), atI_nat hzv, z, 0, rfl, rfl, _, rfl, ite2 (fun cz => ?_) (fun cz => ?_)⟩
        · have hz0 : 0 < z := of_decide_eq_true cz
          have ecell : cellDue x y (((rs.length : Nat) : Int) / 2) i j z = [((x + ((j : Nat) : Int) - ((rs.length : Nat) : Int) / 2, y + ((i : Nat) : Int) - ((rs.length : Nat) : Int) / 2), z)] := if_pos hz0
          obtain ⟨ws, hws, hwl⟩ := t5.at_
          refine ⟨_, rfl, .inl ⟨rfl, _, SqL.of hws⟩, ?_⟩
          refine ⟨_, rfl, _, rfl, _, _, rfl, rfl, _, rfl, _, _, rfl, rfl, ?_⟩
          refine ⟨_, rfl, _, rfl, _, _, rfl, rfl, _, rfl, _, _, rfl, rfl, ?_⟩
          refine ⟨(by show 2 ≤ sizeLine; decide), fun T1 h1 => ?_⟩
          have u1 := same_upd (o := .tup [.int (x + ((j : Nat) : Int) - ((rs.length : Nat) : Int) / 2), .int (y + ((i : Nat) : Int) - ((rs.length : Nat) : Int) / 2)]) h1
          refine ⟨_, rfl, _, rfl, a, _, _, _, rfl, rfl, SqL.of (u1 _ _ (t5.1 _ _ ha)), atI_nat hbi, _, rfl, b, _, _, _, rfl, rfl, SqL.of (u1 _ _ (t5.1 _ _ hrow)), atI_nat hzv, ?_⟩
          refine ⟨(by show 2 ≤ sizeLine; decide), fun TT h2 => ?_⟩
          refine ⟨p, ws, _, rfl, rfl, same_upd h2 _ _ (u1 _ _ hws), ?_, _, rfl, ?_⟩
          · rw [hwl, List.length_append]
            have b1 := allDue_len x y (((rs.length : Nat) : Int) / 2) hr5 i
            have b2 := rowDue_len x y (((rs.length : Nat) : Int) / 2) i r j
            exact small1000 (by omega)
          · rw [estep, ecell, ← List.append_assoc]
            exact Tells.more hp t5 hws h1 h2
        · have hz0 : ¬ 0 < z := fun q => cz (decide_eq_true q)
          have ecell : cellDue x y (((rs.length : Nat) : Int) / 2) i j z = [] := if_neg hz0
          refine ⟨_, rfl, ?_⟩
          rw [estep, ecell, List.append_nil]
          exact t5
      · rintro σ H5 ⟨y6, rfl, t5⟩
        refine ⟨_, _, rfl, ?_⟩
        show Tells H p (allDue x y (((rs.length : Nat) : Int) / 2) rs i ++ rowDue x y (((rs.length : Nat) : Int) / 2) i (rs.getD i []) (rs.getD i []).length) H5
        rw [getD_of hri, hrl]
        exact t5
    · rintro σ H3 ⟨y5, y6, rfl, t3⟩
      exact ⟨_, rfl, q p H3 hp t3⟩
/-! ### _law_cell_at -/
def cellD (ns : List Int) (i : Nat) : Int := ns.getD i 0
def spCel (K : PySem.W.Frag) : Sp := fun vs H Q _ => ∃ (a : Addr) (ns : List Int) (i : Nat), vs = [.ref a, .int ((i : Nat) : Int)] ∧ SqL K H a (ns.map V.int) ∧ Q (.int (cellD ns i)) H
theorem scCel : FnScope ["_law_script", "_law_k"] ["_law_script", "_law_k"] (defScope sCel) := ⟨rfl, rfl, rfl, by decide +kernel, rfl, by decide +kernel, by decide +kernel⟩
theorem ok_cel {f : Addr} {fd : FuncData} (F : Fun K "_law_cell_at" "_law_cell_at" sCel f fd) (T : Txt mg) : FnOk P w K mg base CX0 1 f fd ["_law_script", "_law_k"] (spCel K) := by
  refine F.ok scCel (fun vs H Q E h => ?_) (fun cdv A outer s H vs Q E hr h => ?_)
  · obtain ⟨a, ns, i, rfl, _⟩ := h
    rfl
  · obtain ⟨a, ns, i, rfl, hS, q⟩ := h
    refine ⟨_, pss_cons (ps_if (pt_cmpR op_lt (pv 1) (pe_callB call_len_seq (by rfl) T.len PySem.boot_len (pa_cons (pv 0) pa_nil)) (nomark _)) (pss_one (ps_ret (pe_ix ix_list (pv 0) (pv 1) (fun _ _ => rfl)))) pss_nil) (pss_one (ps_ret pe_int)), ?_⟩
    refine ⟨_, rfl, _, rfl, a, _, rfl, .inl hS, _, _, rfl, rfl, _, rfl, ite2 (fun c => ?_) (fun c => ?_)⟩
    · have hi : i < ns.length := by
        have c1 := of_decide_eq_true c
        rw [List.length_map] at c1
        omega
      obtain ⟨z, hz⟩ := get_of hi
      have e : cellD ns i = z := getD_of hz
      rw [e] at q
      exact ⟨_, rfl, _, rfl, a, _, _, _, rfl, rfl, hS, atI_nat (by rw [List.getElem?_map, hz]; rfl), q⟩
    · have hi : ¬ i < ns.length := fun l => c (decide_eq_true (by rw [List.length_map]; omega))
      have e : cellD ns i = 0 := by
        unfold cellD
        rw [List.getD_eq_getElem?_getD, List.getElem?_eq_none (by omega)]
        rfl
      rw [e] at q
      exact q
/-! ### _law_rows. Slots: script, wide, rows, y, row, x, cell -/
def wt (c : Int) : Int := c / 3 % 17 * (if decide (0 < c % 3) then 1 else 0)
def rowOf (ns : List Int) (n y : Nat) : List Int := (List.range n).map fun x => wt (cellD ns (2 + n * y + x))
def rowsOf (ns : List Int) (n : Nat) : List (List Int) := (List.range n).map fun y => rowOf ns n y
theorem rowOf_get {ns : List Int} {n y x : Nat} (h : x < n) : (rowOf ns n y)[x]? = some (wt (cellD ns (2 + n * y + x))) := by
  unfold rowOf
  rw [List.getElem?_map, List.getElem?_range h]
  rfl
theorem rowsOf_get {ns : List Int} {n y : Nat} (h : y < n) : (rowsOf ns n)[y]? = some (rowOf ns n y) := by
  unfold rowsOf
  rw [List.getElem?_map, List.getElem?_range h]
  rfl
theorem rowOf_len (ns : List Int) (n y : Nat) : (rowOf ns n y).length = n := by
  unfold rowOf
  rw [List.length_map, List.length_range]
theorem rowsOf_len (ns : List Int) (n : Nat) : (rowsOf ns n).length = n := by
  unfold rowsOf
  rw [List.length_map, List.length_range]
theorem wt_good (c : Int) : sixt (.int (wt c)) = true := by
  show (decide (0 ≤ wt c) && decide (wt c ≤ 16)) = true
  unfold wt
  have h1 : 0 ≤ c / 3 % 17 := Int.emod_nonneg _ (by decide)
  have h2 : c / 3 % 17 < 17 := Int.emod_lt_of_pos _ (by decide)
  split <;> simp <;> omega
def spRow (K : PySem.W.Frag) : Sp := fun vs H Q _ => ∃ (a : Addr) (ns : List Int) (n : Nat), vs = [.ref a, .int ((n : Nat) : Int)] ∧ SqL K H a (ns.map V.int) ∧ n ≤ 5 ∧
  ∀ p as H', Same H H' → H' p = some (.lst (as.map V.ref)) → ListsAt H' as ((rowsOf ns n).map fun r => r.map V.int) → Q (.ref p) H'
theorem scRow : FnScope ["_law_script", "_law_wide", "_law_rows_here", "_law_y", "_law_row", "_law_x", "_law_cell"] ["_law_script", "_law_wide"] (defScope sRow) := ⟨rfl, rfl, rfl, by decide +kernel, rfl, by decide +kernel, by decide +kernel⟩
theorem ok_row {f fC : Addr} {fd fdC : FuncData} (F : Fun K "_law_rows" "_law_rows" sRow f fd) (T : Txt mg) (FC : Fun K "_law_cell_at" "_law_cell_at" sCel fC fdC) (bC : Binds K fdC ["_law_script", "_law_k"] []) (gC : mg "_law_cell_at" = some (.ref fC)) :
    FnOk P w K mg base CX0 2 f fd ["_law_script", "_law_wide"] (spRow K) := by
  have GC : FnOk P w K mg base CX0 1 fC fdC ["_law_script", "_law_k"] (spCel K) := ok_cel FC T
  refine F.ok scRow (fun vs H Q E h => ?_) (fun cdv A outer s H vs Q E hr h => ?_)
  · obtain ⟨a, ns, n, rfl, _⟩ := h
    rfl
  · obtain ⟨a, ns, n, rfl, hS, h5, q⟩ := h
    refine ⟨_, pss_cons (ps_set (i := 2) scRow.nd rfl (Or.inl rfl) (pe_lst pa_nil))
      (pss_cons (ps_for PassesOwn.never rfl (pi_range1 (by rfl) T.range (pa_cons (pv 1) pa_nil)) (pg_name (i := 3) scRow.nd rfl (Or.inl rfl))
        (pss_cons (ps_set (i := 4) scRow.nd rfl (Or.inl rfl) (pe_lst pa_nil))
        (pss_cons (ps_for PassesOwn.never rfl (pi_range1 (by rfl) T.range (pa_cons (pv 1) pa_nil)) (pg_name (i := 5) scRow.nd rfl (Or.inl rfl))
          (pss_cons (ps_set (i := 6) scRow.nd rfl (Or.inl rfl) (pe_call GC hr (by rfl) gC FC.kp bC .nil pass0 (pa_cons (pv 0) (pa_cons (pe_op op_add (pe_op op_add pe_int (pe_op op_mul (pv 1) (pv 3))) (pv 5)) pa_nil))))
          (pss_one (ps_expr (pe_bm PySem.F.plainAttrs_list PySem.F.slot_list_append PySem.F.type_list_append mt_append (pv 4) (pa_cons
            (pe_op op_mul (pe_op op_mod (pe_op op_fdiv (pv 6) pe_int) pe_int) (pe_callTy call_int1 (by rfl) T.int boot_int (pa_cons (pe_cmpR op_gt (pe_op op_mod (pv 6) pe_int) pe_int (nomark _)) pa_nil))) pa_nil))))))
        (pss_one (ps_expr (pe_bm PySem.F.plainAttrs_list PySem.F.slot_list_append PySem.F.type_list_append mt_append (pv 2) (pa_cons (pv 4) pa_nil)))))))
      (pss_one (ps_ret (pv 2)))), ?_⟩
    refine ⟨Nat.zero_le _, fun p hp => ?_⟩
    refine ⟨_, rfl, _, rfl, by omega, by omega, for_range (lo := 0) (n := n) (fun i σ H3 => ∃ y3 y4 y5 y6 as, σ = [some (.ref a), some (.int ((n : Nat) : Int)), some (.ref p), y3, y4, y5, y6] ∧ Same H H3 ∧ H3 p = some (.lst (as.map V.ref)) ∧ as.length = i ∧
        (∀ b ∈ as, b ≠ p ∧ H b = none) ∧ ∀ (j : Nat) (b : Addr), as[j]? = some b → H3 b = some (.lst ((rowOf ns n j).map V.int)))
      ⟨none, none, none, none, [], rfl, same_upd hp, upd_same, rfl, fun b hb => (by cases hb), fun j b hb => (by simp at hb)⟩ ?_ ?_⟩
    · rintro i σ H3 hi ⟨y3, y4, y5, y6, as, rfl, s3, ep, el, hbs, hat⟩
      rw [Int.zero_add]
      refine ⟨Nat.zero_le _, fun r hr' => ?_⟩
      have npr : p ≠ r := ne_of_none ep hr'
      refine ⟨_, rfl, _, rfl, by omega, by omega, for_range (lo := 0) (n := n) (fun j σ H4 => ∃ y5 y6, σ = [some (.ref a), some (.int ((n : Nat) : Int)), some (.ref p), some (.int ((i : Nat) : Int)), some (.ref r), y5, y6] ∧ H4 = upd H3 r (.lst (((rowOf ns n i).take j).map V.int)))
        ⟨_, _, rfl, rfl⟩ ?_ ?_⟩
      · rintro j σ H4 hj ⟨y5, y6, rfl, rfl⟩
        rw [Int.zero_add]
        have hS4 : SqL K (upd H3 r (.lst (((rowOf ns n i).take j).map V.int))) a (ns.map V.int) := (s3.trans (same_upd hr')).seq hS
        refine ⟨_, rfl, _, rfl, _, rfl, _, _, rfl, rfl, .inl ⟨by omega, by omega⟩, _, _, rfl, rfl, _, rfl, _, _, rfl, rfl, ?_⟩
        have ek : (2 + ((n : Nat) : Int) * ((i : Nat) : Int) + ((j : Nat) : Int)) = ((2 + n * i + j : Nat) : Int) := by
          rw [Int.natCast_add, Int.natCast_add, Int.natCast_mul]
          rfl
        refine ⟨a, ns, 2 + n * i + j, (by show [V.ref a, V.int (2 + ((n : Nat) : Int) * ((i : Nat) : Int) + ((j : Nat) : Int))] = [V.ref a, V.int ((2 + n * i + j : Nat) : Int)]; rw [ek]), hS4, ?_⟩
        -- row.append(..)
        refine ⟨_, rfl, .inl ⟨rfl, _, SqL.of upd_same⟩, ?_⟩
        have m1 : 0 ≤ cellD ns (2 + n * i + j) / 3 % 17 := Int.emod_nonneg _ (by decide)
        have m2 : cellD ns (2 + n * i + j) / 3 % 17 < 17 := Int.emod_lt_of_pos _ (by decide)
        refine ⟨_, rfl, _, _, rfl, rfl, ⟨by decide, by decide⟩, _, _, rfl, rfl, (by show (0 : Int) < 17; decide), _, rfl, _, _, rfl, rfl, (by show (0 : Int) < 3; decide), _, _, rfl, rfl, .inr ⟨_, rfl, ?_⟩⟩
        refine ⟨_, _, rfl, rfl, .inl ⟨by omega, by omega⟩, ?_⟩
        refine ⟨r, _, _, rfl, rfl, upd_same, ?_, _, _, rfl, ?_⟩
        · rw [List.length_map, List.length_take, rowOf_len]
          exact small1000 (by omega)
        · rw [upd_upd, take_more (rowOf_get hj), List.map_append]
          rfl
      · rintro σ H4 ⟨y5, y6, rfl, rfl⟩
        have et : (rowOf ns n i).take n = rowOf ns n i := List.take_of_length_le (by rw [rowOf_len]; exact Nat.le_refl _)
        rw [et]
        have u := same_upd (o := .lst ((rowOf ns n i).map V.int)) hr'
        refine ⟨_, rfl, .inl ⟨rfl, _, SqL.of (u _ _ ep)⟩, _, rfl, p, _, _, rfl, rfl, u _ _ ep, ?_, ?_⟩
        · rw [List.length_map, el]
          exact small1000 (by omega)
        · refine ⟨_, _, _, _, as ++ [r], rfl, fun b o e => ?_, ?_, ?_, fun b hb => ?_, fun j b hj => ?_⟩
          · rw [upd_ne (ne_of_none e hp)]
            exact u _ _ (s3 _ _ e)
          · rw [upd_same, List.map_append]
            rfl
          · rw [List.length_append, el]
            rfl
          · rcases List.mem_append.mp hb with hb | hb
            · exact hbs b hb
            · have e : b = r := by simpa using hb
              rw [e]
              exact ⟨npr.symm, s3.free hr'⟩
          · by_cases hji : j < as.length
            · rw [List.getElem?_append_left hji] at hj
              rw [upd_ne (hbs b (List.mem_of_getElem? hj)).1]
              exact u _ _ (hat j b hj)
            · have ej : j = as.length := by
                have := lt_of_some hj
                rw [List.length_append] at this
                have e1 : ([r] : List Addr).length = 1 := rfl
                omega
              subst ej
              rw [List.getElem?_append_right (Nat.le_refl _), Nat.sub_self] at hj
              have e : r = b := Option.some.inj hj
              subst e
              rw [upd_ne npr.symm, upd_same, el]
    · rintro σ H3 ⟨y3, y4, y5, y6, as, rfl, s3, ep, el, hbs, hat⟩
      refine ⟨_, rfl, q p as H3 s3 ep ⟨by rw [List.length_map, rowsOf_len, el], fun j b vs hj hv => ?_⟩⟩
      have hjn : j < n := by
        have := lt_of_some hj
        omega
      rw [List.getElem?_map, rowsOf_get hjn] at hv
      have e : (rowOf ns n j).map V.int = vs := Option.some.inj hv
      rw [← e]
      exact hat j b hj
end
/-! ### lists of ints as rows -/
abbrev vRows (rs : List (List Int)) : List (List V) := rs.map fun r => r.map V.int
theorem flat_ints (r : List Int) (H : Hp) : ∀ x ∈ r.map V.int, CV H x := fun x hx => by
  obtain ⟨z, _, rfl⟩ := List.mem_map.mp hx
  exact .inl rfl
theorem rowD_ints {K : PySem.W.Frag} {H : Hp} {b : Addr} {r : List Int} (h : H b = some (.lst (r.map V.int))) : RowD K H (.ref b) (some (r.map V.int)) := ⟨b, rfl, SqL.of h, flat_ints r H⟩
theorem ListsAt.mono {H H' : Hp} {bs : List Addr} {vss : List (List V)} (s : Same H H') (h : ListsAt H bs vss) : ListsAt H' bs vss := ⟨h.len, fun i b vs h1 h2 => s _ _ (h.at_ i b vs h1 h2)⟩
/-- the rows' description -/
abbrev dRows (rs : List (List Int)) : List (Option (List V)) := rs.map fun r => some (r.map V.int)
theorem rowsD_ints {K : PySem.W.Frag} {H : Hp} {as : List Addr} {rs : List (List Int)} (hA : ListsAt H as (vRows rs)) : ∀ (i : Nat) (u : V) (d : Option (List V)), (as.map V.ref)[i]? = some u → (dRows rs)[i]? = some d → RowD K H u d := fun i u d hu hd => by
  rw [List.getElem?_map] at hu hd
  cases e : as[i]? with
  | none =>
    rw [e] at hu
    cases hu
  | some b =>
    rw [e] at hu
    cases e2 : rs[i]? with
    | none =>
      rw [e2] at hd
      cases hd
    | some r =>
      rw [e2] at hd
      have e3 : V.ref b = u := Option.some.inj hu
      have e4 : some (r.map V.int) = d := Option.some.inj hd
      subst e3 e4
      exact rowD_ints (hA.at_ i b _ e (by rw [List.getElem?_map, e2]; rfl))
/-- one row put otherwise, and ill -/
theorem bad_set {K : PySem.W.Frag} {H : Hp} {p : Addr} {as : List Addr} {rs : List (List Int)} {k : Nat} {v : V} {d : Option (List V)} (hp : H p = some (.lst ((as.map V.ref).set k v))) (hA : ListsAt H as (vRows rs)) (hk : k < rs.length) (hv : RowD K H v d)
    (hd : rowOk rs.length d = false) (hs : rs.length < 1000) (hr : ∀ r ∈ rs, r.length < 1000) (hds : ∀ xs, d = some xs → xs.length < 1000) : Bad K H (.ref p) := by
  have hlen : as.length = rs.length := by rw [hA.len, List.length_map]
  have hdl : ((dRows rs).set k d).length = rs.length := by rw [List.length_set, List.length_map]
  refine ⟨some ((dRows rs).set k d), ⟨p, _, rfl, SqL.of hp, by rw [List.length_set, List.length_map, hdl, hlen], fun i u e hu he => ?_⟩, ?_, ?_⟩
  · by_cases hi : k = i
    · subst hi
      rw [List.getElem?_set_self (by rw [List.length_map, hlen]; exact hk)] at hu
      rw [List.getElem?_set_self (by rw [List.length_map]; exact hk)] at he
      have e1 : v = u := Option.some.inj hu
      have e2 : d = e := Option.some.inj he
      subst e1 e2
      exact hv
    · rw [List.getElem?_set_ne hi] at hu he
      exact rowsD_ints hA i u e hu he
  · intro ds e
    have e' : (dRows rs).set k d = ds := Option.some.inj e
    subst e'
    refine ⟨by rw [hdl]; exact hs, fun xs hx => ?_⟩
    rcases List.mem_or_eq_of_mem_set hx with hx | hx
    · obtain ⟨r, hr1, hr2⟩ := List.mem_map.mp hx
      have e3 : r.map V.int = xs := Option.some.inj hr2
      rw [← e3, List.length_map]
      exact hr r hr1
    · exact hds xs hx.symm
  · show (wide3 ((dRows rs).set k d).length && ((dRows rs).set k d).all (rowOk ((dRows rs).set k d).length)) = false
    rw [hdl]
    have hg : ((dRows rs).set k d)[k]? = some d := List.getElem?_set_self (by rw [List.length_map]; exact hk)
    rw [all_false hg hd, Bool.and_false]
/-- a number of rows that is none of 1, 3, 5 -/
theorem bad_len {K : PySem.W.Frag} {H : Hp} {p : Addr} {vs : List V} {ds : List (Option (List V))} (hp : H p = some (.lst vs)) (hl : vs.length = ds.length) (hr : ∀ (i : Nat) (u : V) (d : Option (List V)), vs[i]? = some u → ds[i]? = some d → RowD K H u d) (hs : ds.length < 1000) (hx : ∀ xs, some xs ∈ ds → xs.length < 1000) (hw : wide3 ds.length = false) : Bad K H (.ref p) :=
  ⟨some ds, ⟨p, vs, rfl, SqL.of hp, hl, hr⟩, fun ds' e => by
    have e' : ds = ds' := Option.some.inj e
    subst e'
    exact ⟨hs, hx⟩, by show (wide3 ds.length && ds.all (rowOk ds.length)) = false; rw [hw, Bool.false_and]⟩
theorem bad_flat {K : PySem.W.Frag} {H : Hp} {v : V} (h : flatV v = true) : Bad K H v := ⟨none, h, fun _ e => (by cases e), rfl⟩
/-! ### slices -/
theorem cut_to (xs : List V) {k : Nat} (h : k ≤ xs.length) : cutV xs none (some ((k : Nat) : Int)) = xs.take k := by
  unfold cutV
  rw [HT.sIx_none, HT.sIx_nat, Nat.min_eq_left h, Nat.sub_zero]
  rfl
theorem cut_from (xs : List V) {k : Nat} (h : k ≤ xs.length) : cutV xs (some ((k : Nat) : Int)) none = xs.drop k := by
  unfold cutV
  rw [HT.sIx_none, HT.sIx_nat, Nat.min_eq_left h]
  exact List.take_of_length_le (by rw [List.length_drop]; exact Nat.le_refl _)
theorem put_is {xs : List V} {k : Nat} {v : V} (h : k < xs.length) : xs.take k ++ [v] ++ xs.drop (k + 1) = xs.set k v := by
  rw [List.set_eq_take_append_cons_drop, if_pos h, List.append_assoc]
  rfl
/-- rows[:at] + [X] + rows[at + 1:], the reading: rows in slot 0, at in slot 3; G: what is known of X's value -/
theorem read_put {K : PySem.W.Frag} {tX : TE} {σ : L2.St} {H : Hp} {Q : VK} {a : Addr} {k : Nat} {xs : List V} (G : V → Hp → Prop) (h0 : σ[0]? = some (some (.ref a))) (h3 : σ[3]? = some (some (.int ((k : Nat) : Int)))) (ha : H a = some (.lst xs)) (hk : k < xs.length)
    (hl : xs.length < 1000) (hX : ∀ H1 Q', Same H H1 → (∀ v H2, Same H1 H2 → G v H2 → Q' v H2) → tX σ H1 Q') (hQ : ∀ v H2 p H', G v H2 → Same H H' → Same H2 H' → H' p = some (.lst (xs.set k v)) → Q (.ref p) H') :
    tOp rCat (tOp rCat (tSl (rSlL K) (tVar 0) tNoPart (tPart (tVar 3))) (tLst (tCons tX tNil))) (tSl (rSlL K) (tVar 0) (tPart (tOp (rI0 fun i j => .int (i + j)) (tVar 3) (tC (.int 1)))) tNoPart) σ H Q := by
  have lt : xs.length < sizeLine := small1000 (Nat.le_of_lt hl)
  have lt' : xs.length ≤ 999 := by omega
  refine ⟨_, h0, _, h3, _, rfl, a, xs, rfl, SqL.of ha, fun p1 n1 => ?_⟩
  rw [cut_to xs (Nat.le_of_lt hk)]
  have u1 : Same H (upd H p1 (.lst (xs.take k))) := same_upd n1
  -- [X]
  refine hX _ _ u1 fun v H2 s2 g => ?_
  refine ⟨(by show 1 ≤ sizeLine; decide), fun p2 n2 => ?_⟩
  have u2 : Same H2 (upd H2 p2 (.lst [v])) := same_upd n2
  have e1 := s2 _ _ (upd_same (H := H) (a := p1) (o := .lst (xs.take k)))
  refine ⟨p1, p2, _, _, rfl, rfl, u2 _ _ e1, upd_same, ?_, fun p3 n3 => ?_⟩
  · rw [List.length_take]
    have : ([v] : List V).length = 1 := rfl
    exact Nat.le_of_lt (small1000 (by omega))
  have u3 : Same (upd H2 p2 (.lst [v])) (upd (upd H2 p2 (.lst [v])) p3 (.lst (xs.take k ++ [v]))) := same_upd n3
  have s3 : Same H (upd (upd H2 p2 (.lst [v])) p3 (.lst (xs.take k ++ [v]))) := ((u1.trans s2).trans u2).trans u3
  have ek : ((k : Nat) : Int) + 1 = ((k + 1 : Nat) : Int) := by omega
  refine ⟨_, h0, _, h3, _, _, rfl, rfl, _, rfl, a, xs, rfl, SqL.of (s3 _ _ ha), fun p4 n4 => ?_⟩
  rw [ek, cut_from xs (by omega)]
  have u4 : Same (upd (upd H2 p2 (.lst [v])) p3 (.lst (xs.take k ++ [v]))) (upd (upd (upd H2 p2 (.lst [v])) p3 (.lst (xs.take k ++ [v]))) p4 (.lst (xs.drop (k + 1)))) := same_upd n4
  refine ⟨p3, p4, _, _, rfl, rfl, u4 _ _ upd_same, upd_same, ?_, fun p5 n5 => ?_⟩
  · rw [List.length_append, List.length_take, List.length_drop]
    have : ([v] : List V).length = 1 := rfl
    exact Nat.le_of_lt (small1000 (by omega))
  rw [put_is hk]
  have u5 := same_upd (o := .lst (xs.set k v)) n5
  exact hQ v H2 p5 _ g ((s3.trans u4).trans u5) (((u2.trans u3).trans u4).trans u5) upd_same
/-- the spoilt cell's thing -/
def Ill (v : V) (H : Hp) : Prop := CV H v ∧ sixt v = false
theorem ill_hi {z : Int} {H : Hp} (h : 16 < z) : Ill (.int z) H := ⟨.inl rfl, by
  show (decide (0 ≤ z) && decide (z ≤ 16)) = false
  rw [decide_eq_false (by omega : ¬ z ≤ 16), Bool.and_false]⟩
theorem ill_lo {z : Int} {H : Hp} (h : z < 0) : Ill (.int z) H := ⟨.inl rfl, by
  show (decide (0 ≤ z) && decide (z ≤ 16)) = false
  rw [decide_eq_false (by omega : ¬ 0 ≤ z), Bool.false_and]⟩
theorem nat_of {z : Int} {n : Nat} (h0 : 0 ≤ z) (h1 : z < n) : ∃ m : Nat, z = (m : Int) ∧ m < n := ⟨z.toNat, by omega, by omega⟩
theorem mod_nat (c : Int) {n : Nat} (hn : 0 < n) : ∃ m : Nat, c % ((n : Nat) : Int) = (m : Int) ∧ m < n :=
  nat_of (Int.emod_nonneg _ (by omega)) (Int.emod_lt_of_pos _ (by omega))
theorem wide3_pos {n : Nat} (h : wide3 n = true) : 0 < n ∧ n ≤ 5 := by
  have h' : (n == 1 || n == 3 || n == 5) = true := h
  simp only [Bool.or_eq_true, beq_iff_eq] at h'
  omega
theorem wide3_no1 {n : Nat} (h : wide3 n = true) : wide3 (n + 1) = false ∧ wide3 (n - 1) = false := by
  have h' : (n == 1 || n == 3 || n == 5) = true := h
  simp only [Bool.or_eq_true, beq_iff_eq] at h'
  rcases h' with (rfl | rfl) | rfl <;> exact ⟨rfl, rfl⟩
section
variable {P : Program} {w : World} {K : PySem.W.Frag} {mg : Str → Option Value} {base : Heap}
/-! ### _law_spoilt. Slots: rows, cell, wide, at, place, thing, row -/
def spSpo (K : PySem.W.Frag) : Sp := fun vs H Q _ => ∃ (p : Addr) (as : List Addr) (rs : List (List Int)) (c : Int), vs = [.ref p, .int c] ∧ H p = some (.lst (as.map V.ref)) ∧ ListsAt H as (vRows rs) ∧ wide3 rs.length = true ∧ (∀ r ∈ rs, r.length = rs.length) ∧
  ∀ v H', Same H H' → Bad K H' v → Q v H'
theorem scSpo : FnScope ["_law_rows_here", "_law_cell", "_law_wide", "_law_at", "_law_place", "_law_thing", "_law_row"] ["_law_rows_here", "_law_cell"] (defScope sSpo) := ⟨rfl, rfl, rfl, by decide +kernel, rfl, by decide +kernel, by decide +kernel⟩
theorem ok_spo {f : Addr} {fd : FuncData} (F : Fun K "_law_spoilt" "_law_spoilt" sSpo f fd) (T : Txt mg) : FnOk P w K mg base CX0 1 f fd ["_law_rows_here", "_law_cell"] (spSpo K) := by
  refine F.ok scSpo (fun vs H Q E h => ?_) (fun cdv A outer s H vs Q E hr h => ?_)
  · obtain ⟨p, as, rs, c, rfl, _⟩ := h
    rfl
  · obtain ⟨p, as, rs, c, rfl, hp, hA, hw, hsq, q⟩ := h
    refine ⟨_, pss_cons (ps_set (i := 2) scSpo.nd rfl (Or.inl rfl) (pe_callB call_len_seq (by rfl) T.len PySem.boot_len (pa_cons (pv 0) pa_nil)))
      (pss_cons (ps_set (i := 3) scSpo.nd rfl (Or.inl rfl) (pe_op op_mod (pe_op op_fdiv (pv 1) pe_int) (pv 2)))
      (pss_cons (ps_if (pt_cmpR op_eq (pe_op op_mod (pv 1) pe_int) pe_int (nomark _)) (pss_one (ps_ret (pe_op op_cat (pv 0) (pe_lst (pa_cons (pe_callTy call_list_of (by rfl) T.list boot_list (pa_cons (pe_ix ix_list (pv 0) pe_int (fun _ _ => rfl)) pa_nil)) pa_nil))))) pss_nil)
      (pss_cons (ps_if (pt_cmpR op_eq (pe_op op_mod (pv 1) pe_int) pe_int (nomark _)) (pss_one (ps_ret (pe_slice sl_list (pv 0) (po_some pe_int) po_none))) pss_nil)
      (pss_cons (ps_if (pt_cmpR op_eq (pe_op op_mod (pv 1) pe_int) pe_int (nomark _)) (pss_one (ps_ret (pe_op op_cat (pe_op op_cat (pe_slice sl_list (pv 0) po_none (po_some (pv 3))) (pe_lst (pa_cons
          (pe_op op_cat (pe_ix ix_list (pv 0) (pv 3) (fun _ _ => rfl)) (pe_lst (pa_cons pe_int pa_nil))) pa_nil))) (pe_slice sl_list (pv 0) (po_some (pe_op op_add (pv 3) pe_int)) po_none)))) pss_nil)
      (pss_cons (ps_if (pt_cmpR op_eq (pe_op op_mod (pv 1) pe_int) pe_int (nomark _)) (pss_one (ps_ret (pe_op op_cat (pe_op op_cat (pe_slice sl_list (pv 0) po_none (po_some (pv 3))) (pe_lst (pa_cons
          (pe_slice sl_list (pe_ix ix_list (pv 0) (pv 3) (fun _ _ => rfl)) (po_some pe_int) po_none) pa_nil))) (pe_slice sl_list (pv 0) (po_some (pe_op op_add (pv 3) pe_int)) po_none)))) pss_nil)
      (pss_cons (ps_if (pt_cmpR op_eq (pe_op op_mod (pv 1) pe_int) pe_int (nomark _)) (pss_one (ps_ret (pe_op op_cat (pe_op op_cat (pe_slice sl_list (pv 0) po_none (po_some (pv 3))) (pe_lst (pa_cons
          (pe_ix ix_list (pe_lst (pa_cons pe_non (pa_cons pe_int (pa_cons pe_str (pa_cons pe_bl pa_nil))))) (pe_op op_mod (pe_op op_fdiv (pv 1) pe_int) pe_int) (fun _ _ => rfl)) pa_nil))) (pe_slice sl_list (pv 0) (po_some (pe_op op_add (pv 3) pe_int)) po_none)))) pss_nil)
      (pss_cons (ps_if (pt_cmpR op_eq (pe_op op_mod (pv 1) pe_int) pe_int (nomark _)) (pss_one (ps_ret
          (pe_ix ix_list (pe_lst (pa_cons pe_non (pa_cons pe_int (pa_cons pe_bl (pa_cons (pe_lst pa_nil) pa_nil))))) (pe_op op_mod (pe_op op_fdiv (pv 1) pe_int) pe_int) (fun _ _ => rfl)))) pss_nil)
      (pss_cons (ps_set (i := 4) scSpo.nd rfl (Or.inl rfl) (pe_op op_mod (pe_op op_fdiv (pv 1) pe_int) (pv 2)))
      (pss_cons (ps_set (i := 5) scSpo.nd rfl (Or.inl rfl) (pe_ix ix_list (pe_lst (pa_cons (pe_op op_add pe_int (pe_op op_mod (pe_op op_fdiv (pv 1) pe_int) (pe_op op_pow pe_int pe_int)))
          (pa_cons (pe_op op_sub (pe_op op_sub pe_int pe_int) (pe_op op_mod (pe_op op_fdiv (pv 1) pe_int) pe_int)) (pa_cons pe_bl (pa_cons pe_str (pa_cons pe_non (pa_cons (pe_tup (pa_cons pe_int (pa_cons pe_int pa_nil))) pa_nil)))))))
          (pe_op op_mod (pe_op op_fdiv (pv 1) pe_int) pe_int) (fun _ _ => rfl)))
      (pss_cons (ps_set (i := 6) scSpo.nd rfl (Or.inl rfl) (pe_callTy call_list_of (by rfl) T.list boot_list (pa_cons (pe_ix ix_list (pv 0) (pv 3) (fun _ _ => rfl)) pa_nil)))
      (pss_cons (ps_asg (pv 5) (pg_sub (pv 6) (pv 4) set_list))
      (pss_one (ps_ret (pe_op op_cat (pe_op op_cat (pe_slice sl_list (pv 0) po_none (po_some (pv 3))) (pe_lst (pa_cons (pv 6) pa_nil))) (pe_slice sl_list (pv 0) (po_some (pe_op op_add (pv 3) pe_int)) po_none))))))))))))))), ?_⟩
    obtain ⟨n0, n5⟩ := wide3_pos hw
    have hlen : as.length = rs.length := by rw [hA.len, List.length_map]
    have hla : (as.map V.ref).length = rs.length := by rw [List.length_map, hlen]
    have hs : rs.length < 1000 := by omega
    have hr1 : ∀ r ∈ rs, r.length < 1000 := fun r hr => by rw [hsq r hr]; exact hs
    -- wide, at
    refine ⟨_, rfl, p, _, rfl, .inl (SqL.of hp), ?_⟩
    rw [hla]
    refine ⟨_, rfl, _, _, rfl, rfl, ⟨by decide, by decide⟩, _, rfl, _, _, rfl, rfl, (by show (0 : Int) < ((rs.length : Nat) : Int); omega), ?_⟩
    obtain ⟨k, ek, hk⟩ := mod_nat (c / 8) n0
    show gName 3 (V.int (c / 8 % ((rs.length : Nat) : Int))) _ _ _
    rw [ek]
    obtain ⟨b, hb⟩ := get_of (l := as) (i := k) (by rw [hlen]; exact hk)
    obtain ⟨r, hr⟩ := get_of hk
    have hrl : r.length = rs.length := hsq r (List.mem_of_getElem? hr)
    have hrow : H b = some (.lst (r.map V.int)) := hA.at_ k b _ hb (by rw [List.getElem?_map, hr]; rfl)
    have hbk : (as.map V.ref)[k]? = some (.ref b) := by rw [List.getElem?_map, hb]; rfl
    have hk' : k < (as.map V.ref).length := by rw [hla]; exact hk
    have hl' : (as.map V.ref).length < 1000 := by rw [hla]; exact hs
    -- 0: a row more
    refine ⟨_, rfl, _, _, rfl, rfl, (by show (0 : Int) < 8; decide), rfl, _, rfl, ite2 (fun _ => ?_) (fun _ => ?_)⟩
    · obtain ⟨b0, hb0⟩ := get_of (l := as) (i := 0) (by rw [hlen]; exact n0)
      obtain ⟨r0, hr0⟩ := get_of n0
      have hrow0 : H b0 = some (.lst (r0.map V.int)) := hA.at_ 0 b0 _ hb0 (by rw [List.getElem?_map, hr0]; rfl)
      have hb0' : (as.map V.ref)[0]? = some (.ref b0) := by rw [List.getElem?_map, hb0]; rfl
      refine ⟨_, rfl, _, rfl, p, _, 0, _, rfl, rfl, SqL.of hp, atI_nat (j := 0) hb0', b0, _, rfl, .inl (SqL.of hrow0), fun l nl => ?_⟩
      have u1 := same_upd (o := .lst (r0.map V.int)) nl
      refine ⟨(by show 1 ≤ sizeLine; decide), fun l2 nl2 => ?_⟩
      have u2 := same_upd (o := .lst [V.ref l]) nl2
      refine ⟨p, l2, _, _, rfl, rfl, u2 _ _ (u1 _ _ hp), upd_same, ?_, fun p3 n3 => ?_⟩
      · have : ([V.ref l] : List V).length = 1 := rfl
        exact Nat.le_of_lt (small1000 (by omega))
      · have u3 := same_upd (o := .lst (as.map V.ref ++ [V.ref l])) n3
        have s3 := (u1.trans u2).trans u3
        have hl3 := u3 _ _ (u2 _ _ (upd_same (H := H) (a := l) (o := .lst (r0.map V.int))))
        refine q _ _ s3 (bad_len (vs := as.map V.ref ++ [V.ref l]) (ds := dRows rs ++ [some (r0.map V.int)]) upd_same ?_ ?_ ?_ ?_ ?_)
        · rw [List.length_append, List.length_append, hla, List.length_map]
          rfl
        · intro i u d hu hd
          by_cases hi : i < rs.length
          · rw [List.getElem?_append_left (by rw [hla]; exact hi)] at hu
            rw [List.getElem?_append_left (by rw [List.length_map]; exact hi)] at hd
            exact rowsD_ints (hA.mono s3) i u d hu hd
          · have hi2 : i = rs.length := by
              have := lt_of_some hu
              rw [List.length_append, hla] at this
              have e1 : ([V.ref l] : List V).length = 1 := rfl
              omega
            rw [List.getElem?_append_right (by rw [hla]; omega), hla, hi2, Nat.sub_self] at hu
            rw [List.getElem?_append_right (by rw [List.length_map]; omega), List.length_map, hi2, Nat.sub_self] at hd
            have e1 : V.ref l = u := Option.some.inj hu
            have e2 : some (r0.map V.int) = d := Option.some.inj hd
            subst e1 e2
            exact rowD_ints hl3
        · rw [List.length_append, List.length_map]
          have : ([some (r0.map V.int)] : List (Option (List V))).length = 1 := rfl
          omega
        · intro xs hx
          rcases List.mem_append.mp hx with hx | hx
          · obtain ⟨r', h1, h2⟩ := List.mem_map.mp hx
            have e3 : r'.map V.int = xs := Option.some.inj h2
            rw [← e3, List.length_map]
            exact hr1 r' h1
          · have e3 : xs = r0.map V.int := by simpa using hx
            rw [e3, List.length_map]
            exact hr1 r0 (List.mem_of_getElem? hr0)
        · rw [List.length_append, List.length_map]
          exact (wide3_no1 hw).1
    -- 1: a row less
    refine ⟨_, rfl, _, _, rfl, rfl, (by show (0 : Int) < 8; decide), rfl, _, rfl, ite2 (fun _ => ?_) (fun _ => ?_)⟩
    · refine ⟨_, rfl, 1, rfl, p, _, rfl, SqL.of hp, fun p1 n1 => ?_⟩
      rw [show cutV (as.map V.ref) (some 1) none = (as.map V.ref).drop 1 from cut_from (as.map V.ref) (k := 1) (by rw [hla]; exact n0)]
      have u1 := same_upd (o := .lst ((as.map V.ref).drop 1)) n1
      refine q _ _ u1 (bad_len (vs := (as.map V.ref).drop 1) (ds := (dRows rs).drop 1) upd_same ?_ ?_ ?_ ?_ ?_)
      · rw [List.length_drop, List.length_drop, hla, List.length_map]
      · intro i u d hu hd
        rw [List.getElem?_drop] at hu hd
        exact rowsD_ints (hA.mono u1) _ u d hu hd
      · rw [List.length_drop, List.length_map]
        omega
      · intro xs hx
        obtain ⟨r', h1, h2⟩ := List.mem_map.mp (List.mem_of_mem_drop hx)
        have e3 : r'.map V.int = xs := Option.some.inj h2
        rw [← e3, List.length_map]
        exact hr1 r' h1
      · rw [List.length_drop, List.length_map]
        exact (wide3_no1 hw).2
    -- 2: a weight more in a row
    refine ⟨_, rfl, _, _, rfl, rfl, (by show (0 : Int) < 8; decide), rfl, _, rfl, ite2 (fun _ => ?_) (fun _ => ?_)⟩
    · refine read_put (fun v H2 => ∃ l, v = .ref l ∧ H2 l = some (.lst ((r ++ [3]).map V.int))) rfl rfl hp hk' hl' (fun H1 Q' s1 hQ' => ?_) (fun v H2 p' H' ⟨l, e, hl⟩ s1 s2 hp' => ?_)
      · refine ⟨_, rfl, _, rfl, p, _, _, _, rfl, rfl, SqL.of (s1 _ _ hp), atI_nat hbk, (by show 1 ≤ sizeLine; decide), fun l1 n1 => ?_⟩
        have u1 := same_upd (o := .lst [V.int 3]) n1
        refine ⟨b, l1, _, _, rfl, rfl, u1 _ _ (s1 _ _ hrow), upd_same, ?_, fun l2 n2 => ?_⟩
        · rw [List.length_map]
          have : ([V.int 3] : List V).length = 1 := rfl
          exact Nat.le_of_lt (small1000 (by omega))
        · refine hQ' _ _ (u1.trans (same_upd n2)) ⟨l2, rfl, ?_⟩
          rw [upd_same, List.map_append]
          rfl
      · subst e
        refine q _ _ s1 (bad_set (k := k) (v := V.ref l) (d := some ((r ++ [3]).map V.int)) hp' (hA.mono s1) hk (rowD_ints (s2 _ _ hl)) ?_ hs hr1 ?_)
        · show (decide (((r ++ [3]).map V.int).length = rs.length) && _) = false
          rw [decide_eq_false, Bool.false_and]
          rw [List.length_map, List.length_append, hrl]
          have : ([3] : List Int).length = 1 := rfl
          omega
        · intro xs e
          have e' : (r ++ [3]).map V.int = xs := Option.some.inj e
          rw [← e', List.length_map, List.length_append]
          have : ([3] : List Int).length = 1 := rfl
          omega
    -- 3: a weight less in a row
    refine ⟨_, rfl, _, _, rfl, rfl, (by show (0 : Int) < 8; decide), rfl, _, rfl, ite2 (fun _ => ?_) (fun _ => ?_)⟩
    · refine read_put (fun v H2 => ∃ l, v = .ref l ∧ H2 l = some (.lst ((r.drop 1).map V.int))) rfl rfl hp hk' hl' (fun H1 Q' s1 hQ' => ?_) (fun v H2 p' H' ⟨l, e, hl⟩ s1 s2 hp' => ?_)
      · refine ⟨_, rfl, _, rfl, p, _, _, _, rfl, rfl, SqL.of (s1 _ _ hp), atI_nat hbk, 1, rfl, b, _, rfl, SqL.of (s1 _ _ hrow), fun l1 n1 => ?_⟩
        refine hQ' _ _ (same_upd n1) ⟨l1, rfl, ?_⟩
        rw [upd_same, show cutV (r.map V.int) (some 1) none = (r.map V.int).drop 1 from cut_from (r.map V.int) (k := 1) (by rw [List.length_map, hrl]; exact n0), List.map_drop]
      · subst e
        refine q _ _ s1 (bad_set (k := k) (v := V.ref l) (d := some ((r.drop 1).map V.int)) hp' (hA.mono s1) hk (rowD_ints (s2 _ _ hl)) ?_ hs hr1 ?_)
        · show (decide (((r.drop 1).map V.int).length = rs.length) && _) = false
          rw [decide_eq_false, Bool.false_and]
          rw [List.length_map, List.length_drop, hrl]
          omega
        · intro xs e
          have e' : (r.drop 1).map V.int = xs := Option.some.inj e
          rw [← e', List.length_map, List.length_drop]
          omega
    -- 4: a row that is none
    refine ⟨_, rfl, _, _, rfl, rfl, (by show (0 : Int) < 8; decide), rfl, _, rfl, ite2 (fun _ => ?_) (fun _ => ?_)⟩
    · refine read_put (fun v H2 => flatV v = true) rfl rfl hp hk' hl' (fun H1 Q' s1 hQ' => ?_) (fun v H2 p' H' hf s1 s2 hp' => ?_)
      · refine ⟨(by show 4 ≤ sizeLine; decide), fun L nL => ⟨_, rfl, _, _, rfl, rfl, ⟨by decide, by decide⟩, _, _, rfl, rfl, (by show (0 : Int) < 4; decide), ?_⟩⟩
        obtain ⟨m, em, hm⟩ := mod_nat (c / 40) (n := 4) (by decide)
        have em' : c / 40 % 4 = (m : Int) := em
        match m, hm with
        | 0, _ => exact ⟨L, _, _, _, rfl, congrArg V.int em', SqL.of upd_same, atI_nat (j := 0) rfl, hQ' _ _ (same_upd nL) rfl⟩
        | 1, _ => exact ⟨L, _, _, _, rfl, congrArg V.int em', SqL.of upd_same, atI_nat (j := 1) rfl, hQ' _ _ (same_upd nL) rfl⟩
        | 2, _ => exact ⟨L, _, _, _, rfl, congrArg V.int em', SqL.of upd_same, atI_nat (j := 2) rfl, hQ' _ _ (same_upd nL) rfl⟩
        | 3, _ => exact ⟨L, _, _, _, rfl, congrArg V.int em', SqL.of upd_same, atI_nat (j := 3) rfl, hQ' _ _ (same_upd nL) rfl⟩
      · exact q _ _ s1 (bad_set (k := k) (v := v) (d := none) hp' (hA.mono s1) hk hf rfl hs hr1 (fun _ e => by cases e))
    -- 5: no rows at all
    refine ⟨_, rfl, _, _, rfl, rfl, (by show (0 : Int) < 8; decide), rfl, _, rfl, ite2 (fun _ => ?_) (fun _ => ?_)⟩
    · refine ⟨Nat.zero_le _, fun L0 nL0 => ⟨(by show 4 ≤ sizeLine; decide), fun L nL => ⟨_, rfl, _, _, rfl, rfl, ⟨by decide, by decide⟩, _, _, rfl, rfl, (by show (0 : Int) < 4; decide), ?_⟩⟩⟩
      have u0 := same_upd (o := .lst []) nL0
      have s1 : Same H (upd (upd H L0 (.lst [])) L (.lst [V.non, V.int 5, V.bl true, V.ref L0])) := u0.trans (same_upd nL)
      obtain ⟨m, em, hm⟩ := mod_nat (c / 8) (n := 4) (by decide)
      have em' : c / 8 % 4 = (m : Int) := em
      match m, hm with
      | 0, _ => exact ⟨L, _, _, _, rfl, congrArg V.int em', SqL.of upd_same, atI_nat (j := 0) rfl, q _ _ s1 (bad_flat rfl)⟩
      | 1, _ => exact ⟨L, _, _, _, rfl, congrArg V.int em', SqL.of upd_same, atI_nat (j := 1) rfl, q _ _ s1 (bad_flat rfl)⟩
      | 2, _ => exact ⟨L, _, _, _, rfl, congrArg V.int em', SqL.of upd_same, atI_nat (j := 2) rfl, q _ _ s1 (bad_flat rfl)⟩
      | 3, _ => exact ⟨L, _, _, _, rfl, congrArg V.int em', SqL.of upd_same, atI_nat (j := 3) rfl, q _ _ s1 (bad_len (vs := []) (ds := []) (same_upd nL _ _ upd_same) rfl (fun i u d hu _ => by simp at hu) (by decide) (fun xs hx => by cases hx) rfl)⟩
    -- a thing that is no weight
    refine ⟨_, rfl, _, _, rfl, rfl, ⟨by decide, by decide⟩, _, rfl, _, _, rfl, rfl, (by show (0 : Int) < ((rs.length : Nat) : Int); omega), ?_⟩
    obtain ⟨j, ej, hj⟩ := mod_nat (c / 40) n0
    show gName 4 (V.int (c / 40 % ((rs.length : Nat) : Int))) _ _ _
    rw [ej]
    refine ⟨_, rfl, _, _, rfl, rfl, ⟨by decide, by decide⟩, 10, 20, rfl, rfl, ⟨by decide, by decide, by decide⟩, _, _, rfl, rfl, (by show (0 : Int) < 10 ^ (20 : Int).toNat; decide), _, _, rfl, rfl, ?_⟩
    refine ⟨0, 1, rfl, rfl, _, rfl, _, _, rfl, rfl, ⟨by decide, by decide⟩, _, _, rfl, rfl, (by show (0 : Int) < 20; decide), _, _, rfl, rfl, ?_⟩
    refine ⟨(by show 2 ≤ sizeLine; decide), fun TT nT => ⟨(by show 6 ≤ sizeLine; decide), fun L nL => ⟨_, rfl, _, _, rfl, rfl, ⟨by decide, by decide⟩, _, _, rfl, rfl, (by show (0 : Int) < 6; decide), ?_⟩⟩⟩
    have uT := same_upd (o := .tup [V.int 1, V.int 2]) nT
    have uL := same_upd (o := .lst [V.int (17 + c / 200 % 10 ^ (20 : Int).toNat), V.int (0 - 1 - c / 200 % 20), V.bl true, V.str "4", V.non, V.ref TT]) nL
    have s5 := uT.trans uL
    have a1 : 0 ≤ c / 200 % 10 ^ (20 : Int).toNat := Int.emod_nonneg _ (by decide)
    have a2 : 0 ≤ c / 200 % 20 := Int.emod_nonneg _ (by decide)
    obtain ⟨m, em, hm⟩ := mod_nat (c / 1600) (n := 6) (by decide)
    have em' : c / 1600 % 6 = (m : Int) := em
    obtain ⟨v, hv, hill⟩ : ∃ v, ([V.int (17 + c / 200 % 10 ^ (20 : Int).toNat), V.int (0 - 1 - c / 200 % 20), V.bl true, V.str "4", V.non, V.ref TT] : List V)[m]? = some v ∧ Ill v (upd (upd H TT (.tup [V.int 1, V.int 2])) L (.lst [V.int (17 + c / 200 % 10 ^ (20 : Int).toNat), V.int (0 - 1 - c / 200 % 20), V.bl true, V.str "4", V.non, V.ref TT])) := by
      match m, hm with
      | 0, _ => exact ⟨_, rfl, ill_hi (by omega)⟩
      | 1, _ => exact ⟨_, rfl, ill_lo (by omega)⟩
      | 2, _ => exact ⟨_, rfl, .inl rfl, rfl⟩
      | 3, _ => exact ⟨_, rfl, .inl rfl, rfl⟩
      | 4, _ => exact ⟨_, rfl, .inl rfl, rfl⟩
      | 5, _ => exact ⟨_, rfl, .inr ⟨TT, _, rfl, uL _ _ upd_same⟩, rfl⟩
    refine ⟨L, _, _, v, rfl, congrArg V.int em', SqL.of upd_same, atI_nat hv, ?_⟩
    -- row = list(rows[at]); row[place] = thing
    refine ⟨_, rfl, _, rfl, p, _, _, _, rfl, rfl, SqL.of (s5 _ _ hp), atI_nat hbk, b, _, rfl, .inl (SqL.of (s5 _ _ hrow)), fun R nR => ?_⟩
    have uR := same_upd (o := .lst (r.map V.int)) nR
    have hjr : j < (r.map V.int).length := by rw [List.length_map, hrl]; exact hj
    have hix : ixN (r.map V.int).length ((j : Nat) : Int) = some j := by
      unfold ixN
      rw [if_pos (by omega), if_pos (by omega)]
      rfl
    refine ⟨_, rfl, _, rfl, _, rfl, R, _, _, j, rfl, rfl, upd_same, hix, ?_⟩
    rw [upd_upd]
    have uR2 := same_upd (o := .lst ((r.map V.int).set j v)) nR
    have s7 := s5.trans uR2
    have hcv : CV _ v := hill.1.mono uR2
    refine read_put (fun v' H2 => v' = .ref R ∧ H2 R = some (.lst ((r.map V.int).set j v)) ∧ CV H2 v) rfl rfl (s7 _ _ hp) hk' hl' (fun H1 Q' s1 hQ' => ?_) (fun v' H2 p' H' ⟨e, hR, hc⟩ s1 s2 hp' => ?_)
    · exact ⟨_, rfl, hQ' _ _ (Same.refl _) ⟨rfl, s1 _ _ upd_same, hcv.mono s1⟩⟩
    · subst e
      have sF := s7.trans s1
      refine q _ _ sF (bad_set (k := k) (v := V.ref R) (d := some ((r.map V.int).set j v)) hp' (hA.mono sF) hk ⟨R, rfl, SqL.of (s2 _ _ hR), fun x hx => ?_⟩ ?_ hs hr1 ?_)
      · rcases List.mem_or_eq_of_mem_set hx with hx | hx
        · exact flat_ints r _ x hx
        · rw [hx]
          exact hc.mono s2
      · show (decide (((r.map V.int).set j v).length = rs.length) && ((r.map V.int).set j v).all sixt) = false
        rw [all_false (List.getElem?_set_self hjr) hill.2, Bool.and_false]
      · intro xs e
        have e' : (r.map V.int).set j v = xs := Option.some.inj e
        rw [← e', List.length_set, List.length_map, hrl]
        exact hs
end
/-! ### what the top says of the error classes: HallError at A, NoShade at B, NoTip at N -/
structure TxtE (K : PySem.W.Frag) (mg : Str → Option Value) (A B N : Addr) : Prop where
  gA : mg "HallError" = some (.ref A)
  gB : mg "NoShade" = some (.ref B)
  gN : mg "NoTip" = some (.ref N)
  vE : mg "ValueError" = none
  ex : ExcC K N
  eN : PySem.W.exmOne K (.ref N) (.ref N) = some true
  iA : PySem.W.kitOne K (.ref N) (.ref A) = some true
  iV : PySem.W.kitOne K (.ref N) (.type "ValueError") = some true
  iB : PySem.W.kitOne K (.ref N) (.ref B) = some false
section
variable {P : Program} {w : World} {K : PySem.W.Frag} {mg : Str → Option Value} {base : Heap}
/-! ### _law_refused. Slots: rows, refused, e -/
def spRef (K : PySem.W.Frag) : Sp := fun vs H Q _ => ∃ v, vs = [v] ∧ Bad K H v ∧ ∀ H', Q (.bl true) H'
theorem scRef : FnScope ["_law_rows_here", "_law_refused_here", "e"] ["_law_rows_here"] (defScope sRef) := ⟨rfl, rfl, rfl, by decide +kernel, rfl, by decide +kernel, by decide +kernel⟩
/-- isinstance(e, HallError) and isinstance(e, ValueError) and not isinstance(e, NoShade), e at a in slot 2 -/
def t_and (K : PySem.W.Frag) (A B N a : Addr) : TE :=
  tAndV (tCB (rIsE K N a) (tCons (tVar 2) (tCons (tC (.ref A)) tNil))) (tAndV (tCB (rIsE K N a) (tCons (tVar 2) (tCons (tC (.ty "ValueError")) tNil))) (tNotV (tCB (rIsE K N a) (tCons (tVar 2) (tCons (tC (.ref B)) tNil)))))
def t_suite (K : PySem.W.Frag) (A B N : Addr) : Addr → Value → Option Addr → TS := fun a cls d D σ H => cls = .ref N ∧ d = none ∧ (σ.length = 3 → tAsg (t_and K A B N a) (gName 1) D σ H)
/-- what the try's body wishes of an error that Tip(..) lets out: the clause's wish, whatever stands in the slots -/
abbrev anyAt (W : WX) : XK := fun cls d H => ∀ σ, W cls d σ H
theorem ok_ref {f fI fW fS C N A0 B0 : Addr} {fd fdI fdW fdS : FuncData} (F : Fun K "_law_refused" "_law_refused" sRef f fd) (T : Txt mg) (TC : TxtC K mg C N) (TE : TxtE K mg A0 B0 N) (M : Mk K C fI) (FI : Fun K "__init__" "Tip.__init__" sIni fI fdI) (bI : L2.Binds K fdI ["self", "rows"] [])
    (FW : Fun K "is_weights" "is_weights" sWts fW fdW) (bW : L2.Binds K fdW ["row", "many"] []) (gW : mg "is_weights" = some (.ref fW))
    (FS : Fun K "is_sixteenth" "is_sixteenth" sSix fS fdS) (bS : L2.Binds K fdS ["number"] []) (gS : mg "is_sixteenth" = some (.ref fS)) : FnOk P w K mg base CX0 5 f fd ["_law_rows_here"] (spRef K) := by
  have GI : FnOk P w K mg base (L2.CX P w) 3 fI fdI ["self", "rows"] (spIni K C N) := ok_ini FI T TC FW bW gW FS bS gS
  refine F.ok scRef (fun vs H Q E h => ?_) (fun cdv A outer s H vs Q E hr h => ?_)
  · obtain ⟨v, rfl, _⟩ := h
    rfl
  · obtain ⟨v, rfl, ⟨od, hd, hsm, hno⟩, q⟩ := h
    refine ⟨_, pss_cons (ps_set (i := 1) scRef.nd rfl (Or.inl rfl) pe_bl)
      (pss_cons (ps_try_as (i := 2) (tb := fun W => tDrop (tMake C (spIni K C N) [] (anyAt W) (tCons (tVar 0) tNil))) (ts := t_suite K A0 B0 N) (Wout := fun _ _ _ _ => False) rfl rfl scRef.nd rfl rfl ⟨rfl, by decide, Or.inl TE.gN⟩ takes0
        (fun W pn xe tk _ => pss_one (ps_expr (by exact (pe_make M GI hr rfl TC.gC bI .nil (passes_call tk fun _ _ σ _ z => z σ) (pa_cons (pv 0) pa_nil)))))
        (fun a oe cls d pn hz hf => ⟨fun pins s σ H D I h => by
          obtain ⟨rfl, rfl, h⟩ := h
          exact (pss_one (ps_set (i := 1) scRef.nd rfl (Or.inl rfl) (by exact (pe_and (pe_callB (call_isE TE.ex hz hf) rfl T.isi boot_isinstance (pa_cons (pv 2) (pa_cons (pe_glob (v := .ref A0) rfl TE.gA rfl) pa_nil)))
            (pe_and (pe_callB (call_isE TE.ex hz hf) rfl T.isi boot_isinstance (pa_cons (pv 2) (pa_cons (pe_bltn (v := .ty "ValueError") rfl TE.vE (by decide +kernel) rfl) pa_nil)))
              (pe_one (pe_not (pe_callB (call_isE TE.ex hz hf) rfl T.isi boot_isinstance (pa_cons (pv 2) (pa_cons (pe_glob (v := .ref B0) rfl TE.gB rfl) pa_nil)))))))))).run pins s σ H D I (h I.len)⟩))
      (pss_one (ps_ret (pv 1)))), ?_⟩
    refine ⟨_, rfl, fun x dx nx ndx nex => ?_⟩
    have s0 : Same H (upd (upd H dx (.own x)) x (.ins C dx [])) := same_make nx ndx
    have hd' : RowsD K (upd (upd H dx (.own x)) x (.ins C dx [])) v od := by
      cases od with
      | none => exact hd
      | some ds =>
        obtain ⟨a, vs, e, hS, hl, hr⟩ := hd
        exact ⟨a, vs, e, s0.seq hS, hl, fun i u d h1 h2 => (hr i u d h1 h2).mono s0⟩
    refine ⟨x, dx, v, od, rfl, upd_same, hd', hsm, fun _ H' s' => ?_, fun z => by rw [hno] at z; cases z⟩
    refine fun σ => ⟨true, TE.eN, fun _ a ha => ⟨rfl, rfl, fun h3 => ?_⟩, fun z => Bool.noConfusion z⟩
    rw [List.length_set] at h3
    obtain ⟨x0, x1, x2, rfl⟩ : ∃ x0 x1 x2, σ = [x0, x1, x2] := match σ, h3 with | [x0, x1, x2], _ => ⟨x0, x1, x2, rfl⟩
    refine ⟨_, rfl, .ref A0, _, true, rfl, fun u r => r, TE.iA, true, rfl, iteT ?_⟩
    refine ⟨_, rfl, .ty "ValueError", _, true, rfl, fun u r => r, TE.iV, true, rfl, iteT ?_⟩
    refine ⟨_, rfl, .ref B0, _, false, rfl, fun u r => r, TE.iB, false, rfl, ?_⟩
    exact ⟨_, rfl, q _⟩
end
/-! ### what is told, as data -/
def datOf (d : Told) : PyData := .tuple [.tuple [.int d.1.1, .int d.1.2], .int d.2]
theorem dat_lay : ∀ ds : List Told, PyData.canLayAll0 (ds.map datOf) = true
  | [] => rfl
  | d :: ds => by
    rw [List.map_cons, PyData.canLayAll0, dat_lay ds]
    rfl
theorem dat_depth : ∀ ds : List Told, PyData.depthAll (ds.map datOf) ≤ 2
  | [] => Nat.zero_le _
  | d :: ds => by
    rw [List.map_cons, PyData.depthAll]
    have h := dat_depth ds
    have e : PyData.depth (datOf d) = 2 := rfl
    omega
theorem dat_shaped (ds : List Told) : SeqAt.shaped (.list (ds.map datOf)) = true := by
  show ((PyData.list (ds.map datOf)).canLay0 && decide ((PyData.list (ds.map datOf)).depth ≤ 64)) = true
  have h1 : (PyData.list (ds.map datOf)).canLay0 = true := by rw [PyData.canLay0]; exact dat_lay ds
  have h2 : (PyData.list (ds.map datOf)).depth ≤ 64 := by
    rw [PyData.depth]
    have := dat_depth ds
    omega
  rw [h1, decide_eq_true h2]
  rfl
theorem dat_eqv (ds : List Told) : PyData.eqv (.list (ds.map datOf)) (.list (ds.map datOf)) = true := SeqAt.eqv_refl _ (by rw [PyData.canLay0]; exact dat_lay ds)
theorem told_dp {K : PySem.W.Frag} {H : Hp} {v : V} {d : Told} (h : ToldAt H v d) : Dp K H v (datOf d) := by
  obtain ⟨T, T1, rfl, h1, h2⟩ := h
  exact .tup (SqT.of h1) (.cons (.tup (SqT.of h2) (.cons (.int _) (.cons (.int _) .nil))) (.cons (.int _) .nil))
theorem due_dp {K : PySem.W.Frag} {H : Hp} : ∀ {ws : List V} {ds : List Told}, DueAt H ws ds → DpAll K H ws (ds.map datOf)
  | _, _, .nil => .nil
  | _, _, .cons h t => .cons (told_dp h) (due_dp t)
theorem due_tup {K : PySem.W.Frag} {H : Hp} : ∀ {ws : List V} {ds : List Told}, DueAt H ws ds → ∀ x ∈ ws, TyX K H x (.type "tuple")
  | _, _, .nil => fun x hx => by cases hx
  | _, _, .cons h t => fun x hx => by
    rcases List.mem_cons.mp hx with e | hx
    · obtain ⟨T, T1, e2, h1, _⟩ := h
      rw [e, e2]
      exact .base (.tup h1)
    · exact due_tup t x hx
theorem kB17 : kitB "tuple" "tuple" = some true := by decide +kernel
/-! ### the law's own rows are good -/
theorem rows_good (ns : List Int) {n : Nat} (hw : wide3 n = true) : tipOk (some (dRows (rowsOf ns n))) = true := by
  show (wide3 (dRows (rowsOf ns n)).length && (dRows (rowsOf ns n)).all (rowOk (dRows (rowsOf ns n)).length)) = true
  rw [List.length_map, rowsOf_len, hw, Bool.true_and, List.all_eq_true]
  intro d hd
  obtain ⟨r, hr, rfl⟩ := List.mem_map.mp hd
  obtain ⟨y, _, rfl⟩ := List.mem_map.mp hr
  show (decide (((rowOf ns n y).map V.int).length = n) && ((rowOf ns n y).map V.int).all sixt) = true
  rw [List.length_map, rowOf_len, decide_eq_true rfl, Bool.true_and, List.all_eq_true]
  intro v hv
  obtain ⟨z, hz, rfl⟩ := List.mem_map.mp hv
  obtain ⟨x, _, rfl⟩ := List.mem_map.mp hz
  exact wt_good _
theorem rows_len (ns : List Int) (n : Nat) : ∀ r ∈ rowsOf ns n, r.length = n := fun r hr => by
  obtain ⟨y, _, rfl⟩ := List.mem_map.mp hr
  exact rowOf_len ns n y
theorem items_rows (rs : List (List Int)) : (dRows rs).map rowItems = vRows rs := by
  rw [List.map_map]
  rfl
theorem TipAt.mono {C : Addr} {H H' : Hp} {x dx l : Addr} {bs : List Addr} {vss : List (List V)} (s : Same H H') (t : TipAt C H x dx l bs vss) : TipAt C H' x dx l bs vss := ⟨s _ _ t.ob, s _ _ t.lst, t.rows.mono s⟩
/-- the functions of the text -/
structure Defs (K : PySem.W.Frag) (mg : Str → Option Value) (C : Addr) where
  (fC fR fS fF fD fI fP fW f6 : Addr)
  (dC dR dS dF dD dI dP dW d6 : FuncData)
  FC : Fun K "_law_cell_at" "_law_cell_at" sCel fC dC
  bC : L2.Binds K dC ["_law_script", "_law_k"] []
  gC : mg "_law_cell_at" = some (.ref fC)
  FR : Fun K "_law_rows" "_law_rows" sRow fR dR
  bR : L2.Binds K dR ["_law_script", "_law_wide"] []
  gR : mg "_law_rows" = some (.ref fR)
  FS : Fun K "_law_spoilt" "_law_spoilt" sSpo fS dS
  bS : L2.Binds K dS ["_law_rows_here", "_law_cell"] []
  gS : mg "_law_spoilt" = some (.ref fS)
  FF : Fun K "_law_refused" "_law_refused" sRef fF dF
  bF : L2.Binds K dF ["_law_rows_here"] []
  gF : mg "_law_refused" = some (.ref fF)
  FD : Fun K "_law_due" "_law_due" sDue fD dD
  bD : L2.Binds K dD ["_law_rows_here", "_law_x", "_law_y"] []
  gD : mg "_law_due" = some (.ref fD)
  FI : Fun K "__init__" "Tip.__init__" sIni fI dI
  bI : L2.Binds K dI ["self", "rows"] []
  FP : Fun K "spread" "Tip.spread" sSpr fP dP
  bP : L2.Binds K dP ["self", "cell"] []
  FW : Fun K "is_weights" "is_weights" sWts fW dW
  bW : L2.Binds K dW ["row", "many"] []
  gW : mg "is_weights" = some (.ref fW)
  F6 : Fun K "is_sixteenth" "is_sixteenth" sSix f6 d6
  b6 : L2.Binds K d6 ["number"] []
  g6 : mg "is_sixteenth" = some (.ref f6)
  M : Mk K C fI
  mP : Meth K C "spread" fP
section
variable {P : Program} {w : World} {K : PySem.W.Frag} {mg : Str → Option Value} {base : Heap}
/-! ### law. Slots: script, cell, rows, x, y, due, tip, turn, found, told -/
def spLaw (K : PySem.W.Frag) : Sp := fun vs H Q _ => ∃ (a : Addr) (ns : List Int), vs = [.ref a] ∧ SqL K H a (ns.map V.int) ∧ ns.length ≤ 63 ∧ ∀ H', Q (.bl true) H'
theorem scLaw : FnScope ["_law_script", "_law_cell", "_law_rows_here", "_law_x", "_law_y", "_law_due_here", "_law_tip", "_law_turn", "_law_found", "_law_told"] ["_law_script"] (defScope sLaw) := ⟨rfl, rfl, rfl, by decide +kernel, rfl, by decide +kernel, by decide +kernel⟩
theorem menu3 {m : Nat} (h : m < 3) : ∃ n : Nat, wide3 n = true ∧ ([V.int 1, V.int 3, V.int 5] : List V)[m]? = some (.int ((n : Nat) : Int)) := by
  match m, h with
  | 0, _ => exact ⟨1, rfl, rfl⟩
  | 1, _ => exact ⟨3, rfl, rfl⟩
  | 2, _ => exact ⟨5, rfl, rfl⟩
theorem ok_law {f C N A0 B0 : Addr} {fd : FuncData} (F : Fun K "law" "law" sLaw f fd) (T : Txt mg) (TC : TxtC K mg C N) (TE : TxtE K mg A0 B0 N) (D : Defs K mg C) : FnOk P w K mg base CX0 6 f fd ["_law_script"] (spLaw K) := by
  have GC : FnOk P w K mg base CX0 1 D.fC D.dC ["_law_script", "_law_k"] (spCel K) := ok_cel D.FC T
  have GR : FnOk P w K mg base CX0 2 D.fR D.dR ["_law_script", "_law_wide"] (spRow K) := ok_row D.FR T D.FC D.bC D.gC
  have GS : FnOk P w K mg base CX0 1 D.fS D.dS ["_law_rows_here", "_law_cell"] (spSpo K) := ok_spo D.FS T
  have GF : FnOk P w K mg base CX0 5 D.fF D.dF ["_law_rows_here"] (spRef K) := ok_ref D.FF T TC TE D.M D.FI D.bI D.FW D.bW D.gW D.F6 D.b6 D.g6
  have GD : FnOk P w K mg base CX0 1 D.fD D.dD ["_law_rows_here", "_law_x", "_law_y"] spDue := ok_due D.FD T
  have GI : FnOk P w K mg base (L2.CX P w) 3 D.fI D.dI ["self", "rows"] (spIni K C N) := ok_ini D.FI T TC D.FW D.bW D.gW D.F6 D.b6 D.g6
  have GP : FnOk P w K mg base CX0 1 D.fP D.dP ["self", "cell"] (spSpr C) := ok_spr D.FP T TC
  refine F.ok scLaw (fun vs H Q E h => ?_) (fun cdv A outer s H vs Q E hr h => ?_)
  · obtain ⟨a, ns, rfl, _⟩ := h
    rfl
  · obtain ⟨a, ns, rfl, hS, _, q⟩ := h
    have hr1 : Room 1 _ := hr.mono (by decide)
    have hr2 : Room 2 _ := hr.mono (by decide)
    have hr4 : Room 4 _ := hr.mono (by decide)
    refine ⟨_, pss_cons (ps_set (i := 1) scLaw.nd rfl (Or.inl rfl) (pe_call GC hr1 (by rfl) D.gC D.FC.kp D.bC .nil pass0 (pa_cons (pv 0) (pa_cons pe_int pa_nil))))
      (pss_cons (ps_set (i := 2) scLaw.nd rfl (Or.inl rfl) (pe_call GR hr2 (by rfl) D.gR D.FR.kp D.bR .nil pass0 (pa_cons (pv 0) (pa_cons (pe_ix ix_list (pe_lst (pa_cons pe_int (pa_cons pe_int (pa_cons pe_int pa_nil)))) (pe_op op_mod (pe_op op_fdiv (pv 1) pe_int) pe_int) (fun _ _ => rfl)) pa_nil))))
      (pss_cons (ps_if (pt_cmpR op_eq (pe_op op_mod (pv 1) pe_int) pe_int (nomark _)) (pss_one (ps_ret (pe_call GF hr (by rfl) D.gF D.FF.kp D.bF .nil pass0 (pa_cons (pe_call GS hr1 (by rfl) D.gS D.FS.kp D.bS .nil pass0 (pa_cons (pv 2) (pa_cons (pe_op op_fdiv (pv 1) pe_int) pa_nil))) pa_nil)))) pss_nil)
      (pss_cons (ps_set (i := 3) scLaw.nd rfl (Or.inl rfl) (pe_op op_sub (pe_op op_mod (pe_call GC hr1 (by rfl) D.gC D.FC.kp D.bC .nil pass0 (pa_cons (pv 0) (pa_cons pe_int pa_nil))) pe_int) pe_int))
      (pss_cons (ps_set (i := 4) scLaw.nd rfl (Or.inl rfl) (pe_op op_sub (pe_op op_mod (pe_op op_fdiv (pe_call GC hr1 (by rfl) D.gC D.FC.kp D.bC .nil pass0 (pa_cons (pv 0) (pa_cons pe_int pa_nil))) pe_int) pe_int) pe_int))
      (pss_cons (ps_set (i := 5) scLaw.nd rfl (Or.inl rfl) (pe_call GD hr1 (by rfl) D.gD D.FD.kp D.bD .nil pass0 (pa_cons (pv 2) (pa_cons (pv 3) (pa_cons (pv 4) pa_nil)))))
      (pss_cons (ps_set (i := 6) scLaw.nd rfl (Or.inl rfl) (pe_make D.M GI hr4 (by rfl) TC.gC D.bI .nil passL (pa_cons (pv 2) pa_nil)))
      (pss_cons (ps_asg (pe_op op_sub pe_int (pe_ix ix_list (pe_ix ix_list (pv 2) pe_int (fun _ _ => rfl)) pe_int (fun _ _ => rfl))) (pg_sub (pe_ix ix_list (pv 2) pe_int (fun _ _ => rfl)) pe_int set_list))
      (pss_cons (ps_expr (pe_bm PySem.F.plainAttrs_list PySem.F.slot_list_append PySem.F.type_list_append mt_append (pv 2) (pa_cons (pe_lst pa_nil) pa_nil)))
      (pss_cons (ps_for PassesOwn.never rfl (pi_range1 (by rfl) T.range (pa_cons pe_int pa_nil)) (pg_name (i := 7) scLaw.nd rfl (Or.inl rfl))
        (pss_cons (ps_set (i := 8) scLaw.nd rfl (Or.inl rfl) (pe_meth (pv 6) TC.cl D.mP GP hr1 D.bP .nil pass0 (pa_cons (pe_tup (pa_cons (pv 3) (pa_cons (pv 4) pa_nil))) pa_nil)))
        (pss_cons (ps_if (PW.pt (pw_or (pt_not (pt_val (pe_callB call_isi (by rfl) T.isi boot_isinstance (pa_cons (pv 8) (pa_cons (pe_bltn (v := .ty "list") (by rfl) T.list boot_list rfl) pa_nil))))) (pw_or1 (pt_cmpR (op_neD hr.units) (pv 8) (pv 5) (nomark _)))))
          (pss_one (ps_ret pe_bl)) pss_nil)
        (pss_one (ps_expr (pe_bm PySem.F.plainAttrs_list PySem.F.slot_list_append PySem.F.type_list_append mt_append (pv 8) (pa_cons pe_int pa_nil)))))))
      (pss_one (ps_ret (pe_cmpR (op_eqD hr.units) (pe_lc (own := [("_law_told", 9)]) (g := gName 9) (tt := tNot (tB (tCB (rIsi K) (tCons (tVar 9) (tCons (tC (.ty "tuple")) tNil))))) (te := tVar 9) rfl scLaw.nd (pi_list (pv 5))
          (blkOk_by (N := ["_law_script", "_law_cell", "_law_rows_here", "_law_x", "_law_y", "_law_due_here", "_law_tip", "_law_turn", "_law_found", "_law_told"]) (sc := defScope sLaw) (by decide +kernel))
          (fun _ _ _ _ _ => pg_name (i := 9) scLaw.nd rfl (Or.inl rfl)) (fun _ _ _ _ _ => pts_one (pt_not (pt_val (pe_callB (r := rIsi K) call_isi (by rfl) T.isi boot_isinstance (pa_cons (pv 9) (pa_cons (pe_bltn (v := .ty "tuple") (by rfl) T.tuple boot_tuple rfl) pa_nil))))))
          (fun _ _ _ _ _ => pv 9)) (pe_lst pa_nil) (nomark _))))))))))))), ?_⟩
    -- cell = cell_at(script, 0)
    refine ⟨_, rfl, a, ns, 0, rfl, hS, ?_⟩
    -- rows
    obtain ⟨m, em, hm⟩ := mod_nat (cellD ns 0 / 2) (n := 3) (by decide)
    have em' : cellD ns 0 / 2 % 3 = (m : Int) := em
    obtain ⟨n, hw, hn⟩ := menu3 hm
    obtain ⟨n0, n5⟩ := wide3_pos hw
    refine ⟨_, rfl, (by show 3 ≤ sizeLine; decide), fun L nL => ⟨_, rfl, _, _, rfl, rfl, ⟨by decide, by decide⟩, _, _, rfl, rfl, (by show (0 : Int) < 3; decide), L, _, _, _, rfl, congrArg V.int em', SqL.of upd_same, atI_nat hn, ?_⟩⟩
    have sL : Same H (upd H L (.lst [.int 1, .int 3, .int 5])) := same_upd nL
    refine ⟨a, ns, n, rfl, sL.seq hS, n5, fun p as H1 s1 hp hA => ?_⟩
    have S1 : SqL K H1 a (ns.map V.int) := (sL.trans s1).seq hS
    have hrl : (rowsOf ns n).length = n := rowsOf_len ns n
    have hsq : ∀ r ∈ rowsOf ns n, r.length = (rowsOf ns n).length := fun r hr => by rw [hrl]; exact rows_len ns n r hr
    have hwr : wide3 (rowsOf ns n).length = true := by rw [hrl]; exact hw
    have good := rows_good ns hw
    have h5 : (rowsOf ns n).length ≤ 5 := by rw [hrl]; exact n5
    have hpos : 0 < (rowsOf ns n).length := by rw [hrl]; exact n0
    clear hrl em em' hn
    generalize rowsOf ns n = rs at *
    have hr5 : ∀ r ∈ rs, r.length ≤ 5 := fun r hr => by rw [hsq r hr]; exact h5
    -- if cell % 2 == 1
    refine ⟨_, rfl, _, _, rfl, rfl, (by show (0 : Int) < 2; decide), rfl, _, rfl, ite2 (fun _ => ?_) (fun _ => ?_)⟩
    · exact ⟨_, rfl, _, rfl, _, _, rfl, rfl, ⟨by decide, by decide⟩, p, as, rs, _, rfl, hp, hA, hwr, hsq, fun v H2 _ bad => ⟨v, rfl, bad, q⟩⟩
    -- x, y
    refine ⟨_, rfl, a, ns, 1, rfl, S1, _, _, rfl, rfl, (by show (0 : Int) < 41; decide), _, _, rfl, rfl, ?_⟩
    refine ⟨_, rfl, a, ns, 1, rfl, S1, _, _, rfl, rfl, ⟨by decide, by decide⟩, _, _, rfl, rfl, (by show (0 : Int) < 41; decide), _, _, rfl, rfl, ?_⟩
    -- due
    refine ⟨_, rfl, _, rfl, _, rfl, p, as, rs, cellD ns 1 % 41 - 20, cellD ns 1 / 41 % 41 - 20, rfl, hp, hA, h5, hsq, fun d H2 nd t2 => ?_⟩
    obtain ⟨s2, ws, hd, hD⟩ := t2
    -- tip = Tip(rows)
    refine ⟨_, rfl, fun t dx nt ndx nex => ?_⟩
    have s0 : Same H2 (upd (upd H2 dx (.own t)) t (.ins C dx [])) := same_make nt ndx
    have small : SmallD (some (dRows rs)) := fun ds e => by
      have e' : dRows rs = ds := Option.some.inj e
      subst e'
      refine ⟨by rw [List.length_map]; omega, fun xs hx => ?_⟩
      obtain ⟨r, h1, h2⟩ := List.mem_map.mp hx
      have e3 : r.map V.int = xs := Option.some.inj h2
      rw [← e3, List.length_map]
      have := hr5 r h1
      omega
    refine ⟨t, dx, .ref p, some (dRows rs), rfl, upd_same, ⟨p, _, rfl, SqL.of (s0 _ _ (s2 _ _ hp)), by rw [List.length_map, List.length_map, hA.len, List.length_map], rowsD_ints (hA.mono (s2.trans s0))⟩, small,
      (fun z => by rw [good] at z; cases z), fun _ ds l bs H3 e hT nl nbs kp => ⟨rfl, ?_⟩⟩
    have e' : dRows rs = ds := Option.some.inj e
    subst e'
    rw [items_rows] at hT
    have s3 : Same H2 H3 := Same.made nt ndx kp
    have s13 := s2.trans s3
    -- rows[0][0] = 16 - rows[0][0]
    obtain ⟨a0, h0⟩ := get_of (l := as) (i := 0) (by rw [hA.len, List.length_map]; exact hpos)
    obtain ⟨r0, hr0⟩ := get_of hpos
    obtain ⟨z0, hz0⟩ := get_of (l := r0) (i := 0) (by rw [hsq r0 (List.mem_of_getElem? hr0)]; exact hpos)
    have ha1 : H1 a0 = some (.lst (r0.map V.int)) := hA.at_ 0 a0 _ h0 (by rw [List.getElem?_map, hr0]; rfl)
    have g0 : (as.map V.ref)[0]? = some (.ref a0) := by rw [List.getElem?_map, h0]; rfl
    have gz : (r0.map V.int)[0]? = some (.int z0) := by rw [List.getElem?_map, hz0]; rfl
    have npa : p ≠ a0 := ne_of hp ha1 fun z => by
      have z' := HO.lst.inj z
      rw [z', gz] at g0
      cases g0
    have hix : ixN (r0.map V.int).length 0 = some 0 := by
      unfold ixN
      have := lt_of_some gz
      rw [if_pos (by omega), if_pos (by omega)]
      rfl
    have hp3 := s13 _ _ hp
    have ha3 := s13 _ _ ha1
    refine ⟨_, rfl, p, _, 0, _, rfl, rfl, SqL.of hp3, atI_nat (j := 0) g0, a0, _, 0, _, rfl, rfl, SqL.of ha3, atI_nat (j := 0) gz, _, _, rfl, rfl, _, rfl, p, _, 0, _, rfl, rfl, SqL.of hp3, atI_nat (j := 0) g0, a0, _, 0, 0, rfl, rfl, ha3, hix, ?_⟩
    have hp4 : (upd H3 a0 (.lst ((r0.map V.int).set 0 (.int (16 - z0))))) p = some (.lst (as.map V.ref)) := by rw [upd_ne npa]; exact hp3
    -- rows.append([])
    refine ⟨_, rfl, .inl ⟨rfl, _, SqL.of hp4⟩, Nat.zero_le _, fun e0 ne0 => ⟨p, _, _, rfl, rfl, same_upd ne0 _ _ hp4, ?_, ?_⟩⟩
    · rw [List.length_map, hA.len, List.length_map]
      exact small1000 (by omega)
    have kept : ∀ b o, H3 b = some o → b ≠ a0 → b ≠ p → (upd (upd (upd H3 a0 (.lst ((r0.map V.int).set 0 (.int (16 - z0))))) e0 (.lst [])) p (.lst (as.map V.ref ++ [.ref e0]))) b = some o := fun b o e n1 n2 => by
      rw [upd_ne n2]
      exact same_upd ne0 _ _ (by rw [upd_ne n1]; exact e)
    have away : ∀ b, H2 b = none → b ≠ a0 ∧ b ≠ p := fun b hb => ⟨(ne_of_none (s2 _ _ ha1) hb).symm, (ne_of_none (s2 _ _ hp) hb).symm⟩
    have tip6 : TipAt C (upd (upd (upd H3 a0 (.lst ((r0.map V.int).set 0 (.int (16 - z0))))) e0 (.lst [])) p (.lst (as.map V.ref ++ [.ref e0]))) t dx l bs (vRows rs) :=
      ⟨kept _ _ hT.ob (away t nt).1 (away t nt).2, kept _ _ hT.lst (away l (s0.free nl)).1 (away l (s0.free nl)).2,
        ⟨hT.rows.len, fun i b vs h1 h2 => kept _ _ (hT.rows.at_ i b vs h1 h2) (away b (s0.free (nbs b (List.mem_of_getElem? h1)))).1 (away b (s0.free (nbs b (List.mem_of_getElem? h1)))).2⟩⟩
    have hd6 := kept _ _ (s3 _ _ hd) (ne_of_none ha1 nd).symm (ne_of_none hp nd).symm
    have hD6 := (hD.keep fun b xs e => s3 _ _ e).keep fun b xs e => kept b _ e (ne_of e ha3 (by intro z; cases z)) (ne_of e hp3 (by intro z; cases z))
    -- the two turns
    refine ⟨2, rfl, by decide, by decide, for_range (lo := 0) (n := 2) (fun i σ H7 => ∃ y7 y8, σ = [some (.ref a), some (.int (cellD ns 0)), some (.ref p), some (.int (cellD ns 1 % 41 - 20)), some (.int (cellD ns 1 / 41 % 41 - 20)), some (.ref d), some (.ref t), y7, y8, none] ∧
        TipAt C H7 t dx l bs (vRows rs) ∧ H7 d = some (.lst ws) ∧ DueAt H7 ws (allDue (cellD ns 1 % 41 - 20) (cellD ns 1 / 41 % 41 - 20) (((rs.length : Nat) : Int) / 2) rs rs.length))
      ⟨none, none, rfl, tip6, hd6, hD6⟩ ?_ ?_⟩
    · rintro i σ H7 hi ⟨y7, y8, rfl, tip7, hd7, hD7⟩
      refine ⟨_, rfl, t, dx, _, rfl, tip7.ob, tf_no l (by decide +kernel), _, rfl, _, rfl, (by show 2 ≤ sizeLine; decide), fun c nc => ?_⟩
      have s7 : Same H7 (upd H7 c (.tup [.int (cellD ns 1 % 41 - 20), .int (cellD ns 1 / 41 % 41 - 20)])) := same_upd nc
      refine ⟨t, c, dx, l, bs, rs, cellD ns 1 % 41 - 20, cellD ns 1 / 41 % 41 - 20, rfl, tip7.mono s7, upd_same, h5, hr5, fun g H8 ng t8 => ?_⟩
      obtain ⟨s8, ws', hg, hD8⟩ := t8
      have s78 := s7.trans s8
      refine ⟨_, rfl, _, _, _, _, true, rfl, .ty "list", tyx_list (SqL.of hg), kit_ty kB16, true, rfl, iteF ?_⟩
      refine ⟨_, rfl, _, rfl, _, _, .lst (SqL.of hg) (due_dp hD8), .lst (SqL.of (s78 _ _ hd7)) (due_dp (hD7.keep fun b xs e => s78 _ _ e)), dat_shaped _, dat_shaped _, _, rfl, ?_⟩
      rw [dat_eqv]
      refine iteF ?_
      refine ⟨_, rfl, .inl ⟨rfl, _, SqL.of hg⟩, g, _, _, rfl, rfl, hg, ?_, ?_⟩
      · rw [Paired.length hD8]
        have := allDue_len (cellD ns 1 % 41 - 20) (cellD ns 1 / 41 % 41 - 20) (((rs.length : Nat) : Int) / 2) hr5 rs.length
        exact small1000 (by omega)
      · have sg : Same H7 (upd H8 g (.lst (ws' ++ [.int 0]))) := fun b o e => by
          rw [upd_ne (ne_of_none (s7 b o e) ng)]
          exact s78 _ _ e
        exact ⟨_, _, rfl, tip7.mono sg, sg _ _ hd7, hD7.keep fun b xs e => sg _ _ e⟩
    · rintro σ H7 ⟨y7, y8, rfl, tip7, hd7, hD7⟩
      refine ⟨_, rfl, d, rfl, ⟨_, SqL.of hd7⟩, fun DD nDD => lc_list (K := K) (a := d) (xs := ws) (fun i H9 => Same H7 H9 ∧ H9 DD = some (.lst [])) ⟨same_upd nDD, upd_same⟩ (fun i H9 _ h9 => SqL.of (h9.1 _ _ hd7)) (fun i x H9 hi h9 => ?_) (fun H9 h9 => ?_)⟩
      · refine ⟨rfl, _, rfl, _, _, _, _, true, rfl, .ty "tuple", due_tup (hD7.keep fun b xs e => h9.1 _ _ e) x (List.mem_of_getElem? hi), kit_ty kB17, true, rfl, iteF ?_⟩
        exact h9
      · refine ⟨Nat.zero_le _, fun e ne => ⟨.list [], .list [], .lst (SqL.of (same_upd ne _ _ h9.2)) .nil, .lst (SqL.of upd_same) .nil, rfl, rfl, ?_⟩⟩
        have ee : PyData.eqv (.list []) (.list []) = true := SeqAt.eqv_refl _ rfl
        rw [ee]
        exact q _
end
/-! ### isinstance of an error: own classes, a built-in one -/
theorem kit_own {K : PySem.W.Frag} {N C : Addr} {b : Bool} (hd : PySem.W.hasDictIn K C = true) (ht : PySem.W.typeIn K (.ref C) = some (.type "type")) (hs : PySem.W.subIn K (.ref N) (.ref C) = some b) (hN : PySem.W.subIn K (.ref N) (.ref N) = some true) : PySem.W.kitOne K (.ref N) (.ref C) = some b := by
  by_cases e : N = C
  · subst e
    rw [hs] at hN
    rw [Option.some.inj hN]
    unfold PySem.W.kitOne
    rw [if_pos (beq_self_eq_true _)]
  · obtain ⟨cd, hc, _⟩ := PySem.W.any_some hd
    have ne : ¬ ((Value.ref N == Value.ref C) = true) := fun q => e (Value.ref.inj (beq_iff_eq.mp q))
    have e2 : ((PySem.W.clsIn K C).isSome && PySem.W.typeIn K (.ref C) == some (.type "type")) = true := by rw [hc, ht] <;> rfl
    unfold PySem.W.kitOne
    rw [if_neg ne]
    show (if ((PySem.W.clsIn K C).isSome && PySem.W.typeIn K (.ref C) == some (.type "type")) = true then PySem.W.subIn K (.ref N) (.ref C) else none) = some b
    rw [if_pos e2]
    exact hs
theorem kit_bt {K : PySem.W.Frag} {N : Addr} {b : Bool} (hs : PySem.W.subIn K (.ref N) (.type "ValueError") = some b) : PySem.W.kitOne K (.ref N) (.type "ValueError") = some b := by
  have ne : ¬ ((Value.ref N == Value.type "ValueError") = true) := fun q => by cases (beq_iff_eq.mp q)
  unfold PySem.W.kitOne
  rw [if_neg ne]
  show (if PySem.W.kitMeta "ValueError" = true then PySem.W.subIn K (.ref N) (.type "ValueError") else none) = some b
  rw [if_pos (by decide +kernel)]
  exact hs
/-! ### what the top has written; the law's own head -/
theorem all_mk {l : PySem.W.OpenLaw} {w : World} {K : PySem.W.Frag} {h : Heap} {mg : Str → Option Value} {fa A B C N wA fC fR fS fF fD fI fP fW f6 fL : Addr} (X : K.In h) (G : h.Ns mainGlobals mg) (hfa : mg "law" = some (.ref fa))
    {odC anC odR anR odS anS odF anF odD anD odI anI odP anP odW anW od6 an6 odL anL : Option Addr} {slC slR slS slF slD slI slP slW sl6 slL : Array (Option Value)} {ocC kVC dcC pmC cdC ctC ocR kVR dcR pmR cdR ctR ocS kVS dcS pmS cdS ctS ocF kVF dcF pmF cdF ctF ocD kVD dcD pmD cdD ctD ocI kVI dcI pmI cdI ctI ocP kVP dcP pmP cdP ctP ocW kVW dcW pmW cdW ctW oc6 kV6 dc6 pm6 cd6 ct6 ocL kVL dcL pmL cdL ctL : Value} {tF t1 t2 t3 : Tok} {dW : Option Addr} {nw : Nat} {slX : Array (Option Value)}
    (aC : PySem.W.nsIn K mainGlobals "_law_cell_at" = some (some (.ref fC)))
    (lC : K.lookup fC = some ⟨ocC, odC, .func (PySem.W.fnOf "_law_cell_at" "_law_cell_at" (defArgs sCel) (defBody sCel) (defScope sCel) .none kVC dcC pmC anC cdC ctC), slC⟩)
    (cC : PySem.W.codeIn K cdC "_law_cell_at" = true)
    (kC : PySem.W.keepIn K (.ref fC) = true)
    (aR : PySem.W.nsIn K mainGlobals "_law_rows" = some (some (.ref fR)))
    (lR : K.lookup fR = some ⟨ocR, odR, .func (PySem.W.fnOf "_law_rows" "_law_rows" (defArgs sRow) (defBody sRow) (defScope sRow) .none kVR dcR pmR anR cdR ctR), slR⟩)
    (cR : PySem.W.codeIn K cdR "_law_rows" = true)
    (kR : PySem.W.keepIn K (.ref fR) = true)
    (aS : PySem.W.nsIn K mainGlobals "_law_spoilt" = some (some (.ref fS)))
    (lS : K.lookup fS = some ⟨ocS, odS, .func (PySem.W.fnOf "_law_spoilt" "_law_spoilt" (defArgs sSpo) (defBody sSpo) (defScope sSpo) .none kVS dcS pmS anS cdS ctS), slS⟩)
    (cS : PySem.W.codeIn K cdS "_law_spoilt" = true)
    (kS : PySem.W.keepIn K (.ref fS) = true)
    (aF : PySem.W.nsIn K mainGlobals "_law_refused" = some (some (.ref fF)))
    (lF : K.lookup fF = some ⟨ocF, odF, .func (PySem.W.fnOf "_law_refused" "_law_refused" (defArgs sRef) (defBody sRef) (defScope sRef) .none kVF dcF pmF anF cdF ctF), slF⟩)
    (cF : PySem.W.codeIn K cdF "_law_refused" = true)
    (kF : PySem.W.keepIn K (.ref fF) = true)
    (aD : PySem.W.nsIn K mainGlobals "_law_due" = some (some (.ref fD)))
    (lD : K.lookup fD = some ⟨ocD, odD, .func (PySem.W.fnOf "_law_due" "_law_due" (defArgs sDue) (defBody sDue) (defScope sDue) .none kVD dcD pmD anD cdD ctD), slD⟩)
    (cD : PySem.W.codeIn K cdD "_law_due" = true)
    (kD : PySem.W.keepIn K (.ref fD) = true)
    (aI : PySem.W.findIn K (.ref C) "__init__" = some (some (.ref fI)))
    (iI : PySem.W.isFn K (.ref fI) = true)
    (lI : K.lookup fI = some ⟨ocI, odI, .func (PySem.W.fnOf "__init__" "Tip.__init__" (defArgs sIni) (defBody sIni) (defScope sIni) .none kVI dcI pmI anI cdI ctI), slI⟩)
    (cI : PySem.W.codeIn K cdI "Tip.__init__" = true)
    (kI : PySem.W.keepIn K (.ref fI) = true)
    (aP : PySem.W.findIn K (.ref C) "spread" = some (some (.ref fP)))
    (iP : PySem.W.isFn K (.ref fP) = true)
    (lP : K.lookup fP = some ⟨ocP, odP, .func (PySem.W.fnOf "spread" "Tip.spread" (defArgs sSpr) (defBody sSpr) (defScope sSpr) .none kVP dcP pmP anP cdP ctP), slP⟩)
    (cP : PySem.W.codeIn K cdP "Tip.spread" = true)
    (kP : PySem.W.keepIn K (.ref fP) = true)
    (aW : PySem.W.nsIn K mainGlobals "is_weights" = some (some (.ref fW)))
    (lW : K.lookup fW = some ⟨ocW, odW, .func (PySem.W.fnOf "is_weights" "is_weights" (defArgs sWts) (defBody sWts) (defScope sWts) .none kVW dcW pmW anW cdW ctW), slW⟩)
    (cW : PySem.W.codeIn K cdW "is_weights" = true)
    (kW : PySem.W.keepIn K (.ref fW) = true)
    (a6 : PySem.W.nsIn K mainGlobals "is_sixteenth" = some (some (.ref f6)))
    (l6 : K.lookup f6 = some ⟨oc6, od6, .func (PySem.W.fnOf "is_sixteenth" "is_sixteenth" (defArgs sSix) (defBody sSix) (defScope sSix) .none kV6 dc6 pm6 an6 cd6 ct6), sl6⟩)
    (c6 : PySem.W.codeIn K cd6 "is_sixteenth" = true)
    (k6 : PySem.W.keepIn K (.ref f6) = true)
    (aL : PySem.W.nsIn K mainGlobals "law" = some (some (.ref fL)))
    (lL : K.lookup fL = some ⟨ocL, odL, .func (PySem.W.fnOf "law" "law" (defArgs sLaw) (defBody sLaw) (defScope sLaw) .none kVL dcL pmL anL cdL ctL), slL⟩)
    (cL : PySem.W.codeIn K cdL "law" = true)
    (kL : PySem.W.keepIn K (.ref fL) = true)
    (z0 : PySem.W.nsIn K mainGlobals "isinstance" = some none)
    (z1 : PySem.W.nsIn K mainGlobals "int" = some none)
    (z2 : PySem.W.nsIn K mainGlobals "bool" = some none)
    (z3 : PySem.W.nsIn K mainGlobals "list" = some none)
    (z4 : PySem.W.nsIn K mainGlobals "tuple" = some none)
    (z5 : PySem.W.nsIn K mainGlobals "len" = some none)
    (z6 : PySem.W.nsIn K mainGlobals "all" = some none)
    (z7 : PySem.W.nsIn K mainGlobals "enumerate" = some none)
    (z8 : PySem.W.nsIn K mainGlobals "range" = some none)
    (z9 : PySem.W.nsIn K mainGlobals "ValueError" = some none)
    (gFull : PySem.W.nsIn K mainGlobals "FULL" = some (some (.int 16 tF)))
    (gWid : PySem.W.nsIn K mainGlobals "WIDTHS" = some (some (.ref wA)))
    (lWid : K.lookup wA = some ⟨.type "tuple", dW, .seq #[.int 1 t1, .int 3 t2, .int 5 t3] nw, slX⟩)
    (gCc : PySem.W.nsIn K mainGlobals "Tip" = some (some (.ref C)))
    (gAc : PySem.W.nsIn K mainGlobals "HallError" = some (some (.ref A)))
    (gBc : PySem.W.nsIn K mainGlobals "NoShade" = some (some (.ref B)))
    (gNc : PySem.W.nsIn K mainGlobals "NoTip" = some (some (.ref N)))
    (pgC : PySem.W.plainGet K C Str.empty = true)
    (hdC : PySem.W.hasDictIn K C = true)
    (poC : PySem.W.plainOver K C = true)
    (saC : PySem.W.findIn K (.ref C) "__setattr__" = some (some (.builtin "object.__setattr__")))
    (mkC : PySem.W.makesIn K C = true)
    (kcC : PySem.W.keepIn K (.ref C) = true)
    (nW : PySem.W.findIn K (.ref C) "weights" = some none)
    (xN : PySem.W.excIn K N [.type "ValueError", .type "Exception", .type "BaseException", .type "object"] "ValueError.__new__" = true)
    (kN : PySem.W.keepIn K (.ref N) = true)
    (bN : PySem.W.subIn K (.ref N) (.type "BaseException") = some true)
    (tN : PySem.W.typeIn K (.ref N) = some (.type "type"))
    (gaN : PySem.W.findIn K (.ref N) "__getattribute__" = some (some (.builtin "BaseException.__getattribute__")))
    (ggN : PySem.W.findIn K (.ref N) "__getattr__" = some none)
    (hdN : PySem.W.hasDictIn K N = true)
    (caN : PySem.W.findIn K (.ref N) "__class__" = some (some (.builtin "object.__class__")))
    (spN : PySem.W.specialIn K (.builtin "object.__class__") "__get__" = some (some (.builtin "getset_descriptor.__get__")))
    (tkN : PySem.W.takesIn K (.builtin "object.__class__") = some true)
    (mrN : PySem.W.mroIn K N (.type "object") = some true)
    (sNN : PySem.W.subIn K (.ref N) (.ref N) = some true)
    (sNA : PySem.W.subIn K (.ref N) (.ref A) = some true)
    (sNV : PySem.W.subIn K (.ref N) (.type "ValueError") = some true)
    (sNB : PySem.W.subIn K (.ref N) (.ref B) = some false)
    (hdA : PySem.W.hasDictIn K A = true)
    (tA : PySem.W.typeIn K (.ref A) = some (.type "type"))
    (hdB : PySem.W.hasDictIn K B = true)
    (tB : PySem.W.typeIn K (.ref B) = some (.type "type"))
    : ∃ fd : FuncData, (∀ (s : Shared) (v : Value), BindsTo s fd ⟨[v], []⟩ [("_law_script", v)]) ∧ ∀ base : Heap, K.In base → base.Ns mainGlobals mg → FnOk l.prog w K mg base CX0 6 fa fd ["_law_script"] (spLaw K) := by
  have e := hfa.symm.trans (PySem.W.mg_of X G aL)
  cases e
  have FC := fun_mk (st := sCel) lC cC kC
  have FR := fun_mk (st := sRow) lR cR kR
  have FS := fun_mk (st := sSpo) lS cS kS
  have FF := fun_mk (st := sRef) lF cF kF
  have FD := fun_mk (st := sDue) lD cD kD
  have FI := fun_mk (st := sIni) lI cI kI
  have FP := fun_mk (st := sSpr) lP cP kP
  have FW := fun_mk (st := sWts) lW cW kW
  have F6 := fun_mk (st := sSix) l6 c6 k6
  have FL := fun_mk (st := sLaw) lL cL kL
  have bC := FC.binds (ps := ["_law_script", "_law_k"]) fun _ _ _ _ _ _ us hl => match us, hl with | [_, _], _ => rfl
  have bR := FR.binds (ps := ["_law_script", "_law_wide"]) fun _ _ _ _ _ _ us hl => match us, hl with | [_, _], _ => rfl
  have bS := FS.binds (ps := ["_law_rows_here", "_law_cell"]) fun _ _ _ _ _ _ us hl => match us, hl with | [_, _], _ => rfl
  have bF := FF.binds (ps := ["_law_rows_here"]) fun _ _ _ _ _ _ us hl => match us, hl with | [_], _ => rfl
  have bD := FD.binds (ps := ["_law_rows_here", "_law_x", "_law_y"]) fun _ _ _ _ _ _ us hl => match us, hl with | [_, _, _], _ => rfl
  have bI := FI.binds (ps := ["self", "rows"]) fun _ _ _ _ _ _ us hl => match us, hl with | [_, _], _ => rfl
  have bP := FP.binds (ps := ["self", "cell"]) fun _ _ _ _ _ _ us hl => match us, hl with | [_, _], _ => rfl
  have bW := FW.binds (ps := ["row", "many"]) fun _ _ _ _ _ _ us hl => match us, hl with | [_, _], _ => rfl
  have b6 := F6.binds (ps := ["number"]) fun _ _ _ _ _ _ us hl => match us, hl with | [_], _ => rfl
  have T : Txt mg := ⟨PySem.W.mg_none_of X G z0, PySem.W.mg_none_of X G z1, PySem.W.mg_none_of X G z2, PySem.W.mg_none_of X G z3, PySem.W.mg_none_of X G z4, PySem.W.mg_none_of X G z5, PySem.W.mg_none_of X G z6, PySem.W.mg_none_of X G z7, PySem.W.mg_none_of X G z8, ⟨_, PySem.W.mg_of X G gFull⟩⟩
  have wid : ∃ wA, mg "WIDTHS" = some (.ref wA) ∧ ∀ H : Hp, SqT K H wA [.int 1, .int 3, .int 5] := ⟨wA, PySem.W.mg_of X G gWid, fun H => .inr ⟨_, #[.int 1 t1, .int 3 t2, .int 5 t3], nw, lWid, rfl, rfl, (by show 3 ≤ sizeLine; decide), .cons ⟨t1, rfl⟩ (.cons ⟨t2, rfl⟩ (.cons ⟨t3, rfl⟩ .nil))⟩⟩
  have TC : TxtC K mg C N := ⟨⟨pgC, hdC, poC, saC⟩, nW, PySem.W.mg_of X G gCc, PySem.W.mg_of X G gNc, xN, kN, bN, tN, wid⟩
  have TE : TxtE K mg A B N := ⟨PySem.W.mg_of X G gAc, PySem.W.mg_of X G gBc, PySem.W.mg_of X G gNc, PySem.W.mg_none_of X G z9, ⟨gaN, ggN, bN, hdN, caN, spN, tkN, mrN⟩, PySem.W.exm_ref bN hdN tN sNN, kit_own hdA tA sNA sNN, kit_bt sNV, kit_own hdB tB sNB sNN⟩
  have D : Defs K mg C := {
    fC := fC, dC := _, FC := FC, bC := bC, gC := PySem.W.mg_of X G aC,
    fR := fR, dR := _, FR := FR, bR := bR, gR := PySem.W.mg_of X G aR,
    fS := fS, dS := _, FS := FS, bS := bS, gS := PySem.W.mg_of X G aS,
    fF := fF, dF := _, FF := FF, bF := bF, gF := PySem.W.mg_of X G aF,
    fD := fD, dD := _, FD := FD, bD := bD, gD := PySem.W.mg_of X G aD,
    fI := fI, dI := _, FI := FI, bI := bI,
    fP := fP, dP := _, FP := FP, bP := bP,
    fW := fW, dW := _, FW := FW, bW := bW, gW := PySem.W.mg_of X G aW,
    f6 := f6, d6 := _, F6 := F6, b6 := b6, g6 := PySem.W.mg_of X G a6,
    M := ⟨mkC, aI, iI, kcC⟩, mP := ⟨aP, iP, kP⟩ }
  exact ⟨PySem.W.fnOf "law" "law" (defArgs sLaw) (defBody sLaw) (defScope sLaw) .none kVL dcL pmL anL cdL ctL, fun s v => .of_eq rfl, fun base _ _ => ok_law FL T TC TE D⟩
end K63
open PySem PySem.W PyProof.Rows
set_option maxRecDepth 100000 in
set_option maxHeartbeats 0 in
theorem PySem.Challenge.cw_glazehall_k63_tips_holds : PySem.Challenge.rw_glazehall_k63_tips.Holds := by
  w_on; o_law; k_head; (case hw => w_witness2)
  k_fill
  refine L2.walk_of (l := PySem.Challenge.rw_glazehall_k63_tips) (n := 63) (k := 6) (x := "_law_script") (CX := fun _ => L2.CX0) (sp := fun w => K63.spLaw _) rfl (by decide) rfl ⟨rfl, by decide, by decide⟩ (fun w h Y => PySem.W.kIn_of Y) ?F (fun _ _ a ns hl _ hS => ⟨a, ns, rfl, hS, hl, fun _ => rfl⟩) (fun _ _ _ _ _ h => h)
  case F =>
    intro w mg fa h KX G hmg
    refine' K63.all_mk KX G hmg ?aC ?lC ?cC ?kC ?aR ?lR ?cR ?kR ?aS ?lS ?cS ?kS ?aF ?lF ?cF ?kF ?aD ?lD ?cD ?kD ?aI ?iI ?lI ?cI ?kI ?aP ?iP ?lP ?cP ?kP ?aW ?lW ?cW ?kW ?a6 ?l6 ?c6 ?k6 ?aL ?lL ?cL ?kL ?z0 ?z1 ?z2 ?z3 ?z4 ?z5 ?z6 ?z7 ?z8 ?z9 ?gFull ?gWid ?lWid ?gCc ?gAc ?gBc ?gNc ?pgC ?hdC ?poC ?saC ?mkC ?kcC ?nW ?xN ?kN ?bN ?tN ?gaN ?ggN ?hdN ?caN ?spN ?tkN ?mrN ?sNN ?sNA ?sNV ?sNB ?hdA ?tA ?hdB ?tB
    (case gCc => k_is)
    (case gAc => k_is)
    (case gBc => k_is)
    (case gNc => k_is)
    (case aC => k_is)
    (case lC => k_is)
    (case cC => k_is)
    (case kC => k_is)
    (case aR => k_is)
    (case lR => k_is)
    (case cR => k_is)
    (case kR => k_is)
    (case aS => k_is)
    (case lS => k_is)
    (case cS => k_is)
    (case kS => k_is)
    (case aF => k_is)
    (case lF => k_is)
    (case cF => k_is)
    (case kF => k_is)
    (case aD => k_is)
    (case lD => k_is)
    (case cD => k_is)
    (case kD => k_is)
    (case aI => k_is)
    (case iI => k_is)
    (case lI => k_is)
    (case cI => k_is)
    (case kI => k_is)
    (case aP => k_is)
    (case iP => k_is)
    (case lP => k_is)
    (case cP => k_is)
    (case kP => k_is)
    (case aW => k_is)
    (case lW => k_is)
    (case cW => k_is)
    (case kW => k_is)
    (case a6 => k_is)
    (case l6 => k_is)
    (case c6 => k_is)
    (case k6 => k_is)
    (case aL => k_is)
    (case lL => k_is)
    (case cL => k_is)
    (case kL => k_is)
    (case z0 => k_is)
    (case z1 => k_is)
    (case z2 => k_is)
    (case z3 => k_is)
    (case z4 => k_is)
    (case z5 => k_is)
    (case z6 => k_is)
    (case z7 => k_is)
    (case z8 => k_is)
    (case z9 => k_is)
    (case gFull => k_is)
    (case gWid => k_is)
    (case lWid => k_is)
    (case pgC => k_is)
    (case hdC => k_is)
    (case poC => k_is)
    (case saC => k_is)
    (case mkC => k_is)
    (case kcC => k_is)
    (case nW => k_is)
    (case xN => k_exc)
    (case kN => k_is)
    (case bN => k_is)
    (case tN => k_is)
    (case gaN => k_is)
    (case ggN => k_is)
    (case hdN => k_is)
    (case caN => k_is)
    (case spN => k_is)
    (case tkN => k_is)
    (case mrN => k_is)
    (case sNN => k_is)
    (case sNA => k_is)
    (case sNV => k_is)
    (case sNB => k_is)
    (case hdA => k_is)
    (case tA => k_is)
    (case hdB => k_is)
    (case tB => k_is)
