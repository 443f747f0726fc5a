import PyProof.Rows.All
import Wide.All
import OpenK.AllK
import Wide.FinOn
import HandS.ForMost
import HandS.IsInst
import HandS.TupAny
import HandS.TupMul
import HandS.Strs
import HandS.Deep
import HandS.SetFor
import KE.SortData
import PyProof.ReprRoads
import KE.GoesMore
import PySem.Challenge.RW_twoabove_k33_whole_rows_blown_up
import HandS.Codes
import HandS.Style
set_option Elab.async false
set_option linter.all false
set_option maxRecDepth 100000
set_option maxHeartbeats 8000000
namespace K33
open PySem PySem.Spec PyProof.Rows L2

/-! heaps that grow -/
def Gr (H H' : Hp) : Prop := ∀ a o, H a = some o → H' a = some o
theorem Gr.refl (H : Hp) : Gr H H := fun _ _ h => h
theorem Gr.tr {H H1 H2 : Hp} (a : Gr H H1) (b : Gr H1 H2) : Gr H H2 := fun x o h => b x o (a x o h)
theorem Gr.new {H : Hp} {p : Addr} {o : HO} (h : H p = none) : Gr H (upd H p o) := fun a u e => by
  rw [upd_ne (ne_of_none e h)]; exact e
theorem Gr.mut {H H' : Hp} {p : Addr} {o : HO} (e : Gr H H') (h : H p = none) : Gr H (upd H' p o) := fun a u q => by
  rw [upd_ne (ne_of_none q h)]; exact e a u q
theorem Gr.back {H H' : Hp} {p : Addr} (e : Gr H H') (h : H' p = none) : H p = none := by
  cases q : H p with
  | none => rfl
  | some o => have z := e p o q; rw [h] at z; cases z
theorem Gr.over {H H' : Hp} {p : Addr} {o : HO} (e : Gr H H') : Gr (upd H p o) (upd H' p o) := fun a u q => by
  by_cases z : a = p
  · subst z; rw [upd_same] at q ⊢; exact q
  · rw [upd_ne z] at q ⊢; exact e a u q

/-! data that stand in a heap, tracked -/
mutual
inductive Dt (H : Hp) : V → PyData → Prop
  | non : Dt H .non .none
  | bl (b : Bool) : Dt H (.bl b) (.bool b)
  | int (i : Int) : Dt H (.int i) (.int i)
  | str (x : Str) : Dt H (.str x) (.str x)
  | lst {a : Addr} {xs : List V} {ds : List PyData} : H a = some (.lst xs) → DtA H xs ds → Dt H (.ref a) (.list ds)
  | tup {a : Addr} {xs : List V} {ds : List PyData} : H a = some (.tup xs) → DtA H xs ds → Dt H (.ref a) (.tuple ds)
inductive DtA (H : Hp) : List V → List PyData → Prop
  | nil : DtA H [] []
  | cons {v : V} {vs : List V} {d : PyData} {ds : List PyData} : Dt H v d → DtA H vs ds → DtA H (v :: vs) (d :: ds)
end
mutual
theorem Dt.up {H H' : Hp} (e : Gr H H') : ∀ {v : V} {d : PyData}, Dt H v d → Dt H' v d
  | _, _, .non => .non
  | _, _, .bl b => .bl b
  | _, _, .int i => .int i
  | _, _, .str x => .str x
  | _, _, .lst h a => .lst (e _ _ h) (DtA.up e a)
  | _, _, .tup h a => .tup (e _ _ h) (DtA.up e a)
theorem DtA.up {H H' : Hp} (e : Gr H H') : ∀ {v : List V} {d : List PyData}, DtA H v d → DtA H' v d
  | _, _, .nil => .nil
  | _, _, .cons h t => .cons (Dt.up e h) (DtA.up e t)
end
mutual
theorem Dt.dp {K : PySem.W.Frag} {H : Hp} : ∀ {v : V} {d : PyData}, Dt H v d → Dp K H v d
  | _, _, .non => .non
  | _, _, .bl b => .bl b
  | _, _, .int i => .int i
  | _, _, .str x => .str x
  | _, _, .lst h a => .lst (.inl (.inl h)) (DtA.dp a)
  | _, _, .tup h a => .tup (.inl (.inl h)) (DtA.dp a)
theorem DtA.dp {K : PySem.W.Frag} {H : Hp} : ∀ {v : List V} {d : List PyData}, DtA H v d → DpAll K H v d
  | _, _, .nil => .nil
  | _, _, .cons h t => .cons (Dt.dp h) (DtA.dp t)
end
/-! data without lists: a list that changes elsewhere does not touch them -/
mutual
def soft : PyData → Bool
  | .list _ => false
  | .dict _ => false
  | .tuple xs => softA xs
  | _ => true
def softA : List PyData → Bool
  | [] => true
  | x :: xs => soft x && softA xs
end
mutual
theorem Dt.off {H : Hp} {p : Addr} {zs : List V} {o : HO} (hp : H p = some (.lst zs)) : ∀ {v : V} {d : PyData}, Dt H v d → soft d = true → Dt (upd H p o) v d
  | _, _, .non, _ => .non
  | _, _, .bl b, _ => .bl b
  | _, _, .int i, _ => .int i
  | _, _, .str x, _ => .str x
  | _, _, .lst h a, s => by simp [soft] at s
  | _, _, .tup (a := q) h a, s => .tup (by rw [upd_ne (ne_of h hp (by intro z; cases z))]; exact h) (DtA.off hp a (by simpa [soft] using s))
theorem DtA.off {H : Hp} {p : Addr} {zs : List V} {o : HO} (hp : H p = some (.lst zs)) : ∀ {v : List V} {d : List PyData}, DtA H v d → softA d = true → DtA (upd H p o) v d
  | _, _, .nil, _ => .nil
  | _, _, .cons h t, s => by
    simp only [softA, Bool.and_eq_true] at s
    exact .cons (Dt.off hp h s.1) (DtA.off hp t s.2)
end
section
variable {H : Hp} {xs ys : List V} {ds es : List PyData} {v : V} {d : PyData}
theorem Dt.int_eq {i : Int} (h : Dt H v (.int i)) : v = .int i := by cases h; rfl
theorem Dt.bl_eq {b : Bool} (h : Dt H v (.bool b)) : v = .bl b := by cases h; rfl
theorem Dt.str_eq {x : Str} (h : Dt H v (.str x)) : v = .str x := by cases h; rfl
theorem Dt.non_eq (h : Dt H v .none) : v = .non := by cases h; rfl
theorem Dt.list_eq (h : Dt H v (.list ds)) : ∃ a xs, v = .ref a ∧ H a = some (.lst xs) ∧ DtA H xs ds := by
  cases h with
  | lst h a => exact ⟨_, _, rfl, h, a⟩
theorem Dt.tup_eq (h : Dt H v (.tuple ds)) : ∃ a xs, v = .ref a ∧ H a = some (.tup xs) ∧ DtA H xs ds := by
  cases h with
  | tup h a => exact ⟨_, _, rfl, h, a⟩
theorem DtA.len : ∀ {xs : List V} {ds : List PyData}, DtA H xs ds → xs.length = ds.length
  | _, _, .nil => rfl
  | _, _, .cons _ t => by rw [List.length_cons, List.length_cons, DtA.len t]
theorem DtA.get : ∀ {xs : List V} {ds : List PyData}, DtA H xs ds → ∀ {i : Nat} {d : PyData}, ds[i]? = some d → ∃ v, xs[i]? = some v ∧ Dt H v d
  | _, _, .nil, i, d, h => by simp at h
  | _, _, .cons h t, 0, d, e => by simp at e; subst e; exact ⟨_, rfl, h⟩
  | _, _, .cons h t, i + 1, d, e => by simp at e; exact DtA.get t e
theorem DtA.at : ∀ {xs : List V} {ds : List PyData}, DtA H xs ds → ∀ {i : Nat} {v : V}, xs[i]? = some v → ∃ d, ds[i]? = some d ∧ Dt H v d
  | _, _, .nil, i, d, h => by simp at h
  | _, _, .cons h t, 0, d, e => by simp at e; subst e; exact ⟨_, rfl, h⟩
  | _, _, .cons h t, i + 1, d, e => by simp at e; exact DtA.at t e
theorem DtA.app : ∀ {xs : List V} {ds : List PyData}, DtA H xs ds → ∀ {ys : List V} {es : List PyData}, DtA H ys es → DtA H (xs ++ ys) (ds ++ es)
  | _, _, .nil, _, _, h => h
  | _, _, .cons h t, _, _, k => .cons h (DtA.app t k)
theorem DtA.one (h : Dt H v d) : DtA H [v] [d] := .cons h .nil
theorem DtA.take : ∀ {xs : List V} {ds : List PyData} (n : Nat), DtA H xs ds → DtA H (xs.take n) (ds.take n)
  | _, _, 0, _ => by simp; exact .nil
  | _, _, n + 1, .nil => .nil
  | _, _, n + 1, .cons h t => .cons h (DtA.take n t)
theorem DtA.drop : ∀ {xs : List V} {ds : List PyData} (n : Nat), DtA H xs ds → DtA H (xs.drop n) (ds.drop n)
  | _, _, 0, h => h
  | _, _, n + 1, .nil => .nil
  | _, _, n + 1, .cons h t => DtA.drop n t
theorem DtA.setAt : ∀ {xs : List V} {ds : List PyData} (n : Nat), DtA H xs ds → Dt H v d → DtA H (xs.set n v) (ds.set n d)
  | _, _, _, .nil, _ => .nil
  | _, _, 0, .cons h t, k => .cons k t
  | _, _, n + 1, .cons h t, k => .cons h (DtA.setAt n t k)
theorem DtA.ints : ∀ {ns : List Int} {xs : List V}, DtA H xs (ns.map .int) → xs = ns.map V.int
  | [], _, h => by cases h; rfl
  | n :: ns, _, h => by
    cases h with
    | cons a t => cases a; rw [DtA.ints t]; rfl
theorem DtA.of_ints : ∀ (ns : List Int), DtA H (ns.map V.int) (ns.map .int)
  | [] => .nil
  | n :: ns => .cons (.int n) (DtA.of_ints ns)
theorem DtA.bls : ∀ {ns : List Bool} {xs : List V}, DtA H xs (ns.map .bool) → xs = ns.map V.bl
  | [], _, h => by cases h; rfl
  | n :: ns, _, h => by
    cases h with
    | cons a t => cases a; rw [DtA.bls t]; rfl
theorem DtA.erase : ∀ {xs : List V} {ds : List PyData} (n : Nat), DtA H xs ds → DtA H (xs.eraseIdx n) (ds.eraseIdx n)
  | _, _, _, .nil => .nil
  | _, _, 0, .cons h t => t
  | _, _, n + 1, .cons h t => .cons h (DtA.erase n t)
end

/-! predicates on a value in a heap -/
abbrev Pd := Hp → V → Prop
class Mono (P : Pd) : Prop where
  up : ∀ {H H' : Hp} {v : V}, Gr H H' → P H v → P H' v
def D (d : PyData) : Pd := fun H v => Dt H v d
instance {d : PyData} : Mono (D d) := ⟨fun e h => Dt.up e h⟩
/-- a new list (unknown in H0) -/
def NewL (H0 : Hp) (ds : List PyData) : Pd := fun H v => ∃ p xs, v = .ref p ∧ H0 p = none ∧ H p = some (.lst xs) ∧ DtA H xs ds
instance {H0 : Hp} {ds : List PyData} : Mono (NewL H0 ds) := ⟨fun e ⟨p, xs, h1, h2, h3, h4⟩ => ⟨p, xs, h1, h2, e _ _ h3, DtA.up e h4⟩⟩
theorem NewL.d {H0 H : Hp} {ds : List PyData} {v : V} (h : NewL H0 ds H v) : D (.list ds) H v := by
  obtain ⟨p, xs, rfl, _, h3, h4⟩ := h
  exact .lst h3 h4
theorem NewL.back {H0 H1 H : Hp} {ds : List PyData} {v : V} (e : Gr H0 H1) (h : NewL H1 ds H v) : NewL H0 ds H v := by
  obtain ⟨p, xs, h1, h2, h3, h4⟩ := h
  exact ⟨p, xs, h1, e.back h2, h3, h4⟩
abbrev I (i : Int) : Pd := D (.int i)
abbrev B (b : Bool) : Pd := D (.bool b)
/-- all the arguments -/
def AllP : List Pd → Hp → List V → Prop
  | [], _, vs => vs = []
  | P :: Ps, H, vs => ∃ v r, vs = v :: r ∧ P H v ∧ AllP Ps H r
theorem AllP.len : ∀ {Ps : List Pd} {H : Hp} {vs : List V}, AllP Ps H vs → vs.length = Ps.length
  | [], _, _, h => by rw [h]; rfl
  | P :: Ps, _, _, ⟨v, r, e, _, t⟩ => by rw [e, List.length_cons, List.length_cons, AllP.len t]

/-! what evaluates to what -/
def Evp (te : TE) (σ : L2.St) (H : Hp) (P : Pd) : Prop := ∀ H1, Gr H H1 → ∀ Q : VK, (∀ v H2, Gr H1 H2 → P H2 v → Q v H2) → te σ H1 Q
def Evb (tt : TT) (σ : L2.St) (H : Hp) (b : Bool) : Prop := ∀ H1, Gr H H1 → ∀ Q : Bool → Hp → Prop, (∀ H2, Gr H1 H2 → Q b H2) → tt σ H1 Q
def Eva (ta : TA) (σ : L2.St) (H : Hp) (Ps : List Pd) : Prop := ∀ H1, Gr H H1 → ∀ Q : List V → Hp → Prop, (∀ vs H2, Gr H1 H2 → AllP Ps H2 vs → Q vs H2) → ta σ H1 Q
/-- the readings that the syntax has by itself -/
def rdE (X : Cx) (e : Expr) : TE := fun σ H Q => ∀ (pins : List (Addr × Obj)) (s : Shared), Inv X pins σ H s → wpAny (model X.prog X.w) X.A (eval e X.env) (EP X pins σ Q) X.xe s
def rdT (X : Cx) (e : Expr) : TT := fun σ H Q => ∀ (pins : List (Addr × Obj)) (s : Shared), Inv X pins σ H s → wpAny (model X.prog X.w) X.A (isTrue e X.env (eval e X.env)) (TP X pins σ Q) X.xe s
def rdW (X : Cx) (e : Expr) : TT := fun σ H Q => ∀ (whole : Sem Value) (pins : List (Addr × Obj)) (s : Shared), Inv X pins σ H s → wpAny (model X.prog X.w) X.A (isTrue e X.env whole) (TP X pins σ Q) X.xe s
def rdA (X : Cx) (es : List Expr) : TA := fun σ H Q => ∀ (pos : Pos) (pins : List (Addr × Obj)) (s : Shared), Inv X pins σ H s → wpAny (model X.prog X.w) X.A (spliced (backTo pos (starEach es X.env))) (AP X pins σ Q) X.xe s
def rdS (X : Cx) (st : Stmt) : TS := fun Z σ H => ∀ (pins : List (Addr × Obj)) (s : Shared), Inv X pins σ H s → wpAny (model X.prog X.w) X.A (exec st X.env) (SP X pins Z) X.xe s
def rdSs (X : Cx) (st : List Stmt) : TS := fun Z σ H => ∀ (pins : List (Addr × Obj)) (s : Shared), Inv X pins σ H s → wpAny (model X.prog X.w) X.A (execs st X.env) (SP X pins Z) X.xe s
theorem pE (X : Cx) (e : Expr) : PE X e (rdE X e) := ⟨fun pins s σ H Q I h => h pins s I⟩
theorem pT (X : Cx) (e : Expr) : PT X e (rdT X e) := ⟨fun pins s σ H Q I h => h pins s I⟩
theorem pW (X : Cx) (e : Expr) : PW X e (rdW X e) := ⟨fun w pins s σ H Q I h => h w pins s I⟩
theorem pA (X : Cx) (e : List Expr) : PA X e (rdA X e) := ⟨fun pos pins s σ H Q I h => h pos pins s I⟩
theorem pS (X : Cx) (e : Stmt) : PS X e (rdS X e) := ⟨fun pins s σ H Q I h => h pins s I⟩
theorem pSs (X : Cx) (e : List Stmt) : PSs X e (rdSs X e) := ⟨fun pins s σ H Q I h => h pins s I⟩
theorem rdE_of {X : Cx} {e : Expr} {t : TE} (h : PE X e t) {σ : L2.St} {H : Hp} {Q : VK} (q : t σ H Q) : rdE X e σ H Q := fun pins s I => h.run pins s σ H Q I q
theorem rdT_of {X : Cx} {e : Expr} {t : TT} (h : PT X e t) {σ : L2.St} {H : Hp} {Q : Bool → Hp → Prop} (q : t σ H Q) : rdT X e σ H Q := fun pins s I => h.run pins s σ H Q I q
theorem rdW_of {X : Cx} {e : Expr} {t : TT} (h : PW X e t) {σ : L2.St} {H : Hp} {Q : Bool → Hp → Prop} (q : t σ H Q) : rdW X e σ H Q := fun w pins s I => h.run w pins s σ H Q I q
theorem rdA_of {X : Cx} {e : List Expr} {t : TA} (h : PA X e t) {σ : L2.St} {H : Hp} {Q : List V → Hp → Prop} (q : t σ H Q) : rdA X e σ H Q := fun pos pins s I => h.run pos pins s σ H Q I q
theorem rdS_of {X : Cx} {e : Stmt} {t : TS} (h : PS X e t) {σ : L2.St} {H : Hp} {Z : Ends} (q : t Z σ H) : rdS X e Z σ H := fun pins s I => h.run pins s σ H Z I q
theorem rdSs_of {X : Cx} {e : List Stmt} {t : TS} (h : PSs X e t) {σ : L2.St} {H : Hp} {Z : Ends} (q : t Z σ H) : rdSs X e Z σ H := fun pins s I => h.run pins s σ H Z I q
/-- an expression; a test; arguments: told by what is known of their values -/
abbrev E (X : Cx) (e : Expr) (σ : L2.St) (H : Hp) (P : Pd) : Prop := Evp (rdE X e) σ H P
abbrev T (X : Cx) (e : Expr) (σ : L2.St) (H : Hp) (b : Bool) : Prop := Evb (rdT X e) σ H b
abbrev EA (X : Cx) (es : List Expr) (σ : L2.St) (H : Hp) (Ps : List Pd) : Prop := Eva (rdA X es) σ H Ps
theorem Evp.of {X : Cx} {e : Expr} {t : TE} {σ : L2.St} {H : Hp} {P : Pd} (h : PE X e t) (q : Evp t σ H P) : E X e σ H P := fun H1 g Q k => rdE_of h (q H1 g Q k)
theorem Evb.of {X : Cx} {e : Expr} {t : TT} {σ : L2.St} {H : Hp} {b : Bool} (h : PT X e t) (q : Evb t σ H b) : T X e σ H b := fun H1 g Q k => rdT_of h (q H1 g Q k)
section
variable {te : TE} {tt : TT} {ta : TA} {σ : L2.St} {H H' : Hp} {P R : Pd} {Ps : List Pd} {b : Bool}
theorem Evp.up (e : Gr H H') (h : Evp te σ H P) : Evp te σ H' P := fun H1 g Q k => h H1 (e.tr g) Q k
theorem Evb.up (e : Gr H H') (h : Evb tt σ H b) : Evb tt σ H' b := fun H1 g Q k => h H1 (e.tr g) Q k
theorem Eva.up (e : Gr H H') (h : Eva ta σ H Ps) : Eva ta σ H' Ps := fun H1 g Q k => h H1 (e.tr g) Q k
theorem Evp.run (h : Evp te σ H P) {Q : VK} (k : ∀ v H1, Gr H H1 → P H1 v → Q v H1) : te σ H Q := h H (Gr.refl H) Q k
theorem Evb.run (h : Evb tt σ H b) {Q : Bool → Hp → Prop} (k : ∀ H1, Gr H H1 → Q b H1) : tt σ H Q := h H (Gr.refl H) Q k
theorem Eva.run (h : Eva ta σ H Ps) {Q : List V → Hp → Prop} (k : ∀ v H1, Gr H H1 → AllP Ps H1 v → Q v H1) : ta σ H Q := h H (Gr.refl H) Q k
theorem Evp.imp (h : Evp te σ H P) (k : ∀ H1 v, Gr H H1 → P H1 v → R H1 v) : Evp te σ H R := fun H1 g Q q => h H1 g Q fun v H2 g2 p => q v H2 g2 (k H2 v (g.tr g2) p)
theorem Evp.eq {d d' : PyData} (h : Evp te σ H (D d)) (e : d = d') : Evp te σ H (D d') := e ▸ h
theorem Evp.int {i j : Int} (h : Evp te σ H (I i)) (e : i = j) : Evp te σ H (I j) := e ▸ h
theorem Evp.bl {i j : Bool} (h : Evp te σ H (B i)) (e : i = j) : Evp te σ H (B j) := e ▸ h
theorem Evb.eq {i j : Bool} (h : Evb tt σ H i) (e : i = j) : Evb tt σ H j := e ▸ h
theorem Evp.newD {ds : List PyData} (h : Evp te σ H (NewL H ds)) : Evp te σ H (D (.list ds)) := h.imp fun _ _ _ p => p.d
end
end K33
namespace K33
open PySem PySem.Spec PyProof.Rows L2
section
variable {X : Cx} {σ : L2.St} {H : Hp} {a b c e o : Expr} {es : List Expr} {pos p p2 : Pos} {P R S : Pd} {i j k : Int} {n m : Nat} {x : Str} {v : V} {d : PyData} {ds : List PyData} {Ps : List Pd} {b1 b2 : Bool}

/-! names, constants -/
theorem e_var (ix : Nat) (hs : σ[ix]? = some (some v)) (h : P H v) [Mono P] (hN : X.N[ix]? = some x := by rfl) (hv : Vis X.env.scope x := by first | exact Or.inl rfl | exact Or.inr (Or.inl rfl) | exact Or.inr (Or.inr rfl))
    (hd : (x == ("__debug__" : Str)) = false := by decide) (hcd : (x == ("__classdict__" : Str)) = false := by decide) : E X (.Name x pos) σ H P :=
  .of (pe_var hN hv hd hcd) fun H1 g Q q => ⟨v, hs, q v H1 (Gr.refl _) (Mono.up g h)⟩
theorem ev_c {v : V} (h : P H v) [Mono P] : Evp (tC v) σ H P := fun H1 g Q q => q v H1 (Gr.refl _) (Mono.up g h)
theorem e_int {t} : E X (.Constant (.int i) t pos) σ H (I i) := .of pe_int (ev_c (Dt.int i))
theorem e_bl {t} : E X (.Constant (.bool b1) t pos) σ H (B b1) := .of pe_bl (ev_c (Dt.bl b1))
theorem e_non {t} : E X (.Constant .none t pos) σ H (D .none) := .of pe_non (ev_c Dt.non)
theorem e_str {t} : E X (.Constant (.str x) t pos) σ H (D (.str x)) := .of pe_str (ev_c (Dt.str x))
theorem e_gi {t : Tok} (hm : X.mg x = some (.int i t)) (hg : Gl X x := by rfl) (hd : (x == ("__debug__" : Str)) = false := by decide) : E X (.Name x pos) σ H (I i) := .of (pe_glob (v := .int i) hg hm ⟨t, rfl⟩ hd) (ev_c (Dt.int i))
theorem e_gs {y : Str} {t : Tok} (hm : X.mg x = some (.str y t)) (hg : Gl X x := by rfl) (hd : (x == ("__debug__" : Str)) = false := by decide) : E X (.Name x pos) σ H (D (.str y)) := .of (pe_glob (v := .str y) hg hm ⟨t, rfl⟩ hd) (ev_c (Dt.str y))
/-- a built-in class as a value; an own class -/
def Is (w : V) : Pd := fun _ v => v = w
instance {w : V} : Mono (Is w) := ⟨fun _ h => h⟩
theorem e_ty {T : String} (hv : bootBuiltins x = some (.type T)) (hm : X.mg x = none) (hg : Gl X x := by rfl) (hn : x ≠ "__name__" := by decide) (hd : (x == ("__debug__" : Str)) = false := by decide) : E X (.Name x pos) σ H (Is (.ty T)) :=
  .of (pe_bltn (v := .ty T) hg hm hv rfl hn hd) (ev_c rfl)
theorem e_own {C : Addr} (hm : X.mg x = some (.ref C)) (hg : Gl X x := by rfl) (hd : (x == ("__debug__" : Str)) = false := by decide) : E X (.Name x pos) σ H (Is (.ref C)) :=
  .of (pe_glob (v := .ref C) hg hm rfl hd) (ev_c rfl)

/-! operators -/
def RO (r : R2) (P R S : Pd) (H : Hp) : Prop := ∀ H1, Gr H H1 → ∀ x y, P H1 x → R H1 y → ∀ Q : VK, (∀ v H2, Gr H1 H2 → S H2 v → Q v H2) → r x y H1 Q
theorem ev_op {r : R2} {ta tb : TE} [Mono P] (ha : Evp ta σ H P) (hb : Evp tb σ H R) (hr : RO r P R S H) : Evp (tOp r ta tb) σ H S := fun H1 g Q q =>
  ha H1 g _ fun x H2 g2 px => hb H2 (g.tr g2) _ fun y H3 g3 py => hr H3 ((g.tr g2).tr g3) x y (Mono.up g3 px) py Q fun v H4 g4 s => q v H4 ((g2.tr g3).tr g4) s
theorem e_op {op : Operator} {r : R2} [Mono P] (ho : OpR X (binaryOp op) r) (ha : E X a σ H P) (hb : E X b σ H R) (hr : RO r P R S H) : E X (.BinOp a op b pos) σ H S := .of (pe_op ho (pE X a) (pE X b)) (ev_op ha hb hr)
theorem e_cmp {op : CmpOp} {r : R2} [Mono P] (ho : OpR X (compareOp op) r) (ha : E X a σ H P) (hb : E X b σ H R) (hr : RO r P R S H) (hm : behindInMarks op b = false := by first | exact nomark _ | rfl) : E X (.Compare a [op] [b] pos) σ H S :=
  .of (pe_cmpR ho (pE X a) (pE X b) hm) (ev_op ha hb hr)
theorem t_cmp {op : CmpOp} {r : R2} [Mono P] (ho : OpR X (compareOp op) r) (ha : E X a σ H P) (hb : E X b σ H R) (hr : RO r P R (B b1) H) (hm : behindInMarks op b = false := by first | exact nomark _ | rfl) : T X (.Compare a [op] [b] pos) σ H b1 :=
  .of (pt_cmpR ho (pE X a) (pE X b) hm) fun H1 g Q q => ev_op ha hb hr H1 g _ fun v H2 g2 s => ⟨b1, Dt.bl_eq s, q H2 g2⟩
theorem ro_I {C : Int → Int → Prop} {f : Int → Int → Int} (h : C i j) : RO (rI C fun i j => .int (f i j)) (I i) (I j) (I (f i j)) H := fun H1 _ x y px py Q q => ⟨i, j, Dt.int_eq px, Dt.int_eq py, h, q _ H1 (Gr.refl _) (.int _)⟩
theorem ro_I0 {f : Int → Int → Int} : RO (rI0 fun i j => .int (f i j)) (I i) (I j) (I (f i j)) H := fun H1 _ x y px py Q q => ⟨i, j, Dt.int_eq px, Dt.int_eq py, q _ H1 (Gr.refl _) (.int _)⟩
theorem ro_B0 {f : Int → Int → Bool} : RO (rI0 fun i j => .bl (f i j)) (I i) (I j) (B (f i j)) H := fun H1 _ x y px py Q q => ⟨i, j, Dt.int_eq px, Dt.int_eq py, q _ H1 (Gr.refl _) (.bl _)⟩
theorem e_add (ha : E X a σ H (I i)) (hb : E X b σ H (I j)) : E X (.BinOp a .Add b pos) σ H (I (i + j)) := e_op op_add ha hb (ro_I0 (f := fun i j => i + j))
theorem e_sub (ha : E X a σ H (I i)) (hb : E X b σ H (I j)) : E X (.BinOp a .Sub b pos) σ H (I (i - j)) := e_op op_sub ha hb (ro_I0 (f := fun i j => i - j))
theorem e_mul (ha : E X a σ H (I i)) (hb : E X b σ H (I j)) (h : CMul i j) : E X (.BinOp a .Mult b pos) σ H (I (i * j)) := e_op op_mul ha hb (ro_I (f := fun i j => i * j) h)
theorem e_mod (ha : E X a σ H (I i)) (hb : E X b σ H (I j)) (h : 0 < j) : E X (.BinOp a .Mod b pos) σ H (I (i % j)) := e_op op_mod ha hb (ro_I (C := fun _ j => 0 < j) (f := fun i j => i % j) h)
theorem e_fdiv (ha : E X a σ H (I i)) (hb : E X b σ H (I j)) (h : CDiv i j) : E X (.BinOp a .FloorDiv b pos) σ H (I (i / j)) := e_op op_fdiv ha hb (ro_I (f := fun i j => i / j) h)
theorem e_pow (ha : E X a σ H (I i)) (hb : E X b σ H (I j)) (h : CPow i j) : E X (.BinOp a .Pow b pos) σ H (I (i ^ j.toNat)) := e_op op_pow ha hb (ro_I (f := fun i j => i ^ j.toNat) h)
theorem e_shl (ha : E X a σ H (I i)) (hb : E X b σ H (I j)) (h : CPow i j) : E X (.BinOp a .LShift b pos) σ H (I (i * 2 ^ j.toNat)) := e_op op_shl ha hb (ro_I (f := fun i j => i * 2 ^ j.toNat) h)
theorem e_shr (ha : E X a σ H (I i)) (hb : E X b σ H (I j)) (h : 0 ≤ j) : E X (.BinOp a .RShift b pos) σ H (I (i / 2 ^ j.toNat)) := e_op op_shr ha hb (ro_I (C := fun _ j => 0 ≤ j) (f := fun i j => i / 2 ^ j.toNat) h)
theorem e_band (ha : E X a σ H (I i)) (hb : E X b σ H (I j)) : E X (.BinOp a .BitAnd b pos) σ H (I (Builtin.bitAnd i j)) := e_op op_and ha hb (ro_I0 (f := Builtin.bitAnd))
theorem e_bor (ha : E X a σ H (I i)) (hb : E X b σ H (I j)) : E X (.BinOp a .BitOr b pos) σ H (I (Builtin.bitOr i j)) := e_op op_or ha hb (ro_I0 (f := Builtin.bitOr))
theorem e_bxor (ha : E X a σ H (I i)) (hb : E X b σ H (I j)) : E X (.BinOp a .BitXor b pos) σ H (I (Builtin.bitXor i j)) := e_op op_xor ha hb (ro_I0 (f := Builtin.bitXor))
theorem ev_un {te : TE} {f : Int → Int} (ha : Evp te σ H (I i)) : Evp (tUn (rU fun i => .int (f i)) te) σ H (I (f i)) := fun H1 g Q q => ha H1 g _ fun x H2 g2 px => ⟨i, Dt.int_eq px, q _ H2 g2 (.int _)⟩
theorem e_neg (ha : E X a σ H (I i)) : E X (.UnaryOp .USub a pos) σ H (I (-i)) := .of (pe_un un_neg (pE X a)) (ev_un ha)
theorem e_inv (ha : E X a σ H (I i)) : E X (.UnaryOp .Invert a pos) σ H (I (Builtin.bitNot i)) := .of (pe_un un_inv (pE X a)) (ev_un ha)
theorem e_lt (ha : E X a σ H (I i)) (hb : E X b σ H (I j)) : E X (.Compare a [.Lt] [b] pos) σ H (B (decide (i < j))) := e_cmp op_lt ha hb (ro_B0 (f := fun i j => decide (i < j)))
theorem e_le (ha : E X a σ H (I i)) (hb : E X b σ H (I j)) : E X (.Compare a [.LtE] [b] pos) σ H (B (decide (i ≤ j))) := e_cmp op_le ha hb (ro_B0 (f := fun i j => decide (i ≤ j)))
theorem e_gt (ha : E X a σ H (I i)) (hb : E X b σ H (I j)) : E X (.Compare a [.Gt] [b] pos) σ H (B (decide (j < i))) := e_cmp op_gt ha hb (ro_B0 (f := fun i j => decide (j < i)))
theorem e_ge (ha : E X a σ H (I i)) (hb : E X b σ H (I j)) : E X (.Compare a [.GtE] [b] pos) σ H (B (decide (j ≤ i))) := e_cmp op_ge ha hb (ro_B0 (f := fun i j => decide (j ≤ i)))
theorem t_lt (ha : E X a σ H (I i)) (hb : E X b σ H (I j)) : T X (.Compare a [.Lt] [b] pos) σ H (decide (i < j)) := t_cmp op_lt ha hb (ro_B0 (f := fun i j => decide (i < j)))
theorem t_le (ha : E X a σ H (I i)) (hb : E X b σ H (I j)) : T X (.Compare a [.LtE] [b] pos) σ H (decide (i ≤ j)) := t_cmp op_le ha hb (ro_B0 (f := fun i j => decide (i ≤ j)))
theorem t_gt (ha : E X a σ H (I i)) (hb : E X b σ H (I j)) : T X (.Compare a [.Gt] [b] pos) σ H (decide (j < i)) := t_cmp op_gt ha hb (ro_B0 (f := fun i j => decide (j < i)))
theorem t_ge (ha : E X a σ H (I i)) (hb : E X b σ H (I j)) : T X (.Compare a [.GtE] [b] pos) σ H (decide (j ≤ i)) := t_cmp op_ge ha hb (ro_B0 (f := fun i j => decide (j ≤ i)))
/-- == of scalars -/
theorem ro_eq {u w : V} {d d' : PyData} (h1 : ∀ H v, Dt H v d → v = u) (h2 : ∀ H v, Dt H v d' → v = w) (hs : scal u w = true) (hb : decide (u = w) = b1) : RO rEq (D d) (D d') (B b1) H := fun H1 _ x y px py Q q => by
  have e1 := h1 _ _ px
  have e2 := h2 _ _ py
  subst e1 e2
  exact ⟨hs, q _ H1 (Gr.refl _) (by rw [hb]; exact .bl _)⟩
theorem ro_ne {u w : V} {d d' : PyData} (h1 : ∀ H v, Dt H v d → v = u) (h2 : ∀ H v, Dt H v d' → v = w) (hs : scal u w = true) (hb : (!decide (u = w)) = b1) : RO rNe (D d) (D d') (B b1) H := fun H1 _ x y px py Q q => by
  have e1 := h1 _ _ px
  have e2 := h2 _ _ py
  subst e1 e2
  exact ⟨hs, q _ H1 (Gr.refl _) (by rw [hb]; exact .bl _)⟩
theorem dec_int' : decide ((V.int i) = V.int j) = decide (i = j) := decide_eq_decide.mpr ⟨fun h => V.int.inj h, fun h => congrArg V.int h⟩
theorem dec_str' {x y : Str} : decide ((V.str x) = V.str y) = decide (x = y) := decide_eq_decide.mpr ⟨fun h => V.str.inj h, fun h => congrArg V.str h⟩
theorem roe_I : RO rEq (I i) (I j) (B (decide (i = j))) H := ro_eq (fun _ _ h => Dt.int_eq h) (fun _ _ h => Dt.int_eq h) rfl dec_int'
theorem ron_I : RO rNe (I i) (I j) (B (!decide (i = j))) H := ro_ne (fun _ _ h => Dt.int_eq h) (fun _ _ h => Dt.int_eq h) rfl (congrArg _ dec_int')
theorem roe_S {x y : Str} : RO rEq (D (.str x)) (D (.str y)) (B (decide (x = y))) H := ro_eq (fun _ _ h => Dt.str_eq h) (fun _ _ h => Dt.str_eq h) rfl dec_str'
theorem ron_S {x y : Str} : RO rNe (D (.str x)) (D (.str y)) (B (!decide (x = y))) H := ro_ne (fun _ _ h => Dt.str_eq h) (fun _ _ h => Dt.str_eq h) rfl (congrArg _ dec_str')
theorem e_eqI (ha : E X a σ H (I i)) (hb : E X b σ H (I j)) : E X (.Compare a [.Eq] [b] pos) σ H (B (decide (i = j))) := e_cmp op_eq ha hb roe_I
theorem t_eqI (ha : E X a σ H (I i)) (hb : E X b σ H (I j)) : T X (.Compare a [.Eq] [b] pos) σ H (decide (i = j)) := t_cmp op_eq ha hb roe_I
theorem e_neI (ha : E X a σ H (I i)) (hb : E X b σ H (I j)) : E X (.Compare a [.NotEq] [b] pos) σ H (B (!decide (i = j))) := e_cmp op_ne ha hb ron_I
theorem t_neI (ha : E X a σ H (I i)) (hb : E X b σ H (I j)) : T X (.Compare a [.NotEq] [b] pos) σ H (!decide (i = j)) := t_cmp op_ne ha hb ron_I
theorem e_eqS {x y : Str} (ha : E X a σ H (D (.str x))) (hb : E X b σ H (D (.str y))) : E X (.Compare a [.Eq] [b] pos) σ H (B (decide (x = y))) := e_cmp op_eq ha hb roe_S
theorem t_eqS {x y : Str} (ha : E X a σ H (D (.str x))) (hb : E X b σ H (D (.str y))) : T X (.Compare a [.Eq] [b] pos) σ H (decide (x = y)) := t_cmp op_eq ha hb roe_S
theorem t_neS {x y : Str} (ha : E X a σ H (D (.str x))) (hb : E X b σ H (D (.str y))) : T X (.Compare a [.NotEq] [b] pos) σ H (!decide (x = y)) := t_cmp op_ne ha hb ron_S
/-- == of data -/
theorem roe_D {K : PySem.W.Frag} {d d' : PyData} (h1 : SeqAt.shaped d = true) (h2 : SeqAt.shaped d' = true) : RO (rEqD K) (D d) (D d') (B (PyData.eqv d d')) H := fun H1 _ x y px py Q q => ⟨d, d', Dt.dp px, Dt.dp py, h1, h2, q _ H1 (Gr.refl _) (.bl _)⟩
theorem ron_D {K : PySem.W.Frag} {d d' : PyData} (h1 : SeqAt.shaped d = true) (h2 : SeqAt.shaped d' = true) : RO (rNeD K) (D d) (D d') (B (!PyData.eqv d d')) H := fun H1 _ x y px py Q q => ⟨d, d', Dt.dp px, Dt.dp py, h1, h2, q _ H1 (Gr.refl _) (.bl _)⟩
theorem e_eqD {d d' : PyData} (hu : X.A.units + 64 < cLine) (ha : E X a σ H (D d)) (hb : E X b σ H (D d')) (h1 : SeqAt.shaped d = true) (h2 : SeqAt.shaped d' = true) : E X (.Compare a [.Eq] [b] pos) σ H (B (PyData.eqv d d')) := e_cmp (op_eqD hu) ha hb (roe_D h1 h2)
theorem t_eqD {d d' : PyData} (hu : X.A.units + 64 < cLine) (ha : E X a σ H (D d)) (hb : E X b σ H (D d')) (h1 : SeqAt.shaped d = true) (h2 : SeqAt.shaped d' = true) : T X (.Compare a [.Eq] [b] pos) σ H (PyData.eqv d d') := t_cmp (op_eqD hu) ha hb (roe_D h1 h2)
theorem t_neD {d d' : PyData} (hu : X.A.units + 64 < cLine) (ha : E X a σ H (D d)) (hb : E X b σ H (D d')) (h1 : SeqAt.shaped d = true) (h2 : SeqAt.shaped d' = true) : T X (.Compare a [.NotEq] [b] pos) σ H (!PyData.eqv d d') := t_cmp (op_neD hu) ha hb (ron_D h1 h2)
/-- x in xs, flat ints -/
theorem inV_ints : ∀ (z : Int) (ns : List Int), inV (.int z) (ns.map V.int) = decide (z ∈ ns) := fun z ns => by
  induction ns with
  | nil => rfl
  | cons y r ih =>
    have : inV (.int z) ((y :: r).map V.int) = (eqV (.int y) (.int z) || inV (.int z) (r.map V.int)) := rfl
    rw [this, ih]
    have e : eqV (.int y) (.int z) = decide (z = y) := by
      show _ = _
      by_cases h : z = y
      · subst h; simp [eqV]
      · simp [eqV, h]; intro q; exact h q.symm
    rw [e]
    simp
theorem flat_ints (ns : List Int) : (ns.map V.int).all flatV = true := by
  rw [List.all_map]
  exact List.all_eq_true.mpr fun _ _ => rfl
theorem ro_in {K : PySem.W.Frag} {neg : Bool} {ns : List Int} : RO (rIn K neg) (I i) (D (.list (ns.map .int))) (B (if neg then !decide (i ∈ ns) else decide (i ∈ ns))) H := fun H1 _ x y px py Q q => by
  obtain ⟨p, xs, rfl, hp, ha⟩ := Dt.list_eq py
  have e := DtA.ints ha
  have e2 := Dt.int_eq px
  subst e e2
  exact ⟨p, _, rfl, .inl (.inl (.inl hp)), rfl, flat_ints ns, by rw [inV_ints]; exact q _ H1 (Gr.refl _) (.bl _)⟩
theorem e_in {ns : List Int} (ha : E X a σ H (I i)) (hb : E X b σ H (D (.list (ns.map .int)))) (hm : behindInMarks .In b = false := by with_unfolding_all rfl) : E X (.Compare a [.In] [b] pos) σ H (B (decide (i ∈ ns))) := e_cmp op_in_seq ha hb (ro_in (neg := false)) hm
theorem t_in {ns : List Int} (ha : E X a σ H (I i)) (hb : E X b σ H (D (.list (ns.map .int)))) (hm : behindInMarks .In b = false := by with_unfolding_all rfl) : T X (.Compare a [.In] [b] pos) σ H (decide (i ∈ ns)) := t_cmp op_in_seq ha hb (ro_in (neg := false)) hm
theorem t_nin {ns : List Int} (ha : E X a σ H (I i)) (hb : E X b σ H (D (.list (ns.map .int)))) (hm : behindInMarks .NotIn b = false := by with_unfolding_all rfl) : T X (.Compare a [.NotIn] [b] pos) σ H (!decide (i ∈ ns)) := t_cmp op_notIn_seq ha hb (ro_in (neg := true)) hm

/-! tests -/
theorem t_val (h : E X e σ H (B b1)) (he : ∀ whole, isTrue e X.env whole = (do let v ← whole; standAt e.pos; holding [v] (truthy v)) := by intro _; rfl) : T X e σ H b1 :=
  .of (pt_val (pE X e) he) fun H1 g Q q => h H1 g _ fun v H2 g2 s => ⟨b1, Dt.bl_eq s, q H2 g2⟩
theorem t_not (h : T X a σ H b1) : T X (.UnaryOp .Not a pos) σ H (!b1) := .of (pt_not (pT X a)) fun H1 g Q q => h H1 g _ fun H2 g2 => q H2 g2
abbrev Wt (X : Cx) (e : Expr) (σ : L2.St) (H : Hp) (b : Bool) : Prop := Evb (rdW X e) σ H b
theorem Wt.of {t : TT} (h : PW X e t) (q : Evb t σ H b1) : Wt X e σ H b1 := fun H1 g Q k => rdW_of h (q H1 g Q k)
theorem Wt.t (h : Wt X e σ H b1) : T X e σ H b1 := .of (pW X e).pt h
theorem w_and1 (h : T X a σ H b1) : Wt X (.BoolOp .And [a] pos) σ H b1 := .of (pw_and1 (pT X a)) h
theorem w_or1 (h : T X a σ H b1) : Wt X (.BoolOp .Or [a] pos) σ H b1 := .of (pw_or1 (pT X a)) h
theorem w_and (h : T X a σ H b1) (h2 : b1 = true → Wt X (.BoolOp .And (b :: es) pos) σ H b2) : Wt X (.BoolOp .And (a :: b :: es) pos) σ H (b1 && b2) :=
  .of (pw_and (pT X a) (pW X _)) fun H1 g Q q => h H1 g _ fun H2 g2 => by
    cases b1 with
    | true => exact iteT (h2 rfl H2 (g.tr g2) Q fun H3 g3 => q H3 (g2.tr g3))
    | false => exact iteF (q H2 g2)
theorem w_or (h : T X a σ H b1) (h2 : b1 = false → Wt X (.BoolOp .Or (b :: es) pos) σ H b2) : Wt X (.BoolOp .Or (a :: b :: es) pos) σ H (b1 || b2) :=
  .of (pw_or (pT X a) (pW X _)) fun H1 g Q q => h H1 g _ fun H2 g2 => by
    cases b1 with
    | true => exact iteT (q H2 g2)
    | false => exact iteF (h2 rfl H2 (g.tr g2) Q fun H3 g3 => q H3 (g2.tr g3))
theorem e_one {op} (h : E X a σ H P) : E X (.BoolOp op [a] pos) σ H P := .of (pe_one (pE X a)) h
theorem e_and (h : E X a σ H (B b1)) (h2 : b1 = true → E X (.BoolOp .And (b :: es) pos) σ H (B b2)) : E X (.BoolOp .And (a :: b :: es) pos) σ H (B (b1 && b2)) :=
  .of (pe_and (pE X a) (pE X _)) fun H1 g Q q => h H1 g _ fun v H2 g2 s => ⟨b1, Dt.bl_eq s, by
    cases b1 with
    | true => exact iteT (h2 rfl H2 (g.tr g2) Q fun v H3 g3 => q v H3 (g2.tr g3))
    | false => exact iteF (q _ H2 g2 (.bl _))⟩
theorem e_or (h : E X a σ H (B b1)) (h2 : b1 = false → E X (.BoolOp .Or (b :: es) pos) σ H (B b2)) : E X (.BoolOp .Or (a :: b :: es) pos) σ H (B (b1 || b2)) :=
  .of (pe_or (pE X a) (pE X _)) fun H1 g Q q => h H1 g _ fun v H2 g2 s => ⟨b1, Dt.bl_eq s, by
    cases b1 with
    | true => exact iteT (q _ H2 g2 (.bl _))
    | false => exact iteF (h2 rfl H2 (g.tr g2) Q fun v H3 g3 => q v H3 (g2.tr g3))⟩
theorem e_not (h : E X a σ H (B b1)) : E X (.UnaryOp .Not a pos) σ H (B (!b1)) := .of (pe_not (pE X a)) fun H1 g Q q => h H1 g _ fun v H2 g2 s => ⟨b1, Dt.bl_eq s, q _ H2 g2 (.bl _)⟩
theorem e_if (h : T X c σ H b1) (h1 : b1 = true → E X a σ H P) (h2 : b1 = false → E X b σ H P) : E X (.IfExp c a b pos) σ H P :=
  .of (pe_ifExp (pT X c) (pE X a) (pE X b)) fun H1 g Q q => h H1 g _ fun H2 g2 => by
    cases b1 with
    | true => exact iteT (h1 rfl H2 (g.tr g2) Q fun v H3 g3 => q v H3 (g2.tr g3))
    | false => exact iteF (h2 rfl H2 (g.tr g2) Q fun v H3 g3 => q v H3 (g2.tr g3))
theorem e_chainLe (ha : E X a σ H (I i)) (hb : E X b σ H (I j)) (hc : E X c σ H (I k)) (hm : lastMarks [.LtE, .LtE] [b, c] = false := by with_unfolding_all rfl) : E X (.Compare a [.LtE, .LtE] [b, c] pos) σ H (B (decide (i ≤ j) && decide (j ≤ k))) :=
  .of (pe_chain op_le op_le (pE X a) (pE X b) (pE X c) hm) fun H1 g Q q => ha H1 g _ fun x H2 g2 px => hb H2 (g.tr g2) _ fun y H3 g3 py => ⟨i, j, Dt.int_eq px, Dt.int_eq py, decide (i ≤ j), rfl, by
    by_cases e : i ≤ j
    · rw [decide_eq_true e]
      exact iteT (hc H3 ((g.tr g2).tr g3) _ fun z H4 g4 pz => ⟨j, k, Dt.int_eq py, Dt.int_eq pz, q _ H4 ((g2.tr g3).tr g4) (by rw [decide_eq_true e, Bool.true_and]; exact .bl _)⟩)
    · rw [decide_eq_false e]
      exact iteF (q _ H3 (g2.tr g3) (by rw [decide_eq_false e, Bool.false_and]; exact .bl _))⟩

/-! subscripts, slices -/
theorem e_ixL {n : Nat} (ha : E X a σ H (D (.list ds))) (hb : E X b σ H (I (n : Int))) (hi : ds[n]? = some d) (hs : PlainIx b := by intro _ _; rfl) : E X (.Subscript a b pos) σ H (D d) :=
  .of (pe_ix ix_list (pE X a) (pE X b) hs) (ev_op ha hb fun H1 _ x y px py Q q => by
    obtain ⟨p, xs, rfl, hp, hx⟩ := Dt.list_eq px
    obtain ⟨v, hv, dv⟩ := hx.get hi
    exact ⟨p, xs, n, v, rfl, Dt.int_eq py, .inl (.inl hp), atI_nat hv, q v H1 (Gr.refl _) dv⟩)
theorem e_ixT {n : Nat} (ha : E X a σ H (D (.tuple ds))) (hb : E X b σ H (I (n : Int))) (hi : ds[n]? = some d) (hs : PlainIx b := by intro _ _; rfl) : E X (.Subscript a b pos) σ H (D d) :=
  .of (pe_ix ix_tup (pE X a) (pE X b) hs) (ev_op ha hb fun H1 _ x y px py Q q => by
    obtain ⟨p, xs, rfl, hp, hx⟩ := Dt.tup_eq px
    obtain ⟨v, hv, dv⟩ := hx.get hi
    exact ⟨p, xs, n, v, rfl, Dt.int_eq py, .inl (.inl hp), atI_nat hv, q v H1 (Gr.refl _) dv⟩)
theorem atI_end {xs : List V} {v : V} (h : xs[xs.length - 1]? = some v) : atI xs (-1) = some v := by
  have hn : xs ≠ [] := fun z => by subst z; simp at h
  have e : xs = xs.dropLast ++ [v] := by
    have h2 := List.dropLast_concat_getLast hn
    rw [List.getLast_eq_getElem] at h2
    have h3 := (List.getElem?_eq_some_iff.mp h).2
    rw [h3] at h2
    exact h2.symm
  rw [e]
  exact atI_last _ _
theorem e_ixEnd (ha : E X a σ H (D (.list ds))) (hi : ds[ds.length - 1]? = some d) {t : Nat} {p3 p4 : Pos} : E X (.Subscript a (.UnaryOp .USub (.Constant (.int 1) t p3) p4) pos) σ H (D d) :=
  .of (pe_ix ix_list (pE X a) (pE X _) (fun _ _ => rfl)) (ev_op ha (e_neg e_int) fun H1 _ x y px py Q q => by
    obtain ⟨p, xs, rfl, hp, hx⟩ := Dt.list_eq px
    obtain ⟨v, hv, dv⟩ := hx.get hi
    rw [← hx.len] at hv
    exact ⟨p, xs, -1, v, rfl, Dt.int_eq py, .inl (.inl hp), atI_end hv, q v H1 (Gr.refl _) dv⟩)
/-- the parts of a slice -/
def Evo (to : TO) (σ : L2.St) (H : Hp) (o : Option Int) : Prop := ∀ H1, Gr H H1 → ∀ Q : Option Int → Hp → Prop, (∀ H2, Gr H1 H2 → Q o H2) → to σ H1 Q
theorem o_none : Evo tNoPart σ H none := fun H1 _ _ q => q H1 (Gr.refl _)
theorem o_some (h : E X e σ H (I i)) : Evo (tPart (rdE X e)) σ H (some i) := fun H1 g _ q => h H1 g _ fun v H2 g2 s => ⟨i, Dt.int_eq s, q H2 g2⟩
theorem e_slL {lo hi : Option Expr} {tl th : TO} {l u : Option Int} (ha : E X a σ H (D (.list ds))) (p1 : PO X lo tl) (hl : Evo tl σ H l) (p3 : PO X hi th) (hu : Evo th σ H u) :
    E X (.Subscript a (.Slice lo hi none p2) pos) σ H (NewL H ((ds.drop (HT.sIx ds.length 0 l)).take (HT.sIx ds.length ds.length u - HT.sIx ds.length 0 l))) :=
  .of (pe_slice sl_list (pE X a) p1 p3) fun H1 g Q q => ha H1 g _ fun x H2 g2 px => hl H2 (g.tr g2) _ fun H3 g3 => hu H3 ((g.tr g2).tr g3) _ fun H4 g4 => by
    obtain ⟨p, xs, rfl, hp, hx⟩ := Dt.list_eq px
    have g5 := g3.tr g4
    refine ⟨p, xs, rfl, .inl (.inl (g5 _ _ hp)), fun z hz => q _ _ ((g2.tr g5).tr (Gr.new hz)) ⟨z, _, rfl, ((g.tr g2).tr g5).back hz, upd_same, ?_⟩⟩
    rw [← hx.len]
    exact ((DtA.take _ (DtA.drop _ hx)).up g5).up (Gr.new hz)
theorem e_slT {lo hi : Option Expr} {tl th : TO} {l u : Option Int} (ha : E X a σ H (D (.tuple ds))) (p1 : PO X lo tl) (hl : Evo tl σ H l) (p3 : PO X hi th) (hu : Evo th σ H u) :
    E X (.Subscript a (.Slice lo hi none p2) pos) σ H (D (.tuple ((ds.drop (HT.sIx ds.length 0 l)).take (HT.sIx ds.length ds.length u - HT.sIx ds.length 0 l)))) :=
  .of (pe_slice sl_tupA (pE X a) p1 p3) fun H1 g Q q => ha H1 g _ fun x H2 g2 px => hl H2 (g.tr g2) _ fun H3 g3 => hu H3 ((g.tr g2).tr g3) _ fun H4 g4 => by
    obtain ⟨p, xs, rfl, hp, hx⟩ := Dt.tup_eq px
    have g5 := g3.tr g4
    have hc : DtA H4 ((xs.drop (HT.sIx xs.length 0 l)).take (HT.sIx xs.length xs.length u - HT.sIx xs.length 0 l)) ((ds.drop (HT.sIx ds.length 0 l)).take (HT.sIx ds.length ds.length u - HT.sIx ds.length 0 l)) := by
      rw [← hx.len]
      exact (DtA.take _ (DtA.drop _ hx)).up g5
    refine ⟨p, xs, rfl, .inl (.inl (g5 _ _ hp)), fun w => q _ _ (g2.tr g5) ?_, fun _ z hz => q _ _ ((g2.tr g5).tr (Gr.new hz)) (.tup upd_same (hc.up (Gr.new hz)))⟩
    refine .tup (g5 _ _ hp) ?_
    rw [w.1, w.2] at hc
    simp only [List.drop_zero, Nat.sub_zero, List.take_length] at hc
    exact hc

/-! arguments, displays -/
theorem a_nil : EA X [] σ H [] := fun H1 _ Q q => rdA_of pa_nil (q [] H1 (Gr.refl _) rfl)
theorem a_cons [Mono P] (h : E X e σ H P) (hr : EA X es σ H Ps) (hs : starEach (e :: es) X.env = (false, eval e X.env) :: starEach es X.env := by rfl) : EA X (e :: es) σ H (P :: Ps) := fun H1 g Q q =>
  rdA_of (pa_cons (pE X e) (pA X es) hs) (h H1 g _ fun v H2 g2 s => hr H2 (g.tr g2) _ fun vs H3 g3 t => q _ H3 (g2.tr g3) ⟨v, vs, rfl, Mono.up g3 s, t⟩)
def EAd (X : Cx) (es : List Expr) (σ : L2.St) (H : Hp) (ds : List PyData) : Prop := ∀ H1, Gr H H1 → ∀ Q : List V → Hp → Prop, (∀ vs H2, Gr H1 H2 → DtA H2 vs ds → Q vs H2) → rdA X es σ H1 Q
theorem d_nil : EAd X [] σ H [] := fun H1 _ Q q => rdA_of pa_nil (q [] H1 (Gr.refl _) .nil)
theorem d_cons (h : E X e σ H (D d)) (hr : EAd X es σ H ds) (hs : starEach (e :: es) X.env = (false, eval e X.env) :: starEach es X.env := by rfl) : EAd X (e :: es) σ H (d :: ds) := fun H1 g Q q =>
  rdA_of (pa_cons (pE X e) (pA X es) hs) (h H1 g _ fun v H2 g2 s => hr H2 (g.tr g2) _ fun vs H3 g3 t => q _ H3 (g2.tr g3) (.cons (Dt.up g3 s) t))
theorem e_tup {t} (h : EAd X es σ H ds) (hl : ds.length ≤ 1000 := by decide) : E X (.Tuple es t pos) σ H (D (.tuple ds)) := .of (pe_tup (pA X es)) fun H1 g Q q => h H1 g _ fun vs H2 g2 t =>
  ⟨by rw [t.len]; exact Nat.le_of_lt (small1000 hl), fun p hp => q _ _ (g2.tr (Gr.new hp)) (.tup upd_same (t.up (Gr.new hp)))⟩
theorem e_lst (h : EAd X es σ H ds) (hl : ds.length ≤ 1000 := by decide) : E X (.List es pos) σ H (NewL H ds) := .of (pe_lst (pA X es)) fun H1 g Q q => h H1 g _ fun vs H2 g2 t =>
  ⟨by rw [t.len]; exact Nat.le_of_lt (small1000 hl), fun p hp => q _ _ (g2.tr (Gr.new hp)) ⟨p, vs, rfl, (g.tr g2).back hp, upd_same, t.up (Gr.new hp)⟩⟩
end
end K33
namespace K33
open PySem PySem.Spec PyProof.Rows L2
/-- a list or a tuple -/
def Q2 (ds : List PyData) : Pd := fun H v => Dt H v (.list ds) ∨ Dt H v (.tuple ds)
instance {ds : List PyData} : Mono (Q2 ds) := ⟨fun e h => h.imp (Dt.up e) (Dt.up e)⟩
theorem Q2.seq {K : PySem.W.Frag} {ds : List PyData} {H : Hp} {v : V} (h : Q2 ds H v) : ∃ a xs, v = .ref a ∧ (SqL K H a xs ∨ SqT K H a xs) ∧ DtA H xs ds := by
  rcases h with h | h
  · obtain ⟨a, xs, e, hp, hx⟩ := h.list_eq
    exact ⟨a, xs, e, .inl (.inl (.inl hp)), hx⟩
  · obtain ⟨a, xs, e, hp, hx⟩ := h.tup_eq
    exact ⟨a, xs, e, .inr (.inl (.inl hp)), hx⟩
section
variable {X : Cx} {σ : L2.St} {H : Hp} {a b c e o : Expr} {es : List Expr} {pos p p2 : Pos} {P R S : Pd} {i j k : Int} {n m : Nat} {x : Str} {v : V} {d : PyData} {ds : List PyData} {Ps : List Pd} {b1 b2 : Bool}

/-! calls of built-ins -/
def RC (r : List V → Hp → VK → Prop) (Ps : List Pd) (S : Pd) (H : Hp) : Prop := ∀ H1, Gr H H1 → ∀ vs, AllP Ps H1 vs → ∀ Q : VK, (∀ v H2, Gr H1 H2 → S H2 v → Q v H2) → r vs H1 Q
theorem ev_cb {r : List V → Hp → VK → Prop} {ta : TA} (h : Eva ta σ H Ps) (hr : RC r Ps S H) : Evp (tCB r ta) σ H S := fun H1 g Q q => h H1 g _ fun vs H2 g2 t => hr H2 (g.tr g2) vs t Q fun v H3 g3 s => q v H3 (g2.tr g3) s
theorem e_cb {id : String} {r : List V → Hp → VK → Prop} (hc : CallR X (.builtin id) r) (hv : bootBuiltins x = some (.builtin id)) (hm : X.mg x = none) (ha : EA X (e :: es) σ H Ps) (hr : RC r Ps S H) (hg : Gl X x := by rfl) (hn : x ≠ "__name__" := by decide) (hd : (x == ("__debug__" : Str)) = false := by decide)
    (he : starEach (e :: es) X.env = (false, eval e X.env) :: starEach es X.env := by rfl) (hpl : (backTo pos (starEach es X.env)).any (·.1) = false := by rfl) : E X (.Call (.Name x p) (e :: es) [] pos) σ H S :=
  .of (pe_callB hc hg hm hv (pA X _) hn hd he hpl) (ev_cb ha hr)
theorem e_ct {T : String} {r : List V → Hp → VK → Prop} (hc : CallR X (.type T) r) (hv : bootBuiltins x = some (.type T)) (hm : X.mg x = none) (ha : EA X (e :: es) σ H Ps) (hr : RC r Ps S H) (hg : Gl X x := by rfl) (hn : x ≠ "__name__" := by decide) (hd : (x == ("__debug__" : Str)) = false := by decide)
    (he : starEach (e :: es) X.env = (false, eval e X.env) :: starEach es X.env := by rfl) (hpl : (backTo pos (starEach es X.env)).any (·.1) = false := by rfl) : E X (.Call (.Name x p) (e :: es) [] pos) σ H S :=
  .of (pe_callTy hc hg hm hv (pA X _) hn hd he hpl) (ev_cb ha hr)
theorem rc1 {r : List V → Hp → VK → Prop} (h : ∀ H1, Gr H H1 → ∀ v, P H1 v → ∀ Q : VK, (∀ v H2, Gr H1 H2 → S H2 v → Q v H2) → r [v] H1 Q) : RC r [P] S H := fun H1 g vs t Q q => by
  obtain ⟨v, r, rfl, hv, rfl⟩ := t
  exact h H1 g v hv Q q
theorem rc_len {K : PySem.W.Frag} : RC (fun xs H Q => ∃ p ys, xs = [.ref p] ∧ (SqL K H p ys ∨ SqT K H p ys) ∧ Q (.int ys.length) H) [Q2 ds] (I (ds.length : Int)) H := rc1 fun H1 g v hv Q q => by
  obtain ⟨a, xs, rfl, hs, hx⟩ := hv.seq (K := K)
  exact ⟨a, xs, rfl, hs, q _ H1 (Gr.refl _) (by rw [hx.len]; exact .int _)⟩
theorem e_len (hm : X.mg "len" = none) (ha : EA X [e] σ H [Q2 ds]) (hg : Gl X "len" := by rfl) (he : starEach [e] X.env = (false, eval e X.env) :: starEach [] X.env := by rfl) (hpl : (backTo pos (starEach [] X.env)).any (·.1) = false := by rfl) : E X (.Call (.Name "len" p) [e] [] pos) σ H (I (ds.length : Int)) :=
  e_cb call_len_seq PySem.boot_len hm ha rc_len hg (by decide) (by decide) he hpl
theorem rc_list {K : PySem.W.Frag} : RC (fun xs H Q => ∃ p ys, xs = [.ref p] ∧ (SqL K H p ys ∨ SqT K H p ys) ∧ ∀ l, H l = none → Q (.ref l) (upd H l (.lst ys))) [Q2 ds] (NewL H ds) H := rc1 fun H1 g v hv Q q => by
  obtain ⟨a, xs, rfl, hs, hx⟩ := hv.seq (K := K)
  exact ⟨a, xs, rfl, hs, fun l hl => q _ _ (Gr.new hl) ⟨l, xs, rfl, g.back hl, upd_same, hx.up (Gr.new hl)⟩⟩
theorem e_list (hm : X.mg "list" = none) (ha : EA X [e] σ H [Q2 ds]) (hg : Gl X "list" := by rfl) (he : starEach [e] X.env = (false, eval e X.env) :: starEach [] X.env := by rfl) (hpl : (backTo pos (starEach [] X.env)).any (·.1) = false := by rfl) : E X (.Call (.Name "list" p) [e] [] pos) σ H (NewL H ds) :=
  e_ct call_list_of PyProof.Rows.boot_list hm ha rc_list hg (by decide) (by decide) he hpl
theorem e_tuple (hm : X.mg "tuple" = none) (ha : EA X [e] σ H [Q2 ds]) (hg : Gl X "tuple" := by rfl) (he : starEach [e] X.env = (false, eval e X.env) :: starEach [] X.env := by rfl) (hpl : (backTo pos (starEach [] X.env)).any (·.1) = false := by rfl) : E X (.Call (.Name "tuple" p) [e] [] pos) σ H (D (.tuple ds)) :=
  e_ct call_tuple_of PyProof.Rows.boot_tuple hm ha (rc1 fun H1 g v hv Q q => by
    rcases hv with h | h
    · obtain ⟨a, xs, rfl, hp, hx⟩ := h.list_eq
      exact ⟨a, xs, rfl, .inl ⟨.inl (.inl hp), fun l hl => q _ _ (Gr.new hl) (.tup upd_same (hx.up (Gr.new hl)))⟩⟩
    · obtain ⟨a, xs, rfl, hp, hx⟩ := h.tup_eq
      exact ⟨a, xs, rfl, .inr ⟨.inl (.inl hp), q _ H1 (Gr.refl _) (.tup hp hx)⟩⟩) hg (by decide) (by decide) he hpl
theorem e_min {ns : List Int} {mn : Int} (hm : X.mg "min" = none) (hc : X.calm = true) (ha : EA X [e] σ H [D (.list (ns.map .int))]) (h1 : mn ∈ ns) (h2 : ∀ y ∈ ns, mn ≤ y) (hg : Gl X "min" := by rfl) (he : starEach [e] X.env = (false, eval e X.env) :: starEach [] X.env := by rfl) (hpl : (backTo pos (starEach [] X.env)).any (·.1) = false := by rfl) :
    E X (.Call (.Name "min" p) [e] [] pos) σ H (I mn) := e_cb (cr_min hc) PyProof.Rows.boot_min hm ha (rc1 fun H1 g v hv Q q => by
  obtain ⟨a, xs, rfl, hp, hx⟩ := Dt.list_eq hv
  have e := hx.ints
  subst e
  refine ⟨a, ns, rfl, .inl (.inl hp), List.length_pos_of_mem h1, fun z hz hle => ?_⟩
  have e : z = mn := Int.le_antisymm (hle _ h1) (h2 _ hz)
  subst e
  exact q _ H1 (Gr.refl _) (.int _)) hg (by decide) (by decide) he hpl
theorem e_max {ns : List Int} {mn : Int} (hm : X.mg "max" = none) (hc : X.calm = true) (ha : EA X [e] σ H [D (.list (ns.map .int))]) (h1 : mn ∈ ns) (h2 : ∀ y ∈ ns, y ≤ mn) (hg : Gl X "max" := by rfl) (he : starEach [e] X.env = (false, eval e X.env) :: starEach [] X.env := by rfl) (hpl : (backTo pos (starEach [] X.env)).any (·.1) = false := by rfl) :
    E X (.Call (.Name "max" p) [e] [] pos) σ H (I mn) := e_cb (cr_max hc) PyProof.Rows.boot_max hm ha (rc1 fun H1 g v hv Q q => by
  obtain ⟨a, xs, rfl, hp, hx⟩ := Dt.list_eq hv
  have e := hx.ints
  subst e
  refine ⟨a, ns, rfl, .inl (.inl hp), List.length_pos_of_mem h1, fun z hz hle => ?_⟩
  have e : z = mn := Int.le_antisymm (h2 _ hz) (hle _ h1)
  subst e
  exact q _ H1 (Gr.refl _) (.int _)) hg (by decide) (by decide) he hpl
theorem e_all {bs : List Bool} (hm : X.mg "all" = none) (hc : X.calm = true) (ha : EA X [e] σ H [D (.list (bs.map .bool))]) (hg : Gl X "all" := by rfl) (he : starEach [e] X.env = (false, eval e X.env) :: starEach [] X.env := by rfl) (hpl : (backTo pos (starEach [] X.env)).any (·.1) = false := by rfl) :
    E X (.Call (.Name "all" p) [e] [] pos) σ H (B (bs.all id)) := e_cb (cr_all hc) PyProof.Rows.boot_all hm ha (rc1 fun H1 g v hv Q q => by
  obtain ⟨a, xs, rfl, hp, hx⟩ := Dt.list_eq hv
  have e := hx.bls
  subst e
  exact ⟨a, bs, rfl, .inl (.inl hp), q _ H1 (Gr.refl _) (.bl _)⟩) hg (by decide) (by decide) he hpl
theorem e_abs (hm : X.mg "abs" = none) (ha : EA X [e] σ H [I i]) (hg : Gl X "abs" := by rfl) (he : starEach [e] X.env = (false, eval e X.env) :: starEach [] X.env := by rfl) (hpl : (backTo pos (starEach [] X.env)).any (·.1) = false := by rfl) :
    E X (.Call (.Name "abs" p) [e] [] pos) σ H (I (if i < 0 then -i else i)) := e_cb call_abs PyProof.Rows.boot_abs hm ha (rc1 fun H1 g v hv Q q => ⟨i, by rw [Dt.int_eq hv], q _ H1 (Gr.refl _) (.int _)⟩) hg (by decide) (by decide) he hpl
theorem e_intf (hm : X.mg "int" = none) (ha : EA X [e] σ H [I i]) (hg : Gl X "int" := by rfl) (he : starEach [e] X.env = (false, eval e X.env) :: starEach [] X.env := by rfl) (hpl : (backTo pos (starEach [] X.env)).any (·.1) = false := by rfl) :
    E X (.Call (.Name "int" p) [e] [] pos) σ H (I i) := e_ct call_int1 PyProof.Rows.boot_int hm ha (rc1 fun H1 g v hv Q q => .inl ⟨i, by rw [Dt.int_eq hv], q _ H1 (Gr.refl _) (.int _)⟩) hg (by decide) (by decide) he hpl
theorem e_max2 (hm : X.mg "max" = none) (hc : X.calm = true) (ha : EA X [a, b] σ H [I i, I j]) (hg : Gl X "max" := by rfl) (he : starEach [a, b] X.env = (false, eval a X.env) :: starEach [b] X.env := by rfl) (hpl : (backTo pos (starEach [b] X.env)).any (·.1) = false := by rfl) :
    E X (.Call (.Name "max" p) [a, b] [] pos) σ H (I (if j > i then j else i)) := e_cb (call_max2 hc) PyProof.Rows.boot_max hm ha (fun H1 g vs t Q q => by
  obtain ⟨v, r, rfl, hv, w, r', rfl, hw, rfl⟩ := t
  exact ⟨i, j, by rw [Dt.int_eq hv, Dt.int_eq hw], q _ H1 (Gr.refl _) (.int _)⟩) hg (by decide) (by decide) he hpl
/-- isinstance with one class, with (list, tuple) -/
theorem e_isTy {t T : String} (hm : X.mg "isinstance" = none) (ha : E X a σ H P) [Mono P] (hb : E X b σ H (Is (.ty T))) (hP : ∀ H v, P H v → TyX X.K H v (.type t)) (hk : kitB t T = some b1) (hg : Gl X "isinstance" := by rfl)
    (hs1 : starEach [a, b] X.env = (false, eval a X.env) :: starEach [b] X.env := by rfl) (hs2 : starEach [b] X.env = (false, eval b X.env) :: starEach [] X.env := by rfl) (hpl : (backTo pos (starEach [b] X.env)).any (·.1) = false := by rfl) :
    E X (.Call (.Name "isinstance" p) [a, b] [] pos) σ H (B b1) := e_cb call_isi PyProof.Rows.boot_isinstance hm (a_cons ha (a_cons hb a_nil hs2) hs1) (fun H1 g vs q0 Q q => by
  obtain ⟨v, r, rfl, hv, w, r', rfl, hw, rfl⟩ := q0
  exact ⟨v, w, .type t, .type T, b1, rfl, by rw [show w = .ty T from hw]; exact .ty T, hP _ _ hv, kit_ty hk, q _ H1 (Gr.refl _) (.bl _)⟩) hg (by decide) (by decide) hs1 hpl
theorem ty_list {K : PySem.W.Frag} {H : Hp} {v : V} (h : Dt H v (.list ds)) : TyX K H v (.type "list") := by
  obtain ⟨a, xs, rfl, hp, hx⟩ := h.list_eq
  exact .base (.lst hp)
theorem ty_tup {K : PySem.W.Frag} {H : Hp} {v : V} (h : Dt H v (.tuple ds)) : TyX K H v (.type "tuple") := by
  obtain ⟨a, xs, rfl, hp, hx⟩ := h.tup_eq
  exact .base (.tup hp)
theorem ty_int {K : PySem.W.Frag} {H : Hp} {v : V} (h : Dt H v (.int i)) : TyX K H v (.type "int") := by
  rw [h.int_eq]; exact .base (.int i)
theorem ty_str {K : PySem.W.Frag} {H : Hp} {v : V} {y : Str} (h : Dt H v (.str y)) : TyX K H v (.type "str") := by
  rw [h.str_eq]; exact .base (.str y)
theorem e_isLT {t : Nat} {q1 q2 q3 : Pos} (hm : X.mg "isinstance" = none) (hl : X.mg "list" = none) (ht : X.mg "tuple" = none) (ha : E X a σ H (Q2 ds)) (hg : Gl X "isinstance" := by rfl) (gl : Gl X "list" := by rfl) (gt : Gl X "tuple" := by rfl)
    (hs1 : starEach [a, .Tuple [.Name "list" q1, .Name "tuple" q2] t q3] X.env = (false, eval a X.env) :: starEach [.Tuple [.Name "list" q1, .Name "tuple" q2] t q3] X.env := by rfl)
    (hpl : (backTo pos (starEach [.Tuple [.Name "list" q1, .Name "tuple" q2] t q3] X.env)).any (·.1) = false := by rfl) :
    E X (.Call (.Name "isinstance" p) [a, .Tuple [.Name "list" q1, .Name "tuple" q2] t q3] [] pos) σ H (B true) := by
  have e1 : PE X (.Name "list" q1) (tC (.ty "list")) := pe_bltn (v := .ty "list") gl hl PyProof.Rows.boot_list rfl
  have e2 : PE X (.Name "tuple" q2) (tC (.ty "tuple")) := pe_bltn (v := .ty "tuple") gt ht PyProof.Rows.boot_tuple rfl
  refine .of (pe_callB call_isiT hg hm PyProof.Rows.boot_isinstance (pa_cons (pE X a) (pa_cons (pe_tup (pa_cons e1 (pa_cons e2 pa_nil))) pa_nil) hs1) (by decide) (by decide) hs1 hpl) fun H1 g Q q => ?_
  refine ha H1 g _ fun v H2 g2 hv => ⟨by show 2 ≤ sizeLine; decide, fun l hl => ?_⟩
  have hv' : Q2 ds (upd H2 l (.tup [.ty "list", .ty "tuple"])) v := Mono.up (Gr.new hl) hv
  have fin : Q (.bl true) (upd H2 l (.tup [.ty "list", .ty "tuple"])) := q _ _ (g2.tr (Gr.new hl)) (.bl _)
  rcases hv' with h | h
  · exact ⟨v, l, [.ty "list", .ty "tuple"], .type "list", [.type "list", .type "tuple"], true, rfl, upd_same, .cons (.ty _) (.cons (.ty _) .nil), ty_list h, kitAny_cons (b := true) (kit_ty (by decide +kernel)) (fun h => nomatch h) (fun _ => rfl), fin⟩
  · exact ⟨v, l, [.ty "list", .ty "tuple"], .type "tuple", [.type "list", .type "tuple"], true, rfl, upd_same, .cons (.ty _) (.cons (.ty _) .nil), ty_tup h, kitAny_cons (b := false) (kit_ty (by decide +kernel)) (fun _ => kitAny_cons (b := true) (kit_ty (by decide +kernel)) (fun h => nomatch h) (fun _ => rfl)) (fun h => nomatch h), fin⟩

/-! calls of the program's defs -/
/-- a def that stands as x and keeps sp, at level k -/
def Dn (P : Program) (w : World) (K : PySem.W.Frag) (mg : Str → Option Value) (base : Heap) (k : Nat) (x : Str) (ps : List Str) (sp : Sp) : Prop :=
  ∃ f fd, FnOk P w K mg base CX0 k f fd ps sp ∧ mg x = some (.ref f) ∧ PySem.W.keepIn K (.ref f) = true ∧ Binds K fd ps []
/-- a promise by data: i says which arguments; Pre what is asked of them; R the answer, from the heap ahead -/
def Fsp {ι : Type} (A : ι → List Pd) (Pre : ι → Prop) (R : ι → Hp → Pd) : Sp := fun vs H Q _ => ∃ i, AllP (A i) H vs ∧ Pre i ∧ ∀ v H', Gr H H' → R i H H' v → Q v H'
theorem r_call {lv : Nat} {ps : List Str} {sp : Sp} {Q : VK} (F : Dn X.prog X.w X.K X.mg X.base lv x ps sp) (hr : Room lv X.A) (ha : EA X (e :: es) σ H Ps) (hs : ∀ H1, Gr H H1 → ∀ vs, AllP Ps H1 vs → sp vs H1 Q E0) (hg : Gl X x := by rfl) (hd : (x == ("__debug__" : Str)) = false := by decide)
    (he : starEach (e :: es) X.env = (false, eval e X.env) :: starEach es X.env := by rfl) (hpl : (backTo pos (starEach es X.env)).any (·.1) = false := by rfl) : rdE X (.Call (.Name x p) (e :: es) [] pos) σ H Q := by
  obtain ⟨f, fd, F, hm, hk, hb⟩ := F
  refine rdE_of (pe_call F hr hg hm hk hb .nil pass0 (pA X _) hd he hpl) (ha.run fun vs H1 g t => ?_)
  show sp (vs ++ []) H1 Q E0
  rw [List.append_nil]
  exact hs H1 g vs t
theorem e_fn {lv : Nat} {ps : List Str} {ι : Type} {A : ι → List Pd} {Pre : ι → Prop} {R : ι → Hp → Pd} (i : ι) (F : Dn X.prog X.w X.K X.mg X.base lv x ps (Fsp A Pre R)) (hr : Room lv X.A) (ha : EA X (e :: es) σ H (A i)) (hp : Pre i)
    (hR : ∀ H1 H2 v, Gr H H1 → R i H1 H2 v → S H2 v) (hg : Gl X x := by rfl) (hd : (x == ("__debug__" : Str)) = false := by decide)
    (he : starEach (e :: es) X.env = (false, eval e X.env) :: starEach es X.env := by rfl) (hpl : (backTo pos (starEach es X.env)).any (·.1) = false := by rfl) : E X (.Call (.Name x p) (e :: es) [] pos) σ H S := fun H1 g Q q =>
  r_call F hr (ha.up g) (fun H2 g2 vs t => ⟨i, t, hp, fun v H3 g3 r => q v H3 (g2.tr g3) (hR H2 H3 v (g.tr g2) r)⟩) hg hd he hpl
end
end K33
namespace K33
open PySem PySem.Spec PyProof.Rows L2
/-! comprehensions -/
/-- as Evp, the answer told from the heap at which it began -/
def Evq (te : TE) (σ : L2.St) (H : Hp) (R : Hp → Pd) : Prop := ∀ H1, Gr H H1 → ∀ Q : VK, (∀ v H2, Gr H1 H2 → R H1 H2 v → Q v H2) → te σ H1 Q
/-- such an answer stands although a list that stood ahead changes -/
def Kp (R : Hp → Pd) (d : PyData) : Prop := ∀ (H1 H2 : Hp) (v : V) (Dl : Addr) (xs ys : List V), H1 Dl = some (.lst xs) → Gr H1 H2 → R H1 H2 v → Dt (upd H2 Dl (.lst ys)) v d
theorem kp_soft {d : PyData} (h : soft d = true) : Kp (fun _ => D d) d := fun _ _ _ _ _ _ hp g r => Dt.off (g _ _ hp) r h
theorem kp_new {ds : List PyData} (h : softA ds = true) : Kp (fun H1 => NewL H1 ds) (.list ds) := fun H1 H2 v Dl xs ys hp g r => by
  obtain ⟨p, zs, rfl, h1, h2, h3⟩ := r
  have hn : p ≠ Dl := fun e => by rw [e, hp] at h1; cases h1
  exact .lst (by rw [upd_ne hn]; exact h2) (DtA.off (g _ _ hp) h3 h)
def Cv (H : Hp) (Dl : Addr) (ds : List PyData) (H' : Hp) : Prop := H Dl = none ∧ Gr H H' ∧ ∃ xs, H' Dl = some (.lst xs) ∧ ∀ ys, DtA (upd H' Dl (.lst ys)) xs ds
theorem cv_turn {H H' : Hp} {Dl : Addr} {ds : List PyData} {d : PyData} {t : TT} {te : TE} {σ : L2.St} {b : Bool} {R : Hp → Pd} (q : Cv H Dl ds H') (ht : Evb t σ H b) (he : b = true → Evq te σ H R) (hk : b = true → Kp R d) (hl : ds.length < 100000) :
    t σ H' fun b' H3 => if b' = true then te σ H3 fun y H4 => ∃ acc, H4 Dl = some (.lst acc) ∧ acc.length < sizeLine ∧ Cv H Dl (if b then ds ++ [d] else ds) (upd H4 Dl (.lst (acc ++ [y]))) else Cv H Dl (if b then ds ++ [d] else ds) H3 := by
  obtain ⟨p1, p2, xs, p3, p4⟩ := q
  refine ht H' p2 _ fun H3 g3 => ?_
  cases b with
  | true =>
    refine iteT (he rfl H3 (p2.tr g3) _ fun v H4 g4 r => ⟨xs, g4 _ _ (g3 _ _ p3), ?_, p1, Gr.mut ((p2.tr g3).tr g4) p1, xs ++ [v], upd_same, fun ys => ?_⟩)
    · have e := (p4 []).len
      rw [e]
      exact Nat.lt_of_lt_of_le hl (by decide)
    · rw [upd_upd]
      have g5 := g3.tr g4
      exact ((p4 ys).up g5.over).app (.one (hk rfl H3 H4 v Dl xs ys (g3 _ _ p3) g4 r))
  | false =>
    refine iteF ⟨p1, p2.tr g3, xs, g3 _ _ p3, fun ys => (p4 ys).up g3.over⟩
theorem cv_new {H H0 H' : Hp} {Dl : Addr} {ds : List PyData} (g : Gr H0 H) (q : Cv H Dl ds H') : Gr H H' ∧ NewL H0 ds H' (.ref Dl) := by
  obtain ⟨p1, p2, xs, p3, p4⟩ := q
  refine ⟨p2, Dl, xs, rfl, g.back p1, p3, ?_⟩
  have z := p4 xs
  have e : upd H' Dl (.lst xs) = H' := funext fun b => by
    by_cases h : b = Dl
    · rw [h, upd_same, p3]
    · rw [upd_ne h]
  rw [e] at z
  exact z
section
variable {α : Type} {enc : α → PyData} {as : List α} {pp : α → Bool} {g : α → PyData} {R : α → Hp → Pd} {σ : L2.St} {H : Hp} {tt : TT} {te tl : TE} {vs : List Nat} {j : Nat} {K : PySem.W.Frag}
theorem take_more {i : Nat} {a : α} (h : as[i]? = some a) : ((as.take (i + 1)).filter pp).map g = if pp a then ((as.take i).filter pp).map g ++ [g a] else ((as.take i).filter pp).map g := by
  rw [List.take_add_one, h, Option.toList_some, List.filter_append, List.map_append]
  cases e : pp a with
  | true => simp [e]
  | false => simp [e]
theorem more_len {i : Nat} (hz : as.length ≤ 40000) : (((as.take i).filter pp).map g).length < 100000 := by
  rw [List.length_map]
  have h1 := List.length_filter_le pp (as.take i)
  have h2 := List.length_take_le' i as
  omega
theorem ev_lcL (hi : Evp tl σ H (D (.list (as.map enc)))) (hz : as.length ≤ 40000) (hw : ∀ x, wipe ((wipe σ vs).set j (some x)) vs = wipe σ vs)
    (ht : ∀ a ∈ as, ∀ x H1, Gr H H1 → Dt H1 x (enc a) → Evb tt ((wipe σ vs).set j (some x)) H1 (pp a)) (he : ∀ a ∈ as, pp a = true → ∀ x H1, Gr H H1 → Dt H1 x (enc a) → Evq te ((wipe σ vs).set j (some x)) H1 (R a)) (hk : ∀ a ∈ as, pp a = true → Kp (R a) (g a)) :
    Evp (tLc (iList K tl) (gName j) tt te vs) σ H (NewL H ((as.filter pp).map g)) := fun H0 e Q q => hi H0 e _ fun v H1 e1 hv => by
  obtain ⟨a, xs, rfl, hp, hx⟩ := Dt.list_eq hv
  refine ⟨a, rfl, ⟨xs, .inl (.inl hp)⟩, fun Dl hD => lc_list (K := K) (a := a) (xs := xs) (fun i H' => Cv H1 Dl (((as.take i).filter pp).map g) H') ⟨hD, Gr.new hD, [], upd_same, fun _ => .nil⟩ (fun i H' _ c => .inl (.inl (c.2.1 _ _ hp))) (fun i x H' hi c => ⟨hw x, ?_⟩) fun H' c => ?_⟩
  · obtain ⟨d, hd, dx⟩ := hx.at hi
    rw [List.getElem?_map] at hd
    obtain ⟨b, hb, rfl⟩ := Option.map_eq_some_iff.mp hd
    have hm := List.mem_of_getElem? hb
    show tt ((wipe σ vs).set j (some x)) H' _
    rw [take_more hb]
    exact cv_turn (b := pp b) (d := g b) (R := R b) c (ht b hm x H1 (e.tr e1) dx) (fun w => he b hm w x H1 (e.tr e1) dx) (hk b hm) (more_len hz)
  · have e3 : as.take xs.length = as := List.take_of_length_le (by rw [hx.len, List.length_map]; exact Nat.le_refl _)
    rw [e3] at c
    obtain ⟨g2, n⟩ := cv_new (e.tr e1) c
    exact q _ _ (e1.tr g2) n
theorem ev_lcT (hi : Evp tl σ H (D (.tuple (as.map enc)))) (hz : as.length ≤ 40000) (hw : ∀ x, wipe ((wipe σ vs).set j (some x)) vs = wipe σ vs)
    (ht : ∀ a ∈ as, ∀ x H1, Gr H H1 → Dt H1 x (enc a) → Evb tt ((wipe σ vs).set j (some x)) H1 (pp a)) (he : ∀ a ∈ as, pp a = true → ∀ x H1, Gr H H1 → Dt H1 x (enc a) → Evq te ((wipe σ vs).set j (some x)) H1 (R a)) (hk : ∀ a ∈ as, pp a = true → Kp (R a) (g a)) :
    Evp (tLc (iTup K tl) (gName j) tt te vs) σ H (NewL H ((as.filter pp).map g)) := fun H0 e Q q => hi H0 e _ fun v H1 e1 hv => by
  obtain ⟨a, xs, rfl, hp, hx⟩ := Dt.tup_eq hv
  refine ⟨a, rfl, ⟨xs, .inl (.inl hp)⟩, fun Dl hD => lc_tup (K := K) (a := a) (xs := xs) (fun i H' => Cv H1 Dl (((as.take i).filter pp).map g) H') ⟨hD, Gr.new hD, [], upd_same, fun _ => .nil⟩ (fun i H' _ c => .inl (.inl (c.2.1 _ _ hp))) (fun i x H' hi c => ⟨hw x, ?_⟩) fun H' c => ?_⟩
  · obtain ⟨d, hd, dx⟩ := hx.at hi
    rw [List.getElem?_map] at hd
    obtain ⟨b, hb, rfl⟩ := Option.map_eq_some_iff.mp hd
    have hm := List.mem_of_getElem? hb
    show tt ((wipe σ vs).set j (some x)) H' _
    rw [take_more hb]
    exact cv_turn (b := pp b) (d := g b) (R := R b) c (ht b hm x H1 (e.tr e1) dx) (fun w => he b hm w x H1 (e.tr e1) dx) (hk b hm) (more_len hz)
  · have e3 : as.take xs.length = as := List.take_of_length_le (by rw [hx.len, List.length_map]; exact Nat.le_refl _)
    rw [e3] at c
    obtain ⟨g2, n⟩ := cv_new (e.tr e1) c
    exact q _ _ (e1.tr g2) n
theorem ev_lcR {n : Nat} {pp : Nat → Bool} {g : Nat → PyData} {R : Nat → Hp → Pd} {ta : TA} (hi : Eva ta σ H [I (n : Int)]) (hz : n ≤ 40000) (hw : ∀ x, wipe ((wipe σ vs).set j (some x)) vs = wipe σ vs)
    (ht : ∀ a, a < n → ∀ H1, Gr H H1 → Evb tt ((wipe σ vs).set j (some (.int (a : Int)))) H1 (pp a)) (he : ∀ a, a < n → pp a = true → ∀ H1, Gr H H1 → Evq te ((wipe σ vs).set j (some (.int (a : Int)))) H1 (R a)) (hk : ∀ a, a < n → pp a = true → Kp (R a) (g a)) :
    Evp (tLc (iRng1 ta) (gName j) tt te vs) σ H (NewL H (((List.range n).filter pp).map g)) := fun H0 e Q q => hi H0 e _ fun v H1 e1 hv => by
  obtain ⟨v, r, rfl, hv, rfl⟩ := hv
  have ev := Dt.int_eq hv
  subst ev
  refine ⟨n, rfl, by omega, by omega, fun Dl hD => lc_range (lo := 0) (n := n) (fun i H' => Cv H1 Dl ((((List.range n).take i).filter pp).map g) H') ⟨hD, Gr.new hD, [], upd_same, fun _ => .nil⟩ (fun i H' hi c => ⟨hw _, ?_⟩) fun H' c => ?_⟩
  · have hb : (List.range n)[i]? = some i := by rw [List.getElem?_range hi]
    show tt ((wipe σ vs).set j (some (.int (0 + (i : Int))))) H' _
    rw [take_more hb, Int.zero_add]
    exact cv_turn (b := pp i) (d := g i) (R := R i) c (ht i hi H1 (e.tr e1)) (fun w => he i hi w H1 (e.tr e1)) (hk i hi) (more_len (by rw [List.length_range]; exact hz))
  · have e3 : (List.range n).take n = List.range n := List.take_of_length_le (by rw [List.length_range]; exact Nat.le_refl _)
    rw [e3] at c
    obtain ⟨g2, n⟩ := cv_new (e.tr e1) c
    exact q _ _ (e1.tr g2) n
end
/-- the block of a comprehension -/
abbrev Xb (X : Cx) (scope : Scope) (s : Shared) (H : Hp) (C : Addr) (cl : List (Str × Addr)) (fp : List Addr) : Cx := X.blk s H scope (compEnvC scope cl C X.env) fp
def rdB (X : Cx) (scope : Scope) (e : Expr) : TE := fun σ H Q => ∀ s H0 C cl fp, rdE (Xb X scope s H0 C cl fp) e σ H Q
def rdBT (X : Cx) (scope : Scope) (e : Expr) : TT := fun σ H Q => ∀ s H0 C cl fp, rdT (Xb X scope s H0 C cl fp) e σ H Q
theorem rdB_q {X : Cx} {scope : Scope} {e : Expr} {σ : L2.St} {H : Hp} {R : Hp → Pd} (h : ∀ s H0 C cl fp, Evq (rdE (Xb X scope s H0 C cl fp) e) σ H R) : Evq (rdB X scope e) σ H R := fun H1 g Q q s H0 C cl fp => h s H0 C cl fp H1 g Q q
theorem rdBT_b {X : Cx} {scope : Scope} {e : Expr} {σ : L2.St} {H : Hp} {b : Bool} (h : ∀ s H0 C cl fp, T (Xb X scope s H0 C cl fp) e σ H b) : Evb (rdBT X scope e) σ H b := fun H1 g Q q s H0 C cl fp => h s H0 C cl fp H1 g Q q
theorem Evp.q {te : TE} {σ : L2.St} {H : Hp} {P : Pd} (h : Evp te σ H P) : Evq te σ H (fun _ => P) := fun H1 g Q q => h H1 g Q q
theorem ev_yes {σ : L2.St} {H : Hp} : Evb tYes σ H true := fun H1 _ Q q => q H1 (Gr.refl _)
theorem f_all {α : Type} (l : List α) : l.filter (fun _ => true) = l := List.filter_eq_self.mpr fun _ _ => rfl
section
variable {X : Cx} {α : Type} {enc : α → PyData} {as : List α} {pp : α → Bool} {g : α → PyData} {R : α → Hp → Pd} {σ : L2.St} {H : Hp} {j : Nat} {y : Str} {elt iter c : Expr} {py pos p : Pos} {scope : Scope}
abbrev Tgt (X : Cx) (scope : Scope) (y : Str) (py : Pos) (j : Nat) : Prop := ∀ (s : Shared) (H : Hp) (C : Addr) (cl : List (Str × Addr)) (fp : List Addr), PG (Xb X scope s H C cl fp) (.Name y py) (gName j)
/-- [elt for y in xs], xs a list | a tuple | range(n); the slot of y is j -/
theorem e_lcL (j : Nat) (ok : BlkOk X.N X.env.scope scope [(y, j)]) (hg : Tgt X scope y py j) (hN : X.N.Nodup) (hi : E X iter σ H (D (.list (as.map enc)))) (hz : as.length ≤ 40000)
    (he : ∀ a ∈ as, ∀ x H1, Gr H H1 → Dt H1 x (enc a) → ∀ s H0 C cl fp, Evq (rdE (Xb X scope s H0 C cl fp) elt) ((σ.set j none).set j (some x)) H1 (R a)) (hk : ∀ a ∈ as, Kp (R a) (g a)) (hc : X.calm = true := by rfl)
    (hw : ∀ x, wipe ((wipe σ [j]).set j (some x)) [j] = wipe σ [j] := by intro _; rfl) (hs : ∀ x, foldedSetIterable iter X.env x = pure x := by intro _; rfl) : E X (.ListComp elt [⟨.Name y py, iter, [], 0⟩] scope pos) σ H (NewL H (as.map g)) := by
  have z := Evp.of (pe_lc hc hN (pi_list (pE X iter)) ok hg (fun _ _ _ _ _ => pts_nil) (fun s H0 C cl fp => ⟨fun pins s' σ H Q I h => h s H0 C cl fp pins s' I⟩) hs (te := rdB X scope elt) (pos := pos)) (ev_lcL (K := X.K) (pp := fun _ => true) (g := g) (R := R) hi hz hw (fun _ _ _ _ _ _ => ev_yes) (fun a m _ x H1 g1 dx => rdB_q (he a m x H1 g1 dx)) fun a m _ => hk a m)
  rw [f_all] at z
  exact z
theorem e_lcT (j : Nat) (ok : BlkOk X.N X.env.scope scope [(y, j)]) (hg : Tgt X scope y py j) (hN : X.N.Nodup) (hi : E X iter σ H (D (.tuple (as.map enc)))) (hz : as.length ≤ 40000)
    (he : ∀ a ∈ as, ∀ x H1, Gr H H1 → Dt H1 x (enc a) → ∀ s H0 C cl fp, Evq (rdE (Xb X scope s H0 C cl fp) elt) ((σ.set j none).set j (some x)) H1 (R a)) (hk : ∀ a ∈ as, Kp (R a) (g a)) (hc : X.calm = true := by rfl)
    (hw : ∀ x, wipe ((wipe σ [j]).set j (some x)) [j] = wipe σ [j] := by intro _; rfl) (hs : ∀ x, foldedSetIterable iter X.env x = pure x := by intro _; rfl) : E X (.ListComp elt [⟨.Name y py, iter, [], 0⟩] scope pos) σ H (NewL H (as.map g)) := by
  have z := Evp.of (pe_lc hc hN (pi_tup (pE X iter)) ok hg (fun _ _ _ _ _ => pts_nil) (fun s H0 C cl fp => ⟨fun pins s' σ H Q I h => h s H0 C cl fp pins s' I⟩) hs (te := rdB X scope elt) (pos := pos)) (ev_lcT (K := X.K) (pp := fun _ => true) (g := g) (R := R) hi hz hw (fun _ _ _ _ _ _ => ev_yes) (fun a m _ x H1 g1 dx => rdB_q (he a m x H1 g1 dx)) fun a m _ => hk a m)
  rw [f_all] at z
  exact z
theorem e_lcR {n : Nat} {g : Nat → PyData} {R : Nat → Hp → Pd} {r : Expr} (j : Nat) (ok : BlkOk X.N X.env.scope scope [(y, j)]) (hg : Tgt X scope y py j) (hN : X.N.Nodup) (hm : X.mg "range" = none) (hi : E X r σ H (I (n : Int))) (hz : n ≤ 40000)
    (he : ∀ a, a < n → ∀ H1, Gr H H1 → ∀ s H0 C cl fp, Evq (rdE (Xb X scope s H0 C cl fp) elt) ((σ.set j none).set j (some (.int (a : Int)))) H1 (R a)) (hk : ∀ a, a < n → Kp (R a) (g a)) (hc : X.calm = true := by rfl)
    (hw : ∀ x, wipe ((wipe σ [j]).set j (some x)) [j] = wipe σ [j] := by intro _; rfl) (hgr : Gl X "range" := by rfl) (hse : starEach [r] X.env = [(false, eval r X.env)] := by rfl) (hs : ∀ x, foldedSetIterable (.Call (.Name "range" p) [r] [] pos) X.env x = pure x := by intro _; rfl) {pos2 : Pos} :
    E X (.ListComp elt [⟨.Name y py, .Call (.Name "range" p) [r] [] pos, [], 0⟩] scope pos2) σ H (NewL H ((List.range n).map g)) := by
  have z := Evp.of (pe_lc hc hN (pi_range1 hgr hm (pA X [r]) hse) ok hg (fun _ _ _ _ _ => pts_nil) (fun s H0 C cl fp => ⟨fun pins s' σ H Q I h => h s H0 C cl fp pins s' I⟩) hs (te := rdB X scope elt) (pos := pos2)) (ev_lcR (pp := fun _ => true) (g := g) (R := R) (a_cons hi a_nil hse) hz hw (fun _ _ _ _ => ev_yes) (fun a m _ H1 g1 => rdB_q (he a m H1 g1)) fun a m _ => hk a m)
  rw [f_all] at z
  exact z
/-- the same with one if -/
theorem e_lcLi (j : Nat) (ok : BlkOk X.N X.env.scope scope [(y, j)]) (hg : Tgt X scope y py j) (hN : X.N.Nodup) (hi : E X iter σ H (D (.list (as.map enc)))) (hz : as.length ≤ 40000)
    (ht : ∀ a ∈ as, ∀ x H1, Gr H H1 → Dt H1 x (enc a) → ∀ s H0 C cl fp, T (Xb X scope s H0 C cl fp) c ((σ.set j none).set j (some x)) H1 (pp a))
    (he : ∀ a ∈ as, pp a = true → ∀ x H1, Gr H H1 → Dt H1 x (enc a) → ∀ s H0 C cl fp, Evq (rdE (Xb X scope s H0 C cl fp) elt) ((σ.set j none).set j (some x)) H1 (R a)) (hk : ∀ a ∈ as, Kp (R a) (g a)) (hc : X.calm = true := by rfl)
    (hw : ∀ x, wipe ((wipe σ [j]).set j (some x)) [j] = wipe σ [j] := by intro _; rfl) (hs : ∀ x, foldedSetIterable iter X.env x = pure x := by intro _; rfl) : E X (.ListComp elt [⟨.Name y py, iter, [c], 0⟩] scope pos) σ H (NewL H ((as.filter pp).map g)) :=
  Evp.of (pe_lc hc hN (pi_list (pE X iter)) ok hg (fun s H0 C cl fp => pts_one (t := rdBT X scope c) ⟨fun pins s' σ H Q I h => h s H0 C cl fp pins s' I⟩) (fun s H0 C cl fp => ⟨fun pins s' σ H Q I h => h s H0 C cl fp pins s' I⟩) hs (te := rdB X scope elt)) (ev_lcL (K := X.K) (pp := pp) (g := g) (R := R) hi hz hw (fun a m x H1 g1 dx => rdBT_b (ht a m x H1 g1 dx)) (fun a m w x H1 g1 dx => rdB_q (he a m w x H1 g1 dx)) fun a m _ => hk a m)
theorem e_lcTi (j : Nat) (ok : BlkOk X.N X.env.scope scope [(y, j)]) (hg : Tgt X scope y py j) (hN : X.N.Nodup) (hi : E X iter σ H (D (.tuple (as.map enc)))) (hz : as.length ≤ 40000)
    (ht : ∀ a ∈ as, ∀ x H1, Gr H H1 → Dt H1 x (enc a) → ∀ s H0 C cl fp, T (Xb X scope s H0 C cl fp) c ((σ.set j none).set j (some x)) H1 (pp a))
    (he : ∀ a ∈ as, pp a = true → ∀ x H1, Gr H H1 → Dt H1 x (enc a) → ∀ s H0 C cl fp, Evq (rdE (Xb X scope s H0 C cl fp) elt) ((σ.set j none).set j (some x)) H1 (R a)) (hk : ∀ a ∈ as, Kp (R a) (g a)) (hc : X.calm = true := by rfl)
    (hw : ∀ x, wipe ((wipe σ [j]).set j (some x)) [j] = wipe σ [j] := by intro _; rfl) (hs : ∀ x, foldedSetIterable iter X.env x = pure x := by intro _; rfl) : E X (.ListComp elt [⟨.Name y py, iter, [c], 0⟩] scope pos) σ H (NewL H ((as.filter pp).map g)) :=
  Evp.of (pe_lc hc hN (pi_tup (pE X iter)) ok hg (fun s H0 C cl fp => pts_one (t := rdBT X scope c) ⟨fun pins s' σ H Q I h => h s H0 C cl fp pins s' I⟩) (fun s H0 C cl fp => ⟨fun pins s' σ H Q I h => h s H0 C cl fp pins s' I⟩) hs (te := rdB X scope elt)) (ev_lcT (K := X.K) (pp := pp) (g := g) (R := R) hi hz hw (fun a m x H1 g1 dx => rdBT_b (ht a m x H1 g1 dx)) (fun a m w x H1 g1 dx => rdB_q (he a m w x H1 g1 dx)) fun a m _ => hk a m)
theorem e_lcRi {n : Nat} {pp : Nat → Bool} {g : Nat → PyData} {R : Nat → Hp → Pd} {r : Expr} (j : Nat) (ok : BlkOk X.N X.env.scope scope [(y, j)]) (hg : Tgt X scope y py j) (hN : X.N.Nodup) (hm : X.mg "range" = none) (hi : E X r σ H (I (n : Int))) (hz : n ≤ 40000)
    (ht : ∀ a, a < n → ∀ H1, Gr H H1 → ∀ s H0 C cl fp, T (Xb X scope s H0 C cl fp) c ((σ.set j none).set j (some (.int (a : Int)))) H1 (pp a))
    (he : ∀ a, a < n → pp a = true → ∀ H1, Gr H H1 → ∀ s H0 C cl fp, Evq (rdE (Xb X scope s H0 C cl fp) elt) ((σ.set j none).set j (some (.int (a : Int)))) H1 (R a)) (hk : ∀ a, a < n → Kp (R a) (g a)) (hc : X.calm = true := by rfl)
    (hw : ∀ x, wipe ((wipe σ [j]).set j (some x)) [j] = wipe σ [j] := by intro _; rfl) (hgr : Gl X "range" := by rfl) (hse : starEach [r] X.env = [(false, eval r X.env)] := by rfl) (hs : ∀ x, foldedSetIterable (.Call (.Name "range" p) [r] [] pos) X.env x = pure x := by intro _; rfl) {pos2 : Pos} :
    E X (.ListComp elt [⟨.Name y py, .Call (.Name "range" p) [r] [] pos, [c], 0⟩] scope pos2) σ H (NewL H (((List.range n).filter pp).map g)) :=
  Evp.of (pe_lc hc hN (pi_range1 hgr hm (pA X [r]) hse) ok hg (fun s H0 C cl fp => pts_one (t := rdBT X scope c) ⟨fun pins s' σ H Q I h => h s H0 C cl fp pins s' I⟩) (fun s H0 C cl fp => ⟨fun pins s' σ H Q I h => h s H0 C cl fp pins s' I⟩) hs (te := rdB X scope elt)) (ev_lcR (pp := pp) (g := g) (R := R) (a_cons hi a_nil hse) hz hw (fun a m H1 g1 => rdBT_b (ht a m H1 g1)) (fun a m w H1 g1 => rdB_q (he a m w H1 g1)) fun a m _ => hk a m)
/-- the source a list or a tuple, known which -/
theorem e_lcQ (j : Nat) (ok : BlkOk X.N X.env.scope scope [(y, j)]) (hg : Tgt X scope y py j) (hN : X.N.Nodup) (hi : E X iter σ H (D (.list (as.map enc))) ∨ E X iter σ H (D (.tuple (as.map enc)))) (hz : as.length ≤ 40000)
    (he : ∀ a ∈ as, ∀ x H1, Gr H H1 → Dt H1 x (enc a) → ∀ s H0 C cl fp, Evq (rdE (Xb X scope s H0 C cl fp) elt) ((σ.set j none).set j (some x)) H1 (R a)) (hk : ∀ a ∈ as, Kp (R a) (g a)) (hc : X.calm = true := by rfl)
    (hw : ∀ x, wipe ((wipe σ [j]).set j (some x)) [j] = wipe σ [j] := by intro _; rfl) (hs : ∀ x, foldedSetIterable iter X.env x = pure x := by intro _; rfl) : E X (.ListComp elt [⟨.Name y py, iter, [], 0⟩] scope pos) σ H (NewL H (as.map g)) := by
  rcases hi with hi | hi
  · exact e_lcL j ok hg hN hi hz he hk hc hw hs
  · exact e_lcT j ok hg hN hi hz he hk hc hw hs
end
end K33
namespace K33
open PySem PySem.Spec PyProof.Rows L2
section
variable {X : Cx} {σ : L2.St} {H : Hp} {Z : Ends} {a b c e o iter : Expr} {es : List Expr} {st : Stmt} {rest sa sb body : List Stmt} {pos p p1 p2 p3 p4 py : Pos} {P R S : Pd} {x y : Str} {v : V} {d : PyData} {ds : List PyData} {b1 : Bool}
/-! statements -/
theorem s_nil (h : Z.nx σ H) : rdSs X [] Z σ H := rdSs_of pss_nil h
theorem s_cons (h : rdS X st { Z with nx := rdSs X rest Z } σ H) : rdSs X (st :: rest) Z σ H := rdSs_of (pss_cons (pS X st) (pSs X rest)) h
theorem s_one (h : rdS X st Z σ H) : rdSs X [st] Z σ H := rdSs_of (pss_one (pS X st)) h
theorem r_ret (h : rdE X e σ H Z.rt) : rdS X (.Return (some e) pos) Z σ H := rdS_of (ps_ret (pE X e)) h
theorem s_ret (h : E X e σ H P) (k : ∀ v H1, Gr H H1 → P H1 v → Z.rt v H1) : rdS X (.Return (some e) pos) Z σ H := r_ret (h.run k)
theorem r_set (ix : Nat) (hN : X.N.Nodup) (h : rdE X e σ H fun v H1 => Z.nx (σ.set ix (some v)) H1) (hi : X.N[ix]? = some x := by rfl) (hx : Loc X.env.scope x := by first | exact Or.inl rfl | exact Or.inr rfl)
    (hs : swapsWith e (some (.Name x p)) pos.line X.env = pure false := by rfl) (hf : X.fn x = true ∨ X.env.scope.names.lookup x = some .local := by first | exact .inl rfl | exact .inr rfl) : rdS X (.Assign [.Name x p] e pos) Z σ H :=
  rdS_of (ps_set hN hi hx (pE X e) hs hf) h
theorem s_set (ix : Nat) (hN : X.N.Nodup) (h : E X e σ H P) (k : ∀ v H1, Gr H H1 → P H1 v → Z.nx (σ.set ix (some v)) H1) (hi : X.N[ix]? = some x := by rfl) (hx : Loc X.env.scope x := by first | exact Or.inl rfl | exact Or.inr rfl)
    (hs : swapsWith e (some (.Name x p)) pos.line X.env = pure false := by rfl) (hf : X.fn x = true ∨ X.env.scope.names.lookup x = some .local := by first | exact .inl rfl | exact .inr rfl) : rdS X (.Assign [.Name x p] e pos) Z σ H :=
  r_set ix hN (h.run k) hi hx hs hf
theorem s_if (h : T X c σ H b1) (h1 : b1 = true → ∀ H1, Gr H H1 → rdSs X sa Z σ H1) (h2 : b1 = false → ∀ H1, Gr H H1 → rdSs X sb Z σ H1) : rdS X (.If c sa sb pos) Z σ H :=
  rdS_of (ps_if (pT X c) (pSs X sa) (pSs X sb)) (h.run fun H1 g => by
    cases b1 with
    | true => exact iteT (h1 rfl H1 g)
    | false => exact iteF (h2 rfl H1 g))
/-- an if whose test fails: what follows -/
theorem s_skip (h : T X c σ H false) (k : ∀ H1, Gr H H1 → Z.nx σ H1) : rdS X (.If c sa [] pos) Z σ H := s_if h (fun z => nomatch z) fun _ H1 g => s_nil (k H1 g)
theorem r_expr (h : rdE X e σ H fun _ H1 => Z.nx σ H1) (hs : swapsWith e none pos.line X.env = pure false := by rfl) : rdS X (.Expr e pos) Z σ H := rdS_of (ps_expr (pE X e) hs) h
theorem s_expr (h : E X e σ H P) (k : ∀ v H1, Gr H H1 → P H1 v → Z.nx σ H1) (hs : swapsWith e none pos.line X.env = pure false := by rfl) : rdS X (.Expr e pos) Z σ H := r_expr (h.run k) hs
/-- a, b = e, e a pair -/
theorem r_set2 (i j : Nat) (hN : X.N.Nodup) {t : Nat} (h : rdE X e σ H fun v H1 => ∃ q w u, v = .ref q ∧ H1 q = some (.tup [w, u]) ∧ Z.nx ((σ.set i (some w)).set j (some u)) H1) (hc : X.calm = true := by rfl) (hi : X.N[i]? = some x := by rfl) (hj : X.N[j]? = some y := by rfl)
    (hx : Loc X.env.scope x := by first | exact Or.inl rfl | exact Or.inr rfl) (hy : Loc X.env.scope y := by first | exact Or.inl rfl | exact Or.inr rfl) (fx : X.fn x = true ∨ X.env.scope.names.lookup x = some .local := by first | exact .inl rfl | exact .inr rfl) (fy : X.fn y = true ∨ X.env.scope.names.lookup y = some .local := by first | exact .inl rfl | exact .inr rfl)
    (hs : swapsWithSole [.Tuple [.Name x p1, .Name y p2] t p3] e pos.line X.env = pure false := by rfl) (hw : swappedStores [.Tuple [.Name x p1, .Name y p2] t p3] e X.env = pure none := by rfl)
    (h1 : (assignEach [.Tuple [.Name x p1, .Name y p2] t p3] X.env).map (·.2) = [assign (.Tuple [.Name x p1, .Name y p2] t p3) X.env] := by rfl)
    (hn : (assignEach [.Name x p1, .Name y p2] X.env).length = 2 := by rfl) (hst : (assignEach [.Name x p1, .Name y p2] X.env).findIdx? (·.1) = none := by rfl)
    (ha1 : (assignEach [.Name x p1, .Name y p2] X.env).map (·.2) = assign (.Name x p1) X.env :: (assignEach [.Name y p2] X.env).map (·.2) := by rfl) (ha2 : (assignEach [.Name y p2] X.env).map (·.2) = assign (.Name y p2) X.env :: (assignEach [] X.env).map (·.2) := by rfl) :
    rdS X (.Assign [.Tuple [.Name x p1, .Name y p2] t p3] e pos) Z σ H :=
  rdS_of (ps_asg (pE X e) (pg_tup hc (pgs_cons (pg_name hN hi hx fx) (pgs_cons (pg_name hN hj hy fy) pgs_nil ha2) ha1) hn hst) hs hw h1) (by
    have k : ∀ v H1, (∃ q w u, v = V.ref q ∧ H1 q = some (.tup [w, u]) ∧ Z.nx ((σ.set i (some w)).set j (some u)) H1) → gTup X.K 2 (gCons (gName i) (gCons (gName j) gNil)) v σ H1 Z.nx := fun v H1 ⟨q, w, u, e1, h2, h3⟩ => ⟨q, [w, u], e1, .inl (.inl h2), rfl, w, [u], rfl, u, [], rfl, rfl, h3⟩
    exact fun pins s I => thn (h pins s I) fun u s1 ⟨v, H1, I1, r1, q1⟩ => ⟨v, H1, I1, r1, k v H1 q1⟩)

/-! loops -/
theorem Nx.w {X : Cx} {e : Expr} {σ : L2.St} {H : Hp} {Q Q' : VK} (h : rdE X e σ H Q) (k : ∀ v H1, Q v H1 → Q' v H1) : rdE X e σ H Q' := fun pins s I => thn (h pins s I) fun _ _ ⟨v, H1, I1, r1, q1⟩ => ⟨v, H1, I1, r1, k v H1 q1⟩
/-- for y in a list (a tuple); the list stands while Pv does -/
theorem r_forL (j : Nat) (hN : X.N.Nodup) (h : rdE X iter σ H fun v H1 => ∃ q xs, v = .ref q ∧ H1 q = some (.lst xs) ∧ ∃ Pv : Nat → L2.St → Hp → Prop, Pv 0 σ H1 ∧ (∀ i σ' H', Pv i σ' H' → H' q = some (.lst xs)) ∧
      (∀ i u σ' H', xs[i]? = some u → Pv i σ' H' → rdSs X body { Z with nx := Pv (i + 1), ct := Pv (i + 1), bk := Z.nx } (σ'.set j (some u)) H') ∧ ∀ σ' H', Pv xs.length σ' H' → Z.nx σ' H')
    (hp : PassesOwn (model X.prog X.w) X.A X.env X.xe := by exact PassesOwn.never) (hc : X.calm = true := by rfl) (hi : X.N[j]? = some y := by rfl) (hx : Loc X.env.scope y := by first | exact Or.inl rfl | exact Or.inr rfl) (hf : X.fn y = true ∨ X.env.scope.names.lookup y = some .local := by first | exact .inl rfl | exact .inr rfl)
    (hs : ∀ x, foldedSetIterable iter X.env x = pure x := by intro _; rfl) : rdS X (.For (.Name y py) iter body [] pos) Z σ H :=
  rdS_of (ps_for hp hc (pi_list (pE X iter)) (pg_name hN hi hx hf) (pSs X body) hs) (Nx.w h fun v H1 ⟨q, xs, e1, h1, Pv, q0, ql, qs, qd⟩ => ⟨q, e1, ⟨xs, .inl (.inl h1)⟩, for_list (K := X.K) Pv q0 (fun i σ' H' _ w => .inl (.inl (ql i σ' H' w))) (fun i u σ' H' hu w => qs i u σ' H' hu w) qd⟩)
theorem r_forT (j : Nat) (hN : X.N.Nodup) (h : rdE X iter σ H fun v H1 => ∃ q xs, v = .ref q ∧ H1 q = some (.tup xs) ∧ ∃ Pv : Nat → L2.St → Hp → Prop, Pv 0 σ H1 ∧ (∀ i σ' H', Pv i σ' H' → H' q = some (.tup xs)) ∧
      (∀ i u σ' H', xs[i]? = some u → Pv i σ' H' → rdSs X body { Z with nx := Pv (i + 1), ct := Pv (i + 1), bk := Z.nx } (σ'.set j (some u)) H') ∧ ∀ σ' H', Pv xs.length σ' H' → Z.nx σ' H')
    (hp : PassesOwn (model X.prog X.w) X.A X.env X.xe := by exact PassesOwn.never) (hc : X.calm = true := by rfl) (hi : X.N[j]? = some y := by rfl) (hx : Loc X.env.scope y := by first | exact Or.inl rfl | exact Or.inr rfl) (hf : X.fn y = true ∨ X.env.scope.names.lookup y = some .local := by first | exact .inl rfl | exact .inr rfl)
    (hs : ∀ x, foldedSetIterable iter X.env x = pure x := by intro _; rfl) : rdS X (.For (.Name y py) iter body [] pos) Z σ H :=
  rdS_of (ps_for hp hc (pi_tup (pE X iter)) (pg_name hN hi hx hf) (pSs X body) hs) (Nx.w h fun v H1 ⟨q, xs, e1, h1, Pv, q0, ql, qs, qd⟩ => ⟨q, e1, ⟨xs, .inl (.inl h1)⟩, for_tup (K := X.K) Pv q0 (fun i σ' H' _ w => .inl (.inl (ql i σ' H' w))) (fun i u σ' H' hu w => qs i u σ' H' hu w) qd⟩)
/-- for x, y in a list of pairs -/
theorem r_forL2 (j j2 : Nat) (hN : X.N.Nodup) {t : Nat} (h : rdE X iter σ H fun v H1 => ∃ q xs, v = .ref q ∧ H1 q = some (.lst xs) ∧ ∃ Pv : Nat → L2.St → Hp → Prop, Pv 0 σ H1 ∧ (∀ i σ' H', Pv i σ' H' → H' q = some (.lst xs)) ∧
      (∀ i u σ' H', xs[i]? = some u → Pv i σ' H' → ∃ l w z, u = .ref l ∧ H' l = some (.tup [w, z]) ∧ rdSs X body { Z with nx := Pv (i + 1), ct := Pv (i + 1), bk := Z.nx } ((σ'.set j (some w)).set j2 (some z)) H') ∧ ∀ σ' H', Pv xs.length σ' H' → Z.nx σ' H')
    (hp : PassesOwn (model X.prog X.w) X.A X.env X.xe := by exact PassesOwn.never) (hc : X.calm = true := by rfl) (hi : X.N[j]? = some x := by rfl) (hi2 : X.N[j2]? = some y := by rfl)
    (hx : Loc X.env.scope x := by first | exact Or.inl rfl | exact Or.inr rfl) (hy : Loc X.env.scope y := by first | exact Or.inl rfl | exact Or.inr rfl) (fx : X.fn x = true ∨ X.env.scope.names.lookup x = some .local := by first | exact .inl rfl | exact .inr rfl) (fy : X.fn y = true ∨ X.env.scope.names.lookup y = some .local := by first | exact .inl rfl | exact .inr rfl)
    (hn : (assignEach [.Name x p1, .Name y p2] X.env).length = 2 := by rfl) (hst : (assignEach [.Name x p1, .Name y p2] X.env).findIdx? (·.1) = none := by rfl)
    (ha1 : (assignEach [.Name x p1, .Name y p2] X.env).map (·.2) = assign (.Name x p1) X.env :: (assignEach [.Name y p2] X.env).map (·.2) := by rfl) (ha2 : (assignEach [.Name y p2] X.env).map (·.2) = assign (.Name y p2) X.env :: (assignEach [] X.env).map (·.2) := by rfl)
    (hs : ∀ x, foldedSetIterable iter X.env x = pure x := by intro _; rfl) : rdS X (.For (.Tuple [.Name x p1, .Name y p2] t p3) iter body [] pos) Z σ H :=
  rdS_of (ps_for hp hc (pi_list (pE X iter)) (pg_tup hc (pgs_cons (pg_name hN hi hx fx) (pgs_cons (pg_name hN hi2 hy fy) pgs_nil ha2) ha1) hn hst) (pSs X body) hs) (Nx.w h fun v H1 ⟨q, xs, e1, h1, Pv, q0, ql, qs, qd⟩ => ⟨q, e1, ⟨xs, .inl (.inl h1)⟩, for_list (K := X.K) Pv q0 (fun i σ' H' _ w => .inl (.inl (ql i σ' H' w))) (fun i u σ' H' hu w => by
    obtain ⟨l, w1, z1, e2, h2, h3⟩ := qs i u σ' H' hu w
    exact ⟨l, [w1, z1], e2, .inl (.inl h2), rfl, w1, [z1], rfl, z1, [], rfl, rfl, h3⟩) qd⟩)
/-- for y in range(n) -/
theorem r_forR (j : Nat) (hN : X.N.Nodup) (hm : X.mg "range" = none) (h : rdE X e σ H fun v H1 => ∃ n : Nat, v = .int (n : Int) ∧ n ≤ 100000 ∧ ∃ Pv : Nat → L2.St → Hp → Prop, Pv 0 σ H1 ∧
      (∀ i σ' H', i < n → Pv i σ' H' → rdSs X body { Z with nx := Pv (i + 1), ct := Pv (i + 1), bk := Z.nx } (σ'.set j (some (.int (i : Int)))) H') ∧ ∀ σ' H', Pv n σ' H' → Z.nx σ' H')
    (hp : PassesOwn (model X.prog X.w) X.A X.env X.xe := by exact PassesOwn.never) (hc : X.calm = true := by rfl) (hi : X.N[j]? = some y := by rfl) (hx : Loc X.env.scope y := by first | exact Or.inl rfl | exact Or.inr rfl) (hf : X.fn y = true ∨ X.env.scope.names.lookup y = some .local := by first | exact .inl rfl | exact .inr rfl)
    (hgr : Gl X "range" := by rfl) (hse : starEach [e] X.env = [(false, eval e X.env)] := by rfl) (hs : ∀ x, foldedSetIterable (.Call (.Name "range" p1) [e] [] p2) X.env x = pure x := by intro _; rfl) : rdS X (.For (.Name y py) (.Call (.Name "range" p1) [e] [] p2) body [] pos) Z σ H :=
  rdS_of (ps_for hp hc (pi_range1 hgr hm (pa_cons (pE X e) pa_nil hse) hse) (pg_name hN hi hx hf) (pSs X body) hs) (Nx.w h fun v H1 ⟨n, e1, hn, Pv, q0, qs, qd⟩ => ⟨n, by rw [e1], by omega, by omega, for_range (lo := 0) (n := n) Pv q0 (fun i σ' H' hi w => by
    show rdSs X body _ (σ'.set j (some (.int (0 + (i : Int))))) H'
    rw [Int.zero_add]
    exact qs i σ' H' hi w) qd⟩)
/-- while c: by a word W and a number that falls -/
theorem s_while (W : Nat → L2.St → Hp → Prop) (m0 : Nat) (h0 : W m0 σ H)
    (hs : ∀ m σ' H', W m σ' H' → ∃ b, T X c σ' H' b ∧ (b = true → ∀ H1, Gr H' H1 → ∃ N : L2.St → Hp → Prop, (∀ σ2 H2, N σ2 H2 → ∃ m', m' < m ∧ W m' σ2 H2) ∧ rdSs X body { Z with nx := N, ct := N, bk := Z.nx } σ' H1) ∧ (b = false → ∀ H1, Gr H' H1 → Z.nx σ' H1))
    (hp : PassesOwn (model X.prog X.w) X.A X.env X.xe := by exact PassesOwn.never) : rdS X (.While c body [] pos) Z σ H :=
  rdS_of (ps_while hp (pT X c) (pSs X body)) ⟨W, ⟨m0, h0⟩, fun m σ' H' hw => by
    obtain ⟨b, hb, h1, h2⟩ := hs m σ' H' hw
    refine hb.run fun H1 g => ?_
    cases b with
    | true => exact iteT (h1 rfl H1 g)
    | false => exact iteF (h2 rfl H1 g)⟩

/-! lists that change -/
/-- xs.append(e) as a statement -/
theorem r_app {l : Addr} {xs0 : List V} (ho : E X o σ H (Is (.ref l))) (h0 : H l = some (.lst xs0)) (h : ∀ H1, Gr H H1 → rdE X e σ H1 fun v H2 => ∃ xs, H2 l = some (.lst xs) ∧ xs.length < 100000 ∧ Z.nx σ (upd H2 l (.lst (xs ++ [v]))))
    (hbase : attributeBase o "append" X.env (eval o X.env) = eval o X.env := by rfl) (hfew : ((backTo p3 (starEach [e] X.env)).all (fun x => !x.1) && (backToKw p3 (keywordEach [] X.env)).all (fun x => x.1.isSome) && decide ([e].length + ([] : List Keyword).length + (if ([] : List Keyword).isEmpty then 0 else 1) < 30)) = true := by rfl)
    (hline : (p2.endLine == p3.line) = true := by rfl) (hse : starEach [e] X.env = (false, eval e X.env) :: starEach [] X.env := by rfl) (hpl : (backTo p3 (starEach [] X.env)).any (·.1) = false := by rfl) (hs : swapsWith (.Call (.Attribute o "append" p2) [e] [] p3) none pos.line X.env = pure false := by rfl) :
    rdS X (.Expr (.Call (.Attribute o "append" p2) [e] [] p3) pos) Z σ H :=
  r_expr (rdE_of (pe_bm PySem.F.plainAttrs_list PySem.F.slot_list_append PySem.F.type_list_append (X := X) mt_append (pE X o) (pa_cons (pE X e) pa_nil hse) hbase hfew hline hse hpl) (ho.run fun v H1 g hv => by
    have e1 : v = .ref l := hv
    subst e1
    refine ⟨.inl ⟨rfl, _, .inl (.inl (g _ _ h0))⟩, Nx.w (h H1 g) fun u H2 ⟨xs, q1, q2, q3⟩ => ?_⟩
    exact ⟨l, xs, u, rfl, rfl, q1, Nat.lt_of_lt_of_le q2 (by decide), q3⟩)) hs
theorem r_extend {l : Addr} {xs0 : List V} (ho : E X o σ H (Is (.ref l))) (h0 : H l = some (.lst xs0)) (h : ∀ H1, Gr H H1 → rdE X e σ H1 fun v H2 => ∃ b xs zs, v = .ref b ∧ H2 l = some (.lst xs) ∧ H2 b = some (.lst zs) ∧ xs.length + zs.length ≤ 100000 ∧ Z.nx σ (upd H2 l (.lst (xs ++ zs))))
    (hbase : attributeBase o "extend" X.env (eval o X.env) = eval o X.env := by rfl) (hfew : ((backTo p3 (starEach [e] X.env)).all (fun x => !x.1) && (backToKw p3 (keywordEach [] X.env)).all (fun x => x.1.isSome) && decide ([e].length + ([] : List Keyword).length + (if ([] : List Keyword).isEmpty then 0 else 1) < 30)) = true := by rfl)
    (hline : (p2.endLine == p3.line) = true := by rfl) (hse : starEach [e] X.env = (false, eval e X.env) :: starEach [] X.env := by rfl) (hpl : (backTo p3 (starEach [] X.env)).any (·.1) = false := by rfl) (hs : swapsWith (.Call (.Attribute o "extend" p2) [e] [] p3) none pos.line X.env = pure false := by rfl) :
    rdS X (.Expr (.Call (.Attribute o "extend" p2) [e] [] p3) pos) Z σ H :=
  r_expr (rdE_of (pe_bm PySem.F.plainAttrs_list PySem.F.slot_list_extend PySem.F.type_list_extend (X := X) mt_extend (pE X o) (pa_cons (pE X e) pa_nil hse) hbase hfew hline hse hpl) (ho.run fun v H1 g hv => by
    have e1 : v = .ref l := hv
    subst e1
    refine ⟨.inl ⟨rfl, _, .inl (.inl (g _ _ h0))⟩, Nx.w (h H1 g) fun u H2 ⟨b, xs, zs, q0, q1, q2, q3, q4⟩ => ?_⟩
    exact ⟨l, b, xs, zs, rfl, by rw [q0], q1, q2, Nat.le_trans q3 (by decide), q4⟩)) hs
/-- xs.pop(e) -/
theorem r_popAt {l : Addr} {xs0 : List V} {Q : VK} (ho : E X o σ H (Is (.ref l))) (h0 : H l = some (.lst xs0)) (h : ∀ H1, Gr H H1 → rdE X e σ H1 fun v H2 => ∃ xs u, ∃ k : Nat, v = .int (k : Int) ∧ H2 l = some (.lst xs) ∧ xs[k]? = some u ∧ k < 100000 ∧ Q u (upd H2 l (.lst (xs.eraseIdx k))))
    (hbase : attributeBase o "pop" X.env (eval o X.env) = eval o X.env := by rfl) (hfew : ((backTo p3 (starEach [e] X.env)).all (fun x => !x.1) && (backToKw p3 (keywordEach [] X.env)).all (fun x => x.1.isSome) && decide ([e].length + ([] : List Keyword).length + (if ([] : List Keyword).isEmpty then 0 else 1) < 30)) = true := by rfl)
    (hline : (p2.endLine == p3.line) = true := by rfl) (hse : starEach [e] X.env = (false, eval e X.env) :: starEach [] X.env := by rfl) (hpl : (backTo p3 (starEach [] X.env)).any (·.1) = false := by rfl) :
    rdE X (.Call (.Attribute o "pop" p2) [e] [] p3) σ H Q :=
  rdE_of (pe_bm PySem.F.plainAttrs_list PySem.F.slot_list_pop PySem.F.type_list_pop (X := X) mt_popAt (pE X o) (pa_cons (pE X e) pa_nil hse) hbase hfew hline hse hpl) (ho.run fun v H1 g hv => by
    have e1 : v = .ref l := hv
    subst e1
    refine ⟨.inl ⟨rfl, _, .inl (.inl (g _ _ h0))⟩, Nx.w (h H1 g) fun u H2 ⟨xs, w, k, q0, q1, q2, q3, q4⟩ => ?_⟩
    have hk : k < xs.length := (List.getElem?_eq_some_iff.mp q2).1
    have hx : ixN xs.length (k : Int) = some k := by
      unfold ixN
      rw [if_pos (by omega), if_pos (by omega)]
      simp
    exact ⟨l, xs, k, k, w, rfl, by rw [q0], q1, by omega, by omega, (ixN_seq hx).1, q2, q4⟩)
/-- xs[e] = a -/
theorem r_setIx {l : Addr} (hv : E X a σ H P) [Mono P] (ho : E X o σ H (Is (.ref l))) {k : Nat} (hi : E X e σ H (I (k : Int))) {xs : List V} (h0 : H l = some (.lst xs)) (hk : k < xs.length) (h : ∀ v H1, Gr H H1 → P H1 v → Z.nx σ (upd H1 l (.lst (xs.set k v))))
    (ha : ∀ v, assign (.Subscript o e p1) X.env v = (do
      let ov ← holding [v] (eval o X.env)
      let iv ← holding [v, ov] (eval e X.env)
      standAt p1
      holding [v, ov, iv] (setItem ov iv v)
      release [v, ov, iv] []) := by intro _; rfl)
    (hs : swapsWithSole [.Subscript o e p1] a pos.line X.env = pure false := by rfl) (hw : swappedStores [.Subscript o e p1] a X.env = pure none := by rfl) (h1 : (assignEach [.Subscript o e p1] X.env).map (·.2) = [assign (.Subscript o e p1) X.env] := by rfl) :
    rdS X (.Assign [.Subscript o e p1] a pos) Z σ H :=
  rdS_of (ps_asg (pE X a) (pg_sub (pE X o) (pE X e) set_list ha) hs hw h1) (hv.run fun v H1 g hv => ho.up g |>.run fun w H2 g2 hw => (hi.up (g.tr g2)).run fun u H3 g3 hu => by
    have e1 : w = .ref l := hw
    have e2 := Dt.int_eq hu
    subst e1 e2
    have hx : ixN xs.length (k : Int) = some k := by
      unfold ixN
      rw [if_pos (by omega), if_pos (by omega)]
      simp
    exact ⟨l, xs, k, k, rfl, rfl, ((g.tr g2).tr g3) _ _ h0, hx, h v H3 ((g.tr g2).tr g3) (Mono.up (g2.tr g3) hv)⟩)
end
/-! a def of the text -/
/-- the def st stands as x -/
def Df (K : PySem.W.Frag) (mg : Str → Option Value) (x : Str) (st : Stmt) : Prop := ∃ f fd, Fun K x x st f fd ∧ mg x = some (.ref f)
section
variable {P : Program} {w : World} {K : PySem.W.Frag} {mg : Str → Option Value} {base : Heap}
/-- its context -/
abbrev Xd (P : Program) (w : World) (K : PySem.W.Frag) (mg : Str → Option Value) (base : Heap) (N : List Str) (x : Str) (st : Stmt) (f : Addr) (cdv : Value) (A : Around) (outer : List Env) (s : Shared) (H : Hp) (E : XK) : Cx :=
  (cxOf CX0 P w K mg base N x (defScope st) f cdv A outer s H E).nox
theorem dn_of {x : Str} {st : Stmt} {N ps : List Str} {k : Nat} {sp : Sp} (d : Df K mg x st) (S : FnScope N ps (defScope st))
    (hb : ∀ (kV doc pm : Value) (an : Option Addr) (cdv ct : Value) (us : List Value), us.length = ps.length → bindArgs (PySem.W.fnOf x x (defArgs st) (defBody st) (defScope st) .none kV doc pm an cdv ct) ⟨us, []⟩ = pure (ps.zip us))
    (len : ∀ vs H Q E, sp vs H Q E → vs.length = ps.length)
    (hbody : ∀ (f : Addr) (cdv : Value) (A : Around) (outer : List Env) (s : Shared) (H : Hp) (vs : List V) (Q : VK) (E : XK), Room k (A.deeper (envOfC x (defScope st) s.heap.objs.size f cdv)) → sp vs H Q E →
      rdSs (Xd P w K mg base N x st f cdv A outer s H E) (defBody st) { nx := fun _ H' => Q .non H', rt := Q } (start N vs) H) : Dn P w K mg base (k + 1) x ps sp := by
  obtain ⟨f, fd, F, hm⟩ := d
  exact ⟨f, fd, F.ok S len (fun cdv A outer s H vs Q E hr h => ⟨_, pSs _ _, hbody f cdv A outer s H vs Q E hr h⟩), hm, F.kp, F.binds hb⟩
theorem len_of {ι : Type} {A : ι → List Pd} {Pre : ι → Prop} {R : ι → Hp → Pd} {n : Nat} (h : ∀ i, (A i).length = n) : ∀ vs H Q E, Fsp A Pre R vs H Q E → vs.length = n := fun vs H Q E ⟨i, t, _⟩ => by rw [t.len, h i]
end
end K33
/-! what the layer lacks: set(a list of ints), sorted of it; sorted of data; repr of data -/
namespace K33
open PySem PySem.Spec PyProof.Rows
abbrev so0 (w : World) : Obj := { cls := .type "set", dict := none, data := .set #[] 0 (.fresh 0 0 (!w.params.followText "set-order")) }
section
variable {P : Program} {w : World} {A : Around} {E : Value → Shared → Prop} {s : Shared}
theorem set_of_list {l : Addr} {vs : List Value} (ns : List Int) {Q : Value → Shared → Prop} (hh : A.handled = none) (hl : s.heap.IsList l vs.toArray) (hit : IntsAre vs ns) (hb : ns.length + 1 < scanBound)
    (h : ∀ (h' : Heap) (tk c : Nat), L2.SetR w h' s.heap.objs.size (fun j => decide (j ∈ ns)) c → c ≤ ns.length → (∀ b o, s.heap.get? b = some o → h'.get? b = some o) → Q (.ref s.heap.objs.size) { s with heap := h', toks := tk }) :
    wpAny (model P w) A (call (.type "set") [.ref l]) Q E s := by
  have hlen : vs.toArray.size = ns.length := by rw [List.size_toArray]; exact hit.length
  obtain ⟨c0, tl, hmro⟩ := F.called_set.mro
  have f1 := F.called_set.made
  have f2 := F.called_set.sub
  have f3 := F.called_set.notType
  have f4 := F.called_set.canCreate
  have f5 := F.typeCall_set_1 (.ref l)
  refine wpAny_call (codeAny_of_tree (show wpAny _ _ (callAny (.type "set") _) _ _ _ from wpAny_pure ⟨Code.quiet_builtin _ (by decide +kernel), codeAny_builtin F.entry_type_call ?_⟩))
  rw [Around.under_plain (weight_type_call_type "set" [.ref l] []) rfl]
  repeat (any_goals (first | assumption | wp_step))
  refine codeAny_mono (L2.code_set_led1 (.ref l) (E := E) (Q₁ := fun o1 s1 => o1 = .ref s.heap.objs.size ∧ s1 = { s with heap := s.heap.push (so0 w) }) ⟨rfl, rfl⟩) fun r s1 hr => ?_
  match r, hr with
  | .error e, hr => exact hr
  | .ok .next, hr => exact hr.elim
  | .ok .brk, hr => exact hr.elim
  | .ok .cont, hr => exact hr.elim
  | .ok (.ret o1), hr =>
    obtain ⟨rfl, rfl⟩ := hr
    have hS : (s.heap.push (so0 w)).get? s.heap.objs.size = some (so0 w) := Heap.get?_push_size _ rfl
    have hT : Shared.TypeIs { s with heap := s.heap.push (so0 w) } (.ref s.heap.objs.size) "set" := ⟨_, hS, rfl⟩
    have f6 := F.called_set.init.lookup
    have f7 := F.called_set.init.bind (.ref s.heap.objs.size)
    repeat (any_goals (first | assumption | wp_step))
    refine codeAny_mono (codeAny_call_builtin (R := wants (fun r s2 => r = .none ∧ ∃ h' tk c, s2 = { s with heap := h', toks := tk } ∧ L2.SetR w h' s.heap.objs.size (fun j => decide (j ∈ ns)) c ∧ c ≤ ns.length ∧ ∀ b o, s.heap.get? b = some o → h'.get? b = some o) E)
      F.called_set.init.plain F.entry_set_init (check_set_init_1 hT ?_)) fun r2 s2 hr2 => ?_
    · obtain ⟨⟨oc, od, oda, osl⟩, hol, hcl, nl, hdl⟩ := hl
      simp only at hcl hdl
      subst hcl hdl
      have hol2 : (s.heap.push (so0 w)).get? l = some { cls := .type "list", dict := od, data := .seq vs.toArray nl, slots := osl } := Heap.get?_push_of_some _ hol
      have g1 := F.sub_list_set
      have g2 := F.sub_list_frozenset
      have g3 : (Value.type "list" == Value.type "dict") = false := by decide
      have hl1 : (s.heap.push (so0 w)).IsList l vs.toArray := ⟨_, hol2, rfl, nl, rfl⟩
      unfold Builtin.«set.__init__» noKeywords Builtin.Frozenset.updateFrom
      generalize hPI : pyIter = PI
      wp_walk
      subst hPI
      refine wpAny_pyIter_list hl1 (wpAny_bind (wpAny_runValue ?_))
      have lt := Heap.lt_size hol
      have sz : (s.heap.push (so0 w)).objs.size = s.heap.objs.size + 1 := Heap.size_push ..
      have ne1 : l ≠ (s.heap.push (so0 w)).objs.size := by rw [sz]; exact Nat.ne_of_lt (Nat.lt_succ_of_lt lt)
      have ne2 : s.heap.objs.size ∉ [(s.heap.push (so0 w)).objs.size, l] := by
        rw [sz]
        simp only [List.mem_cons, List.not_mem_nil, or_false, not_or]
        exact ⟨Nat.ne_of_lt (Nat.lt_succ_self _), Nat.ne_of_gt lt⟩
      have hval : ∀ (i : Nat) (v : Value), vs.toArray[i]? = some v → ∃ k t, ns[i]? = some k ∧ v = .int k t := fun i v hv => by
        rw [List.getElem?_toArray] at hv
        have hi : i < ns.length := by have := (List.getElem?_eq_some_iff.mp hv).1; have := hit.length; omega
        obtain ⟨t, e⟩ := IntsAre.int_at hit i v hv
        exact ⟨ns[i], t, List.getElem?_eq_getElem hi, by rw [e, List.getD_eq_getElem?_getD, List.getElem?_eq_getElem hi]; rfl⟩
      refine L2.set_update_ints ((Walks.list (by simp [hh]) _ l ne1 vs.toArray).toS) s.heap.objs.size ne2 ns hlen hb hval (vs.toArray.size - 0) 0 _ (by omega) (Nat.zero_le _) ⟨⟨_, Heap.get?_push_size _ rfl, rfl, rfl⟩, hl1.push _⟩ ?_ ?_
      · exact ⟨0, Nat.le_refl 0, L2.setR_new_at (Heap.get?_push_of_some _ hS)⟩
      · intro s3 c3 hm hc3 hS3
        obtain ⟨h3, ge3, dr3, tk3, os3⟩ := s3
        obtain rfl : ge3 = s.gens := hm.gens
        obtain rfl : dr3 = s.drawn := hm.drawn
        obtain rfl : os3 = s.os := hm.os
        show wpAny _ _ _ _ _ _
        refine wpAny_pure ?_
        show wpAny _ _ (ret Value.none) _ _ _
        refine wpAny_pure ⟨rfl, h3, tk3, c3, rfl, hS3, by omega, fun b o e => ?_⟩
        have hb0 := Heap.lt_size e
        refine hm.heap b o ?_ (Heap.get?_push_of_some _ (Heap.get?_push_of_some _ e))
        simp only [List.mem_cons, List.not_mem_nil, or_false, not_or]
        rw [sz]
        exact ⟨Nat.ne_of_lt hb0, Nat.ne_of_lt (Nat.lt_succ_of_lt hb0)⟩
    · match r2, hr2 with
      | .error e, hr2 => exact hr2
      | .ok .next, hr2 => exact hr2.elim
      | .ok .brk, hr2 => exact hr2.elim
      | .ok .cont, hr2 => exact hr2.elim
      | .ok (.ret _), hr2 =>
        obtain ⟨rfl, h3, tk3, c3, rfl, hS3, hc3, hk3⟩ := hr2
        repeat (any_goals (first | assumption | wp_step))
        exact h _ _ _ hS3 hc3 hk3
end
end K33
namespace K33
open PySem PySem.Spec PyProof.Rows L2
section
variable {X : Cx} {σ : L2.St} {H : Hp} {a b c e o : Expr} {es : List Expr} {pos p p2 q : Pos} {P R S : Pd} {x : Str} {v : V} {d : PyData} {ds : List PyData}
/-- set(a list, a tuple of ints) -/
def rSetI (w : World) : List V → Hp → VK → Prop := fun xs H Q => ∃ (a : Addr) (ns : List Int), xs = [.ref a] ∧ (H a = some (.lst (ns.map V.int)) ∨ H a = some (.tup (ns.map V.int))) ∧ ns.length ≤ 1000 ∧
  ∀ l n, H l = none → n ≤ ns.length → Q (.ref l) (upd H l (SetO w l (fun j => decide (j ∈ ns)) n))
theorem cr_setI (hc : X.calm = true) : CallR X (.type "set") (rSetI X.w) := by
  intro pins s σ H xs us Q I r h
  obtain ⟨a, ns, rfl, hq, hn, q⟩ := h
  cases r with
  | cons ra rr =>
    cases rr
    cases ra
    have fin : ∀ (h' : Heap) (tk c : Nat), SetR X.w h' s.heap.objs.size (fun j => decide (j ∈ ns)) c → c ≤ ns.length → (∀ b o, s.heap.get? b = some o → h'.get? b = some o) → EP X pins σ Q (.ref s.heap.objs.size) { s with heap := h', toks := tk } := fun h' tk c R1 hc1 k1 =>
      ⟨.ref s.heap.objs.size, upd H s.heap.objs.size (SetO X.w s.heap.objs.size (fun j => decide (j ∈ ns)) c), I.laid (t' := tk) k1 (Nat.le_refl _) (setO_new R1), rfl, q _ c (I.hok.fresh (Nat.le_refl _)) hc1⟩
    rcases hq with hq | hq
    · obtain ⟨its, rv, pl, hz⟩ := I.list (SqL.of hq)
      exact set_of_list ns (I.ok.hd hc) pl.isList (ints_of_vals rv) (by unfold scanBound; omega) fin
    · obtain ⟨its, rv, pt, hz⟩ := I.tuple (SqT.of hq)
      exact call_set_tupI ns (I.ok.hd hc) pt (ints_of_vals rv) (by unfold scanBound; omega) fin
/-- a rising list is known by its members -/
theorem rise_uniq : ∀ {l m : List Int}, l.Pairwise (· < ·) → m.Pairwise (· < ·) → (∀ k, k ∈ l ↔ k ∈ m) → l = m
  | [], [], _, _, _ => rfl
  | [], y :: m, _, _, h => absurd ((h y).mpr List.mem_cons_self) (by simp)
  | x :: l, [], _, _, h => absurd ((h x).mp List.mem_cons_self) (by simp)
  | x :: l, y :: m, hl, hm, h => by
    have h1 := List.pairwise_cons.mp hl
    have h2 := List.pairwise_cons.mp hm
    have e : x = y := by
      rcases List.mem_cons.mp ((h x).mp List.mem_cons_self) with e | a
      · exact e
      · rcases List.mem_cons.mp ((h y).mpr List.mem_cons_self) with e | b
        · exact e.symm
        · have := h1.1 _ b
          have := h2.1 _ a
          omega
    subst e
    have h3 : ∀ k, k ∈ l ↔ k ∈ m := fun k => by
      have z := h k
      rw [List.mem_cons, List.mem_cons] at z
      constructor
      · intro hk
        rcases z.mp (.inr hk) with e | t
        · subst e; exact absurd (h1.1 _ hk) (by omega)
        · exact t
      · intro hk
        rcases z.mpr (.inr hk) with e | t
        · subst e; exact absurd (h2.1 _ hk) (by omega)
        · exact t
    rw [rise_uniq h1.2 h2.2 h3]
/-- sorted(set(e)): ms is that list -/
theorem e_sset {ns ms : List Int} (hm : X.mg "sorted" = none) (hm2 : X.mg "set" = none) (hc : X.calm = true) (ha : E X e σ H (Q2 (ns.map .int))) (hn : ns.length < 64) (h1 : ms.Pairwise (· < ·)) (h2 : ∀ k, k ∈ ms ↔ k ∈ ns) (hg : Gl X "sorted" := by rfl) (hg2 : Gl X "set" := by rfl)
    (he : starEach [.Call (.Name "set" p2) [e] [] q] X.env = (false, eval (.Call (.Name "set" p2) [e] [] q) X.env) :: starEach [] X.env := by rfl) (hpl : (backTo pos (starEach [] X.env)).any (·.1) = false := by rfl)
    (he2 : starEach [e] X.env = (false, eval e X.env) :: starEach [] X.env := by rfl) (hpl2 : (backTo q (starEach [] X.env)).any (·.1) = false := by rfl) : E X (.Call (.Name "sorted" p) [.Call (.Name "set" p2) [e] [] q] [] pos) σ H (NewL H (ms.map .int)) := by
  have hset : PE X (.Call (.Name "set" p2) [e] [] q) _ := pe_callTy (cr_setI hc) hg2 hm2 PyProof.Rows.boot_set (pa_cons (pE X e) pa_nil he2) (by decide) (by decide) he2 hpl2
  refine .of (pe_callB (cr_sortedSet hc) hg hm PyProof.Rows.boot_sorted (pa_cons hset pa_nil he) (by decide) (by decide) he hpl) fun H1 g Q k => ?_
  refine ha H1 g _ fun v H2 g2 hv => ?_
  have go : ∀ a, (H2 a = some (.lst (ns.map V.int)) ∨ H2 a = some (.tup (ns.map V.int))) → rSetI X.w [V.ref a] H2 (fun v H3 => rSortedSet X.w [v] H3 Q) := fun a h => by
    refine ⟨a, ns, rfl, h, by omega, fun l n hl hln => ⟨l, _, n, rfl, upd_same, by omega, fun ks p2 hs hmem _ hp2 => ?_⟩⟩
    have e1 : ks = ms := rise_uniq hs h1 fun k => by rw [hmem k, h2 k, decide_eq_true_eq]
    subst e1
    have g3 : Gr H2 (upd (upd H2 l (SetO X.w l (fun j => decide (j ∈ ns)) n)) p2 (.lst (ks.map V.int))) := (Gr.new hl).tr (Gr.new hp2)
    exact k _ _ (g2.tr g3) ⟨p2, _, rfl, (g.tr g2).back ((Gr.new hl).back hp2), upd_same, .of_ints ks⟩
  rcases hv with h | h
  · obtain ⟨a, xs, rfl, hp, hx⟩ := h.list_eq
    rw [hx.ints] at hp
    exact go a (.inl hp)
  · obtain ⟨a, xs, rfl, hp, hx⟩ := h.tup_eq
    rw [hx.ints] at hp
    exact go a (.inr hp)

/-! sorted(a list of rows of ints) -/
theorem reads_all {pins : List (Addr × Obj)} {s : Shared} {β : Type} {enc : β → PyData} (I : Inv X pins σ H s) : ∀ (bs : List β) {xs : List V} {us : List Value}, DtA H xs (bs.map enc) → Vals xs us → PySem.W.EachIs (fun u b => ∃ x, RelV x u ∧ Dt H x (enc b)) us bs
  | [], _, _, h, r => by cases h; cases r; exact .nil
  | b :: bs, _, _, h, r => by
    cases h with
    | cons h1 h2 =>
      cases r with
      | cons r1 r2 => exact .cons ⟨_, r1, h1⟩ (reads_all I bs h2 r2)
theorem back_all {β : Type} {enc : β → PyData} : ∀ {us : List Value} {bs : List β}, PySem.W.EachIs (fun u b => ∃ x, RelV x u ∧ Dt H x (enc b)) us bs → ∃ xs, Vals xs us ∧ DtA H xs (bs.map enc)
  | _, _, .nil => ⟨[], .nil, .nil⟩
  | _, _, .cons ⟨x, r, h⟩ t => by
    obtain ⟨xs, r2, h2⟩ := back_all t
    exact ⟨x :: xs, .cons r r2, .cons h h2⟩
/-- sorted of data of one kind -/
def rSortD {β : Type} (enc : β → PyData) (bs : List β) : List V → Hp → VK → Prop := fun vs H Q => ∃ (a : Addr) (xs : List V), vs = [.ref a] ∧ H a = some (.lst xs) ∧ DtA H xs (bs.map enc) ∧ ∀ (zs : List V) (l : Addr), DtA H zs ((bs.mergeSort (PySem.W.dataLe false enc)).map enc) → H l = none → Q (.ref l) (upd H l (.lst zs))
theorem cr_sortD {β : Type} {enc : β → PyData} {bs : List β} (hu : X.A.units + 64 < cLine) (hal : PySem.W.AllAlike (bs.map enc)) (hk : PySem.W.Sortable (bs.map enc)) (hd : ∀ b ∈ bs, (enc b).depth ≤ 20) : CallR X (.builtin "sorted") (rSortD enc bs) := by
  intro pins s σ H xs us Q I r h
  obtain ⟨a, xs, rfl, hp, hx, q⟩ := h
  cases r with
  | cons ra rr =>
    cases rr
    cases ra
    obtain ⟨its, rv, pl, hz⟩ := I.list (SqL.of hp)
    have e := reads_all I bs hx rv
    have er : PySem.W.EachIs (fun v b => ∃ as, Reads s.heap v (enc b) as) its bs := e.mono fun u b ⟨x, r1, h1⟩ => Dp.reads I (enc b) x u h1.dp r1
    refine PySem.W.sorted_data pl.isList e er hal hk (by rw [← e.length, ← rv.length]; exact hz) (fun b hb => by have := hd b hb; omega) fun out hl ho => ?_
    obtain ⟨zs, rz, hzs⟩ := back_all ho
    obtain ⟨ep, he'⟩ := PyProof.Rows.sortedAll_at s.heap its out.toArray
    have hlen : zs.length ≤ sizeLine := by
      rw [rz.length, hl, ← e.length, ← rv.length]
      exact hz
    exact ⟨.ref _, upd H (s.heap.objs.size + 1) (.lst zs), I.laid (t' := s.toks) (fun _ _ => PyProof.Rows.sortedAll_old) (Nat.le_succ _) ⟨hlen, out, ep, rz, he'⟩, rfl, q zs _ hzs (I.hok.fresh (Nat.le_succ _))⟩
theorem e_sortD {β : Type} {enc : β → PyData} {bs : List β} (hu : X.A.units + 64 < cLine) (hal : PySem.W.AllAlike (bs.map enc)) (hk : PySem.W.Sortable (bs.map enc)) (hd : ∀ b ∈ bs, (enc b).depth ≤ 20) (hm : X.mg "sorted" = none) (ha : EA X [e] σ H [D (.list (bs.map enc))]) (hg : Gl X "sorted" := by rfl)
    (he : starEach [e] X.env = (false, eval e X.env) :: starEach [] X.env := by rfl) (hpl : (backTo pos (starEach [] X.env)).any (·.1) = false := by rfl) : E X (.Call (.Name "sorted" p) [e] [] pos) σ H (NewL H ((bs.mergeSort (PySem.W.dataLe false enc)).map enc)) :=
  e_cb (cr_sortD hu hal hk hd) PyProof.Rows.boot_sorted hm ha (rc1 fun H1 g v hv Q k => by
    obtain ⟨a, xs, rfl, hp, hx⟩ := Dt.list_eq hv
    exact ⟨a, xs, rfl, hp, hx, fun zs l hz hl => k _ _ (Gr.new hl) ⟨l, zs, rfl, g.back hl, upd_same, hz.up (Gr.new hl)⟩⟩) hg (by decide) (by decide) he hpl

/-! repr of data, where no repr is under way -/
theorem e_repr (hgd : X.A.guards = some []) (hu : X.A.units + 64 < cLine) (hs : d.showable = true) (hnd : d.hasDict = false) (hdp : d.depth ≤ 20) (hsz : d.shown.length ≤ sizeLine) (hr : ∃ xs, d = .list xs ∨ d = .tuple xs) (hm : X.mg "repr" = none) (ha : EA X [e] σ H [D d]) (hg : Gl X "repr" := by rfl)
    (he : starEach [e] X.env = (false, eval e X.env) :: starEach [] X.env := by rfl) (hpl : (backTo pos (starEach [] X.env)).any (·.1) = false := by rfl) : E X (.Call (.Name "repr" p) [e] [] pos) σ H (D (.str d.shown)) :=
  e_cb (r := fun vs H Q => ∃ a, vs = [.ref a] ∧ Dt H (.ref a) d ∧ Q (.str d.shown) H) (by
    intro pins s σ H xs us Q I r h
    obtain ⟨a, rfl, h1, q⟩ := h
    cases r with
    | cons ra rr =>
      cases rr
      cases ra
      obtain ⟨as, rd⟩ := Dp.reads I d (.ref a) (.ref a) h1.dp rfl
      refine PySem.repr_of_reads' rd hs (fun z => by rw [hnd] at z; cases z) hgd (by omega) (fun _ _ h => h) (fun h' u tk k => ?_) hsz
      exact ⟨.str d.shown, H, I.kept (t' := tk) k, ⟨u, rfl⟩, q⟩) PyProof.Rows.boot_repr hm ha (rc1 fun H1 g v hv Q k => by
    have hv' : Dt H1 v d := hv
    obtain ⟨xs, rfl | rfl⟩ := hr
    · obtain ⟨a, xs, rfl, hp, hx⟩ := hv'.list_eq
      exact ⟨a, rfl, hv', k _ _ (Gr.refl _) (.str _)⟩
    · obtain ⟨a, xs, rfl, hp, hx⟩ := hv'.tup_eq
      exact ⟨a, rfl, hv', k _ _ (Gr.refl _) (.str _)⟩) hg (by decide) (by decide) he hpl
end
end K33
/-! enumerate(a tuple) -/
namespace K33
open PySem PySem.Spec PyProof.Rows
section
open AutoSeq1 (wpAny_loadPart')
theorem enum_new_tup (l : Addr) (items : Array Value) (n : Nat) (dct : Option Addr) (sl : Array (Option Value)) :
    Meets (Builtin.«enumerate.__new__» ⟨[.type "enumerate", .ref l], []⟩) (fun _ R s => s.heap.get? l = some { cls := .type "tuple", dict := dct, data := .seq items n, slots := sl } ∧
      R (.ok (.ret (.ref (s.heap.push { cls := .type "tuple_iterator", data := .fields #[.ref l, .int 0 0] }).objs.size)))
        { s with heap := (s.heap.push { cls := .type "tuple_iterator", data := .fields #[.ref l, .int 0 0] }).push { cls := .type "enumerate", data := .fields #[.none, .bool false, .ref s.heap.objs.size, rawInt 0, .none, .none] } }) :=
  .of_wp fun prog w A R s ⟨hl, h⟩ => by
    obtain ⟨hp, g, d, tk, os⟩ := s
    have f1 := sub_enumerate
    have f2 : Heap.IsTuple (Shared.heap ⟨hp, g, d, tk, os⟩) l items := ⟨_, hl, rfl, n, rfl⟩
    wp_walk using wpAny_loadPart' hl
    refine wpAny_stack_any fun st => wpAny_pure ?_
    split
    · rename_i c _ _ _ _ _
      cases (c == Value.type "enumerate") <;> (wp_walk using wpAny_loadPart' hl, wpAny_pyIter_tuple f2) <;> exact ⟨_, rfl, h⟩
    · wp_walk using wpAny_loadPart' hl, wpAny_pyIter_tuple f2
      exact ⟨_, rfl, h⟩
end
section
variable {prog : Program} {w : World} {A : Around} {E : Value → Shared → Prop} {s : Shared}
theorem enum_tup {l : Addr} {items : Array Value} {Q : Value → Shared → Prop} (hL : s.heap.IsTuple l items)
    (h : ∀ h', IsEnum h' (s.heap.objs.size + 1) s.heap.objs.size 0 .none → h'.IsTupleIter s.heap.objs.size l 0 → (∀ b o, s.heap.get? b = some o → h'.get? b = some o) → Q (.ref (s.heap.objs.size + 1)) { s with heap := h' }) :
    wpAny (model prog w) A (call (.type "enumerate") [.ref l]) Q E s := by
  obtain ⟨⟨c, dct, dt, sl⟩, hl, hc, n, hd⟩ := hL
  simp only at hc hd
  subst hc hd
  refine callType_new F.called_enumerate (by decide) (F.typeCall_enumerate_1 _) (F.newCall_enumerate_1 _) (fun obj => F.args_object_init_2 obj _) F.entry_enumerate_new (enum_new_tup l items n dct sl) ⟨hl, ?_⟩
  have sz : (s.heap.push { cls := .type "tuple_iterator", data := .fields #[.ref l, .int 0 0] }).objs.size = s.heap.objs.size + 1 := Heap.size_push ..
  have e1 := Heap.get?_push_size (s.heap.push { cls := .type "tuple_iterator", data := .fields #[.ref l, .int 0 0] }) (o := { cls := .type "enumerate", data := .fields #[.none, .bool false, .ref s.heap.objs.size, rawInt 0, .none, .none] }) rfl
  rw [sz] at e1
  show _ ∧ _
  rw [sz]
  exact ⟨⟨_, e1, rfl⟩, h _ e1 ⟨_, Heap.get?_push_of_some _ (Heap.get?_push_size _ rfl), rfl, rfl⟩ fun b o x => Heap.get?_push_of_some _ (Heap.get?_push_of_some _ x)⟩
end
open L2
/-- the tuple at a, each item in a new pair -/
def Iet (K : PySem.W.Frag) (a : Addr) : It where
  go i H := ∃ (xs : List V) (x : V), SqT K H a xs ∧ xs[i]? = some x
  yld i H v H' := ∃ l x, v = .ref l ∧ H l = none ∧ H' = upd H l (.tup [.int (i : Nat), x]) ∧ ∀ xs, SqT K H a xs → xs[i]? = some x
  stop i H := ∃ xs : List V, SqT K H a xs ∧ xs.length = i
theorem turn_enumT {P : Program} {w : World} {K : PySem.W.Frag} {elts : List Expr} {kk : Nat} {tpos : Pos} (a e it : Addr) :
    Turn P w K (.Tuple elts kk tpos) (Iet K a) [e, it] e (fun i h => (∃ old, IsEnum h e it ((i : Nat) : Int) old) ∧ h.IsTupleIter it a i ∧ e ≠ it ∧ a ≠ it ∧ a ≠ e) where
  mem := by simp
  obj := fun i h ⟨⟨old, he⟩, ⟨o, ho, hc, hd⟩, _⟩ b hb => by
    rcases List.mem_cons.mp hb with z | z
    · subst z; exact ⟨_, he, fun v q => nomatch q⟩
    · rw [List.mem_singleton.mp z]; exact ⟨o, ho, fun v q => by rw [hd] at q; cases q⟩
  keep := fun i h h' ⟨⟨old, he⟩, hi, hne⟩ k => ⟨⟨old, k e (by simp) _ he⟩, hi.at fun o q => k it (by simp) o q, hne⟩
  item := by
    intro X hP hw hK hc i pins s σ H E I hf ⟨⟨old, he⟩, hit, hne, hai, hae⟩ ⟨xs, x, hq, hx⟩
    subst hP hw hK
    obtain ⟨its, rv, p, hz⟩ := I.tuple hq
    obtain ⟨u, hu, ru⟩ := rv.get hx
    have le : e < s.heap.objs.size := Heap.lt_size he
    have li : it < s.heap.objs.size := by obtain ⟨_, q, _⟩ := hit; exact Heap.lt_size q
    have hi : i < its.toArray.size := by rw [List.size_toArray]; exact (List.getElem?_eq_some_iff.mp hu).1
    refine wpAny_pyNext_enum_itemD (PySem.Draws.tuple (prog := X.prog) (w := X.w) (A := X.A.in1) (by simpa using I.ok.hd hc) it a hai its.toArray) he ⟨hit, p⟩ hi hne (by simp [hne, Ne.symm hae]) fun y h1 tk hy ho hst hT hsz hk => ?_
    have ey : y = u := by
      have z : its.toArray[i]? = some y := hy
      rw [List.getElem?_toArray, hu] at z
      exact (Option.some.inj z).symm
    subst ey
    refine ⟨_, rfl, wpAny_letOwnedTupleGo_enum (s := { s with heap := h1, toks := tk + 1 }) ho fun h2 he2 sb => ?_⟩
    have hT2 : h2.get? s.heap.objs.size = some { cls := .type "tuple", data := .seq #[.int i tk, y] } := (sb.2 _ (Nat.ne_of_gt le)).trans hT
    have new : ObjOk X.prog X.w (upd H s.heap.objs.size (.tup [.int (i : Nat), x])) h2 s.heap.objs.size (.tup [.int (i : Nat), x]) :=
      ⟨by show 2 ≤ sizeLine; decide, [.int i tk, y], .cons ⟨_, rfl⟩ (.cons ru .nil), ⟨_, hT2, rfl, _, rfl⟩⟩
    have I1 : Inv X pins σ (upd H s.heap.objs.size (.tup [.int (i : Nat), x])) { s with heap := h2, toks := tk + 1 } :=
      I.turnedNew (ch := [e, it]) (fun b ob hb q => (sb.2 b fun z => hb (by simp [z])).trans (hk b ob (fun z => hb (by simp [z])) (fun z => hb (by simp [z])) q)) hf (Nat.le_refl _) new
    refine ⟨.ref s.heap.objs.size, _, I1, rfl, ⟨_, x, rfl, I.hok.fresh (Nat.le_refl _), rfl, fun ys hy => by rw [I.tuple_inj hy hq]; exact hx⟩, ⟨⟨y, ?_⟩, hst.1.at fun o q => (sb.2 it (Ne.symm hne)).trans q, hne, hai, hae⟩, fun b hb => ?_⟩
    · rw [show ((i + 1 : Nat) : Int) = (i : Int) + 1 by omega]
      exact he2
    · have lb : b < s.heap.objs.size := by
        rcases List.mem_cons.mp hb with z | z
        · rw [z]; exact le
        · rw [List.mem_singleton.mp z]; exact li
      rw [upd_ne (Nat.ne_of_lt lb)]
      exact (hf b hb).1
  done := by
    intro X hP hw hK hc i pins s σ H E I hf ⟨⟨old, he⟩, hit, hne, hai, hae⟩ ⟨xs, hq, hx⟩
    subst hP hw hK
    obtain ⟨its, rv, p, hz⟩ := I.tuple hq
    obtain ⟨f0, f1, f2, f3, f4, f5⟩ := hf it (by simp)
    have hn : i = its.toArray.size := by rw [List.size_toArray, ← rv.length, hx]
    subst hn
    exact wpAny_pyNext_enum_endD (PySem.Draws.tuple (prog := X.prog) (w := X.w) (A := X.A.in1) (by simpa using I.ok.hd hc) it a hai its.toArray) he ⟨hit, p⟩ fun h' eb => ⟨rfl, I.turned (t' := s.toks) (fun b o hb q => eb b o hb q) f0 f1 f3 f4 f5⟩
  self := fun A i s Q E ⟨⟨_, he⟩, _⟩ h => wpAny_pyIter_enum he h
def iEnT (K : PySem.W.Frag) (ta : TA) : TI := fun σ H R => ta σ H fun vs H1 => ∃ a xs, vs = [.ref a] ∧ SqT K H1 a xs ∧ R (Iet K a) H1
theorem pi_enT {X : Cx} {e : Expr} {ta : TA} {p pos tpos : Pos} {elts : List Expr} {kk : Nat} (hg : Gl X "enumerate") (hm : X.mg "enumerate" = none) (ha : PA X [e] ta) (hs : starEach [e] X.env = [(false, eval e X.env)] := by rfl) : PI X (.Tuple elts kk tpos) (.Call (.Name "enumerate" p) [e] [] pos) (iEnT X.K ta) := by
  refine ⟨fun pins s σ H R I h => Call_ (ld_blt I hg hm boot_enumerate (callWith_type1 (thn (ha.run pos pins s σ H _ I h) fun us s1 ⟨vs, H1, I1, r1, q1⟩ => ?_) hs rfl))⟩
  obtain ⟨a, xs, rfl, hq, q⟩ := q1
  cases r1 with
  | cons r rr =>
    cases rr
    cases r
    obtain ⟨its, rv, pt, hz⟩ := I1.tuple hq
    have la : a < s1.heap.objs.size := by obtain ⟨o, ho, _⟩ := pt; exact Heap.lt_size ho
    refine enum_tup pt fun h' he hit hk => wpAny_pyIter_enum he ?_
    have I2 : Inv X pins σ H1 { s1 with heap := h' } := I1.kept (t' := s1.toks) hk
    refine ⟨s1.heap.objs.size + 1, [s1.heap.objs.size + 1, s1.heap.objs.size], _, _, H1, rfl, I2, turn_enumT a (s1.heap.objs.size + 1) s1.heap.objs.size, ⟨⟨.none, he⟩, hit, Nat.succ_ne_self _, Nat.ne_of_lt la, Nat.ne_of_lt (Nat.lt_succ_of_lt la)⟩, fun b hb => ?_, q⟩
    have le : s1.heap.objs.size ≤ b := by
      rcases List.mem_cons.mp hb with z | z
      · rw [z]; exact Nat.le_add_right _ _
      · rw [List.mem_singleton.mp z]; exact Nat.le_refl _
    exact I1.fpOk le (I1.hok.fresh le)
section
variable {X : Cx} {σ : L2.St} {H : Hp} {Z : Ends} {e : Expr} {body : List Stmt} {pos p1 p2 p3 p4 p5 : Pos} {x y : Str}
/-- for x, y in enumerate(a tuple) -/
theorem r_forEn (j j2 : Nat) (hN : X.N.Nodup) {t : Nat} (hm : X.mg "enumerate" = none) {q : Addr} {xs : List V} (h : E X e σ H (Is (.ref q))) (hq : H q = some (.tup xs)) (loop : ∀ H1, Gr H H1 → ∃ Pv : Nat → L2.St → Hp → Prop, Pv 0 σ H1 ∧ (∀ i σ' H', Pv i σ' H' → H' q = some (.tup xs)) ∧
      (∀ i u σ' H' l, xs[i]? = some u → H' l = none → Pv i σ' H' → rdSs X body { Z with nx := Pv (i + 1), ct := Pv (i + 1), bk := Z.nx } ((σ'.set j (some (.int (i : Int)))).set j2 (some u)) (upd H' l (.tup [.int (i : Int), u]))) ∧ ∀ σ' H', Pv xs.length σ' H' → Z.nx σ' H')
    (hp : PassesOwn (model X.prog X.w) X.A X.env X.xe := by exact PassesOwn.never) (hc : X.calm = true := by rfl) (hi : X.N[j]? = some x := by rfl) (hi2 : X.N[j2]? = some y := by rfl)
    (hx : Loc X.env.scope x := by first | exact Or.inl rfl | exact Or.inr rfl) (hy : Loc X.env.scope y := by first | exact Or.inl rfl | exact Or.inr rfl) (fx : X.fn x = true ∨ X.env.scope.names.lookup x = some .local := by first | exact .inl rfl | exact .inr rfl) (fy : X.fn y = true ∨ X.env.scope.names.lookup y = some .local := by first | exact .inl rfl | exact .inr rfl)
    (hn : (assignEach [.Name x p1, .Name y p2] X.env).length = 2 := by rfl) (hst : (assignEach [.Name x p1, .Name y p2] X.env).findIdx? (·.1) = none := by rfl)
    (ha1 : (assignEach [.Name x p1, .Name y p2] X.env).map (·.2) = assign (.Name x p1) X.env :: (assignEach [.Name y p2] X.env).map (·.2) := by rfl) (ha2 : (assignEach [.Name y p2] X.env).map (·.2) = assign (.Name y p2) X.env :: (assignEach [] X.env).map (·.2) := by rfl)
    (hg : Gl X "enumerate" := by rfl) (hse : starEach [e] X.env = [(false, eval e X.env)] := by rfl) (hs : ∀ x, foldedSetIterable (.Call (.Name "enumerate" p4) [e] [] p5) X.env x = pure x := by intro _; rfl) :
    rdS X (.For (.Tuple [.Name x p1, .Name y p2] t p3) (.Call (.Name "enumerate" p4) [e] [] p5) body [] pos) Z σ H := by
  refine rdS_of (ps_for hp hc (pi_enT hg hm (pa_cons (pE X e) pa_nil hse) hse) (pg_tup hc (pgs_cons (pg_name hN hi hx fx) (pgs_cons (pg_name hN hi2 hy fy) pgs_nil ha2) ha1) hn hst) (pSs X body) hs) (h.run fun v H1 g hv => ?_)
  have e1 : v = .ref q := hv
  subst e1
  obtain ⟨Pv, q0, ql, qs, qd⟩ := loop H1 g
  refine ⟨q, xs, rfl, .inl (.inl (g _ _ hq)), fun i m σ' H' => m = xs.length - i ∧ i ≤ xs.length ∧ Pv i σ' H', ⟨xs.length, by simp, Nat.zero_le _, q0⟩, ?_⟩
  rintro i m σ' H' ⟨rfl, hi0, pv⟩
  have hT : SqT X.K H' q xs := .inl (.inl (ql _ _ _ pv))
  by_cases hlt : i < xs.length
  · refine .inr ⟨⟨xs, xs[i], hT, List.getElem?_eq_getElem hlt⟩, Pv (i + 1), fun σ2 H2 p' => ⟨xs.length - (i + 1), by omega, rfl, hlt, p'⟩, fun v H2 yl => ?_⟩
    obtain ⟨l, u, rfl, hl, rfl, hu⟩ := yl
    exact ⟨l, [.int (i : Int), u], rfl, .inl (.inl upd_same), rfl, .int (i : Int), [u], rfl, u, [], rfl, rfl, qs i u σ' H' l (hu xs hT) hl pv⟩
  · have e2 : i = xs.length := by omega
    subst e2
    exact .inl ⟨⟨xs, hT, rfl⟩, qd _ _ pv⟩
end
end K33
namespace K33
open PySem PySem.Spec PyProof.Rows L2
def topS (i : Nat) : Stmt := PySem.Challenge.pw_twoabove_k33_whole_rows_blown_up.main.body.getD i (.Pass ⟨0, 0, 0, 0⟩)
abbrev s_is_integer : Stmt := topS 15
abbrev n_is_integer : List Str := ["value"]
abbrev p_is_integer : List Str := ["value"]
theorem sc_is_integer : FnScope n_is_integer p_is_integer (defScope s_is_integer) := ⟨rfl, rfl, rfl, by decide +kernel, rfl, by decide +kernel, by decide +kernel⟩
abbrev s_is_count : Stmt := topS 16
abbrev n_is_count : List Str := ["value"]
abbrev p_is_count : List Str := ["value"]
theorem sc_is_count : FnScope n_is_count p_is_count (defScope s_is_count) := ⟨rfl, rfl, rfl, by decide +kernel, rfl, by decide +kernel, by decide +kernel⟩
abbrev s_is_list : Stmt := topS 17
abbrev n_is_list : List Str := ["value"]
abbrev p_is_list : List Str := ["value"]
theorem sc_is_list : FnScope n_is_list p_is_list (defScope s_is_list) := ⟨rfl, rfl, rfl, by decide +kernel, rfl, by decide +kernel, by decide +kernel⟩
abbrev s_want_at_most : Stmt := topS 18
abbrev n_want_at_most : List Str := ["what", "limit", "number"]
abbrev p_want_at_most : List Str := ["what", "limit", "number"]
theorem sc_want_at_most : FnScope n_want_at_most p_want_at_most (defScope s_want_at_most) := ⟨rfl, rfl, rfl, by decide +kernel, rfl, by decide +kernel, by decide +kernel⟩
abbrev s_are_shelves : Stmt := topS 22
abbrev n_are_shelves : List Str := ["value"]
abbrev p_are_shelves : List Str := ["value"]
theorem sc_are_shelves : FnScope n_are_shelves p_are_shelves (defScope s_are_shelves) := ⟨rfl, rfl, rfl, by decide +kernel, rfl, by decide +kernel, by decide +kernel⟩
abbrev s_want_shelves : Stmt := topS 23
abbrev n_want_shelves : List Str := ["value"]
abbrev p_want_shelves : List Str := ["value"]
theorem sc_want_shelves : FnScope n_want_shelves p_want_shelves (defScope s_want_shelves) := ⟨rfl, rfl, rfl, by decide +kernel, rfl, by decide +kernel, by decide +kernel⟩
abbrev s_is_lot_of : Stmt := topS 24
abbrev n_is_lot_of : List Str := ["shelves", "value", "shelf"]
abbrev p_is_lot_of : List Str := ["shelves", "value"]
theorem sc_is_lot_of : FnScope n_is_lot_of p_is_lot_of (defScope s_is_lot_of) := ⟨rfl, rfl, rfl, by decide +kernel, rfl, by decide +kernel, by decide +kernel⟩
abbrev s_bits_of : Stmt := topS 25
abbrev n_bits_of : List Str := ["lot", "found", "shelf"]
abbrev p_bits_of : List Str := ["lot"]
theorem sc_bits_of : FnScope n_bits_of p_bits_of (defScope s_bits_of) := ⟨rfl, rfl, rfl, by decide +kernel, rfl, by decide +kernel, by decide +kernel⟩
abbrev s_spots_of : Stmt := topS 26
abbrev n_spots_of : List Str := ["bits", "shelf"]
abbrev p_spots_of : List Str := ["bits"]
theorem sc_spots_of : FnScope n_spots_of p_spots_of (defScope s_spots_of) := ⟨rfl, rfl, rfl, by decide +kernel, rfl, by decide +kernel, by decide +kernel⟩
abbrev s_told_lot : Stmt := topS 27
abbrev n_told_lot : List Str := ["bits"]
abbrev p_told_lot : List Str := ["bits"]
theorem sc_told_lot : FnScope n_told_lot p_told_lot (defScope s_told_lot) := ⟨rfl, rfl, rfl, by decide +kernel, rfl, by decide +kernel, by decide +kernel⟩
abbrev s_is_kind : Stmt := topS 30
abbrev n_is_kind : List Str := ["shelves", "value"]
abbrev p_is_kind : List Str := ["shelves", "value"]
theorem sc_is_kind : FnScope n_is_kind p_is_kind (defScope s_is_kind) := ⟨rfl, rfl, rfl, by decide +kernel, rfl, by decide +kernel, by decide +kernel⟩
abbrev s_are_kinds : Stmt := topS 31
abbrev n_are_kinds : List Str := ["shelves", "value", "one"]
abbrev p_are_kinds : List Str := ["shelves", "value"]
theorem sc_are_kinds : FnScope n_are_kinds p_are_kinds (defScope s_are_kinds) := ⟨rfl, rfl, rfl, by decide +kernel, rfl, by decide +kernel, by decide +kernel⟩
abbrev s_plain_kinds : Stmt := topS 32
abbrev n_plain_kinds : List Str := ["kinds", "lot", "bits"]
abbrev p_plain_kinds : List Str := ["kinds"]
theorem sc_plain_kinds : FnScope n_plain_kinds p_plain_kinds (defScope s_plain_kinds) := ⟨rfl, rfl, rfl, by decide +kernel, rfl, by decide +kernel, by decide +kernel⟩
abbrev s_Store : Stmt := topS 33
abbrev s_init : Stmt := inClass s_Store 0
abbrev n_init : List Str := ["self", "shelves", "deliveries", "sales", "kind"]
abbrev p_init : List Str := ["self", "shelves", "deliveries", "sales"]
theorem sc_init : FnScope n_init p_init (defScope s_init) := ⟨rfl, rfl, rfl, by decide +kernel, rfl, by decide +kernel, by decide +kernel⟩
abbrev s_want_store : Stmt := topS 34
abbrev n_want_store : List Str := ["value"]
abbrev p_want_store : List Str := ["value"]
theorem sc_want_store : FnScope n_want_store p_want_store (defScope s_want_store) := ⟨rfl, rfl, rfl, by decide +kernel, rfl, by decide +kernel, by decide +kernel⟩
abbrev s_is_board_of : Stmt := topS 37
abbrev n_is_board_of : List Str := ["store", "value", "number"]
abbrev p_is_board_of : List Str := ["store", "value"]
theorem sc_is_board_of : FnScope n_is_board_of p_is_board_of (defScope s_is_board_of) := ⟨rfl, rfl, rfl, by decide +kernel, rfl, by decide +kernel, by decide +kernel⟩
abbrev s_want_board : Stmt := topS 38
abbrev n_want_board : List Str := ["store", "value"]
abbrev p_want_board : List Str := ["store", "value"]
theorem sc_want_board : FnScope n_want_board p_want_board (defScope s_want_board) := ⟨rfl, rfl, rfl, by decide +kernel, rfl, by decide +kernel, by decide +kernel⟩
abbrev s_least_in : Stmt := topS 39
abbrev n_least_in : List Str := ["board", "bits", "spots", "least", "shelf"]
abbrev p_least_in : List Str := ["board", "bits"]
theorem sc_least_in : FnScope n_least_in p_least_in (defScope s_least_in) := ⟨rfl, rfl, rfl, by decide +kernel, rfl, by decide +kernel, by decide +kernel⟩
abbrev s_most_in : Stmt := topS 40
abbrev n_most_in : List Str := ["board", "bits", "spots", "most", "shelf"]
abbrev p_most_in : List Str := ["board", "bits"]
theorem sc_most_in : FnScope n_most_in p_most_in (defScope s_most_in) := ⟨rfl, rfl, rfl, by decide +kernel, rfl, by decide +kernel, by decide +kernel⟩
abbrev s_is_one_of : Stmt := topS 46
abbrev n_is_one_of : List Str := ["kinds", "position", "shelf"]
abbrev p_is_one_of : List Str := ["kinds", "position", "shelf"]
theorem sc_is_one_of : FnScope n_is_one_of p_is_one_of (defScope s_is_one_of) := ⟨rfl, rfl, rfl, by decide +kernel, rfl, by decide +kernel, by decide +kernel⟩
abbrev s_is_deed_of : Stmt := topS 47
abbrev n_is_deed_of : List Str := ["store", "value"]
abbrev p_is_deed_of : List Str := ["store", "value"]
theorem sc_is_deed_of : FnScope n_is_deed_of p_is_deed_of (defScope s_is_deed_of) := ⟨rfl, rfl, rfl, by decide +kernel, rfl, by decide +kernel, by decide +kernel⟩
abbrev s_want_history : Stmt := topS 48
abbrev n_want_history : List Str := ["store", "value", "deed"]
abbrev p_want_history : List Str := ["store", "value"]
theorem sc_want_history : FnScope n_want_history p_want_history (defScope s_want_history) := ⟨rfl, rfl, rfl, by decide +kernel, rfl, by decide +kernel, by decide +kernel⟩
abbrev s_is_by_custom : Stmt := topS 49
abbrev n_is_by_custom : List Str := ["store", "board", "deed", "most"]
abbrev p_is_by_custom : List Str := ["store", "board", "deed"]
theorem sc_is_by_custom : FnScope n_is_by_custom p_is_by_custom (defScope s_is_by_custom) := ⟨rfl, rfl, rfl, by decide +kernel, rfl, by decide +kernel, by decide +kernel⟩
abbrev s_behind : Stmt := topS 50
abbrev n_behind : List Str := ["board", "deed", "number"]
abbrev p_behind : List Str := ["board", "deed"]
theorem sc_behind : FnScope n_behind p_behind (defScope s_behind) := ⟨rfl, rfl, rfl, by decide +kernel, rfl, by decide +kernel, by decide +kernel⟩
abbrev s_played_to : Stmt := topS 51
abbrev n_played_to : List Str := ["store", "board", "history", "found", "position", "deed"]
abbrev p_played_to : List Str := ["store", "board", "history"]
theorem sc_played_to : FnScope n_played_to p_played_to (defScope s_played_to) := ⟨rfl, rfl, rfl, by decide +kernel, rfl, by decide +kernel, by decide +kernel⟩
abbrev s_play_of : Stmt := topS 52
abbrev n_play_of : List Str := ["store", "board", "history", "barred", "found"]
abbrev p_play_of : List Str := ["store", "board", "history"]
theorem sc_play_of : FnScope n_play_of p_play_of (defScope s_play_of) := ⟨rfl, rfl, rfl, by decide +kernel, rfl, by decide +kernel, by decide +kernel⟩
abbrev s_played : Stmt := topS 53
abbrev n_played : List Str := ["store", "board", "history", "told"]
abbrev p_played : List Str := ["store", "board", "history"]
theorem sc_played : FnScope n_played p_played (defScope s_played) := ⟨rfl, rfl, rfl, by decide +kernel, rfl, by decide +kernel, by decide +kernel⟩
abbrev s_is_step : Stmt := topS 56
abbrev n_is_step : List Str := ["store", "value"]
abbrev p_is_step : List Str := ["store", "value"]
theorem sc_is_step : FnScope n_is_step p_is_step (defScope s_is_step) := ⟨rfl, rfl, rfl, by decide +kernel, rfl, by decide +kernel, by decide +kernel⟩
abbrev s_is_row : Stmt := topS 57
abbrev n_is_row : List Str := ["store", "value", "one"]
abbrev p_is_row : List Str := ["store", "value"]
theorem sc_is_row : FnScope n_is_row p_is_row (defScope s_is_row) := ⟨rfl, rfl, rfl, by decide +kernel, rfl, by decide +kernel, by decide +kernel⟩
abbrev s_want_row : Stmt := topS 58
abbrev n_want_row : List Str := ["store", "value"]
abbrev p_want_row : List Str := ["store", "value"]
theorem sc_want_row : FnScope n_want_row p_want_row (defScope s_want_row) := ⟨rfl, rfl, rfl, by decide +kernel, rfl, by decide +kernel, by decide +kernel⟩
abbrev s_end_of : Stmt := topS 59
abbrev n_end_of : List Str := ["store", "row", "found", "word", "position"]
abbrev p_end_of : List Str := ["store", "row"]
theorem sc_end_of : FnScope n_end_of p_end_of (defScope s_end_of) := ⟨rfl, rfl, rfl, by decide +kernel, rfl, by decide +kernel, by decide +kernel⟩
abbrev s_lot_at_end : Stmt := topS 60
abbrev n_lot_at_end : List Str := ["store", "row"]
abbrev p_lot_at_end : List Str := ["store", "row"]
theorem sc_lot_at_end : FnScope n_lot_at_end p_lot_at_end (defScope s_lot_at_end) := ⟨rfl, rfl, rfl, by decide +kernel, rfl, by decide +kernel, by decide +kernel⟩
abbrev s_row_lot : Stmt := topS 61
abbrev n_row_lot : List Str := ["store", "row"]
abbrev p_row_lot : List Str := ["store", "row"]
theorem sc_row_lot : FnScope n_row_lot p_row_lot (defScope s_row_lot) := ⟨rfl, rfl, rfl, by decide +kernel, rfl, by decide +kernel, by decide +kernel⟩
abbrev s_laid : Stmt := topS 65
abbrev n_laid : List Str := ["board", "bits", "position", "height", "found", "shelf"]
abbrev p_laid : List Str := ["board", "bits", "position", "height"]
theorem sc_laid : FnScope n_laid p_laid (defScope s_laid) := ⟨rfl, rfl, rfl, by decide +kernel, rfl, by decide +kernel, by decide +kernel⟩
abbrev s_taken_off : Stmt := topS 66
abbrev n_taken_off : List Str := ["board", "bits", "position", "found"]
abbrev p_taken_off : List Str := ["board", "bits", "position"]
theorem sc_taken_off : FnScope n_taken_off p_taken_off (defScope s_taken_off) := ⟨rfl, rfl, rfl, by decide +kernel, rfl, by decide +kernel, by decide +kernel⟩
abbrev s_many_deeds : Stmt := topS 67
abbrev n_many_deeds : List Str := ["store", "row", "height", "lot", "found", "word", "position", "further"]
abbrev p_many_deeds : List Str := ["store", "row", "height"]
theorem sc_many_deeds : FnScope n_many_deeds p_many_deeds (defScope s_many_deeds) := ⟨rfl, rfl, rfl, by decide +kernel, rfl, by decide +kernel, by decide +kernel⟩
abbrev s_blown_deeds : Stmt := topS 68
abbrev n_blown_deeds : List Str := ["store", "row", "height", "board", "found", "word", "position", "deeds"]
abbrev p_blown_deeds : List Str := ["store", "row", "height"]
theorem sc_blown_deeds : FnScope n_blown_deeds p_blown_deeds (defScope s_blown_deeds) := ⟨rfl, rfl, rfl, by decide +kernel, rfl, by decide +kernel, by decide +kernel⟩
abbrev s_blown : Stmt := topS 69
abbrev n_blown : List Str := ["store", "row", "height", "told"]
abbrev p_blown : List Str := ["store", "row", "height"]
theorem sc_blown : FnScope n_blown p_blown (defScope s_blown) := ⟨rfl, rfl, rfl, by decide +kernel, rfl, by decide +kernel, by decide +kernel⟩
abbrev s__law_pot : Stmt := topS 71
abbrev n__law_pot : List Str := ["_law_script", "_law_k", "_law_cell"]
abbrev p__law_pot : List Str := ["_law_script", "_law_k"]
theorem sc__law_pot : FnScope n__law_pot p__law_pot (defScope s__law_pot) := ⟨rfl, rfl, rfl, by decide +kernel, rfl, by decide +kernel, by decide +kernel⟩
abbrev s__law_draw : Stmt := topS 72
abbrev n__law_draw : List Str := ["_law_pot_here", "_law_many", "_law_digit"]
abbrev p__law_draw : List Str := ["_law_pot_here", "_law_many"]
theorem sc__law_draw : FnScope n__law_draw p__law_draw (defScope s__law_draw) := ⟨rfl, rfl, rfl, by decide +kernel, rfl, by decide +kernel, by decide +kernel⟩
abbrev s__law_pick : Stmt := topS 73
abbrev n__law_pick : List Str := ["_law_pot_here", "_law_some"]
abbrev p__law_pick : List Str := ["_law_pot_here", "_law_some"]
theorem sc__law_pick : FnScope n__law_pick p__law_pick (defScope s__law_pick) := ⟨rfl, rfl, rfl, by decide +kernel, rfl, by decide +kernel, by decide +kernel⟩
abbrev s__law_mixed : Stmt := topS 74
abbrev n__law_mixed : List Str := ["_law_pot_here", "_law_some", "_law_left", "_law_found", "_law_turn"]
abbrev p__law_mixed : List Str := ["_law_pot_here", "_law_some"]
theorem sc__law_mixed : FnScope n__law_mixed p__law_mixed (defScope s__law_mixed) := ⟨rfl, rfl, rfl, by decide +kernel, rfl, by decide +kernel, by decide +kernel⟩
abbrev s__law_kinds : Stmt := topS 75
abbrev n__law_kinds : List Str := ["_law_pot_here", "_law_shelves", "_law_most_here", "_law_found", "_law_turn", "_law_kind", "_law_shelf"]
abbrev p__law_kinds : List Str := ["_law_pot_here", "_law_shelves", "_law_most_here"]
theorem sc__law_kinds : FnScope n__law_kinds p__law_kinds (defScope s__law_kinds) := ⟨rfl, rfl, rfl, by decide +kernel, rfl, by decide +kernel, by decide +kernel⟩
abbrev s__law_store : Stmt := topS 76
abbrev n__law_store : List Str := ["_law_pot_here", "_law_most_here", "_law_shelves", "_law_deliveries"]
abbrev p__law_store : List Str := ["_law_pot_here", "_law_most_here"]
theorem sc__law_store : FnScope n__law_store p__law_store (defScope s__law_store) := ⟨rfl, rfl, rfl, by decide +kernel, rfl, by decide +kernel, by decide +kernel⟩
abbrev s__law_given : Stmt := topS 77
abbrev n__law_given : List Str := ["_law_pot_here", "_law_kinds_here", "_law_found", "_law_kind", "_law_some"]
abbrev p__law_given : List Str := ["_law_pot_here", "_law_kinds_here"]
theorem sc__law_given : FnScope n__law_given p__law_given (defScope s__law_given) := ⟨rfl, rfl, rfl, by decide +kernel, rfl, by decide +kernel, by decide +kernel⟩
abbrev s__law_made : Stmt := topS 78
abbrev n__law_made : List Str := ["_law_pot_here", "_law_store_here"]
abbrev p__law_made : List Str := ["_law_pot_here", "_law_store_here"]
theorem sc__law_made : FnScope n__law_made p__law_made (defScope s__law_made) := ⟨rfl, rfl, rfl, by decide +kernel, rfl, by decide +kernel, by decide +kernel⟩
abbrev s__law_least : Stmt := topS 79
abbrev n__law_least : List Str := ["_law_board", "_law_kind", "_law_low", "_law_shelf"]
abbrev p__law_least : List Str := ["_law_board", "_law_kind"]
theorem sc__law_least : FnScope n__law_least p__law_least (defScope s__law_least) := ⟨rfl, rfl, rfl, by decide +kernel, rfl, by decide +kernel, by decide +kernel⟩
abbrev s__law_most : Stmt := topS 80
abbrev n__law_most : List Str := ["_law_board", "_law_kind", "_law_high", "_law_shelf"]
abbrev p__law_most : List Str := ["_law_board", "_law_kind"]
theorem sc__law_most : FnScope n__law_most p__law_most (defScope s__law_most) := ⟨rfl, rfl, rfl, by decide +kernel, rfl, by decide +kernel, by decide +kernel⟩
abbrev s__law_is_custom : Stmt := topS 81
abbrev n__law_is_custom : List Str := ["_law_store_here", "_law_board", "_law_deed", "_law_lot"]
abbrev p__law_is_custom : List Str := ["_law_store_here", "_law_board", "_law_deed"]
theorem sc__law_is_custom : FnScope n__law_is_custom p__law_is_custom (defScope s__law_is_custom) := ⟨rfl, rfl, rfl, by decide +kernel, rfl, by decide +kernel, by decide +kernel⟩
abbrev s__law_behind : Stmt := topS 82
abbrev n__law_behind : List Str := ["_law_board", "_law_deed", "_law_found"]
abbrev p__law_behind : List Str := ["_law_board", "_law_deed"]
theorem sc__law_behind : FnScope n__law_behind p__law_behind (defScope s__law_behind) := ⟨rfl, rfl, rfl, by decide +kernel, rfl, by decide +kernel, by decide +kernel⟩
abbrev s__law_row : Stmt := topS 83
abbrev n__law_row : List Str := ["_law_pot_here", "_law_store_here", "_law_found", "_law_turn", "_law_steps", "_law_at"]
abbrev p__law_row : List Str := ["_law_pot_here", "_law_store_here"]
theorem sc__law_row : FnScope n__law_row p__law_row (defScope s__law_row) := ⟨rfl, rfl, rfl, by decide +kernel, rfl, by decide +kernel, by decide +kernel⟩
abbrev s__law_step : Stmt := topS 84
abbrev n__law_step : List Str := ["_law_store_here", "_law_lot", "_law_step_here", "_law_shelf"]
abbrev p__law_step : List Str := ["_law_store_here", "_law_lot", "_law_step_here"]
theorem sc__law_step : FnScope n__law_step p__law_step (defScope s__law_step) := ⟨rfl, rfl, rfl, by decide +kernel, rfl, by decide +kernel, by decide +kernel⟩
abbrev s__law_flat_board : Stmt := topS 85
abbrev n__law_flat_board : List Str := ["_law_store_here", "_law_lot", "_law_height", "_law_shelf"]
abbrev p__law_flat_board : List Str := ["_law_store_here", "_law_lot", "_law_height"]
theorem sc__law_flat_board : FnScope n__law_flat_board p__law_flat_board (defScope s__law_flat_board) := ⟨rfl, rfl, rfl, by decide +kernel, rfl, by decide +kernel, by decide +kernel⟩
abbrev s__law_follows : Stmt := topS 86
abbrev n__law_follows : List Str := ["_law_store_here", "_law_row_here", "_law_height", "_law_history", "_law_lot", "_law_board", "_law_at", "_law_step_here", "_law_late", "_law_many", "_law_word", "_law_deed", "_law_shelf"]
abbrev p__law_follows : List Str := ["_law_store_here", "_law_row_here", "_law_height", "_law_history"]
theorem sc__law_follows : FnScope n__law_follows p__law_follows (defScope s__law_follows) := ⟨rfl, rfl, rfl, by decide +kernel, rfl, by decide +kernel, by decide +kernel⟩
abbrev s__law_right : Stmt := topS 87
abbrev n__law_right : List Str := ["_law_pot_here", "_law_store_here", "_law_made_here", "_law_row_here", "_law_height", "_law_handed", "_law_stay", "_law_history", "_law_lot", "_law_step_here", "_law_again", "_law_doubled"]
abbrev p__law_right : List Str := ["_law_pot_here"]
theorem sc__law_right : FnScope n__law_right p__law_right (defScope s__law_right) := ⟨rfl, rfl, rfl, by decide +kernel, rfl, by decide +kernel, by decide +kernel⟩
abbrev s_law : Stmt := topS 88
abbrev n_law : List Str := ["_law_script"]
abbrev p_law : List Str := ["_law_script"]
theorem sc_law : FnScope n_law p_law (defScope s_law) := ⟨rfl, rfl, rfl, by decide +kernel, rfl, by decide +kernel, by decide +kernel⟩
/-- what the program's top has left -/
structure Txt (K : PySem.W.Frag) (mg : Str → Option Value) : Prop where
  d_is_integer : Df K mg "is_integer" s_is_integer
  d_is_count : Df K mg "is_count" s_is_count
  d_is_list : Df K mg "is_list" s_is_list
  d_want_at_most : Df K mg "want_at_most" s_want_at_most
  d_are_shelves : Df K mg "are_shelves" s_are_shelves
  d_want_shelves : Df K mg "want_shelves" s_want_shelves
  d_is_lot_of : Df K mg "is_lot_of" s_is_lot_of
  d_bits_of : Df K mg "bits_of" s_bits_of
  d_spots_of : Df K mg "spots_of" s_spots_of
  d_told_lot : Df K mg "told_lot" s_told_lot
  d_is_kind : Df K mg "is_kind" s_is_kind
  d_are_kinds : Df K mg "are_kinds" s_are_kinds
  d_plain_kinds : Df K mg "plain_kinds" s_plain_kinds
  d_want_store : Df K mg "want_store" s_want_store
  d_is_board_of : Df K mg "is_board_of" s_is_board_of
  d_want_board : Df K mg "want_board" s_want_board
  d_least_in : Df K mg "least_in" s_least_in
  d_most_in : Df K mg "most_in" s_most_in
  d_is_one_of : Df K mg "is_one_of" s_is_one_of
  d_is_deed_of : Df K mg "is_deed_of" s_is_deed_of
  d_want_history : Df K mg "want_history" s_want_history
  d_is_by_custom : Df K mg "is_by_custom" s_is_by_custom
  d_behind : Df K mg "behind" s_behind
  d_played_to : Df K mg "played_to" s_played_to
  d_play_of : Df K mg "play_of" s_play_of
  d_played : Df K mg "played" s_played
  d_is_step : Df K mg "is_step" s_is_step
  d_is_row : Df K mg "is_row" s_is_row
  d_want_row : Df K mg "want_row" s_want_row
  d_end_of : Df K mg "end_of" s_end_of
  d_lot_at_end : Df K mg "lot_at_end" s_lot_at_end
  d_row_lot : Df K mg "row_lot" s_row_lot
  d_laid : Df K mg "laid" s_laid
  d_taken_off : Df K mg "taken_off" s_taken_off
  d_many_deeds : Df K mg "many_deeds" s_many_deeds
  d_blown_deeds : Df K mg "blown_deeds" s_blown_deeds
  d_blown : Df K mg "blown" s_blown
  d__law_pot : Df K mg "_law_pot" s__law_pot
  d__law_draw : Df K mg "_law_draw" s__law_draw
  d__law_pick : Df K mg "_law_pick" s__law_pick
  d__law_mixed : Df K mg "_law_mixed" s__law_mixed
  d__law_kinds : Df K mg "_law_kinds" s__law_kinds
  d__law_store : Df K mg "_law_store" s__law_store
  d__law_given : Df K mg "_law_given" s__law_given
  d__law_made : Df K mg "_law_made" s__law_made
  d__law_least : Df K mg "_law_least" s__law_least
  d__law_most : Df K mg "_law_most" s__law_most
  d__law_is_custom : Df K mg "_law_is_custom" s__law_is_custom
  d__law_behind : Df K mg "_law_behind" s__law_behind
  d__law_row : Df K mg "_law_row" s__law_row
  d__law_step : Df K mg "_law_step" s__law_step
  d__law_flat_board : Df K mg "_law_flat_board" s__law_flat_board
  d__law_follows : Df K mg "_law_follows" s__law_follows
  d__law_right : Df K mg "_law_right" s__law_right
  d_law : Df K mg "law" s_law
  b_len : mg "len" = none
  b_sorted : mg "sorted" = none
  b_set : mg "set" = none
  b_all : mg "all" = none
  b_min : mg "min" = none
  b_max : mg "max" = none
  b_isinstance : mg "isinstance" = none
  b_int : mg "int" = none
  b_bool : mg "bool" = none
  b_list : mg "list" = none
  b_tuple : mg "tuple" = none
  b_range : mg "range" = none
  b_str : mg "str" = none
  b_enumerate : mg "enumerate" = none
  b_abs : mg "abs" = none
  b_divmod : mg "divmod" = none
  b_repr : mg "repr" = none
  c_LEAST_SHELVES : ∃ t, mg "LEAST_SHELVES" = some (.int 2 t)
  c_MOST_SHELVES : ∃ t, mg "MOST_SHELVES" = some (.int 8 t)
  c_MOST_KINDS : ∃ t, mg "MOST_KINDS" = some (.int 8 t)
  c_MOST_PIECES : ∃ t, mg "MOST_PIECES" = some (.int 60 t)
  c_MOST_DEEDS : ∃ t, mg "MOST_DEEDS" = some (.int 200 t)
  c_PUT : ∃ t, mg "PUT" = some (.str "put" t)
  c_TAKE : ∃ t, mg "TAKE" = some (.str "take" t)
  c_MISS : ∃ t, mg "MISS" = some (.str "miss" t)
  c_MOST_STEPS : ∃ t, mg "MOST_STEPS" = some (.int 60 t)
  c_MOST_HEIGHT : ∃ t, mg "MOST_HEIGHT" = some (.int 9 t)
  c_LAY : ∃ t, mg "LAY" = some (.str "lay" t)
end K33
namespace K33
open PySem PySem.Spec PyProof.Rows L2
section
variable {P : Program} {w : World} {K : PySem.W.Frag} {mg : Str → Option Value} {base : Heap}
/-! basics -/
abbrev sp_is_integer : Sp := Fsp (fun i : Int => [I i]) (fun _ => True) (fun _ _ => B true)
theorem ok_is_integer (T : Txt K mg) : Dn P w K mg base 1 "is_integer" p_is_integer sp_is_integer := by
  refine dn_of T.d_is_integer sc_is_integer (fun _ _ _ _ _ _ us hl => match us, hl with | [_], _ => rfl) (len_of fun _ => rfl) fun f cdv A outer s H vs Q E hr h => ?_
  obtain ⟨i, ⟨v0, _, rfl, h0, rfl⟩, _, q⟩ := h
  refine s_one (s_ret (e_and (e_isTy T.b_isinstance (e_var 0 rfl h0) (e_ty PyProof.Rows.boot_int T.b_int) (fun _ _ h => ty_int h) (b1 := true) (by decide +kernel)) fun _ =>
    e_one (e_not (e_isTy T.b_isinstance (e_var 0 rfl h0) (e_ty PyProof.Rows.boot_bool T.b_bool) (fun _ _ h => ty_int h) (b1 := false) (by decide +kernel)))) fun v H1 g h => q v H1 g h)
abbrev sp_is_count : Sp := Fsp (fun i : Int => [I i]) (fun _ => True) (fun i _ => B (decide (0 ≤ i)))
theorem ok_is_count (T : Txt K mg) : Dn P w K mg base 2 "is_count" p_is_count sp_is_count := by
  refine dn_of T.d_is_count sc_is_count (fun _ _ _ _ _ _ us hl => match us, hl with | [_], _ => rfl) (len_of fun _ => rfl) fun f cdv A outer s H vs Q E hr h => ?_
  obtain ⟨i, ⟨v0, _, rfl, h0, rfl⟩, _, q⟩ := h
  refine s_one (s_ret (e_and (e_fn i (ok_is_integer T) hr (a_cons (e_var 0 rfl h0) a_nil) trivial fun _ _ _ _ r => r) fun _ => e_one (e_ge (e_var 0 rfl h0) e_int)) fun v H1 g h => q v H1 g h)
abbrev sp_is_list : Sp := Fsp (fun ds : List PyData => [Q2 ds]) (fun _ => True) (fun _ _ => B true)
theorem ok_is_list (T : Txt K mg) : Dn P w K mg base 1 "is_list" p_is_list sp_is_list := by
  refine dn_of T.d_is_list sc_is_list (fun _ _ _ _ _ _ us hl => match us, hl with | [_], _ => rfl) (len_of fun _ => rfl) fun f cdv A outer s H vs Q E hr h => ?_
  obtain ⟨ds, ⟨v0, _, rfl, h0, rfl⟩, _, q⟩ := h
  exact s_one (s_ret (e_isLT T.b_isinstance T.b_list T.b_tuple (e_var 0 rfl h0)) q)
abbrev sp_want_at_most : Sp := Fsp (fun i : Str × Int × Int => [D (.str i.1), I i.2.1, I i.2.2]) (fun i => i.2.2 ≤ i.2.1) (fun _ _ => D .none)
theorem ok_want_at_most (T : Txt K mg) : Dn P w K mg base 1 "want_at_most" p_want_at_most sp_want_at_most := by
  refine dn_of T.d_want_at_most sc_want_at_most (fun _ _ _ _ _ _ us hl => match us, hl with | [_, _, _], _ => rfl) (len_of fun _ => rfl) fun f cdv A outer s H vs Q E hr h => ?_
  obtain ⟨⟨x, l, n⟩, ⟨v0, _, rfl, h0, v1, _, rfl, h1, v2, _, rfl, h2, rfl⟩, hp, q⟩ := h
  exact s_one (s_skip ((t_gt (e_var 2 rfl h2) (e_var 1 rfl h1)).eq (decide_eq_false (Int.not_lt.mpr hp))) fun H1 g => q _ _ g .non)
end
end K33
namespace K33
open PySem PySem.Spec PyProof.Rows L2
/-! plain: numbers, bits -/
def dN (n : Nat) : PyData := .int (n : Int)
def zs (l : List Nat) : List Int := l.map fun n : Nat => (n : Int)
theorem dN_map (l : List Nat) : l.map dN = (zs l).map .int := by
  unfold zs
  rw [List.map_map]
  rfl
theorem mem_zs {l : List Nat} {n : Nat} : (n : Int) ∈ zs l ↔ n ∈ l := by
  unfold zs
  rw [List.mem_map]
  constructor
  · rintro ⟨m, hm, e⟩
    have : m = n := by omega
    exact this ▸ hm
  · intro h; exact ⟨n, h, rfl⟩
theorem of_mem_zs {l : List Nat} {k : Int} (h : k ∈ zs l) : ∃ n : Nat, k = n ∧ n ∈ l := by
  unfold zs at h
  obtain ⟨m, hm, e⟩ := List.mem_map.mp h
  exact ⟨m, e.symm, hm⟩
/-- the bits of a lot; the lot of bits -/
def bitsOf (l : List Nat) : Nat := l.foldl (fun f s => f ||| 2 ^ s) 0
def spots (b : Nat) : List Nat := (List.range 8).filter fun s => b.testBit s
theorem bits_snoc (l : List Nat) (s : Nat) : bitsOf (l ++ [s]) = bitsOf l ||| 2 ^ s := by
  unfold bitsOf
  rw [List.foldl_append]
  rfl
theorem bits_test (l : List Nat) (k : Nat) : (bitsOf l).testBit k = decide (k ∈ l) := by
  have h : ∀ (l : List Nat) (a : Nat), (l.foldl (fun f s => f ||| 2 ^ s) a).testBit k = (a.testBit k || decide (k ∈ l)) := by
    intro l
    induction l with
    | nil => intro a; simp
    | cons s r ih =>
      intro a
      rw [List.foldl_cons, ih, Nat.testBit_or, Nat.testBit_two_pow]
      by_cases e : s = k
      · subst e; simp
      · have : k ≠ s := fun z => e z.symm
        simp [e, this]
  unfold bitsOf
  rw [h]
  simp
theorem spots_mem {b k : Nat} : k ∈ spots b ↔ k < 8 ∧ b.testBit k = true := by
  unfold spots
  rw [List.mem_filter, List.mem_range]
theorem spots_rise (b : Nat) : (spots b).Pairwise (· < ·) := (List.pairwise_lt_range).filter _
theorem spots_nodup (b : Nat) : (spots b).Nodup := (spots_rise b).imp fun h => Nat.ne_of_lt h
theorem spots_len (b : Nat) : (spots b).length ≤ 8 := by
  have h := List.length_filter_le (fun s => b.testBit s) (List.range 8)
  rw [List.length_range] at h
  exact h
theorem rise_uniqN : ∀ {l m : List Nat}, l.Pairwise (· < ·) → m.Pairwise (· < ·) → (∀ k, k ∈ l ↔ k ∈ m) → l = m
  | [], [], _, _, _ => rfl
  | [], y :: m, _, _, h => absurd ((h y).mpr List.mem_cons_self) (by simp)
  | x :: l, [], _, _, h => absurd ((h x).mp List.mem_cons_self) (by simp)
  | x :: l, y :: m, hl, hm, h => by
    have h1 := List.pairwise_cons.mp hl
    have h2 := List.pairwise_cons.mp hm
    have e : x = y := by
      rcases List.mem_cons.mp ((h x).mp List.mem_cons_self) with e | a
      · exact e
      · rcases List.mem_cons.mp ((h y).mpr List.mem_cons_self) with e | b
        · exact e.symm
        · have := h1.1 _ b
          have := h2.1 _ a
          omega
    subst e
    have h3 : ∀ k, k ∈ l ↔ k ∈ m := fun k => by
      have z := h k
      rw [List.mem_cons, List.mem_cons] at z
      constructor
      · intro hk
        rcases z.mp (.inr hk) with e | t
        · subst e; exact absurd (h1.1 _ hk) (by omega)
        · exact t
      · intro hk
        rcases z.mpr (.inr hk) with e | t
        · subst e; exact absurd (h2.1 _ hk) (by omega)
        · exact t
    rw [rise_uniqN h1.2 h2.2 h3]
/-- the lot of the bits of a rising lot is the lot -/
theorem spots_bits {l : List Nat} (h : l.Pairwise (· < ·)) (h8 : ∀ s ∈ l, s < 8) : spots (bitsOf l) = l :=
  rise_uniqN (spots_rise _) h fun k => by
    rw [spots_mem, bits_test, decide_eq_true_eq]
    exact ⟨fun z => z.2, fun z => ⟨h8 k z, z⟩⟩
theorem spots_lt {b k : Nat} (h : k ∈ spots b) : k < 8 := (spots_mem.mp h).1
/-! the model's operators on numbers that are not negative -/
theorem bor_nat (a b : Nat) : Builtin.bitOr (a : Int) (b : Int) = ((a ||| b : Nat) : Int) := by
  rw [Bits.bitOr_pp (by omega) (by omega)]
  simp
theorem shl_one (s : Nat) : (1 : Int) * 2 ^ ((s : Int)).toNat = ((2 ^ s : Nat) : Int) := by
  simp
theorem shr_nat (b s : Nat) : ((b : Int) / 2 ^ ((s : Int)).toNat) = ((b / 2 ^ s : Nat) : Int) := by
  simp
theorem band_one (b : Nat) : Builtin.bitAnd (b : Int) 1 = ((b % 2 : Nat) : Int) := by
  have h := PyProof.Rows.bitAnd_pp (x := (b : Int)) (y := 1) (by omega) (by omega)
  rw [h]
  simp [Nat.and_one_is_mod]
theorem bit_test (b s : Nat) : decide (Builtin.bitAnd ((b : Int) / 2 ^ ((s : Int)).toNat) 1 = 1) = b.testBit s := by
  rw [shr_nat, band_one, Nat.testBit_eq_decide_div_mod_eq]
  exact decide_eq_decide.mpr (by omega)
end K33
namespace K33
open PySem PySem.Spec PyProof.Rows L2
section
variable {P : Program} {w : World} {K : PySem.W.Frag} {mg : Str → Option Value} {base : Heap}
/-! lots -/
abbrev sp_are_shelves : Sp := Fsp (fun i : Nat => [I i]) (fun i => 2 ≤ i ∧ i ≤ 8) (fun _ _ => B true)
theorem ok_are_shelves (T : Txt K mg) : Dn P w K mg base 3 "are_shelves" p_are_shelves sp_are_shelves := by
  refine dn_of T.d_are_shelves sc_are_shelves (fun _ _ _ _ _ _ us hl => match us, hl with | [_], _ => rfl) (len_of fun _ => rfl) fun f cdv A outer s H vs Q E hr h => ?_
  obtain ⟨i, ⟨v0, _, rfl, h0, rfl⟩, hp, q⟩ := h
  obtain ⟨t1, c1⟩ := T.c_LEAST_SHELVES
  obtain ⟨t2, c2⟩ := T.c_MOST_SHELVES
  refine s_one (s_ret ((e_and (e_fn (i : Int) (ok_is_count T) hr (a_cons (e_var 0 rfl h0) a_nil) trivial fun _ _ _ _ r => r) fun _ => e_one (e_chainLe (e_gi c1) (e_var 0 rfl h0) (e_gi c2))).bl ?_) q)
  simp
  omega
abbrev sp_want_shelves : Sp := Fsp (fun i : Nat => [I i]) (fun i => 2 ≤ i ∧ i ≤ 8) (fun _ _ => D .none)
theorem ok_want_shelves (T : Txt K mg) : Dn P w K mg base 4 "want_shelves" p_want_shelves sp_want_shelves := by
  refine dn_of T.d_want_shelves sc_want_shelves (fun _ _ _ _ _ _ us hl => match us, hl with | [_], _ => rfl) (len_of fun _ => rfl) fun f cdv A outer s H vs Q E hr h => ?_
  obtain ⟨i, ⟨v0, _, rfl, h0, rfl⟩, hp, q⟩ := h
  exact s_one (s_skip (t_not (t_val (e_fn i (ok_are_shelves T) hr (a_cons (e_var 0 rfl h0) a_nil) hp fun _ _ _ _ r => r))) fun H1 g => q _ _ g .non)
/-- a rising list of the members -/
def riseOf (l : List Nat) : List Nat := l.mergeSort (fun a b => decide (a ≤ b))
theorem riseOf_mem {l : List Nat} {k : Nat} : k ∈ riseOf l ↔ k ∈ l := (List.mergeSort_perm l _).mem_iff
theorem riseOf_len (l : List Nat) : (riseOf l).length = l.length := (List.mergeSort_perm l _).length_eq
theorem riseOf_rise {l : List Nat} (h : l.Nodup) : (riseOf l).Pairwise (· < ·) := by
  have h1 : (riseOf l).Pairwise (fun a b => decide (a ≤ b) = true) := List.pairwise_mergeSort (fun a b c => by simp; omega) (fun a b => by simp; omega) l
  have h2 : (riseOf l).Nodup := (List.mergeSort_perm l _).nodup_iff.mpr h
  exact (h1.and h2).imp fun {a b} ⟨x, y⟩ => by have := of_decide_eq_true x; omega
theorem zs_rise {l : List Nat} (h : l.Pairwise (· < ·)) : (zs l).Pairwise (· < ·) := List.pairwise_map.mpr (h.imp fun h => by omega)
theorem q2_var {X : Cx} {σ : L2.St} {H : Hp} {x : Str} {pos : Pos} {ds : List PyData} {v : V} (ix : Nat) (h : Q2 ds H v) (hs : σ[ix]? = some (some v) := by rfl) (hN : X.N[ix]? = some x := by rfl) (hv : Vis X.env.scope x := by first | exact Or.inl rfl | exact Or.inr (Or.inl rfl) | exact Or.inr (Or.inr rfl))
    (hd : (x == ("__debug__" : Str)) = false := by decide) (hcd : (x == ("__classdict__" : Str)) = false := by decide) : E X (.Name x pos) σ H (D (.list ds)) ∨ E X (.Name x pos) σ H (D (.tuple ds)) := by
  rcases h with h | h
  · exact .inl (e_var ix hs h hN hv hd hcd)
  · exact .inr (e_var ix hs h hN hv hd hcd)
theorem all_true {α : Type} (l : List α) : (l.map fun _ => true).all id = true := by simp
theorem bools {α : Type} (l : List α) (b : α → Bool) : l.map (fun a => PyData.bool (b a)) = (l.map b).map .bool := by rw [List.map_map]; rfl
abbrev sp_is_lot_of : Sp := Fsp (fun i : Nat × List Nat => [I i.1, Q2 (i.2.map dN)]) (fun i => (∀ s ∈ i.2, s < i.1) ∧ i.2.Nodup ∧ i.2.length < 64) (fun _ _ => B true)
theorem ok_is_lot_of (T : Txt K mg) : Dn P w K mg base 3 "is_lot_of" p_is_lot_of sp_is_lot_of := by
  refine dn_of T.d_is_lot_of sc_is_lot_of (fun _ _ _ _ _ _ us hl => match us, hl with | [_, _], _ => rfl) (len_of fun _ => rfl) fun f cdv A outer s H vs Q E hr h => ?_
  obtain ⟨⟨n, l⟩, ⟨v0, _, rfl, h0, v1, _, rfl, h1, rfl⟩, ⟨hb, hnd, hlen⟩, q⟩ := h
  dsimp only at h0 h1 hb hnd hlen q
  refine s_cons (s_skip (Wt.t ((w_or (b1 := false) (b2 := false) (t_not (t_val (e_fn (l.map dN) (ok_is_list T) (hr.mono (by decide)) (a_cons (e_var 1 rfl h1) a_nil) trivial fun _ _ _ _ r => r))) fun _ => w_or1 (t_not (b1 := true) (t_val ((e_all (bs := l.map fun _ => true) T.b_all rfl (a_cons
    ((e_lcQ (enc := dN) (as := l) (g := fun _ => PyData.bool true) (R := fun _ _ => B true) 2 (blkOk_by (N := n_is_lot_of) (sc := defScope s_is_lot_of) (by decide +kernel)) (fun _ _ _ _ _ => pg_name (i := 2) sc_is_lot_of.nd rfl (Or.inl rfl)) sc_is_lot_of.nd (q2_var 1 h1) (by omega) (fun a ha x H1 g dx s0 H0 C cl fp => Evp.q (Evp.bl (e_and (e_fn (a : Int) (ok_is_count T) hr (a_cons (e_var 2 rfl dx) a_nil) trivial fun _ _ _ _ r => r) fun _ => e_one (e_lt (e_var 2 rfl dx) (e_var 0 rfl (Dt.up g h0)))) ?_)) fun _ _ => kp_soft rfl).newD.eq ?_) a_nil)).bl (all_true l))))))) fun H1 g1 => ?_)
  · have := hb a ha
    simp
    omega
  · rw [bools]
  have h1' : Q2 (l.map dN) H1 v1 := Mono.up g1 h1
  refine s_one (s_ret ((e_eqI (e_len T.b_len (a_cons (P := Q2 ((zs (riseOf l)).map .int)) ((e_sset (ns := zs l) (ms := zs (riseOf l)) T.b_sorted T.b_set rfl (e_var 1 rfl (by rw [← dN_map]; exact h1')) ?_ (zs_rise (riseOf_rise hnd)) ?_).imp fun _ _ _ r => .inl r.d) a_nil)) (e_len T.b_len (a_cons (e_var 1 rfl h1') a_nil))).bl ?_) fun v H2 g2 r => q v H2 (g1.tr g2) r)
  · unfold zs; rw [List.length_map]; exact hlen
  · intro k
    constructor
    · intro hk
      obtain ⟨m, rfl, hm⟩ := of_mem_zs hk
      exact mem_zs.mpr (riseOf_mem.mp hm)
    · intro hk
      obtain ⟨m, rfl, hm⟩ := of_mem_zs hk
      exact mem_zs.mpr (riseOf_mem.mpr hm)
  · unfold zs
    simp [riseOf_len]
abbrev sp_bits_of : Sp := Fsp (fun l : List Nat => [Q2 (l.map dN)]) (fun l => ∀ s ∈ l, s < 64) (fun l _ => I (bitsOf l : Int))
theorem ok_bits_of (T : Txt K mg) : Dn P w K mg base 1 "bits_of" p_bits_of sp_bits_of := by
  refine dn_of T.d_bits_of sc_bits_of (fun _ _ _ _ _ _ us hl => match us, hl with | [_], _ => rfl) (len_of fun _ => rfl) fun f cdv A outer s H vs Q E hr h => ?_
  obtain ⟨l, ⟨v0, _, rfl, h0, rfl⟩, hp, q⟩ := h
  refine s_cons (s_set 1 sc_bits_of.nd e_int fun u H1 g1 hu => ?_)
  obtain rfl := Dt.int_eq hu
  have h1 : Q2 (l.map dN) H1 v0 := Mono.up g1 h0
  have more : ∀ {i s : Nat}, l[i]? = some s → l.take (i + 1) = l.take i ++ [s] := fun h => by rw [List.take_add_one, h]; rfl
  have val : ∀ {i : Nat} {u : V} {xs : List V}, DtA H1 xs (l.map dN) → xs[i]? = some u → ∃ s, l[i]? = some s ∧ u = .int (s : Int) := fun hx hu => by
    obtain ⟨d, hd, dd⟩ := hx.at hu
    rw [List.getElem?_map] at hd
    obtain ⟨s, hs, rfl⟩ := Option.map_eq_some_iff.mp hd
    exact ⟨s, hs, Dt.int_eq dd⟩
  rcases h1 with h1 | h1
  · obtain ⟨a, xs, rfl, hp', hx⟩ := h1.list_eq
    refine s_cons (r_forL 2 sc_bits_of.nd ((e_var (P := Is (.ref a)) 0 rfl rfl).run fun v H2 g2 hv => ⟨a, xs, hv, g2 _ _ hp', fun i σ' H' => Gr H1 H' ∧ ∃ y, σ' = [some (.ref a), some (.int (bitsOf (l.take i) : Int)), y], ⟨g2, none, rfl⟩, fun i σ' H' w => w.1 _ _ hp', fun i u σ' H' hu w => ?_, fun σ' H' w => ?_⟩))
    · obtain ⟨g, y, rfl⟩ := w
      obtain ⟨s, hs, rfl⟩ := val hx hu
      refine s_one (s_set 1 sc_bits_of.nd (e_bor (e_var 1 rfl (.int _)) (e_shl e_int (e_var 2 rfl (.int _)) ?_)) fun v H3 g3 hv => ?_)
      · have := hp s (List.mem_of_getElem? hs)
        exact ⟨by omega, by omega, by decide⟩
      · obtain rfl := Dt.int_eq hv
        rw [shl_one, bor_nat, ← bits_snoc, ← more hs]
        exact ⟨g.tr g3, _, rfl⟩
    · obtain ⟨g, y, rfl⟩ := w
      rw [List.take_of_length_le (by rw [hx.len, List.length_map]; exact Nat.le_refl _)]
      exact s_one (s_ret (e_var (P := I (bitsOf l : Int)) 1 rfl (.int _)) fun v H3 g3 r => q v H3 ((g1.tr g).tr g3) r)
  · obtain ⟨a, xs, rfl, hp', hx⟩ := h1.tup_eq
    refine s_cons (r_forT 2 sc_bits_of.nd ((e_var (P := Is (.ref a)) 0 rfl rfl).run fun v H2 g2 hv => ⟨a, xs, hv, g2 _ _ hp', fun i σ' H' => Gr H1 H' ∧ ∃ y, σ' = [some (.ref a), some (.int (bitsOf (l.take i) : Int)), y], ⟨g2, none, rfl⟩, fun i σ' H' w => w.1 _ _ hp', fun i u σ' H' hu w => ?_, fun σ' H' w => ?_⟩))
    · obtain ⟨g, y, rfl⟩ := w
      obtain ⟨s, hs, rfl⟩ := val hx hu
      refine s_one (s_set 1 sc_bits_of.nd (e_bor (e_var 1 rfl (.int _)) (e_shl e_int (e_var 2 rfl (.int _)) ?_)) fun v H3 g3 hv => ?_)
      · have := hp s (List.mem_of_getElem? hs)
        exact ⟨by omega, by omega, by decide⟩
      · obtain rfl := Dt.int_eq hv
        rw [shl_one, bor_nat, ← bits_snoc, ← more hs]
        exact ⟨g.tr g3, _, rfl⟩
    · obtain ⟨g, y, rfl⟩ := w
      rw [List.take_of_length_le (by rw [hx.len, List.length_map]; exact Nat.le_refl _)]
      exact s_one (s_ret (e_var (P := I (bitsOf l : Int)) 1 rfl (.int _)) fun v H3 g3 r => q v H3 ((g1.tr g).tr g3) r)
abbrev sp_spots_of : Sp := Fsp (fun b : Nat => [I b]) (fun _ => True) (fun b _ => D (.tuple ((spots b).map dN)))
theorem ok_spots_of (T : Txt K mg) : Dn P w K mg base 1 "spots_of" p_spots_of sp_spots_of := by
  refine dn_of T.d_spots_of sc_spots_of (fun _ _ _ _ _ _ us hl => match us, hl with | [_], _ => rfl) (len_of fun _ => rfl) fun f cdv A outer s H vs Q E hr h => ?_
  obtain ⟨b, ⟨v0, _, rfl, h0, rfl⟩, hp, q⟩ := h
  obtain ⟨t, c1⟩ := T.c_MOST_SHELVES
  refine s_one (s_ret (e_tuple T.b_tuple (a_cons (P := Q2 ((spots b).map dN)) ((e_lcRi (n := 8) (pp := fun s => b.testBit s) (g := dN) (R := fun a _ => I (a : Int)) 1 (blkOk_by (N := n_spots_of) (sc := defScope s_spots_of) (by decide +kernel)) (fun _ _ _ _ _ => pg_name (i := 1) sc_spots_of.nd rfl (Or.inl rfl)) sc_spots_of.nd T.b_range (e_gi c1) (by decide)
    (fun a ha H1 g s0 H0 C cl fp => Evb.eq (t_eqI (e_band (e_shr (e_var 0 rfl (Dt.up g h0)) (e_var 1 rfl (.int _)) (by omega)) e_int) e_int) (bit_test b a)) (fun a ha _ H1 g s0 H0 C cl fp => Evp.q (e_var 1 rfl (.int _))) (fun _ _ => kp_soft rfl)).imp fun _ _ _ r => .inl r.d) a_nil)) q)
abbrev sp_told_lot : Sp := Fsp (fun b : Nat => [I b]) (fun _ => True) (fun b H => NewL H ((spots b).map dN))
theorem ok_told_lot (T : Txt K mg) : Dn P w K mg base 2 "told_lot" p_told_lot sp_told_lot := by
  refine dn_of T.d_told_lot sc_told_lot (fun _ _ _ _ _ _ us hl => match us, hl with | [_], _ => rfl) (len_of fun _ => rfl) fun f cdv A outer s H vs Q E hr h => ?_
  obtain ⟨b, ⟨v0, _, rfl, h0, rfl⟩, hp, q⟩ := h
  exact s_one (s_ret (e_list T.b_list (a_cons (P := Q2 ((spots b).map dN)) (e_fn b (ok_spots_of T) hr (a_cons (e_var 0 rfl h0) a_nil) trivial fun _ _ _ _ r => .inr r) a_nil)) q)
end
end K33
namespace K33
open PySem PySem.Spec PyProof.Rows L2
/-! stores: kinds -/
theorem evq_of {te : TE} {σ : L2.St} {H : Hp} {R : Hp → Pd} (h : ∀ H', Gr H H' → Evp te σ H' (R H')) : Evq te σ H R := fun H1 g Q q => h H1 g H1 (Gr.refl _) Q q
/-- a kind as it is handed in: a tuple or a list -/
def dK (k : Bool × List Nat) : PyData := if k.1 then .tuple (k.2.map dN) else .list (k.2.map dN)
theorem dK_q2 {k : Bool × List Nat} {H : Hp} {v : V} (h : Dt H v (dK k)) : Q2 (k.2.map dN) H v := by
  obtain ⟨b, l⟩ := k
  cases b with
  | true => exact .inr h
  | false => exact .inl h
def dL (l : List Nat) : PyData := .list (l.map dN)
def rowLe (p q : List Nat) : Bool := decide (zs p ≤ zs q)
def rowSort (ls : List (List Nat)) : List (List Nat) := ls.mergeSort rowLe
theorem dL_le : PySem.W.dataLe false dL = rowLe := by
  have h := PySem.W.dataLe_rows zs
  have e : (fun b : List Nat => PyData.list ((zs b).map .int)) = dL := funext fun l => by unfold dL; rw [dN_map]
  rw [e] at h
  exact h
theorem dL_alike (ls : List (List Nat)) : PySem.W.AllAlike (ls.map dL) := PySem.W.AllAlike.of fun b b' => by
  unfold dL
  rw [dN_map, dN_map, PySem.W.alike]
  exact PySem.W.alike_ints _ _
theorem dL_sortable (ls : List (List Nat)) : PySem.W.Sortable (ls.map dL) := .others fun b => ⟨(fun h => by cases h), (fun xs h => by cases h)⟩
theorem dL_depth (l : List Nat) : (dL l).depth ≤ 20 := by
  unfold dL
  rw [dN_map, PyData.depth, PySem.W.depth_ints]
  decide
theorem soft_nats (l : List Nat) : softA (l.map dN) = true := by
  induction l with
  | nil => rfl
  | cons x r ih => show (soft (dN x) && softA (r.map dN)) = true; rw [ih]; rfl
/-- the store's kinds out of bits -/
def bitSet (l : List Nat) : List Nat := (List.range 256).filter fun b => decide (b ∈ l)
def plainK (l : List Nat) : List Nat := (rowSort ((bitSet l).map spots)).map bitsOf
theorem bitSet_mem {l : List Nat} (h : ∀ b ∈ l, b < 256) {k : Nat} : k ∈ bitSet l ↔ k ∈ l := by
  unfold bitSet
  rw [List.mem_filter, List.mem_range, decide_eq_true_eq]
  exact ⟨fun z => z.2, fun z => ⟨h k z, z⟩⟩
theorem bitSet_rise (l : List Nat) : (bitSet l).Pairwise (· < ·) := List.pairwise_lt_range.filter _
section
variable {P : Program} {w : World} {K : PySem.W.Frag} {mg : Str → Option Value} {base : Heap}
def LotOk (n : Nat) (l : List Nat) : Prop := (∀ s ∈ l, s < n) ∧ l.Nodup ∧ l.length < 64
abbrev sp_is_kind : Sp := Fsp (fun i : Nat × List Nat => [I i.1, Q2 (i.2.map dN)]) (fun i => LotOk i.1 i.2 ∧ i.2 ≠ []) (fun _ _ => B true)
theorem ok_is_kind (T : Txt K mg) : Dn P w K mg base 4 "is_kind" p_is_kind sp_is_kind := by
  refine dn_of T.d_is_kind sc_is_kind (fun _ _ _ _ _ _ us hl => match us, hl with | [_, _], _ => rfl) (len_of fun _ => rfl) fun f cdv A outer s H vs Q E hr h => ?_
  obtain ⟨⟨n, l⟩, ⟨v0, _, rfl, h0, v1, _, rfl, h1, rfl⟩, ⟨hb, hne⟩, q⟩ := h
  dsimp only at h0 h1 hb hne q
  refine s_one (s_ret ((e_and (e_fn (n, l) (ok_is_lot_of T) hr (a_cons (e_var 0 rfl h0) (a_cons (e_var 1 rfl h1) a_nil)) hb fun _ _ _ _ r => r) fun _ => e_one (e_gt (e_len T.b_len (a_cons (e_var 1 rfl h1) a_nil)) e_int)).bl ?_) q)
  have := List.length_pos_iff.mpr hne
  simp
  omega
abbrev sp_are_kinds : Sp := Fsp (fun i : Nat × List (Bool × List Nat) => [I i.1, Q2 (i.2.map dK)]) (fun i => i.2.length ≤ 8 ∧ ∀ k ∈ i.2, LotOk i.1 k.2 ∧ k.2 ≠ []) (fun _ _ => B true)
theorem ok_are_kinds (T : Txt K mg) : Dn P w K mg base 5 "are_kinds" p_are_kinds sp_are_kinds := by
  refine dn_of T.d_are_kinds sc_are_kinds (fun _ _ _ _ _ _ us hl => match us, hl with | [_, _], _ => rfl) (len_of fun _ => rfl) fun f cdv A outer s H vs Q E hr h => ?_
  obtain ⟨⟨n, ks⟩, ⟨v0, _, rfl, h0, v1, _, rfl, h1, rfl⟩, ⟨h8, hk⟩, q⟩ := h
  dsimp only at h0 h1 h8 hk q
  obtain ⟨t, c1⟩ := T.c_MOST_KINDS
  refine s_one (s_ret ((e_and (e_fn (ks.map dK) (ok_is_list T) (hr.mono (by decide)) (a_cons (e_var 1 rfl h1) a_nil) trivial fun _ _ _ _ r => r) fun _ => e_and (e_le (e_len T.b_len (a_cons (e_var 1 rfl h1) a_nil)) (e_gi c1)) fun _ => e_one ((e_all (bs := ks.map fun _ => true) T.b_all rfl (a_cons
    ((e_lcQ (enc := dK) (as := ks) (g := fun _ => PyData.bool true) (R := fun _ _ => B true) 2 (blkOk_by (N := n_are_kinds) (sc := defScope s_are_kinds) (by decide +kernel)) (fun _ _ _ _ _ => pg_name (i := 2) sc_are_kinds.nd rfl (Or.inl rfl)) sc_are_kinds.nd (q2_var 1 h1) (by omega)
      (fun a ha x H1 g dx s0 H0 C cl fp => Evp.q (e_fn (n, a.2) (ok_is_kind T) hr (a_cons (e_var 0 rfl (Dt.up g h0)) (a_cons (e_var 2 rfl (dK_q2 dx)) a_nil)) (hk a ha) fun _ _ _ _ r => r)) fun _ _ => kp_soft rfl).newD.eq (by rw [bools])) a_nil)).bl (all_true ks))).bl ?_) q)
  simp
  omega
abbrev sp_plain_kinds : Sp := Fsp (fun l : List Nat => [D (.list (l.map dN))]) (fun l => (∀ b ∈ l, b < 256) ∧ l.length < 64) (fun l _ => D (.tuple ((plainK l).map dN)))
theorem ok_plain_kinds (T : Txt K mg) : Dn P w K mg base 3 "plain_kinds" p_plain_kinds sp_plain_kinds := by
  refine dn_of T.d_plain_kinds sc_plain_kinds (fun _ _ _ _ _ _ us hl => match us, hl with | [_], _ => rfl) (len_of fun _ => rfl) fun f cdv A outer s H vs Q E hr h => ?_
  obtain ⟨l, ⟨v0, _, rfl, h0, rfl⟩, ⟨hb, hlen⟩, q⟩ := h
  have hu : (A.deeper (envOfC "plain_kinds" (defScope s_plain_kinds) s.heap.objs.size f cdv)).units + 64 < cLine := hr.units
  have hbl : (bitSet l).length ≤ 256 := by
    have := List.length_filter_le (fun b => decide (b ∈ l)) (List.range 256)
    rw [List.length_range] at this
    exact this
  have hmem : ∀ k, k ∈ zs (bitSet l) ↔ k ∈ zs l := fun k => by
    constructor
    · intro hk
      obtain ⟨m, rfl, hm⟩ := of_mem_zs hk
      exact mem_zs.mpr ((bitSet_mem hb).mp hm)
    · intro hk
      obtain ⟨m, rfl, hm⟩ := of_mem_zs hk
      exact mem_zs.mpr ((bitSet_mem hb).mpr hm)
  refine s_one (s_ret (e_tuple T.b_tuple (a_cons (P := Q2 ((plainK l).map dN)) ((e_lcL (enc := dL) (as := rowSort ((bitSet l).map spots)) (g := fun l => dN (bitsOf l)) (R := fun l _ => I (bitsOf l : Int)) 1 (blkOk_by (N := n_plain_kinds) (sc := defScope s_plain_kinds) (by decide +kernel)) (fun _ _ _ _ _ => pg_name (i := 1) sc_plain_kinds.nd rfl (Or.inl rfl)) sc_plain_kinds.nd
      ((e_sortD (enc := dL) (bs := (bitSet l).map spots) hu (dL_alike _) (dL_sortable _) (fun _ _ => dL_depth _) T.b_sorted (a_cons
        ((e_lcL (enc := dN) (as := bitSet l) (g := fun b => dL (spots b)) (R := fun b H1 => NewL H1 ((spots b).map dN)) 2 (blkOk_by (N := n_plain_kinds) (sc := defScope s_plain_kinds) (by decide +kernel)) (fun _ _ _ _ _ => pg_name (i := 2) sc_plain_kinds.nd rfl (Or.inl rfl)) sc_plain_kinds.nd ((e_sset (ns := zs l) (ms := zs (bitSet l)) T.b_sorted T.b_set rfl (e_var 0 (v := v0) rfl (.inl (by rw [← dN_map]; exact h0))) (by unfold zs; rw [List.length_map]; exact hlen) (zs_rise (bitSet_rise l)) hmem).newD.eq (by rw [dN_map])) (by omega)
          (fun a ha x H1 g dx s0 H0 C cl fp => evq_of fun H2 g2 => e_fn a (ok_told_lot T) hr (a_cons (e_var 2 rfl (Dt.up g2 dx)) a_nil) trivial fun H3 H4 v g3 r => r.back g3) (fun _ _ => kp_new (soft_nats _))).newD.eq (by rw [List.map_map]; rfl)) a_nil)).newD.eq (by rw [dL_le]; rfl)) ?_
      (fun a ha x H1 g dx s0 H0 C cl fp => Evp.q (e_fn a (ok_bits_of T) (hr.mono (by decide)) (a_cons (e_var 1 rfl (.inl dx)) a_nil) ?_ fun _ _ _ _ r => r)) (fun _ _ => kp_soft rfl)).imp fun _ _ _ r => .inl ?_) a_nil)) q)
  · unfold rowSort
    rw [List.length_mergeSort, List.length_map]
    omega
  · unfold rowSort at ha
    obtain ⟨b, _, rfl⟩ := List.mem_map.mp (List.mem_mergeSort.mp ha)
    intro s hs
    have := spots_lt hs
    omega
  · unfold plainK
    rw [List.map_map]
    exact r.d
end
end K33
namespace K33
open PySem PySem.Spec PyProof.Rows L2
/-! the class Store -/
structure Cl (K : PySem.W.Frag) (mg : Str → Option Value) (C : Addr) : Prop where
  mgC : mg "Store" = some (.ref C)
  ic : C8.InsC K C
  n1 : NoAttr K C "own_shelves"
  n2 : NoAttr K C "own_deliveries"
  n3 : NoAttr K C "own_sales"
  n4 : NoAttr K C "own_kept"
  mke : ∃ fI fdI, Mk K C fI ∧ Fun K "__init__" "Store.__init__" s_init fI fdI
def Sto (C : Addr) (n : Nat) (ds ss : List Nat) : Pd := fun H v => ∃ a dx fs dv sv, v = .ref a ∧ H a = some (.ins C dx fs) ∧ fs.lookup ("own_shelves" : Str) = some (V.int (n : Int)) ∧ fs.lookup ("own_deliveries" : Str) = some dv ∧ Dt H dv (.tuple (ds.map dN)) ∧ fs.lookup ("own_sales" : Str) = some sv ∧ Dt H sv (.tuple (ss.map dN))
instance {C : Addr} {n : Nat} {ds ss : List Nat} : Mono (Sto C n ds ss) := ⟨fun e ⟨a, dx, fs, dv, sv, h1, h2, h3, h4, h5, h6, h7⟩ => ⟨a, dx, fs, dv, sv, h1, e _ _ h2, h3, h4, Dt.up e h5, h6, Dt.up e h7⟩⟩
mutual
theorem Dt.offI {H : Hp} {p : Addr} {C dx : Addr} {fs : List (Str × V)} {o : HO} (hp : H p = some (.ins C dx fs)) : ∀ {v : V} {d : PyData}, Dt H v d → Dt (upd H p o) v d
  | _, _, .non => .non
  | _, _, .bl b => .bl b
  | _, _, .int i => .int i
  | _, _, .str x => .str x
  | _, _, .lst (a := q) h a => .lst (by rw [upd_ne (ne_of h hp (by intro z; cases z))]; exact h) (DtA.offI hp a)
  | _, _, .tup (a := q) h a => .tup (by rw [upd_ne (ne_of h hp (by intro z; cases z))]; exact h) (DtA.offI hp a)
theorem DtA.offI {H : Hp} {p : Addr} {C dx : Addr} {fs : List (Str × V)} {o : HO} (hp : H p = some (.ins C dx fs)) : ∀ {v : List V} {d : List PyData}, DtA H v d → DtA (upd H p o) v d
  | _, _, .nil => .nil
  | _, _, .cons h t => .cons (Dt.offI hp h) (DtA.offI hp t)
end
theorem Q2.offI {H : Hp} {p : Addr} {C dx : Addr} {fs : List (Str × V)} {o : HO} {v : V} {ds : List PyData} (hp : H p = some (.ins C dx fs)) (h : Q2 ds H v) : Q2 ds (upd H p o) v := h.imp (Dt.offI hp) (Dt.offI hp)
section
variable {X : Cx} {σ : L2.St} {H : Hp} {Z : Ends} {e o : Expr} {es : List Expr} {pos p p2 : Pos} {P R S : Pd} {x f : Str} {C : Addr}
theorem e_fld (c : Cls X.K C) (nf : NoAttr X.K C f) (ha : E X e σ H P) (hP : ∀ H v, P H v → ∃ a dx fs u, v = .ref a ∧ H a = some (.ins C dx fs) ∧ fs.lookup f = some u ∧ R H u) (hb : attributeBase e f X.env (eval e X.env) = eval e X.env := by rfl) : E X (.Attribute e f pos) σ H R :=
  .of (pe_fld (pE X e) hb) fun H1 g Q q => ha H1 g _ fun v H2 g2 hv => by
    obtain ⟨a, dx, fs, u, rfl, h1, h2, h3⟩ := hP _ _ hv
    exact ⟨a, C, dx, fs, u, rfl, h1, c, nf, h2, q u H2 g2 h3⟩
theorem r_fld {a dx : Addr} {fs : List (Str × V)} (c : Cls X.K C) (nf : NoAttr X.K C f) (hv : E X e σ H P) [Mono P] (ho : E X o σ H (Is (.ref a))) (h0 : H a = some (.ins C dx fs)) (hl : fs.length < 1000) (k : ∀ v H1, Gr H H1 → P H1 v → Z.nx σ (upd H1 a (.ins C dx (putF f v fs))))
    (hs : swapsWith e (some (.Attribute o f p)) pos.line X.env = pure false := by rfl) : rdS X (.Assign [.Attribute o f p] e pos) Z σ H :=
  rdS_of (ps_fld (pE X o) (pE X e) hs) (hv.run fun v H1 g hv => (ho.up g).run fun w H2 g2 hw => by
    have e1 : w = .ref a := hw
    subst e1
    exact ⟨a, C, dx, fs, rfl, (g.tr g2) _ _ h0, c, nf, hl, k v H2 (g.tr g2) (Mono.up g2 hv)⟩)
theorem e_shelves {mg : Str → Option Value} {n : Nat} {ds ss : List Nat} (U : Cl X.K mg C) (ha : E X e σ H (Sto C n ds ss)) (hb : attributeBase e "own_shelves" X.env (eval e X.env) = eval e X.env := by rfl) : E X (.Attribute e "own_shelves" pos) σ H (I (n : Int)) :=
  e_fld U.ic.cl U.n1 ha (fun _ _ ⟨a, dx, fs, dv, sv, h1, h2, h3, h4, h5, h6, h7⟩ => ⟨a, dx, fs, _, h1, h2, h3, .int _⟩) hb
theorem e_deliv {mg : Str → Option Value} {n : Nat} {ds ss : List Nat} (U : Cl X.K mg C) (ha : E X e σ H (Sto C n ds ss)) (hb : attributeBase e "own_deliveries" X.env (eval e X.env) = eval e X.env := by rfl) : E X (.Attribute e "own_deliveries" pos) σ H (D (.tuple (ds.map dN))) :=
  e_fld U.ic.cl U.n2 ha (fun _ _ ⟨a, dx, fs, dv, sv, h1, h2, h3, h4, h5, h6, h7⟩ => ⟨a, dx, fs, _, h1, h2, h4, h5⟩) hb
theorem e_sales {mg : Str → Option Value} {n : Nat} {ds ss : List Nat} (U : Cl X.K mg C) (ha : E X e σ H (Sto C n ds ss)) (hb : attributeBase e "own_sales" X.env (eval e X.env) = eval e X.env := by rfl) : E X (.Attribute e "own_sales" pos) σ H (D (.tuple (ss.map dN))) :=
  e_fld U.ic.cl U.n3 ha (fun _ _ ⟨a, dx, fs, dv, sv, h1, h2, h3, h4, h5, h6, h7⟩ => ⟨a, dx, fs, _, h1, h2, h6, h7⟩) hb
end
section
variable {P : Program} {w : World} {K : PySem.W.Frag} {mg : Str → Option Value} {base : Heap} {C : Addr}
def Any : Pd := fun _ _ => True
instance : Mono Any := ⟨fun _ _ => trivial⟩
abbrev sp_want_store (C : Addr) : Sp := Fsp (fun i : Nat × List Nat × List Nat => [Sto C i.1 i.2.1 i.2.2]) (fun _ => True) (fun _ _ => Any)
theorem ok_want_store (T : Txt K mg) (U : Cl K mg C) : Dn P w K mg base 1 "want_store" p_want_store (sp_want_store C) := by
  refine dn_of T.d_want_store sc_want_store (fun _ _ _ _ _ _ us hl => match us, hl with | [_], _ => rfl) (len_of fun _ => rfl) fun f cdv A outer s H vs Q E hr h => ?_
  obtain ⟨⟨n, ds, ss⟩, ⟨v0, _, rfl, h0, rfl⟩, _, q⟩ := h
  refine s_cons (s_skip (t_not (b1 := true) (t_val (e_cb (C8.call_isC U.ic) PyProof.Rows.boot_isinstance T.b_isinstance (a_cons (P := Sto C n ds ss) (e_var 0 rfl h0) (a_cons (e_own U.mgC) a_nil)) fun H1 g vs t Q q => ?_))) fun H1 g => ?_)
  · obtain ⟨v, r, rfl, hv, w, r', rfl, hw, rfl⟩ := t
    obtain ⟨a, dx, fs, dv, sv, rfl, h2, _⟩ := hv
    exact ⟨a, dx, fs, by rw [show w = .ref C from hw], h2, q _ _ (Gr.refl _) (.bl _)⟩
  · exact s_one (s_ret (e_var (P := Any) 0 rfl trivial) fun v H2 g2 _ => q v H2 (g.tr g2) trivial)
theorem bits_lt {l : List Nat} (h : ∀ s ∈ l, s < 8) : bitsOf l < 256 := by
  have z : bitsOf l < 2 ^ 8 := Nat.lt_pow_two_of_testBit _ fun i hi => by
    rw [bits_test]
    exact decide_eq_false fun m => by have := h i m; omega
  exact z
def kindBits (ks : List (Bool × List Nat)) : List Nat := ks.map fun k => bitsOf k.2
abbrev sp_init (C : Addr) : Sp := fun vs H Q _ => ∃ (n : Nat) (ks ms : List (Bool × List Nat)) (a dx : Addr) (v1 v2 v3 : V), vs = [.ref a, v1, v2, v3] ∧ H a = some (.ins C dx []) ∧ I (n : Int) H v1 ∧ Q2 (ks.map dK) H v2 ∧ Q2 (ms.map dK) H v3 ∧
  (2 ≤ n ∧ n ≤ 8) ∧ (ks.length ≤ 8 ∧ ∀ k ∈ ks, LotOk n k.2 ∧ k.2 ≠ []) ∧ (ms.length ≤ 8 ∧ ∀ k ∈ ms, LotOk n k.2 ∧ k.2 ≠ []) ∧
  ∀ H', (∀ b o, b ≠ a → H b = some o → H' b = some o) → Sto C n (plainK (kindBits ks)) (plainK (kindBits ms)) H' (.ref a) → Q .non H'
theorem ok_init (T : Txt K mg) (U : Cl K mg C) {f : Addr} {fd : FuncData} (F : Fun K "__init__" "Store.__init__" s_init f fd) : FnOk P w K mg base CX0 6 f fd p_init (sp_init C) := by
  refine F.ok sc_init (fun vs H Q E h => ?_) (fun cdv A outer s H vs Q E hr h => ⟨_, pSs _ _, ?_⟩)
  · obtain ⟨n, ks, ms, a, dx, v1, v2, v3, rfl, _⟩ := h
    rfl
  · obtain ⟨n, ks, ms, a, dx, v1, v2, v3, rfl, h0, h1, h2, h3, hn, hk, hm, q⟩ := h
    have lc : ∀ {ks : List (Bool × List Nat)}, (∀ k ∈ ks, LotOk n k.2 ∧ k.2 ≠ []) → ∀ b ∈ kindBits ks, b < 256 := fun hk b hb => by
      obtain ⟨k, hk', rfl⟩ := List.mem_map.mp hb
      exact bits_lt fun s hs => by have := (hk k hk').1.1 s hs; omega
    refine s_cons (s_expr (e_fn n (ok_want_shelves T) (hr.mono (by decide)) (a_cons (e_var 1 rfl h1) a_nil) hn (S := Any) fun _ _ _ _ _ => trivial) fun _ H1 g1 _ => ?_)
    refine s_cons (s_skip (t_not (b1 := true) (t_val (e_fn (n, ks) (ok_are_kinds T) hr (a_cons (e_var 1 rfl (Dt.up g1 h1)) (a_cons (e_var 2 rfl (Mono.up g1 h2)) a_nil)) hk fun _ _ _ _ r => r))) fun H2 g2 => ?_)
    have g12 := g1.tr g2
    refine s_cons (s_skip (t_not (b1 := true) (t_val (e_fn (n, ms) (ok_are_kinds T) hr (a_cons (e_var 1 rfl (Dt.up g12 h1)) (a_cons (e_var 3 rfl (Mono.up g12 h3)) a_nil)) hm fun _ _ _ _ r => r))) fun H3 g3 => ?_)
    have g13 := g12.tr g3
    have a0 := g13 _ _ h0
    refine s_cons (r_fld U.ic.cl U.n1 (e_var (P := Is v1) 1 rfl rfl) (e_var 0 rfl rfl) a0 (by decide) fun v H4 g4 hv => ?_)
    obtain rfl : v = v1 := hv
    have g14 := g13.tr g4
    have a4 := g4 _ _ a0
    have k2 : Q2 (ks.map dK) (upd H4 a (.ins C dx (putF "own_shelves" v []))) v2 := Q2.offI a4 (Mono.up g14 h2)
    have k3 : Q2 (ms.map dK) (upd H4 a (.ins C dx (putF "own_shelves" v []))) v3 := Q2.offI a4 (Mono.up g14 h3)
    refine s_cons (r_fld U.ic.cl U.n2 (e_fn (kindBits ks) (ok_plain_kinds T) (hr.mono (by decide)) (a_cons ((e_lcQ (enc := dK) (as := ks) (g := fun k => dN (bitsOf k.2)) (R := fun k _ => I (bitsOf k.2 : Int)) 4 (blkOk_by (N := n_init) (sc := defScope s_init) (by decide +kernel)) (fun _ _ _ _ _ => pg_name (i := 4) sc_init.nd rfl (Or.inl rfl)) sc_init.nd (q2_var 2 k2) (by omega)
      (fun b hb x H5 g5 dx s0 H0 C0 cl fp => Evp.q (e_fn b.2 (ok_bits_of T) (hr.mono (by decide)) (a_cons (e_var 4 rfl (dK_q2 dx)) a_nil) (fun s hs => by have := (hk.2 b hb).1.1 s hs; omega) fun _ _ _ _ r => r)) (fun _ _ => kp_soft rfl)).newD.eq (by unfold kindBits; rw [List.map_map]; rfl)) a_nil) ⟨lc hk.2, by unfold kindBits; rw [List.length_map]; have := hk.1; omega⟩ fun _ _ _ _ r => r) (e_var 0 rfl rfl) upd_same (show 1 < 1000 by decide) fun w2 H5 g5 hw2 => ?_)
    have a5 := g5 _ _ upd_same
    have k5 : Q2 (ms.map dK) (upd H5 a (.ins C dx (putF "own_deliveries" w2 (putF "own_shelves" v [])))) v3 := Q2.offI a5 (Mono.up g5 k3)
    have d2 : Dt (upd H5 a (.ins C dx (putF "own_deliveries" w2 (putF "own_shelves" v [])))) w2 (.tuple ((plainK (kindBits ks)).map dN)) := Dt.offI a5 hw2
    refine s_cons (r_fld U.ic.cl U.n3 (e_fn (kindBits ms) (ok_plain_kinds T) (hr.mono (by decide)) (a_cons ((e_lcQ (enc := dK) (as := ms) (g := fun k => dN (bitsOf k.2)) (R := fun k _ => I (bitsOf k.2 : Int)) 4 (blkOk_by (N := n_init) (sc := defScope s_init) (by decide +kernel)) (fun _ _ _ _ _ => pg_name (i := 4) sc_init.nd rfl (Or.inl rfl)) sc_init.nd (q2_var 3 k5) (by omega)
      (fun b hb x H5 g5 dx s0 H0 C0 cl fp => Evp.q (e_fn b.2 (ok_bits_of T) (hr.mono (by decide)) (a_cons (e_var 4 rfl (dK_q2 dx)) a_nil) (fun s hs => by have := (hm.2 b hb).1.1 s hs; omega) fun _ _ _ _ r => r)) (fun _ _ => kp_soft rfl)).newD.eq (by unfold kindBits; rw [List.map_map]; rfl)) a_nil) ⟨lc hm.2, by unfold kindBits; rw [List.length_map]; have := hm.1; omega⟩ fun _ _ _ _ r => r) (e_var 0 rfl rfl) upd_same (show 2 < 1000 by decide) fun w3 H6 g6 hw3 => ?_)
    have a6 := g6 _ _ upd_same
    have d2' := Dt.offI (o := .ins C dx (putF "own_sales" w3 (putF "own_deliveries" w2 (putF "own_shelves" v [])))) a6 (Dt.up g6 d2)
    have d3 := Dt.offI (o := .ins C dx (putF "own_sales" w3 (putF "own_deliveries" w2 (putF "own_shelves" v [])))) a6 hw3
    refine s_one (r_fld U.ic.cl U.n4 (P := Any) (.of pe_dnewK fun H7 g7 Q q => fun p hp => q _ _ (Gr.new hp) trivial) (e_var 0 rfl rfl) upd_same (show 3 < 1000 by decide) fun w4 H7 g7 _ => ?_)
    have a7 := g7 _ _ upd_same
    refine q _ (fun b o hb hH => ?_) ⟨a, dx, _, w2, w3, rfl, upd_same, ?_, rfl, Dt.offI a7 (Dt.up g7 d2'), rfl, Dt.offI a7 (Dt.up g7 d3)⟩
    · rw [upd_ne hb]
      refine g7 _ _ ?_
      rw [upd_ne hb]
      refine g6 _ _ ?_
      rw [upd_ne hb]
      refine g5 _ _ ?_
      rw [upd_ne hb]
      exact g14 _ _ hH
    · rw [Dt.int_eq h1]
      rfl
end
end K33
namespace K33
open PySem PySem.Spec PyProof.Rows L2
/-! plain: boards, least and most -/
def at0 (b : List Nat) (s : Nat) : Nat := b.getD s 0
def lowOf (b : List Nat) : List Nat → Nat
  | [] => 0
  | s :: r => if r = [] then at0 b s else min (at0 b s) (lowOf b r)
def highOf (b : List Nat) : List Nat → Nat
  | [] => 0
  | s :: r => max (at0 b s) (highOf b r)
theorem lowOf_le (b : List Nat) : ∀ {k : List Nat} {s : Nat}, s ∈ k → lowOf b k ≤ at0 b s
  | s :: r, t, h => by
    unfold lowOf
    by_cases hr : r = []
    · rw [if_pos hr]
      subst hr
      rw [List.mem_singleton.mp h]
      exact Nat.le_refl _
    · rw [if_neg hr]
      rcases List.mem_cons.mp h with e | m
      · subst e; exact Nat.min_le_left _ _
      · exact Nat.le_trans (Nat.min_le_right _ _) (lowOf_le b m)
theorem lowOf_mem (b : List Nat) : ∀ {k : List Nat}, k ≠ [] → ∃ s ∈ k, at0 b s = lowOf b k
  | s :: r, _ => by
    unfold lowOf
    by_cases hr : r = []
    · rw [if_pos hr]
      exact ⟨s, List.mem_cons_self, rfl⟩
    · rw [if_neg hr]
      obtain ⟨t, ht, e⟩ := lowOf_mem b hr
      by_cases hle : at0 b s ≤ lowOf b r
      · exact ⟨s, List.mem_cons_self, by rw [Nat.min_eq_left hle]⟩
      · exact ⟨t, List.mem_cons_of_mem _ ht, by rw [Nat.min_eq_right (by omega), e]⟩
theorem highOf_ge (b : List Nat) : ∀ {k : List Nat} {s : Nat}, s ∈ k → at0 b s ≤ highOf b k
  | s :: r, t, h => by
    unfold highOf
    rcases List.mem_cons.mp h with e | m
    · subst e; exact Nat.le_max_left _ _
    · exact Nat.le_trans (highOf_ge b m) (Nat.le_max_right _ _)
theorem highOf_mem (b : List Nat) : ∀ {k : List Nat}, k ≠ [] → ∃ s ∈ k, at0 b s = highOf b k
  | [s], _ => ⟨s, List.mem_cons_self, by unfold highOf; unfold highOf; simp⟩
  | s :: t :: r, _ => by
    obtain ⟨u, hu, e⟩ := highOf_mem b (k := t :: r) (by simp)
    by_cases hle : highOf b (t :: r) ≤ at0 b s
    · exact ⟨s, List.mem_cons_self, by rw [highOf.eq_2 b s (t :: r), Nat.max_eq_left hle]⟩
    · exact ⟨u, List.mem_cons_of_mem _ hu, by rw [highOf.eq_2 b s (t :: r), Nat.max_eq_right (by omega), e]⟩
/-- the least lot of a kind, the most lot -/
def leastL (b k : List Nat) : List Nat := k.filter fun s => decide (at0 b s = lowOf b k)
def mostL (b k : List Nat) : List Nat := if 0 < highOf b k then k.filter fun s => decide (at0 b s = highOf b k) else []
theorem leastL_ne {b k : List Nat} (h : k ≠ []) : leastL b k ≠ [] := by
  obtain ⟨s, hs, e⟩ := lowOf_mem b h
  exact List.ne_nil_of_mem (a := s) (List.mem_filter.mpr ⟨hs, decide_eq_true e⟩)
theorem mostL_ne {b k : List Nat} (h : k ≠ []) (hp : 0 < highOf b k) : mostL b k ≠ [] := by
  obtain ⟨s, hs, e⟩ := highOf_mem b h
  unfold mostL
  rw [if_pos hp]
  exact List.ne_nil_of_mem (a := s) (List.mem_filter.mpr ⟨hs, decide_eq_true e⟩)
theorem mem_leastL {b k : List Nat} {s : Nat} : s ∈ leastL b k ↔ s ∈ k ∧ at0 b s = lowOf b k := by
  unfold leastL
  rw [List.mem_filter, decide_eq_true_eq]
theorem mem_mostL {b k : List Nat} {s : Nat} : s ∈ mostL b k ↔ s ∈ k ∧ at0 b s = highOf b k ∧ 0 < highOf b k := by
  unfold mostL
  by_cases hp : 0 < highOf b k
  · rw [if_pos hp, List.mem_filter, decide_eq_true_eq]
    exact ⟨fun h => ⟨h.1, h.2, hp⟩, fun h => ⟨h.1, h.2.1⟩⟩
  · rw [if_neg hp]
    exact ⟨fun h => absurd h (by simp), fun h => absurd h.2.2 hp⟩
/-- a deed: put or take, the position, the shelf -/
structure Deed where
  put : Bool
  pos : Nat
  sh : Nat
  deriving DecidableEq
def word (p : Bool) : Str := if p then "put" else "take"
def dD (d : Deed) : PyData := .tuple [.str (word d.put), dN d.pos, dN d.sh]
def bump (b : List Nat) (d : Deed) : List Nat := b.set d.sh (if d.put then at0 b d.sh + 1 else at0 b d.sh - 1)
theorem bump_len (b : List Nat) (d : Deed) : (bump b d).length = b.length := by unfold bump; rw [List.length_set]
/-- the lot of a deed on a board: of the kinds' bits -/
def kindAt (ds : List Nat) (i : Nat) : List Nat := spots (ds.getD i 0)
def custom (D S : List Nat) (b : List Nat) (d : Deed) : Bool := if d.put then decide (d.sh ∈ leastL b (kindAt D d.pos)) else decide (d.sh ∈ mostL b (kindAt S d.pos))
theorem getD_some {b : List Nat} {s : Nat} (h : s < b.length) : b[s]? = some (at0 b s) := by
  unfold at0
  rw [List.getD_eq_getElem?_getD, List.getElem?_eq_getElem h]
  rfl
theorem dN_get {b : List Nat} {s : Nat} (h : s < b.length) : (b.map dN)[s]? = some (dN (at0 b s)) := by
  rw [List.getElem?_map, getD_some h]
  rfl
end K33
namespace K33
open PySem PySem.Spec PyProof.Rows L2
section
variable {P : Program} {w : World} {K : PySem.W.Frag} {mg : Str → Option Value} {base : Heap} {C : Addr}
/-! boards -/
abbrev sp_is_board_of (C : Addr) : Sp := Fsp (fun i : (Nat × List Nat × List Nat) × List Nat => [Sto C i.1.1 i.1.2.1 i.1.2.2, Q2 (i.2.map dN)]) (fun i => i.2.length = i.1.1 ∧ i.1.1 ≤ 8 ∧ ∀ x ∈ i.2, x ≤ 60) (fun _ _ => B true)
theorem ok_is_board_of (T : Txt K mg) (U : Cl K mg C) : Dn P w K mg base 3 "is_board_of" p_is_board_of (sp_is_board_of C) := by
  refine dn_of T.d_is_board_of sc_is_board_of (fun _ _ _ _ _ _ us hl => match us, hl with | [_, _], _ => rfl) (len_of fun _ => rfl) fun f cdv A outer s H vs Q E hr h => ?_
  obtain ⟨⟨⟨n, ds, ss⟩, b⟩, ⟨v0, _, rfl, h0, v1, _, rfl, h1, rfl⟩, ⟨hl, hn, hb⟩, q⟩ := h
  dsimp only at h0 h1 hl hn hb q
  refine s_cons (s_skip (Wt.t ((w_or (b1 := false) (b2 := false) (t_not (b1 := true) (t_val (e_fn (b.map dN) (ok_is_list T) (hr.mono (by decide)) (a_cons (e_var 1 rfl h1) a_nil) trivial fun _ _ _ _ r => r))) fun _ => w_or1 ((t_neI (e_len T.b_len (a_cons (e_var 1 rfl h1) a_nil)) (e_shelves U (e_var 0 rfl h0))).eq ?_)))) fun H1 g1 => ?_)
  · simp [hl]
  have h1' : Q2 (b.map dN) H1 v1 := Mono.up g1 h1
  refine s_one (s_ret ((e_all (bs := b.map fun _ => true) T.b_all rfl (a_cons ((e_lcQ (enc := dN) (as := b) (g := fun _ => PyData.bool true) (R := fun _ _ => B true) 2 (blkOk_by (N := n_is_board_of) (sc := defScope s_is_board_of) (by decide +kernel)) (fun _ _ _ _ _ => pg_name (i := 2) sc_is_board_of.nd rfl (Or.inl rfl)) sc_is_board_of.nd (q2_var 1 h1') (by omega)
    (fun a ha x H2 g dx s0 H0 C cl fp => Evp.q (Evp.bl (e_and (e_fn (a : Int) (ok_is_count T) (hr.mono (by decide)) (a_cons (e_var 2 rfl dx) a_nil) trivial fun _ _ _ _ r => r) fun _ => e_one (e_le (e_var 2 rfl dx) (e_gi (T.c_MOST_PIECES).choose_spec))) ?_)) fun _ _ => kp_soft rfl).newD.eq (by rw [bools])) a_nil)).bl (all_true b)) fun v H2 g2 r => q v H2 (g1.tr g2) r)
  have := hb a ha
  simp
  omega
abbrev sp_want_board (C : Addr) : Sp := Fsp (fun i : (Nat × List Nat × List Nat) × List Nat => [Sto C i.1.1 i.1.2.1 i.1.2.2, Q2 (i.2.map dN)]) (fun i => i.2.length = i.1.1 ∧ i.1.1 ≤ 8 ∧ ∀ x ∈ i.2, x ≤ 60) (fun i _ => D (.tuple (i.2.map dN)))
theorem ok_want_board (T : Txt K mg) (U : Cl K mg C) : Dn P w K mg base 4 "want_board" p_want_board (sp_want_board C) := by
  refine dn_of T.d_want_board sc_want_board (fun _ _ _ _ _ _ us hl => match us, hl with | [_, _], _ => rfl) (len_of fun _ => rfl) fun f cdv A outer s H vs Q E hr h => ?_
  obtain ⟨⟨⟨n, ds, ss⟩, b⟩, ⟨v0, _, rfl, h0, v1, _, rfl, h1, rfl⟩, hp, q⟩ := h
  refine s_cons (s_skip (t_not (b1 := true) (t_val (e_fn ((n, ds, ss), b) (ok_is_board_of T U) hr (a_cons (e_var 0 rfl h0) (a_cons (e_var 1 rfl h1) a_nil)) hp fun _ _ _ _ r => r))) fun H1 g1 => ?_)
  exact s_one (s_ret (e_tuple T.b_tuple (a_cons (e_var 1 rfl (Mono.up g1 h1)) a_nil)) fun v H2 g2 r => q v H2 (g1.tr g2) r)
/-- a kind of the board: not empty, within -/
def KindOn (b k : List Nat) : Prop := k ≠ [] ∧ ∀ s ∈ k, s < b.length
abbrev sp_least_in : Sp := Fsp (fun i : List Nat × Nat => [D (.tuple (i.1.map dN)), I (i.2 : Int)]) (fun i => KindOn i.1 (spots i.2)) (fun i _ => I (bitsOf (leastL i.1 (spots i.2)) : Int))
theorem ok_least_in (T : Txt K mg) : Dn P w K mg base 2 "least_in" p_least_in sp_least_in := by
  refine dn_of T.d_least_in sc_least_in (fun _ _ _ _ _ _ us hl => match us, hl with | [_, _], _ => rfl) (len_of fun _ => rfl) fun f cdv A outer s H vs Q E hr h => ?_
  obtain ⟨⟨b, k⟩, ⟨v0, _, rfl, h0, v1, _, rfl, h1, rfl⟩, ⟨hne, hin⟩, q⟩ := h
  dsimp only at h0 h1 hne hin q
  refine s_cons (s_set 2 sc_least_in.nd (e_fn k (ok_spots_of T) hr (a_cons (e_var 1 rfl h1) a_nil) trivial (S := D (.tuple ((spots k).map dN))) fun _ _ _ _ r => r) fun u H1 g1 hu => ?_)
  have hz := spots_len k
  obtain ⟨m, hm, em⟩ := lowOf_mem b hne
  refine s_cons (s_set 3 sc_least_in.nd (e_min (ns := zs ((spots k).map (at0 b))) (mn := (lowOf b (spots k) : Int)) T.b_min rfl (a_cons ((e_lcT (enc := dN) (as := spots k) (g := fun s => dN (at0 b s)) (R := fun s _ => D (dN (at0 b s))) 4 (blkOk_by (N := n_least_in) (sc := defScope s_least_in) (by decide +kernel)) (fun _ _ _ _ _ => pg_name (i := 4) sc_least_in.nd rfl (Or.inl rfl)) sc_least_in.nd (e_var 2 rfl hu) (by omega)
    (fun a ha x H2 g dx s0 H0 C cl fp => Evp.q (e_ixT (n := a) (e_var 0 rfl (Dt.up (g1.tr g) h0)) (e_var 4 rfl dx) (dN_get (hin a ha)))) (fun _ _ => kp_soft rfl)).newD.eq (by rw [← dN_map, List.map_map]; rfl)) a_nil) ?_ ?_) fun u2 H2 g2 hu2 => ?_)
  · exact mem_zs.mpr (List.mem_map.mpr ⟨m, hm, em⟩)
  · intro y hy
    obtain ⟨y', rfl, hy'⟩ := of_mem_zs hy
    obtain ⟨t, ht, rfl⟩ := List.mem_map.mp hy'
    have := lowOf_le b ht
    omega
  have g12 := g1.tr g2
  refine s_one (s_ret (e_fn (leastL b (spots k)) (ok_bits_of T) hr (a_cons ((e_lcTi (enc := dN) (as := spots k) (pp := fun s => decide (at0 b s = lowOf b (spots k))) (g := dN) (R := fun s _ => D (dN s)) 4 (blkOk_by (N := n_least_in) (sc := defScope s_least_in) (by decide +kernel)) (fun _ _ _ _ _ => pg_name (i := 4) sc_least_in.nd rfl (Or.inl rfl)) sc_least_in.nd (e_var 2 rfl (Dt.up g2 hu)) (by omega)
    (fun a ha x H3 g dx s0 H0 C cl fp => (t_eqI (e_ixT (n := a) (e_var 0 rfl (Dt.up (g12.tr g) h0)) (e_var 4 rfl dx) (dN_get (hin a ha))) (e_var 3 rfl (Dt.up g hu2))).eq (decide_eq_decide.mpr (by omega))) (fun a ha _ x H3 g dx s0 H0 C cl fp => Evp.q (e_var 4 rfl dx)) (fun _ _ => kp_soft rfl)).imp fun _ _ _ r => .inl r.d) a_nil) (fun s hs => by have := spots_lt (mem_leastL.mp hs).1; omega) (S := I (bitsOf (leastL b (spots k)) : Int)) fun _ _ _ _ r => r) fun v H3 g3 r => q v H3 (g12.tr g3) r)
abbrev sp_most_in : Sp := Fsp (fun i : List Nat × Nat => [D (.tuple (i.1.map dN)), I (i.2 : Int)]) (fun i => KindOn i.1 (spots i.2)) (fun i _ => I (bitsOf (mostL i.1 (spots i.2)) : Int))
theorem ok_most_in (T : Txt K mg) : Dn P w K mg base 2 "most_in" p_most_in sp_most_in := by
  refine dn_of T.d_most_in sc_most_in (fun _ _ _ _ _ _ us hl => match us, hl with | [_, _], _ => rfl) (len_of fun _ => rfl) fun f cdv A outer s H vs Q E hr h => ?_
  obtain ⟨⟨b, k⟩, ⟨v0, _, rfl, h0, v1, _, rfl, h1, rfl⟩, ⟨hne, hin⟩, q⟩ := h
  dsimp only at h0 h1 hne hin q
  refine s_cons (s_set 2 sc_most_in.nd (e_fn k (ok_spots_of T) hr (a_cons (e_var 1 rfl h1) a_nil) trivial (S := D (.tuple ((spots k).map dN))) fun _ _ _ _ r => r) fun u H1 g1 hu => ?_)
  have hz := spots_len k
  obtain ⟨m, hm, em⟩ := highOf_mem b hne
  refine s_cons (s_set 3 sc_most_in.nd (e_max (ns := zs ((spots k).map (at0 b))) (mn := (highOf b (spots k) : Int)) T.b_max rfl (a_cons ((e_lcT (enc := dN) (as := spots k) (g := fun s => dN (at0 b s)) (R := fun s _ => D (dN (at0 b s))) 4 (blkOk_by (N := n_most_in) (sc := defScope s_most_in) (by decide +kernel)) (fun _ _ _ _ _ => pg_name (i := 4) sc_most_in.nd rfl (Or.inl rfl)) sc_most_in.nd (e_var 2 rfl hu) (by omega)
    (fun a ha x H2 g dx s0 H0 C cl fp => Evp.q (e_ixT (n := a) (e_var 0 rfl (Dt.up (g1.tr g) h0)) (e_var 4 rfl dx) (dN_get (hin a ha)))) (fun _ _ => kp_soft rfl)).newD.eq (by rw [← dN_map, List.map_map]; rfl)) a_nil) ?_ ?_) fun u2 H2 g2 hu2 => ?_)
  · exact mem_zs.mpr (List.mem_map.mpr ⟨m, hm, em⟩)
  · intro y hy
    obtain ⟨y', rfl, hy'⟩ := of_mem_zs hy
    obtain ⟨t, ht, rfl⟩ := List.mem_map.mp hy'
    have := highOf_ge b ht
    omega
  have g12 := g1.tr g2
  refine s_one (s_ret (e_if (P := I (bitsOf (mostL b (spots k)) : Int)) (t_gt (e_var 3 rfl hu2) e_int) (fun hp => ?_) (fun hp => ?_)) fun v H3 g3 r => q v H3 (g12.tr g3) r)
  · have hp' : 0 < highOf b (spots k) := by have := of_decide_eq_true hp; omega
    have e : mostL b (spots k) = (spots k).filter fun s => decide (at0 b s = highOf b (spots k)) := by unfold mostL; rw [if_pos hp']
    rw [e]
    exact e_fn ((spots k).filter fun s => decide (at0 b s = highOf b (spots k))) (ok_bits_of T) hr (a_cons ((e_lcTi (enc := dN) (as := spots k) (pp := fun s => decide (at0 b s = highOf b (spots k))) (g := dN) (R := fun s _ => D (dN s)) 4 (blkOk_by (N := n_most_in) (sc := defScope s_most_in) (by decide +kernel)) (fun _ _ _ _ _ => pg_name (i := 4) sc_most_in.nd rfl (Or.inl rfl)) sc_most_in.nd (e_var 2 rfl (Dt.up g2 hu)) (by omega)
      (fun a ha x H3 g dx s0 H0 C cl fp => (t_eqI (e_ixT (n := a) (e_var 0 rfl (Dt.up (g12.tr g) h0)) (e_var 4 rfl dx) (dN_get (hin a ha))) (e_var 3 rfl (Dt.up g hu2))).eq (decide_eq_decide.mpr (by omega))) (fun a ha _ x H3 g dx s0 H0 C cl fp => Evp.q (e_var 4 rfl dx)) (fun _ _ => kp_soft rfl)).imp fun _ _ _ r => .inl r.d) a_nil) (fun s hs => by have := spots_lt (List.mem_filter.mp hs).1; omega) fun _ _ _ _ r => r
  · have hp' : ¬ 0 < highOf b (spots k) := by have := of_decide_eq_false hp; omega
    have e : mostL b (spots k) = [] := by unfold mostL; rw [if_neg hp']
    rw [e]
    exact e_int
/-! deeds -/
abbrev sp_is_one_of : Sp := Fsp (fun i : List Nat × Nat × Nat => [D (.tuple (i.1.map dN)), I (i.2.1 : Int), I (i.2.2 : Int)]) (fun i => i.2.1 < i.1.length ∧ i.2.2 < 8) (fun i _ => B ((i.1.getD i.2.1 0).testBit i.2.2))
theorem ok_is_one_of (T : Txt K mg) : Dn P w K mg base 3 "is_one_of" p_is_one_of sp_is_one_of := by
  refine dn_of T.d_is_one_of sc_is_one_of (fun _ _ _ _ _ _ us hl => match us, hl with | [_, _, _], _ => rfl) (len_of fun _ => rfl) fun f cdv A outer s H vs Q E hr h => ?_
  obtain ⟨⟨ks, p, sh⟩, ⟨v0, _, rfl, h0, v1, _, rfl, h1, v2, _, rfl, h2, rfl⟩, ⟨hp, hs⟩, q⟩ := h
  dsimp only at h0 h1 h2 hp hs q
  refine s_cons (s_skip (Wt.t ((w_or (b1 := false) (b2 := false) ((t_not (t_val (e_fn (p : Int) (ok_is_count T) hr (a_cons (e_var 1 rfl h1) a_nil) trivial fun _ _ _ _ r => r))).eq (by simp)) fun _ => w_or (b1 := false) (b2 := false) ((t_ge (e_var 1 rfl h1) (e_len T.b_len (a_cons (P := Q2 (ks.map dN)) (e_var 0 rfl (.inr h0)) a_nil))).eq (by simp; omega)) fun _ =>
    w_or (b1 := false) (b2 := false) ((t_not (t_val (e_fn (sh : Int) (ok_is_count T) hr (a_cons (e_var 2 rfl h2) a_nil) trivial fun _ _ _ _ r => r))).eq (by simp)) fun _ => w_or1 ((t_ge (e_var 2 rfl h2) (e_gi (T.c_MOST_SHELVES).choose_spec)).eq (by simp; omega))))) fun H1 g1 => ?_)
  exact s_one (s_ret ((e_eqI (e_band (e_shr (e_ixT (n := p) (d := dN (ks.getD p 0)) (e_var 0 rfl (Dt.up g1 h0)) (e_var 1 rfl (Dt.up g1 h1)) (dN_get hp)) (e_var 2 rfl (Dt.up g1 h2)) (by omega)) e_int) e_int).bl (bit_test _ _)) fun v H2 g2 r => q v H2 (g1.tr g2) r)
/-- a deed of a store -/
def DeedOk (ds ss : List Nat) (d : Deed) : Prop := d.pos < (if d.put then ds else ss).length ∧ d.sh ∈ kindAt (if d.put then ds else ss) d.pos
theorem word_ne {p : Bool} : (decide (word p = ("put" : Str))) = p := by cases p <;> decide
theorem word_ne2 {p : Bool} : (decide (word p = ("take" : Str))) = !p := by cases p <;> decide
theorem word_ne3 {p : Bool} : (decide (word p = ("miss" : Str))) = false := by cases p <;> decide
end
end K33
namespace K33
open PySem PySem.Spec PyProof.Rows L2
section
variable {X : Cx} {σ : L2.St} {H : Hp} {a b e : Expr} {pos : Pos} {i : Int} {ds es : List PyData} {d : PyData}
theorem t_ninT {ns : List Int} (ha : E X a σ H (I i)) (hb : E X b σ H (D (.tuple (ns.map .int)))) (hm : behindInMarks .NotIn b = false := by with_unfolding_all rfl) : T X (.Compare a [.NotIn] [b] pos) σ H (!decide (i ∈ ns)) :=
  t_cmp op_notIn_seq ha hb (fun H1 _ x y px py Q q => by
    obtain ⟨p, xs, rfl, hp, hx⟩ := Dt.tup_eq py
    obtain rfl := hx.ints
    obtain rfl := Dt.int_eq px
    exact ⟨p, _, rfl, .inr (.inl (.inl hp)), rfl, flat_ints ns, by rw [inV_ints]; exact q _ H1 (Gr.refl _) (.bl _)⟩) hm
theorem e_catT (ha : E X a σ H (D (.tuple ds))) (hb : E X b σ H (D (.tuple es))) (hz : ds.length + es.length ≤ 1000) : E X (.BinOp a .Add b pos) σ H (D (.tuple (ds ++ es))) :=
  e_op op_catA ha hb fun H1 _ x y px py Q q => by
    obtain ⟨p, xs, rfl, hp, hx⟩ := Dt.tup_eq px
    obtain ⟨l, ys, rfl, hl, hy⟩ := Dt.tup_eq py
    refine ⟨p, l, xs, ys, rfl, rfl, .inl (.inl hp), .inl (.inl hl), by rw [hx.len, hy.len]; exact Nat.le_of_lt (small1000 hz), fun e0 => ?_, fun _ e0 => ?_, fun _ _ z hz => q _ _ (Gr.new hz) (.tup upd_same ((hx.app hy).up (Gr.new hz)))⟩
    · subst e0
      cases hx
      exact q _ H1 (Gr.refl _) (.tup hl hy)
    · subst e0
      cases hy
      rw [List.append_nil] at q
      exact q _ H1 (Gr.refl _) (.tup hp hx)
theorem t_notNone {t : Nat} {p2 : Pos} (ha : E X a σ H (D .none)) : T X (.Compare a [.IsNot] [.Constant .none t p2] pos) σ H false :=
  t_cmp op_notN ha e_non fun H1 _ x y px py Q q => ⟨Dt.non_eq py, by rw [Dt.non_eq px]; exact q _ H1 (Gr.refl _) (.bl _)⟩
end
/-! plain: histories played -/
def dB (b : List Nat) : PyData := .tuple (b.map dN)
def scan (b : List Nat) : List Deed → List (List Nat)
  | [] => [b]
  | d :: r => b :: scan (bump b d) r
def finB (b : List Nat) (hs : List Deed) : List Nat := hs.foldl bump b
theorem scan_len (b : List Nat) (hs : List Deed) : (scan b hs).length = hs.length + 1 := by
  induction hs generalizing b with
  | nil => rfl
  | cons d r ih => unfold scan; rw [List.length_cons, ih, List.length_cons]
theorem finB_snoc (b : List Nat) (hs : List Deed) (d : Deed) : finB b (hs ++ [d]) = bump (finB b hs) d := by unfold finB; rw [List.foldl_append]; rfl
theorem scan_snoc (b : List Nat) (hs : List Deed) (d : Deed) : scan b (hs ++ [d]) = scan b hs ++ [bump (finB b hs) d] := by
  induction hs generalizing b with
  | nil => rfl
  | cons e r ih =>
    show b :: scan (bump b e) (r ++ [d]) = b :: (scan (bump b e) r ++ [bump (finB (bump b e) r) d])
    rw [ih]
theorem scan_last (b : List Nat) (hs : List Deed) : (scan b hs)[(scan b hs).length - 1]? = some (finB b hs) := by
  induction hs generalizing b with
  | nil => rfl
  | cons e r ih =>
    have h := ih (bump b e)
    rw [scan_len] at h ⊢
    show (b :: scan (bump b e) r)[r.length + 1 + 1 - 1]? = _
    rw [show r.length + 1 + 1 - 1 = r.length + 1 by omega, List.getElem?_cons_succ]
    exact h
/-- the numbers stay within 0 .. 60 -/
def BumpOk (b : List Nat) (d : Deed) : Prop := d.sh < b.length ∧ b.length ≤ 8 ∧ (if d.put then at0 b d.sh + 1 ≤ 60 else 1 ≤ at0 b d.sh ∧ at0 b d.sh ≤ 60)
def StepOk (ds ss : List Nat) (b : List Nat) (d : Deed) : Prop := DeedOk ds ss d ∧ KindOn b (kindAt (if d.put then ds else ss) d.pos) ∧ custom ds ss b d = true ∧ BumpOk b d
def HistOk (ds ss : List Nat) : List Nat → List Deed → Prop
  | _, [] => True
  | b, d :: r => StepOk ds ss b d ∧ HistOk ds ss (bump b d) r
theorem HistOk.at {ds ss : List Nat} : ∀ {b : List Nat} {hs : List Deed}, HistOk ds ss b hs → ∀ {i : Nat} {d : Deed}, hs[i]? = some d → StepOk ds ss (finB b (hs.take i)) d
  | _, [], _, i, d, h => by simp at h
  | b, e :: r, h, 0, d, hd => by simp at hd; subst hd; exact h.1
  | b, e :: r, h, i + 1, d, hd => by
    simp at hd
    exact HistOk.at h.2 hd
theorem soft_dB (b : List Nat) : soft (dB b) = true := soft_nats b
theorem soft_all {α : Type} (f : α → PyData) (h : ∀ a, soft (f a) = true) (l : List α) : softA (l.map f) = true := by
  induction l with
  | nil => rfl
  | cons x r ih => show (soft (f x) && softA (r.map f)) = true; rw [ih, h x]; rfl
theorem soft_dD (d : Deed) : soft (dD d) = true := rfl
theorem take_more1 {α : Type} {l : List α} {i : Nat} {a : α} (h : l[i]? = some a) : l.take (i + 1) = l.take i ++ [a] := by rw [List.take_add_one, h]; rfl
theorem set_parts {α : Type} {l : List α} {k : Nat} (h : k < l.length) (x : α) : l.set k x = l.take k ++ x :: l.drop (k + 1) := by
  rw [List.set_eq_take_append_cons_drop, if_pos h]
section
variable {P : Program} {w : World} {K : PySem.W.Frag} {mg : Str → Option Value} {base : Heap} {C : Addr}
abbrev SI : Type := Nat × List Nat × List Nat
abbrev sp_is_deed_of (C : Addr) : Sp := Fsp (fun i : SI × Deed => [Sto C i.1.1 i.1.2.1 i.1.2.2, D (dD i.2)]) (fun i => DeedOk i.1.2.1 i.1.2.2 i.2) (fun _ _ => B true)
theorem ok_is_deed_of (T : Txt K mg) (U : Cl K mg C) : Dn P w K mg base 4 "is_deed_of" p_is_deed_of (sp_is_deed_of C) := by
  refine dn_of T.d_is_deed_of sc_is_deed_of (fun _ _ _ _ _ _ us hl => match us, hl with | [_, _], _ => rfl) (len_of fun _ => rfl) fun f cdv A outer s H vs Q E hr h => ?_
  obtain ⟨⟨⟨n, ds, ss⟩, d⟩, ⟨v0, _, rfl, h0, v1, _, rfl, h1, rfl⟩, hd, q⟩ := h
  dsimp only at h0 h1 hd q
  have h1 : Dt H v1 (.tuple [.str (word d.put), dN d.pos, dN d.sh]) := h1
  have hu := hr.units
  refine s_cons (s_skip (Wt.t ((w_or (b1 := false) (b2 := false) (t_not (b1 := true) (t_val (e_isTy T.b_isinstance (e_var (P := D (.tuple [.str (word d.put), dN d.pos, dN d.sh])) 1 rfl h1) (e_ty PyProof.Rows.boot_tuple T.b_tuple) (fun _ _ h => ty_tup h) (b1 := true) (by decide +kernel)))) fun _ =>
    w_or (b1 := false) (b2 := false) ((t_ninT (ns := [2, 3]) (e_len T.b_len (a_cons (P := Q2 _) (e_var 1 rfl (.inr h1)) a_nil)) ((e_tup (d_cons e_int (d_cons e_int d_nil))).eq rfl)).eq (by simp)) fun _ =>
    w_or1 (t_not (b1 := true) (t_val (e_isTy T.b_isinstance (e_ixT (n := 0) (d := .str (word d.put)) (e_var 1 rfl h1) e_int rfl) (e_ty PyProof.Rows.boot_str T.b_str) (fun _ _ h => ty_str h) (b1 := true) (by decide +kernel))))))) fun H1 g1 => ?_)
  have h1' := Dt.up g1 h1
  refine s_cons (s_skip ((t_eqI (e_len T.b_len (a_cons (P := Q2 _) (e_var 1 rfl (.inr h1')) a_nil)) e_int).eq (by simp)) fun H2 g2 => ?_)
  have h2 := Dt.up g2 h1'
  have g12 := g1.tr g2
  obtain ⟨hp, hs⟩ := hd
  have h8 : d.sh < 8 := spots_lt hs
  refine s_cons (s_if ((t_eqS (e_ixT (n := 0) (d := .str (word d.put)) (e_var 1 rfl h2) e_int rfl) (e_gs (T.c_PUT).choose_spec)).eq word_ne) (fun hb H3 g3 => ?_) (fun hb H3 g3 => s_nil ?_))
  · simp only [hb, if_true] at hp hs
    refine s_one (s_ret (e_fn (ds, d.pos, d.sh) (ok_is_one_of T) hr (a_cons (e_deliv U (e_var 0 rfl (Mono.up (g12.tr g3) h0))) (a_cons (e_ixT (n := 1) (d := dN d.pos) (e_var 1 rfl (Dt.up g3 h2)) e_int rfl) (a_cons (e_ixT (n := 2) (d := dN d.sh) (e_var 1 rfl (Dt.up g3 h2)) e_int rfl) a_nil))) ⟨hp, h8⟩ (S := B true) fun _ _ _ _ r => ?_) fun v H4 g4 r => q v H4 ((g12.tr g3).tr g4) r)
    have e := (spots_mem.mp hs).2
    have z : B ((ds.getD d.pos 0).testBit d.sh) _ _ := r
    rw [e] at z
    exact z
  · simp only [hb, Bool.false_eq_true, if_false] at hp hs
    have hw : decide (word d.put = ("take" : Str)) = true := by rw [word_ne2, hb]; rfl
    refine s_one (s_ret ((e_and (e_eqS (e_ixT (n := 0) (d := .str (word d.put)) (e_var 1 rfl (Dt.up g3 h2)) e_int rfl) (e_gs (T.c_TAKE).choose_spec)) fun _ => e_one (e_fn (ss, d.pos, d.sh) (ok_is_one_of T) hr (a_cons (e_sales U (e_var 0 rfl (Mono.up (g12.tr g3) h0))) (a_cons (e_ixT (n := 1) (d := dN d.pos) (e_var 1 rfl (Dt.up g3 h2)) e_int rfl) (a_cons (e_ixT (n := 2) (d := dN d.sh) (e_var 1 rfl (Dt.up g3 h2)) e_int rfl) a_nil))) ⟨hp, h8⟩ (S := B true) fun _ _ _ _ r => ?_)).bl (by rw [hw]; rfl)) fun v H4 g4 r => q v H4 ((g12.tr g3).tr g4) r)
    have e := (spots_mem.mp hs).2
    have z : B ((ss.getD d.pos 0).testBit d.sh) _ _ := r
    rw [e] at z
    exact z
abbrev sp_want_history (C : Addr) : Sp := Fsp (fun i : SI × List Deed => [Sto C i.1.1 i.1.2.1 i.1.2.2, Q2 (i.2.map dD)]) (fun i => i.2.length ≤ 200 ∧ ∀ d ∈ i.2, DeedOk i.1.2.1 i.1.2.2 d) (fun i _ => D (.tuple (i.2.map dD)))
theorem ok_want_history (T : Txt K mg) (U : Cl K mg C) : Dn P w K mg base 5 "want_history" p_want_history (sp_want_history C) := by
  refine dn_of T.d_want_history sc_want_history (fun _ _ _ _ _ _ us hl => match us, hl with | [_, _], _ => rfl) (len_of fun _ => rfl) fun f cdv A outer s H vs Q E hr h => ?_
  obtain ⟨⟨⟨n, ds, ss⟩, hs⟩, ⟨v0, _, rfl, h0, v1, _, rfl, h1, rfl⟩, ⟨hl, hd⟩, q⟩ := h
  dsimp only at h0 h1 hl hd q
  refine s_cons (s_skip (Wt.t ((w_or (b1 := false) (b2 := false) (t_not (b1 := true) (t_val (e_fn (hs.map dD) (ok_is_list T) (hr.mono (by decide)) (a_cons (e_var 1 rfl h1) a_nil) trivial fun _ _ _ _ r => r))) fun _ =>
    w_or (b1 := false) (b2 := false) ((t_gt (e_len T.b_len (a_cons (e_var 1 rfl h1) a_nil)) (e_gi (T.c_MOST_DEEDS).choose_spec)).eq (by simp; omega)) fun _ =>
    w_or1 (t_not (b1 := true) (t_val ((e_all (bs := hs.map fun _ => true) T.b_all rfl (a_cons ((e_lcQ (enc := dD) (as := hs) (g := fun _ => PyData.bool true) (R := fun _ _ => B true) 2 (blkOk_by (N := n_want_history) (sc := defScope s_want_history) (by decide +kernel)) (fun _ _ _ _ _ => pg_name (i := 2) sc_want_history.nd rfl (Or.inl rfl)) sc_want_history.nd (q2_var 1 h1) (by omega)
      (fun a ha x H2 g dx s0 H0 C0 cl fp => Evp.q (e_fn ((n, ds, ss), a) (ok_is_deed_of T U) hr (a_cons (e_var 0 rfl (Mono.up g h0)) (a_cons (e_var 2 rfl dx) a_nil)) (hd a ha) fun _ _ _ _ r => r)) fun _ _ => kp_soft rfl).newD.eq (by rw [bools])) a_nil)).bl (all_true hs))))))) fun H1 g1 => ?_)
  exact s_one (s_ret (e_tuple T.b_tuple (a_cons (e_var 1 rfl (Mono.up g1 h1)) a_nil)) fun v H2 g2 r => q v H2 (g1.tr g2) r)
abbrev sp_is_by_custom (C : Addr) : Sp := Fsp (fun i : SI × List Nat × Deed => [Sto C i.1.1 i.1.2.1 i.1.2.2, D (dB i.2.1), D (dD i.2.2)]) (fun i => DeedOk i.1.2.1 i.1.2.2 i.2.2 ∧ KindOn i.2.1 (kindAt (if i.2.2.put then i.1.2.1 else i.1.2.2) i.2.2.pos)) (fun i _ => B (custom i.1.2.1 i.1.2.2 i.2.1 i.2.2))
theorem ok_is_by_custom (T : Txt K mg) (U : Cl K mg C) : Dn P w K mg base 3 "is_by_custom" p_is_by_custom (sp_is_by_custom C) := by
  refine dn_of T.d_is_by_custom sc_is_by_custom (fun _ _ _ _ _ _ us hl => match us, hl with | [_, _, _], _ => rfl) (len_of fun _ => rfl) fun f cdv A outer s H vs Q E hr h => ?_
  obtain ⟨⟨⟨n, ds, ss⟩, b, d⟩, ⟨v0, _, rfl, h0, v1, _, rfl, h1, v2, _, rfl, h2, rfl⟩, ⟨hd, hk⟩, q⟩ := h
  dsimp only at h0 h1 h2 hd hk q
  have h2 : Dt H v2 (.tuple [.str (word d.put), dN d.pos, dN d.sh]) := h2
  obtain ⟨hp, hs⟩ := hd
  refine s_cons (s_if ((t_eqS (e_ixT (n := 0) (d := .str (word d.put)) (e_var 2 rfl h2) e_int rfl) (e_gs (T.c_PUT).choose_spec)).eq word_ne) (fun hb H1 g1 => ?_) (fun hb H1 g1 => s_nil ?_))
  · simp only [hb, if_true] at hp hs hk
    have h2' := Dt.up g1 h2
    refine s_one (s_ret ((e_eqI (e_band (e_shr (e_fn (b, ds.getD d.pos 0) (ok_least_in T) hr (a_cons (e_var 1 rfl (Dt.up g1 h1)) (a_cons (e_ixT (n := d.pos) (d := dN (ds.getD d.pos 0)) (e_deliv U (e_var 0 rfl (Mono.up g1 h0))) (e_ixT (n := 1) (d := dN d.pos) (e_var 2 rfl h2') e_int rfl) (dN_get hp)) a_nil)) hk (S := I _) fun _ _ _ _ r => r) (e_ixT (n := 2) (d := dN d.sh) (e_var 2 rfl h2') e_int rfl) (by omega)) e_int) e_int).bl ?_) fun v H2 g2 r => q v H2 (g1.tr g2) r)
    rw [bit_test, bits_test]
    unfold custom
    rw [if_pos hb]
    rfl
  · simp only [hb, Bool.false_eq_true, if_false] at hp hs hk
    have h2' := Dt.up g1 h2
    refine s_cons (s_set 3 sc_is_by_custom.nd (e_fn (b, ss.getD d.pos 0) (ok_most_in T) hr (a_cons (e_var 1 rfl (Dt.up g1 h1)) (a_cons (e_ixT (n := d.pos) (d := dN (ss.getD d.pos 0)) (e_sales U (e_var 0 rfl (Mono.up g1 h0))) (e_ixT (n := 1) (d := dN d.pos) (e_var 2 rfl h2') e_int rfl) (dN_get hp)) a_nil)) hk (S := I _) fun _ _ _ _ r => r) fun u H2 g2 hu => ?_)
    have h2'' := Dt.up g2 h2'
    refine s_one (s_ret (e_if (P := B (custom ds ss b d)) ((t_eqS (e_ixT (n := 0) (d := .str (word d.put)) (e_var 2 rfl h2'') e_int rfl) (e_gs (T.c_MISS).choose_spec)).eq word_ne3) (fun z => nomatch z) fun _ => ((e_eqI (e_band (e_shr (e_var 3 rfl hu) (e_ixT (n := 2) (d := dN d.sh) (e_var 2 rfl h2'') e_int rfl) (by omega)) e_int) e_int).bl ?_)) fun v H3 g3 r => q v H3 ((g1.tr g2).tr g3) r)
    rw [bit_test, bits_test]
    unfold custom
    rw [hb]
    rfl
abbrev sp_behind : Sp := Fsp (fun i : List Nat × Deed => [D (dB i.1), D (dD i.2)]) (fun i => BumpOk i.1 i.2) (fun i _ => D (dB (bump i.1 i.2)))
theorem ok_behind (T : Txt K mg) : Dn P w K mg base 2 "behind" p_behind sp_behind := by
  refine dn_of T.d_behind sc_behind (fun _ _ _ _ _ _ us hl => match us, hl with | [_, _], _ => rfl) (len_of fun _ => rfl) fun f cdv A outer s H vs Q E hr h => ?_
  obtain ⟨⟨b, d⟩, ⟨v0, _, rfl, h0, v1, _, rfl, h1, rfl⟩, ⟨hlt, h8, hnum⟩, q⟩ := h
  dsimp only at h0 h1 hlt h8 hnum q
  have h0 : Dt H v0 (.tuple (b.map dN)) := h0
  have h1 : Dt H v1 (.tuple [.str (word d.put), dN d.pos, dN d.sh]) := h1
  refine s_cons (s_skip ((t_eqS (e_ixT (n := 0) (d := .str (word d.put)) (e_var 1 rfl h1) e_int rfl) (e_gs (T.c_MISS).choose_spec)).eq word_ne3) fun H1 g1 => ?_)
  have a0 := Dt.up g1 h0
  have a1 := Dt.up g1 h1
  let x : Nat := if d.put then at0 b d.sh + 1 else at0 b d.sh - 1
  have hx : x ≤ 60 := by
    show (if d.put then at0 b d.sh + 1 else at0 b d.sh - 1) ≤ 60
    split at hnum <;> simp_all <;> omega
  refine s_cons (s_set 2 sc_behind.nd ((e_add (e_ixT (n := d.sh) (d := dN (at0 b d.sh)) (e_var 0 rfl a0) (e_ixT (n := 2) (d := dN d.sh) (e_var 1 rfl a1) e_int rfl) (dN_get hlt)) (e_if (P := I (if d.put then 1 else -1)) ((t_eqS (e_ixT (n := 0) (d := .str (word d.put)) (e_var 1 rfl a1) e_int rfl) (e_gs (T.c_PUT).choose_spec)).eq word_ne) (fun hb => by rw [if_pos hb]; exact e_int) (fun hb => by rw [hb]; exact e_neg e_int))).int (j := (x : Int)) ?_) fun u H2 g2 hu => ?_)
  · show ((at0 b d.sh : Nat) : Int) + _ = ((if d.put then at0 b d.sh + 1 else at0 b d.sh - 1 : Nat) : Int)
    split at hnum <;> simp_all <;> omega
  have b0 := Dt.up g2 a0
  have b1 := Dt.up g2 a1
  refine s_cons (s_expr (e_fn (("pieces" : Str), (60 : Int), (x : Int)) (ok_want_at_most T) hr (a_cons e_str (a_cons (e_gi (T.c_MOST_PIECES).choose_spec) (a_cons (e_var 2 rfl hu) a_nil))) (by show (x : Int) ≤ 60; omega) (S := Any) fun _ _ _ _ _ => trivial) fun _ H3 g3 _ => ?_)
  have c0 := Dt.up g3 b0
  have c1 := Dt.up g3 b1
  have hu3 := Dt.up g3 hu
  have cut : Dt H3 v0 (.tuple (b.map dN)) := c0
  refine s_one (s_ret (((e_catT (e_catT (e_slT (lo := none) (l := none) (u := some (d.sh : Int)) (e_var 0 rfl c0) po_none o_none (po_some (pE _ _)) (o_some (e_ixT (n := 2) (d := dN d.sh) (e_var 1 rfl c1) e_int rfl))) (e_tup (d_cons (e_var 2 rfl hu3) d_nil) (by simp)) ?_)
    (e_slT (hi := none) (l := some ((d.sh : Int) + 1)) (u := none) (e_var 0 rfl c0) (po_some (pE _ _)) (o_some (e_add (e_ixT (n := 2) (d := dN d.sh) (e_var 1 rfl c1) e_int rfl) e_int)) po_none o_none) ?_).eq ?_)) fun v H4 g4 r => q v H4 (((g1.tr g2).tr g3).tr g4) r)
  · simp only [List.length_take, List.length_drop, List.length_map, List.length_cons, List.length_nil]
    omega
  · simp only [List.length_append, List.length_take, List.length_drop, List.length_map, List.length_cons, List.length_nil]
    omega
  · have e1 : HT.sIx (b.map dN).length (b.map dN).length (some (d.sh : Int)) = d.sh := by rw [HT.sIx_nat, List.length_map]; omega
    have e2 : HT.sIx (b.map dN).length 0 (some ((d.sh : Int) + 1)) = d.sh + 1 := by
      rw [show ((d.sh : Int) + 1) = ((d.sh + 1 : Nat) : Int) by omega, HT.sIx_nat, List.length_map]; omega
    rw [e1, e2, HT.sIx_none, HT.sIx_none]
    show PyData.tuple ((((b.map dN).drop 0).take (d.sh - 0) ++ [dN x]) ++ ((b.map dN).drop (d.sh + 1)).take ((b.map dN).length - (d.sh + 1))) = .tuple ((b.set d.sh x).map dN)
    rw [set_parts hlt, List.drop_zero, Nat.sub_zero, List.map_append, List.map_take, List.map_cons, List.map_drop, List.append_assoc]
    rw [List.take_of_length_le (l := (b.map dN).drop (d.sh + 1)) (by rw [List.length_drop]; exact Nat.le_refl _)]
    rfl
end
end K33
namespace K33
open PySem PySem.Spec PyProof.Rows L2
theorem HistOk.deeds {ds ss : List Nat} : ∀ {b : List Nat} {hs : List Deed}, HistOk ds ss b hs → ∀ d ∈ hs, DeedOk ds ss d
  | _, [], _, d, h => by simp at h
  | b, e :: r, h, d, hd => by
    rcases List.mem_cons.mp hd with z | z
    · subst z; exact h.1.1
    · exact HistOk.deeds h.2 d z
theorem scan_last' (b : List Nat) (hs : List Deed) : ((scan b hs).map dB)[((scan b hs).map dB).length - 1]? = some (dB (finB b hs)) := by
  rw [List.length_map, List.getElem?_map, scan_last]
  rfl
theorem soft_scan (l : List (List Nat)) : softA (l.map dB) = true := soft_all dB soft_dB l
theorem soft_deeds (l : List Deed) : softA (l.map dD) = true := soft_all dD soft_dD l
theorem DtA.enc {α : Type} {enc : α → PyData} {as : List α} {H : Hp} {xs : List V} {i : Nat} {u : V} (h : DtA H xs (as.map enc)) (hu : xs[i]? = some u) : ∃ a, as[i]? = some a ∧ Dt H u (enc a) := by
  obtain ⟨d, hd, dd⟩ := h.at hu
  rw [List.getElem?_map] at hd
  obtain ⟨a, ha, rfl⟩ := Option.map_eq_some_iff.mp hd
  exact ⟨a, ha, dd⟩
theorem DtA.encLen {α : Type} {enc : α → PyData} {as : List α} {H : Hp} {xs : List V} (h : DtA H xs (as.map enc)) : xs.length = as.length := by rw [h.len, List.length_map]
section
variable {P : Program} {w : World} {K : PySem.W.Frag} {mg : Str → Option Value} {base : Heap} {C : Addr}
/-! plays -/
abbrev sp_played_to (C : Addr) : Sp := Fsp (fun i : SI × List Nat × List Deed => [Sto C i.1.1 i.1.2.1 i.1.2.2, D (dB i.2.1), D (.tuple (i.2.2.map dD))]) (fun i => HistOk i.1.2.1 i.1.2.2 i.2.1 i.2.2 ∧ i.2.2.length ≤ 200) (fun i _ => D (.tuple [.none, .list ((scan i.2.1 i.2.2).map dB)]))
theorem ok_played_to (T : Txt K mg) (U : Cl K mg C) : Dn P w K mg base 4 "played_to" p_played_to (sp_played_to C) := by
  refine dn_of T.d_played_to sc_played_to (fun _ _ _ _ _ _ us hl => match us, hl with | [_, _, _], _ => rfl) (len_of fun _ => rfl) fun f cdv A outer s H vs Q E hr h => ?_
  obtain ⟨⟨⟨n, ds, ss⟩, b, hs⟩, ⟨v0, _, rfl, h0, v1, _, rfl, h1, v2, _, rfl, h2, rfl⟩, ⟨hok, hlen⟩, q⟩ := h
  dsimp only at h0 h1 h2 hok hlen q
  obtain ⟨a, ts, rfl, ha, hts⟩ := Dt.tup_eq h2
  refine s_cons (s_set 3 sc_played_to.nd (e_lst (d_cons (e_var 1 rfl h1) d_nil) (show 1 ≤ 1000 by decide)) fun u H1 g1 hu => ?_)
  obtain ⟨p, xs1, rfl, hp0, hp1, hx1⟩ := hu
  refine s_cons (r_forEn 4 5 sc_played_to.nd T.b_enumerate (q := a) (xs := ts) (e_var (P := Is (.ref a)) 2 rfl rfl) (g1 _ _ ha) fun H2 g2 => ⟨fun i σ' H' => Gr H H' ∧ (∃ xs, H' p = some (.lst xs) ∧ DtA H' xs ((scan b (hs.take i)).map dB)) ∧ ∃ y z, σ' = [some v0, some v1, some (.ref a), some (.ref p), y, z], ⟨g1.tr g2, ⟨xs1, g2 _ _ hp1, DtA.up g2 hx1⟩, none, none, rfl⟩, fun i σ' H' w => w.1 _ _ ha, fun i u σ' H' l hu hl w => ?_, fun σ' H' w => ?_⟩)
  · obtain ⟨g, ⟨xs, hxp, hx⟩, y, z, rfl⟩ := w
    obtain ⟨d, hd, dd⟩ := hts.enc hu
    have st := hok.at hd
    have gl : Gr H' (upd H' l (.tup [.int (i : Int), u])) := Gr.new hl
    have g' := g.tr gl
    have hil : i < hs.length := (List.getElem?_eq_some_iff.mp hd).1
    have xs' := DtA.up gl hx
    have dd' := Dt.up g' dd
    refine s_cons (s_skip (t_not (b1 := true) (t_val (e_fn ((n, ds, ss), finB b (hs.take i), d) (ok_is_by_custom T U) hr (a_cons (e_var 0 rfl (Mono.up g' h0)) (a_cons (e_ixEnd (e_var (P := D (.list ((scan b (hs.take i)).map dB))) 3 rfl (.lst (gl _ _ hxp) xs')) (scan_last' _ _)) (a_cons (e_var 5 rfl dd') a_nil))) ⟨st.1, st.2.1⟩ (S := B true) fun _ _ v _ r => by
      have z : B (custom ds ss (finB b (hs.take i)) d) _ v := r
      rw [st.2.2.1] at z
      exact z))) fun H3 g3 => ?_)
    have hxp3 := g3 _ _ (gl _ _ hxp)
    have xs3 := DtA.up g3 xs'
    refine s_one (r_app (e_var 3 rfl rfl) hxp3 fun H4 g4 => (e_fn (finB b (hs.take i), d) (ok_behind T) (hr.mono (by decide)) (a_cons (e_ixEnd (e_var (P := D (.list ((scan b (hs.take i)).map dB))) 3 rfl (.lst (g4 _ _ hxp3) (DtA.up g4 xs3))) (scan_last' _ _)) (a_cons (e_var 5 rfl (Dt.up (g3.tr g4) dd')) a_nil)) st.2.2.2 (S := D (dB (bump (finB b (hs.take i)) d))) fun _ _ _ _ r => r).run fun v H5 g5 r => ?_)
    have hxp5 := g5 _ _ (g4 _ _ hxp3)
    refine ⟨xs, hxp5, ?_, ((g'.tr g3).tr (g4.tr g5)).mut hp0, ⟨_, upd_same, ?_⟩, _, _, rfl⟩
    · rw [xs3.encLen, scan_len, List.length_take]; omega
    · rw [take_more1 hd, scan_snoc, List.map_append]
      refine DtA.off hxp5 ((DtA.up (g4.tr g5) xs3).app (.one r)) ?_
      have z := soft_scan (scan b (hs.take i) ++ [bump (finB b (hs.take i)) d])
      rw [List.map_append] at z
      exact z
  · obtain ⟨g, ⟨xs, hxp, hx⟩, y, z, rfl⟩ := w
    rw [hts.encLen, List.take_length] at hx
    exact s_one (s_ret (e_tup (d_cons e_non (d_cons (e_var (P := D (.list ((scan b hs).map dB))) 3 rfl (.lst hxp hx)) d_nil)) (show 2 ≤ 1000 by decide)) fun v H3 g3 r => q v H3 (g.tr g3) r)
abbrev sp_play_of (C : Addr) : Sp := Fsp (fun i : SI × List Nat × List Deed => [Sto C i.1.1 i.1.2.1 i.1.2.2, D (dB i.2.1), D (.tuple (i.2.2.map dD))]) (fun i => HistOk i.1.2.1 i.1.2.2 i.2.1 i.2.2 ∧ i.2.2.length ≤ 200) (fun i _ => D (.list ((scan i.2.1 i.2.2).map dB)))
theorem pair_of {H : Hp} {v : V} {d d' : PyData} (h : Dt H v (.tuple [d, d'])) : ∃ q w u, v = .ref q ∧ H q = some (.tup [w, u]) ∧ Dt H w d ∧ Dt H u d' := by
  obtain ⟨q, ws, rfl, hq, hx⟩ := Dt.tup_eq h
  cases hx with
  | cons a t =>
    cases t with
    | cons b t => cases t; exact ⟨q, _, _, rfl, hq, a, b⟩
theorem ok_play_of (T : Txt K mg) (U : Cl K mg C) : Dn P w K mg base 5 "play_of" p_play_of (sp_play_of C) := by
  refine dn_of T.d_play_of sc_play_of (fun _ _ _ _ _ _ us hl => match us, hl with | [_, _, _], _ => rfl) (len_of fun _ => rfl) fun f cdv A outer s H vs Q E hr h => ?_
  obtain ⟨⟨⟨n, ds, ss⟩, b, hs⟩, ⟨v0, _, rfl, h0, v1, _, rfl, h1, v2, _, rfl, h2, rfl⟩, hp, q⟩ := h
  dsimp only at h0 h1 h2 hp q
  refine s_cons (r_set2 3 4 sc_play_of.nd ((e_fn ((n, ds, ss), b, hs) (ok_played_to T U) hr (a_cons (e_var 0 rfl h0) (a_cons (e_var 1 rfl h1) (a_cons (e_var 2 rfl h2) a_nil))) hp (S := D (.tuple [.none, .list ((scan b hs).map dB)])) fun _ _ _ _ r => r).run fun v H1 g1 r => ?_))
  obtain ⟨q1, w1, u1, rfl, hq, e1, e2⟩ := pair_of r
  refine ⟨q1, w1, u1, rfl, hq, s_cons (s_skip (t_notNone (e_var 3 rfl e1)) fun H2 g2 => ?_)⟩
  exact s_one (s_ret (e_var (P := D (.list ((scan b hs).map dB))) 4 rfl (Dt.up g2 e2)) fun v H3 g3 r => q v H3 ((g1.tr g2).tr g3) r)
abbrev sp_played (C : Addr) : Sp := Fsp (fun i : SI × List Nat × List Deed => [Sto C i.1.1 i.1.2.1 i.1.2.2, Q2 (i.2.1.map dN), Q2 (i.2.2.map dD)]) (fun i => (i.2.1.length = i.1.1 ∧ i.1.1 ≤ 8 ∧ ∀ x ∈ i.2.1, x ≤ 60) ∧ HistOk i.1.2.1 i.1.2.2 i.2.1 i.2.2 ∧ i.2.2.length ≤ 200) (fun i H => NewL H ((finB i.2.1 i.2.2).map dN))
theorem ok_played (T : Txt K mg) (U : Cl K mg C) : Dn P w K mg base 6 "played" p_played (sp_played C) := by
  refine dn_of T.d_played sc_played (fun _ _ _ _ _ _ us hl => match us, hl with | [_, _, _], _ => rfl) (len_of fun _ => rfl) fun f cdv A outer s H vs Q E hr h => ?_
  obtain ⟨⟨⟨n, ds, ss⟩, b, hs⟩, ⟨v0, _, rfl, h0, v1, _, rfl, h1, v2, _, rfl, h2, rfl⟩, ⟨hb, hp⟩, q⟩ := h
  dsimp only at h0 h1 h2 hb hp q
  refine s_cons (s_expr (e_fn (n, ds, ss) (ok_want_store T U) (hr.mono (by decide)) (a_cons (e_var 0 rfl h0) a_nil) trivial (S := Any) fun _ _ _ _ _ => trivial) fun _ H1 g1 _ => ?_)
  refine s_cons (s_set 3 sc_played.nd (e_fn ((n, ds, ss), b) (ok_want_board T U) (hr.mono (by decide)) (a_cons (e_var 0 rfl (Mono.up g1 h0)) (a_cons (e_var 1 rfl (Mono.up g1 h1)) a_nil)) hb (S := D (dB b)) fun _ _ _ _ r => r) fun u H2 g2 hu => ?_)
  have g12 := g1.tr g2
  refine s_one (s_ret (e_list T.b_list (a_cons (P := Q2 ((finB b hs).map dN)) ((e_ixEnd (d := dB (finB b hs)) (e_fn ((n, ds, ss), b, hs) (ok_play_of T U) hr (a_cons (e_var 0 rfl (Mono.up g12 h0)) (a_cons (e_var 3 rfl hu) (a_cons (e_fn ((n, ds, ss), hs) (ok_want_history T U) hr (a_cons (e_var 0 rfl (Mono.up g12 h0)) (a_cons (e_var 2 rfl (Mono.up g12 h2)) a_nil)) ⟨hp.2, hp.1.deeds⟩ (S := D (.tuple (hs.map dD))) fun _ _ _ _ r => r) a_nil))) hp (S := D (.list ((scan b hs).map dB))) fun _ _ _ _ r => r) (scan_last' _ _)).imp fun _ _ _ r => .inr r) a_nil)) fun v H3 g3 r => q v H3 (g12.tr g3) (r.back g12))
end
end K33
namespace K33
open PySem PySem.Spec PyProof.Rows L2
/-! plain: bits of lots -/
theorem sub_xor : ∀ a, a < 256 → ∀ b, b < 256 → a - (a &&& b) = a ^^^ (a &&& b) := by decide +kernel
theorem or_sub : ∀ a, a < 256 → ∀ b, b < 256 → (a &&& b) ≤ (a ||| b) ∧ (a ||| b) - (a &&& b) = a ^^^ b := by decide +kernel
theorem band_nat (a b : Nat) : Builtin.bitAnd (a : Int) (b : Int) = ((a &&& b : Nat) : Int) := by
  rw [PyProof.Rows.bitAnd_pp (by omega) (by omega)]
  simp
theorem band_not (a b : Nat) (ha : a < 256) (hb : b < 256) : Builtin.bitAnd (a : Int) (Builtin.bitNot (b : Int)) = ((a ^^^ (a &&& b) : Nat) : Int) := by
  have h : Builtin.bitAnd (a : Int) (Builtin.bitNot (b : Int)) = (a : Int) - ((a &&& b : Nat) : Int) := by
    unfold Builtin.bitAnd
    have h1 : decide (0 ≤ (a : Int)) = true := decide_eq_true (by omega)
    have h2 : decide (0 ≤ Builtin.bitNot (b : Int)) = false := decide_eq_false (by unfold Builtin.bitNot; omega)
    rw [h1, h2]
    have h3 : (Builtin.bitNot (Builtin.bitNot (b : Int))).toNat = b := by unfold Builtin.bitNot; omega
    dsimp only
    rw [h3]
    rfl
  rw [h, ← sub_xor a ha b hb]
  have := Nat.and_le_left (n := a) (m := b)
  omega
theorem bxor_nat (a b : Nat) (ha : a < 256) (hb : b < 256) : Builtin.bitXor (a : Int) (b : Int) = ((a ^^^ b : Nat) : Int) := by
  unfold Builtin.bitXor
  rw [bor_nat, band_nat, ← (or_sub a ha b hb).2]
  have := (or_sub a ha b hb).1
  omega
/-- a step: laying or off, the position -/
structure Step where
  lay : Bool
  pos : Nat
  deriving DecidableEq
def sword (b : Bool) : Str := if b then "lay" else "off"
def dS (s : Step) : PyData := .tuple [.str (sword s.lay), dN s.pos]
theorem sword_eq {p : Bool} : (decide (sword p = ("lay" : Str))) = p := by cases p <;> decide
theorem sword_off {p : Bool} : (decide (sword p = ("off" : Str))) = !p := by cases p <;> decide
theorem soft_dS (s : Step) : soft (dS s) = true := rfl
def Small (l : List Nat) : Prop := ∀ b ∈ l, b < 256
theorem Small.at {l : List Nat} (h : Small l) (i : Nat) : l.getD i 0 < 256 := by
  rw [List.getD_eq_getElem?_getD]
  cases e : l[i]? with
  | none => simp
  | some b => exact h b (List.mem_of_getElem? e)
def StepIn (ds ss : List Nat) (st : Step) : Prop := st.pos < (if st.lay then ds else ss).length
/-- the lot behind a step -/
def stepB (ds ss : List Nat) (lot : Nat) (st : Step) : Nat := if st.lay then lot ||| ds.getD st.pos 0 else lot ^^^ (lot &&& ss.getD st.pos 0)
def endB (ds ss : List Nat) (row : List Step) : Nat := row.foldl (stepB ds ss) 0
theorem stepB_lt {ds ss : List Nat} (hd : Small ds) (hs : Small ss) {lot : Nat} (h : lot < 256) (st : Step) : stepB ds ss lot st < 256 := by
  unfold stepB
  split
  · exact Nat.or_lt_two_pow (n := 8) h (hd.at _)
  · exact Nat.xor_lt_two_pow (n := 8) h (Nat.lt_of_le_of_lt Nat.and_le_left h)
theorem foldB_lt {ds ss : List Nat} (hd : Small ds) (hs : Small ss) : ∀ (row : List Step) {lot : Nat}, lot < 256 → row.foldl (stepB ds ss) lot < 256
  | [], _, h => h
  | st :: r, _, h => foldB_lt hd hs r (stepB_lt hd hs h st)
theorem endB_lt {ds ss : List Nat} (hd : Small ds) (hs : Small ss) (row : List Step) : endB ds ss row < 256 := foldB_lt hd hs row (by decide)
theorem fold_more {α β : Type} {f : β → α → β} {z : β} {l : List α} {i : Nat} {a : α} (h : l[i]? = some a) : (l.take (i + 1)).foldl f z = f ((l.take i).foldl f z) a := by
  rw [List.take_add_one, h, Option.toList_some, List.foldl_append]
  rfl
end K33
namespace K33
open PySem PySem.Spec PyProof.Rows L2
section
variable {P : Program} {w : World} {K : PySem.W.Frag} {mg : Str → Option Value} {base : Heap} {C : Addr}
/-! rows -/
abbrev sp_is_step (C : Addr) : Sp := Fsp (fun i : SI × Step => [Sto C i.1.1 i.1.2.1 i.1.2.2, D (dS i.2)]) (fun i => StepIn i.1.2.1 i.1.2.2 i.2) (fun _ _ => B true)
theorem ok_is_step (T : Txt K mg) (U : Cl K mg C) : Dn P w K mg base 3 "is_step" p_is_step (sp_is_step C) := by
  refine dn_of T.d_is_step sc_is_step (fun _ _ _ _ _ _ us hl => match us, hl with | [_, _], _ => rfl) (len_of fun _ => rfl) fun f cdv A outer s H vs Q E hr h => ?_
  obtain ⟨⟨⟨n, ds, ss⟩, st⟩, ⟨v0, _, rfl, h0, v1, _, rfl, h1, rfl⟩, hp, q⟩ := h
  dsimp only at h0 h1 hp q
  have h1 : Dt H v1 (.tuple [.str (sword st.lay), dN st.pos]) := h1
  refine s_cons (s_skip (Wt.t ((w_or (b1 := false) (b2 := false) (t_not (b1 := true) (t_val (e_isTy T.b_isinstance (e_var (P := D (.tuple [.str (sword st.lay), dN st.pos])) 1 rfl h1) (e_ty PyProof.Rows.boot_tuple T.b_tuple) (fun _ _ h => ty_tup h) (b1 := true) (by decide +kernel)))) fun _ =>
    w_or (b1 := false) (b2 := false) ((t_neI (e_len T.b_len (a_cons (P := Q2 _) (e_var 1 rfl (.inr h1)) a_nil)) e_int).eq (by simp)) fun _ =>
    w_or (b1 := false) (b2 := false) (t_not (b1 := true) (t_val (e_isTy T.b_isinstance (e_ixT (n := 0) (d := .str (sword st.lay)) (e_var 1 rfl h1) e_int rfl) (e_ty PyProof.Rows.boot_str T.b_str) (fun _ _ h => ty_str h) (b1 := true) (by decide +kernel)))) fun _ =>
    w_or1 ((t_not (t_val (e_fn (st.pos : Int) (ok_is_count T) hr (a_cons (e_ixT (n := 1) (d := dN st.pos) (e_var 1 rfl h1) e_int rfl) a_nil) trivial fun _ _ _ _ r => r))).eq (by simp))))) fun H1 g1 => ?_)
  have h1' := Dt.up g1 h1
  refine s_cons (s_if ((t_eqS (e_ixT (n := 0) (d := .str (sword st.lay)) (e_var 1 rfl h1') e_int rfl) e_str).eq sword_eq) (fun hb H2 g2 => ?_) (fun hb H2 g2 => s_nil ?_))
  · have hp' : st.pos < ds.length := by unfold StepIn at hp; rw [if_pos hb] at hp; exact hp
    refine s_one (s_ret ((e_lt (e_ixT (n := 1) (d := dN st.pos) (e_var 1 rfl (Dt.up g2 h1')) e_int rfl) (e_len T.b_len (a_cons (P := Q2 (ds.map dN)) ((e_deliv U (e_var 0 rfl (Mono.up (g1.tr g2) h0))).imp fun _ _ _ r => .inr r) a_nil))).bl (by simp; omega)) fun v H3 g3 r => q v H3 ((g1.tr g2).tr g3) r)
  · have hp' : st.pos < ss.length := by unfold StepIn at hp; rw [hb] at hp; exact hp
    refine s_one (s_ret ((e_and (e_eqS (e_ixT (n := 0) (d := .str (sword st.lay)) (e_var 1 rfl (Dt.up g2 h1')) e_int rfl) e_str) fun _ => e_one (e_lt (e_ixT (n := 1) (d := dN st.pos) (e_var 1 rfl (Dt.up g2 h1')) e_int rfl) (e_len T.b_len (a_cons (P := Q2 (ss.map dN)) ((e_sales U (e_var 0 rfl (Mono.up (g1.tr g2) h0))).imp fun _ _ _ r => .inr r) a_nil)))).bl ?_) fun v H3 g3 r => q v H3 ((g1.tr g2).tr g3) r)
    rw [sword_off, hb]
    simp
    omega
abbrev sp_is_row (C : Addr) : Sp := Fsp (fun i : SI × List Step => [Sto C i.1.1 i.1.2.1 i.1.2.2, Q2 (i.2.map dS)]) (fun i => i.2.length ≤ 60 ∧ ∀ st ∈ i.2, StepIn i.1.2.1 i.1.2.2 st) (fun _ _ => B true)
theorem ok_is_row (T : Txt K mg) (U : Cl K mg C) : Dn P w K mg base 4 "is_row" p_is_row (sp_is_row C) := by
  refine dn_of T.d_is_row sc_is_row (fun _ _ _ _ _ _ us hl => match us, hl with | [_, _], _ => rfl) (len_of fun _ => rfl) fun f cdv A outer s H vs Q E hr h => ?_
  obtain ⟨⟨⟨n, ds, ss⟩, row⟩, ⟨v0, _, rfl, h0, v1, _, rfl, h1, rfl⟩, ⟨hl, hd⟩, q⟩ := h
  dsimp only at h0 h1 hl hd q
  refine s_one (s_ret ((e_and (e_fn (row.map dS) (ok_is_list T) (hr.mono (by decide)) (a_cons (e_var 1 rfl h1) a_nil) trivial fun _ _ _ _ r => r) fun _ => e_and (e_le (e_len T.b_len (a_cons (e_var 1 rfl h1) a_nil)) (e_gi (T.c_MOST_STEPS).choose_spec)) fun _ => e_one ((e_all (bs := row.map fun _ => true) T.b_all rfl (a_cons
    ((e_lcQ (enc := dS) (as := row) (g := fun _ => PyData.bool true) (R := fun _ _ => B true) 2 (blkOk_by (N := n_is_row) (sc := defScope s_is_row) (by decide +kernel)) (fun _ _ _ _ _ => pg_name (i := 2) sc_is_row.nd rfl (Or.inl rfl)) sc_is_row.nd (q2_var 1 h1) (by omega)
      (fun a ha x H2 g dx s0 H0 C0 cl fp => Evp.q (e_fn ((n, ds, ss), a) (ok_is_step T U) hr (a_cons (e_var 0 rfl (Mono.up g h0)) (a_cons (e_var 2 rfl dx) a_nil)) (hd a ha) fun _ _ _ _ r => r)) fun _ _ => kp_soft rfl).newD.eq (by rw [bools])) a_nil)).bl (all_true row))).bl (by simp; omega)) q)
abbrev sp_want_row (C : Addr) : Sp := Fsp (fun i : SI × List Step => [Sto C i.1.1 i.1.2.1 i.1.2.2, Q2 (i.2.map dS)]) (fun i => i.2.length ≤ 60 ∧ ∀ st ∈ i.2, StepIn i.1.2.1 i.1.2.2 st) (fun i H => NewL H (i.2.map dS))
theorem ok_want_row (T : Txt K mg) (U : Cl K mg C) : Dn P w K mg base 5 "want_row" p_want_row (sp_want_row C) := by
  refine dn_of T.d_want_row sc_want_row (fun _ _ _ _ _ _ us hl => match us, hl with | [_, _], _ => rfl) (len_of fun _ => rfl) fun f cdv A outer s H vs Q E hr h => ?_
  obtain ⟨⟨⟨n, ds, ss⟩, row⟩, ⟨v0, _, rfl, h0, v1, _, rfl, h1, rfl⟩, hp, q⟩ := h
  refine s_cons (s_skip (t_not (b1 := true) (t_val (e_fn ((n, ds, ss), row) (ok_is_row T U) hr (a_cons (e_var 0 rfl h0) (a_cons (e_var 1 rfl h1) a_nil)) hp fun _ _ _ _ r => r))) fun H1 g1 => ?_)
  exact s_one (s_ret (e_list T.b_list (a_cons (e_var 1 rfl (Mono.up g1 h1)) a_nil)) fun v H2 g2 r => q v H2 (g1.tr g2) (r.back g1))
abbrev sp_end_of (C : Addr) : Sp := Fsp (fun i : SI × List Step => [Sto C i.1.1 i.1.2.1 i.1.2.2, D (.list (i.2.map dS))]) (fun i => (Small i.1.2.1 ∧ Small i.1.2.2) ∧ ∀ st ∈ i.2, StepIn i.1.2.1 i.1.2.2 st) (fun i _ => I (endB i.1.2.1 i.1.2.2 i.2 : Int))
theorem ok_end_of (T : Txt K mg) (U : Cl K mg C) : Dn P w K mg base 1 "end_of" p_end_of (sp_end_of C) := by
  refine dn_of T.d_end_of sc_end_of (fun _ _ _ _ _ _ us hl => match us, hl with | [_, _], _ => rfl) (len_of fun _ => rfl) fun f cdv A outer s H vs Q E hr h => ?_
  obtain ⟨⟨⟨n, ds, ss⟩, row⟩, ⟨v0, _, rfl, h0, v1, _, rfl, h1, rfl⟩, ⟨⟨sd, sl⟩, hin⟩, q⟩ := h
  dsimp only at h0 h1 sd sl hin q
  obtain ⟨a, xs, rfl, ha, hx⟩ := Dt.list_eq h1
  refine s_cons (s_set 2 sc_end_of.nd e_int fun u H1 g1 hu => ?_)
  obtain rfl := Dt.int_eq hu
  refine s_cons (r_forL2 3 4 sc_end_of.nd ((e_var (P := Is (.ref a)) 1 rfl rfl).run fun v H2 g2 hv => ⟨a, xs, hv, (g1.tr g2) _ _ ha, fun i σ' H' => Gr H H' ∧ ∃ y z, σ' = [some v0, some (.ref a), some (.int (endB ds ss (row.take i) : Int)), y, z], ⟨g1.tr g2, none, none, rfl⟩, fun i σ' H' w => w.1 _ _ ha, fun i u σ' H' hu w => ?_, fun σ' H' w => ?_⟩))
  · obtain ⟨g, y, z, rfl⟩ := w
    obtain ⟨st, hst, dst⟩ := hx.enc hu
    have dst : Dt H u (.tuple [.str (sword st.lay), dN st.pos]) := dst
    obtain ⟨l, w1, w2, rfl, hl, e1, e2⟩ := pair_of (Dt.up g dst)
    have hp := hin st (List.mem_of_getElem? hst)
    have lt := endB_lt sd sl (row.take i)
    have more : endB ds ss (row.take (i + 1)) = stepB ds ss (endB ds ss (row.take i)) st := fold_more hst
    refine ⟨l, w1, w2, rfl, hl, ?_⟩
    refine s_one (s_if ((t_eqS (e_var 3 rfl e1) e_str).eq sword_eq) (fun hb H3 g3 => ?_) (fun hb H3 g3 => ?_))
    · have hp' : st.pos < ds.length := by unfold StepIn at hp; rw [if_pos hb] at hp; exact hp
      refine s_one (s_set 2 sc_end_of.nd ((e_bor (e_var 2 rfl (.int _)) (e_ixT (n := st.pos) (d := dN (ds.getD st.pos 0)) (e_deliv U (e_var 0 rfl (Mono.up (g.tr g3) h0))) (e_var 4 rfl (Dt.up g3 e2)) (dN_get hp'))).int (j := (endB ds ss (row.take (i + 1)) : Int)) ?_) fun v H4 g4 hv => ?_)
      · rw [bor_nat, more]
        unfold stepB
        rw [if_pos hb]
      · obtain rfl := Dt.int_eq hv
        exact ⟨(g.tr g3).tr g4, _, _, rfl⟩
    · have hp' : st.pos < ss.length := by unfold StepIn at hp; rw [hb] at hp; exact hp
      refine s_one (s_set 2 sc_end_of.nd ((e_band (e_var 2 rfl (.int _)) (e_inv (e_ixT (n := st.pos) (d := dN (ss.getD st.pos 0)) (e_sales U (e_var 0 rfl (Mono.up (g.tr g3) h0))) (e_var 4 rfl (Dt.up g3 e2)) (dN_get hp')))).int (j := (endB ds ss (row.take (i + 1)) : Int)) ?_) fun v H4 g4 hv => ?_)
      · rw [band_not _ _ lt (sl.at _), more]
        unfold stepB
        rw [hb]
        rfl
      · obtain rfl := Dt.int_eq hv
        exact ⟨(g.tr g3).tr g4, _, _, rfl⟩
  · obtain ⟨g, y, z, rfl⟩ := w
    rw [hx.encLen, List.take_length]
    exact s_one (s_ret (e_var (P := I (endB ds ss row : Int)) 2 rfl (.int _)) fun v H3 g3 r => q v H3 (g.tr g3) r)
abbrev sp_lot_at_end (C : Addr) : Sp := Fsp (fun i : SI × List Step => [Sto C i.1.1 i.1.2.1 i.1.2.2, D (.list (i.2.map dS))]) (fun i => (Small i.1.2.1 ∧ Small i.1.2.2) ∧ ∀ st ∈ i.2, StepIn i.1.2.1 i.1.2.2 st) (fun i H => NewL H ((spots (endB i.1.2.1 i.1.2.2 i.2)).map dN))
theorem ok_lot_at_end (T : Txt K mg) (U : Cl K mg C) : Dn P w K mg base 3 "lot_at_end" p_lot_at_end (sp_lot_at_end C) := by
  refine dn_of T.d_lot_at_end sc_lot_at_end (fun _ _ _ _ _ _ us hl => match us, hl with | [_, _], _ => rfl) (len_of fun _ => rfl) fun f cdv A outer s H vs Q E hr h => ?_
  obtain ⟨⟨⟨n, ds, ss⟩, row⟩, ⟨v0, _, rfl, h0, v1, _, rfl, h1, rfl⟩, hp, q⟩ := h
  exact s_one (s_ret (e_fn (endB ds ss row) (ok_told_lot T) hr (a_cons (e_fn ((n, ds, ss), row) (ok_end_of T U) (hr.mono (by decide)) (a_cons (e_var 0 rfl h0) (a_cons (e_var 1 rfl h1) a_nil)) hp (S := I _) fun _ _ _ _ r => r) a_nil) trivial (S := NewL H ((spots (endB ds ss row)).map dN)) fun _ _ _ g r => r.back g) q)
abbrev sp_row_lot (C : Addr) : Sp := Fsp (fun i : SI × List Step => [Sto C i.1.1 i.1.2.1 i.1.2.2, Q2 (i.2.map dS)]) (fun i => (Small i.1.2.1 ∧ Small i.1.2.2) ∧ i.2.length ≤ 60 ∧ ∀ st ∈ i.2, StepIn i.1.2.1 i.1.2.2 st) (fun i H => NewL H ((spots (endB i.1.2.1 i.1.2.2 i.2)).map dN))
theorem ok_row_lot (T : Txt K mg) (U : Cl K mg C) : Dn P w K mg base 6 "row_lot" p_row_lot (sp_row_lot C) := by
  refine dn_of T.d_row_lot sc_row_lot (fun _ _ _ _ _ _ us hl => match us, hl with | [_, _], _ => rfl) (len_of fun _ => rfl) fun f cdv A outer s H vs Q E hr h => ?_
  obtain ⟨⟨⟨n, ds, ss⟩, row⟩, ⟨v0, _, rfl, h0, v1, _, rfl, h1, rfl⟩, ⟨hs, hp⟩, q⟩ := h
  dsimp only at h0 h1 hs hp q
  refine s_cons (s_expr (e_fn (n, ds, ss) (ok_want_store T U) (hr.mono (by decide)) (a_cons (e_var 0 rfl h0) a_nil) trivial (S := Any) fun _ _ _ _ _ => trivial) fun _ H1 g1 _ => ?_)
  exact s_one (s_ret (e_fn ((n, ds, ss), row) (ok_lot_at_end T U) (hr.mono (by decide)) (a_cons (e_var 0 rfl (Mono.up g1 h0)) (a_cons (e_fn ((n, ds, ss), row) (ok_want_row T U) hr (a_cons (e_var 0 rfl (Mono.up g1 h0)) (a_cons (e_var 1 rfl (Mono.up g1 h1)) a_nil)) hp (S := D (.list (row.map dS))) fun _ _ _ _ r => r.d) a_nil)) ⟨hs, hp.2⟩ (S := NewL H1 ((spots (endB ds ss row)).map dN)) fun _ _ _ g r => r.back g) fun v H2 g2 r => q v H2 (g1.tr g2) (r.back g1))
end
end K33
namespace K33
open PySem PySem.Spec PyProof.Rows L2
/-! plain: laying and taking off, deed by deed -/
def layD (b k : List Nat) (p : Nat) : Deed := ⟨true, p, (leastL b k).getD 0 0⟩
def offD (b k : List Nat) (p : Nat) : Deed := ⟨false, p, (mostL b k).getD 0 0⟩
def layGo (k : List Nat) (p h : Nat) (b : List Nat) : Option Deed := if lowOf b k < h then some (layD b k p) else none
def offGo (k : List Nat) (p : Nat) (b : List Nat) : Option Deed := if mostL b k = [] then none else some (offD b k p)
def runF (go : List Nat → Option Deed) : Nat → List Nat → List Deed
  | 0, _ => []
  | f + 1, b => match go b with
    | none => []
    | some d => d :: runF go f (bump b d)
theorem runF_none {go : List Nat → Option Deed} {b : List Nat} (h : go b = none) (f : Nat) : runF go f b = [] := by
  cases f with
  | zero => rfl
  | succ f => unfold runF; rw [h]
theorem runF_some {go : List Nat → Option Deed} {b : List Nat} {d : Deed} (h : go b = some d) (f : Nat) : runF go (f + 1) b = d :: runF go f (bump b d) := by
  rw [runF, h]
theorem runF_len (go : List Nat → Option Deed) : ∀ (f : Nat) (b : List Nat), (runF go f b).length ≤ f
  | 0, _ => Nat.le_refl _
  | f + 1, b => by
    unfold runF
    cases go b with
    | none => exact Nat.zero_le _
    | some d => exact Nat.succ_le_succ (runF_len go f _)
theorem head_mem {l : List Nat} (h : l ≠ []) : l.getD 0 0 ∈ l := by
  cases l with
  | nil => exact absurd rfl h
  | cons a r => exact List.mem_cons_self
theorem head_get {l : List Nat} (h : l ≠ []) : (l.map dN)[0]? = some (dN (l.getD 0 0)) := by
  cases l with
  | nil => exact absurd rfl h
  | cons a r => rfl
theorem at0_bump {b : List Nat} {d : Deed} (h : d.sh < b.length) (s : Nat) : at0 (bump b d) s = if s = d.sh then (if d.put then at0 b d.sh + 1 else at0 b d.sh - 1) else at0 b s := by
  have e : at0 (bump b d) s = ((bump b d)[s]?).getD 0 := by unfold at0; rw [List.getD_eq_getElem?_getD]
  rw [e]
  unfold bump
  rw [List.getElem?_set]
  by_cases hs : s = d.sh
  · subst hs
    rw [if_pos rfl, if_pos h, if_pos rfl]
    rfl
  · rw [if_neg (fun z => hs z.symm), if_neg hs]
    unfold at0
    rw [List.getD_eq_getElem?_getD]
theorem sum_less {f g : Nat → Nat} {s : Nat} : ∀ {k : List Nat}, k.Nodup → s ∈ k → g s + 1 = f s → (∀ t, t ≠ s → g t = f t) → (k.map g).sum + 1 = (k.map f).sum
  | [], _, h, _, _ => by simp at h
  | a :: r, hn, h, e, o => by
    rw [List.map_cons, List.map_cons, List.sum_cons, List.sum_cons]
    have hn' := List.nodup_cons.mp hn
    by_cases ha : a = s
    · subst ha
      have : r.map g = r.map f := List.map_congr_left fun t ht => o t fun z => hn'.1 (z ▸ ht)
      rw [this]
      omega
    · have hr : s ∈ r := by
        rcases List.mem_cons.mp h with z | z
        · exact absurd z.symm ha
        · exact z
      have := sum_less hn'.2 hr e o
      rw [o a ha]
      omega
/-- what is yet to be laid; to be taken off -/
def layM (k : List Nat) (h : Nat) (b : List Nat) : Nat := (k.map fun s => h - at0 b s).sum
def offM (k : List Nat) (b : List Nat) : Nat := (k.map fun s => at0 b s).sum
theorem lay_at {b k : List Nat} {p : Nat} (hk : k ≠ []) : (layD b k p).sh ∈ k ∧ at0 b (layD b k p).sh = lowOf b k := mem_leastL.mp (head_mem (leastL_ne hk))
theorem off_at {b k : List Nat} {p : Nat} (hk : mostL b k ≠ []) : (offD b k p).sh ∈ k ∧ at0 b (offD b k p).sh = highOf b k ∧ 0 < highOf b k := mem_mostL.mp (head_mem hk)
theorem layM_bump {b k : List Nat} {p h : Nat} (kb : KindOn b k) (kn : k.Nodup) (hl : lowOf b k < h) : layM k h (bump b (layD b k p)) + 1 = layM k h b := by
  obtain ⟨h1, h2⟩ := lay_at (p := p) (b := b) kb.1
  have h3 := kb.2 _ h1
  refine sum_less kn h1 ?_ fun t ht => ?_
  · rw [at0_bump h3, if_pos rfl]
    show h - (if true = true then _ else _) + 1 = _
    rw [if_pos rfl]
    omega
  · rw [at0_bump h3, if_neg ht]
theorem offM_bump {b k : List Nat} {p : Nat} (kb : KindOn b k) (kn : k.Nodup) (hl : mostL b k ≠ []) : offM k (bump b (offD b k p)) + 1 = offM k b := by
  obtain ⟨h1, h2, h4⟩ := off_at (p := p) hl
  have h3 := kb.2 _ h1
  refine sum_less kn h1 ?_ fun t ht => ?_
  · rw [at0_bump h3, if_pos rfl]
    show (if false = true then _ else at0 b (offD b k p).sh - 1) + 1 = _
    rw [if_neg (by decide)]
    omega
  · rw [at0_bump h3, if_neg ht]
theorem kindOn_bump {b k : List Nat} (d : Deed) (h : KindOn b k) : KindOn (bump b d) k := ⟨h.1, by rw [bump_len]; exact h.2⟩
theorem sum_zero {f : Nat → Nat} : ∀ {k : List Nat}, (k.map f).sum = 0 → ∀ s ∈ k, f s = 0
  | a :: r, h, s, hs => by
    rw [List.map_cons, List.sum_cons] at h
    rcases List.mem_cons.mp hs with z | z
    · subst z; omega
    · exact sum_zero (by omega) s z
theorem zero_sum {f : Nat → Nat} : ∀ {k : List Nat}, (∀ s ∈ k, f s = 0) → (k.map f).sum = 0
  | [], _ => rfl
  | a :: r, h => by
    rw [List.map_cons, List.sum_cons, h a List.mem_cons_self, zero_sum fun s hs => h s (List.mem_cons_of_mem _ hs)]
theorem layM_pos {b k : List Nat} {h : Nat} (kb : KindOn b k) (hl : lowOf b k < h) : 0 < layM k h b := by
  obtain ⟨s, hs, e⟩ := lowOf_mem b kb.1
  refine Nat.pos_of_ne_zero fun z => ?_
  have := sum_zero z s hs
  omega
theorem offM_pos {b k : List Nat} (hl : mostL b k ≠ []) : 0 < offM k b := by
  obtain ⟨h1, h2, h4⟩ := off_at (p := 0) hl
  refine Nat.pos_of_ne_zero fun z => ?_
  have := sum_zero z _ h1
  omega
theorem bits_zero {l : List Nat} : bitsOf l = 0 ↔ l = [] := by
  constructor
  · intro h
    cases l with
    | nil => rfl
    | cons a r =>
      have := bits_test (a :: r) a
      rw [h] at this
      simp at this
  · rintro rfl; rfl
theorem leastL_rise {b k : List Nat} (h : k.Pairwise (· < ·)) : (leastL b k).Pairwise (· < ·) := h.filter _
theorem mostL_rise {b k : List Nat} (h : k.Pairwise (· < ·)) : (mostL b k).Pairwise (· < ·) := by
  unfold mostL
  split
  · exact h.filter _
  · exact .nil
theorem spots_least (b : List Nat) (k : Nat) : spots (bitsOf (leastL b (spots k))) = leastL b (spots k) := spots_bits (leastL_rise (spots_rise k)) fun s hs => spots_lt (mem_leastL.mp hs).1
theorem spots_most (b : List Nat) (k : Nat) : spots (bitsOf (mostL b (spots k))) = mostL b (spots k) := spots_bits (mostL_rise (spots_rise k)) fun s hs => spots_lt (mem_mostL.mp hs).1
end K33
namespace K33
open PySem PySem.Spec PyProof.Rows L2
def BOk (b : List Nat) : Prop := b.length ≤ 8 ∧ ∀ s, at0 b s ≤ 60
theorem BOk.bump {b : List Nat} {d : Deed} (h : BOk b) (hb : BumpOk b d) : BOk (bump b d) := ⟨by rw [bump_len]; exact h.1, fun s => by
  rw [at0_bump hb.1]
  split
  · have := hb.2.2
    split at this
    · rename_i e; rw [if_pos e]; exact this
    · rename_i e; rw [if_neg e]; omega
  · exact h.2 s⟩
theorem lay_ok {b k : List Nat} {p h : Nat} (bo : BOk b) (kb : KindOn b k) (hl : lowOf b k < h) (hh : h ≤ 60) : BumpOk b (layD b k p) := by
  obtain ⟨h1, h2⟩ := lay_at (p := p) (b := b) kb.1
  refine ⟨kb.2 _ h1, bo.1, ?_⟩
  show (if true = true then _ else _)
  rw [if_pos rfl]
  omega
theorem off_ok {b k : List Nat} {p : Nat} (bo : BOk b) (kb : KindOn b k) (hl : mostL b k ≠ []) : BumpOk b (offD b k p) := by
  obtain ⟨h1, h2, h3⟩ := off_at (p := p) hl
  refine ⟨kb.2 _ h1, bo.1, ?_⟩
  show (if false = true then _ else _)
  rw [if_neg (by decide)]
  exact ⟨by omega, bo.2 _⟩
def layRun (b k : List Nat) (p h : Nat) : List Deed := runF (layGo k p h) 500 b
def offRun (b k : List Nat) (p : Nat) : List Deed := runF (offGo k p) 500 b
theorem finB_len (b : List Nat) (hs : List Deed) : (finB b hs).length = b.length := by
  induction hs generalizing b with
  | nil => rfl
  | cons d r ih => show (finB (bump b d) r).length = _; rw [ih, bump_len]
section
variable {P : Program} {w : World} {K : PySem.W.Frag} {mg : Str → Option Value} {base : Heap} {C : Addr}
abbrev sp_laid : Sp := Fsp (fun i : List Nat × Nat × Nat × Nat => [D (dB i.1), I (i.2.1 : Int), D (dN i.2.2.1), I (i.2.2.2 : Int)]) (fun i => BOk i.1 ∧ KindOn i.1 (spots i.2.1) ∧ layM (spots i.2.1) i.2.2.2 i.1 ≤ 200 ∧ i.2.2.2 ≤ 60) (fun i _ => D (.tuple [.list ((layRun i.1 (spots i.2.1) i.2.2.1 i.2.2.2).map dD), dB (finB i.1 (layRun i.1 (spots i.2.1) i.2.2.1 i.2.2.2))]))
theorem ok_laid (T : Txt K mg) : Dn P w K mg base 3 "laid" p_laid sp_laid := by
  refine dn_of T.d_laid sc_laid (fun _ _ _ _ _ _ us hl => match us, hl with | [_, _, _, _], _ => rfl) (len_of fun _ => rfl) fun f cdv A outer s H vs Q E hr h => ?_
  obtain ⟨⟨b, k, p, h⟩, ⟨v0, _, rfl, h0, v1, _, rfl, h1, v2, _, rfl, h2, v3, _, rfl, h3, rfl⟩, ⟨hbo, hkb, hm, hh⟩, q⟩ := h
  dsimp only at h0 h1 h2 h3 hbo hkb hm hh q
  refine s_cons (s_set 4 sc_laid.nd (e_lst d_nil) fun u H1 g1 hu => ?_)
  obtain ⟨l, xs1, rfl, hl0, hl1, hx1⟩ := hu
  refine s_cons (s_while (fun m σ' H' => Gr H H' ∧ m ≤ 500 ∧ ∃ L1 : List Deed, L1 ++ runF (layGo (spots k) p h) m (finB b L1) = layRun b (spots k) p h ∧ layM (spots k) h (finB b L1) ≤ m ∧ BOk (finB b L1) ∧ KindOn (finB b L1) (spots k) ∧ (∃ xs, H' l = some (.lst xs) ∧ DtA H' xs (L1.map dD)) ∧ ∃ bv, Dt H' bv (dB (finB b L1)) ∧ σ' = [some bv, some v1, some v2, some v3, some (.ref l), none]) 500
    ⟨g1, Nat.le_refl _, [], rfl, Nat.le_trans hm (by decide), hbo, hkb, ⟨xs1, hl1, hx1⟩, v0, Dt.up g1 h0, rfl⟩ fun m σ' H' w => ?_)
  obtain ⟨g, hm5, L1, hrun, hmm, bo, kb, ⟨xs, hxl, hx⟩, bv, hbv, rfl⟩ := w
  have hbv' : Dt H' bv (.tuple ((finB b L1).map dN)) := hbv
  obtain ⟨lo, hlo, elo⟩ := lowOf_mem (finB b L1) kb.1
  have hz := spots_len k
  refine ⟨decide (lowOf (finB b L1) (spots k) < h), (t_lt (e_min (ns := zs ((spots k).map (at0 (finB b L1)))) (mn := (lowOf (finB b L1) (spots k) : Int)) T.b_min rfl (a_cons ((e_lcT (enc := dN) (as := spots k) (g := fun s => dN (at0 (finB b L1) s)) (R := fun s _ => D (dN (at0 (finB b L1) s))) 5 (blkOk_by (N := n_laid) (sc := defScope s_laid) (by decide +kernel)) (fun _ _ _ _ _ => pg_name (i := 5) sc_laid.nd rfl (Or.inl rfl)) sc_laid.nd (e_fn k (ok_spots_of T) (hr.mono (by decide)) (a_cons (e_var 1 rfl (Dt.up g h1)) a_nil) trivial fun _ _ _ _ r => r) (by omega)
    (fun a ha x H2 g2 dx s0 H0 C cl fp => Evp.q (e_ixT (n := a) (e_var 0 rfl (Dt.up g2 hbv')) (e_var 5 rfl dx) (dN_get (kb.2 a ha)))) (fun _ _ => kp_soft rfl)).newD.eq (by rw [← dN_map, List.map_map]; rfl)) a_nil) ?_ ?_) (e_var 3 rfl (Dt.up g h3))).eq (decide_eq_decide.mpr (by omega)), fun hb H2 g2 => ?_, fun hb H2 g2 => ?_⟩
  · exact mem_zs.mpr (List.mem_map.mpr ⟨lo, hlo, elo⟩)
  · intro y hy
    obtain ⟨y', rfl, hy'⟩ := of_mem_zs hy
    obtain ⟨t, ht, rfl⟩ := List.mem_map.mp hy'
    have := lowOf_le (finB b L1) ht
    omega
  · have hlt : lowOf (finB b L1) (spots k) < h := of_decide_eq_true hb
    have hpos := layM_pos kb hlt
    obtain ⟨m', rfl⟩ : ∃ m', m = m' + 1 := ⟨m - 1, by omega⟩
    have hgo : layGo (spots k) p h (finB b L1) = some (layD (finB b L1) (spots k) p) := by unfold layGo; rw [if_pos hlt]
    rw [runF_some hgo] at hrun
    have hbk := lay_ok (p := p) bo kb hlt hh
    have hmb := layM_bump (p := p) kb (spots_nodup k) hlt
    have g02 := g.tr g2
    have hxl2 := g2 _ _ hxl
    refine ⟨fun σ2 H3 => _, fun σ2 H3 w => ⟨m', Nat.lt_succ_self _, w⟩, ?_⟩
    refine s_cons (r_app (e_var 4 rfl rfl) hxl2 fun H3 g3 => (e_tup (d_cons (e_gs (T.c_PUT).choose_spec) (d_cons (e_var 2 rfl (Dt.up (g02.tr g3) h2)) (d_cons (e_ixT (n := 0) (ds := (leastL (finB b L1) (spots k)).map dN) (d := dN ((leastL (finB b L1) (spots k)).getD 0 0)) ((e_fn (bitsOf (leastL (finB b L1) (spots k))) (ok_spots_of T) (hr.mono (by decide)) (a_cons (e_fn (finB b L1, k) (ok_least_in T) hr (a_cons (e_var 0 rfl (Dt.up (g2.tr g3) hbv')) (a_cons (e_var 1 rfl (Dt.up (g02.tr g3) h1)) a_nil)) kb (S := I _) fun _ _ _ _ r => r) a_nil) trivial (S := D (.tuple ((spots (bitsOf (leastL (finB b L1) (spots k)))).map dN))) fun _ _ _ _ r => r).eq (by rw [spots_least])) e_int (head_get (leastL_ne kb.1))) d_nil))) (show 3 ≤ 1000 by decide)).run fun v H4 g4 r => ?_)
    have hxl4 := g4 _ _ (g3 _ _ hxl2)
    have xs4 := DtA.up ((g2.tr g3).tr g4) hx
    have hL : L1.length ≤ 500 := by
      have e := congrArg List.length hrun
      rw [List.length_append] at e
      have := runF_len (layGo (spots k) p h) 500 b
      unfold layRun at e
      omega
    refine ⟨xs, hxl4, by rw [xs4.encLen]; omega, ?_⟩
    have r : Dt H4 v (dD (layD (finB b L1) (spots k) p)) := r
    have hx5 : DtA (upd H4 l (.lst (xs ++ [v]))) (xs ++ [v]) ((L1 ++ [layD (finB b L1) (spots k) p]).map dD) := by
      rw [List.map_append]
      refine DtA.off hxl4 (xs4.app (.one r)) ?_
      have z := soft_deeds (L1 ++ [layD (finB b L1) (spots k) p])
      rw [List.map_append] at z
      exact z
    have hb5 : Dt (upd H4 l (.lst (xs ++ [v]))) bv (dB (finB b L1)) := Dt.off hxl4 (Dt.up ((g2.tr g3).tr g4) hbv) (soft_dB _)
    have g05 : Gr H (upd H4 l (.lst (xs ++ [v]))) := ((g02.tr g3).tr g4).mut hl0
    refine s_one (s_set 0 sc_laid.nd (e_fn (finB b L1, layD (finB b L1) (spots k) p) (ok_behind T) hr (a_cons (e_var 0 rfl hb5) (a_cons (e_ixEnd (d := dD (layD (finB b L1) (spots k) p)) (e_var 4 rfl (.lst upd_same hx5)) (by simp)) a_nil)) hbk (S := D (dB (bump (finB b L1) (layD (finB b L1) (spots k) p)))) fun _ _ _ _ r => r) fun v' H6 g6 hv' => ?_)
    refine ⟨g05.tr g6, by omega, L1 ++ [layD (finB b L1) (spots k) p], ?_⟩
    rw [finB_snoc]
    exact ⟨by rw [List.append_assoc]; exact hrun, by omega, bo.bump hbk, kindOn_bump _ kb, ⟨_, g6 _ _ upd_same, DtA.up g6 hx5⟩, v', hv', rfl⟩
  · have hlt : ¬ lowOf (finB b L1) (spots k) < h := of_decide_eq_false hb
    have hgo : layGo (spots k) p h (finB b L1) = none := by unfold layGo; rw [if_neg hlt]
    rw [runF_none hgo, List.append_nil] at hrun
    subst hrun
    exact s_one (s_ret (e_tup (d_cons (e_var (P := D (.list ((layRun b (spots k) p h).map dD))) 4 rfl (.lst (g2 _ _ hxl) (DtA.up g2 hx))) (d_cons (e_var 0 rfl (Dt.up g2 hbv)) d_nil)) (show 2 ≤ 1000 by decide)) fun v H3 g3 r => q v H3 ((g.tr g2).tr g3) r)
abbrev sp_taken_off : Sp := Fsp (fun i : List Nat × Nat × Nat => [D (dB i.1), I (i.2.1 : Int), D (dN i.2.2)]) (fun i => BOk i.1 ∧ KindOn i.1 (spots i.2.1) ∧ offM (spots i.2.1) i.1 ≤ 200) (fun i _ => D (.tuple [.list ((offRun i.1 (spots i.2.1) i.2.2).map dD), dB (finB i.1 (offRun i.1 (spots i.2.1) i.2.2))]))
theorem ok_taken_off (T : Txt K mg) : Dn P w K mg base 3 "taken_off" p_taken_off sp_taken_off := by
  refine dn_of T.d_taken_off sc_taken_off (fun _ _ _ _ _ _ us hl => match us, hl with | [_, _, _], _ => rfl) (len_of fun _ => rfl) fun f cdv A outer s H vs Q E hr h => ?_
  obtain ⟨⟨b, k, p⟩, ⟨v0, _, rfl, h0, v1, _, rfl, h1, v2, _, rfl, h2, rfl⟩, ⟨hbo, hkb, hm⟩, q⟩ := h
  dsimp only at h0 h1 h2 hbo hkb hm q
  refine s_cons (s_set 3 sc_taken_off.nd (e_lst d_nil) fun u H1 g1 hu => ?_)
  obtain ⟨l, xs1, rfl, hl0, hl1, hx1⟩ := hu
  refine s_cons (s_while (fun m σ' H' => Gr H H' ∧ m ≤ 500 ∧ ∃ L1 : List Deed, L1 ++ runF (offGo (spots k) p) m (finB b L1) = offRun b (spots k) p ∧ offM (spots k) (finB b L1) ≤ m ∧ BOk (finB b L1) ∧ KindOn (finB b L1) (spots k) ∧ (∃ xs, H' l = some (.lst xs) ∧ DtA H' xs (L1.map dD)) ∧ ∃ bv, Dt H' bv (dB (finB b L1)) ∧ σ' = [some bv, some v1, some v2, some (.ref l)]) 500
    ⟨g1, Nat.le_refl _, [], rfl, Nat.le_trans hm (by decide), hbo, hkb, ⟨xs1, hl1, hx1⟩, v0, Dt.up g1 h0, rfl⟩ fun m σ' H' w => ?_)
  obtain ⟨g, hm5, L1, hrun, hmm, bo, kb, ⟨xs, hxl, hx⟩, bv, hbv, rfl⟩ := w
  have hbv' : Dt H' bv (.tuple ((finB b L1).map dN)) := hbv
  have hdec : (!decide (((bitsOf (mostL (finB b L1) (spots k)) : Nat) : Int) = 0)) = !decide (mostL (finB b L1) (spots k) = []) := by
    congr 1
    refine decide_eq_decide.mpr (Iff.trans ?_ bits_zero)
    omega
  refine ⟨!decide (mostL (finB b L1) (spots k) = []), (t_neI (e_fn (finB b L1, k) (ok_most_in T) hr (a_cons (e_var 0 rfl hbv') (a_cons (e_var 1 rfl (Dt.up g h1)) a_nil)) kb (S := I _) fun _ _ _ _ r => r) e_int).eq hdec, fun hb H2 g2 => ?_, fun hb H2 g2 => ?_⟩
  · have hlt : mostL (finB b L1) (spots k) ≠ [] := by simpa using hb
    have hpos := offM_pos hlt
    obtain ⟨m', rfl⟩ : ∃ m', m = m' + 1 := ⟨m - 1, by omega⟩
    have hgo : offGo (spots k) p (finB b L1) = some (offD (finB b L1) (spots k) p) := by unfold offGo; rw [if_neg hlt]
    rw [runF_some hgo] at hrun
    have hbk := off_ok (p := p) bo kb hlt
    have hmb := offM_bump (p := p) kb (spots_nodup k) hlt
    have g02 := g.tr g2
    have hxl2 := g2 _ _ hxl
    refine ⟨fun σ2 H3 => _, fun σ2 H3 w => ⟨m', Nat.lt_succ_self _, w⟩, ?_⟩
    refine s_cons (r_app (e_var 3 rfl rfl) hxl2 fun H3 g3 => (e_tup (d_cons (e_gs (T.c_TAKE).choose_spec) (d_cons (e_var 2 rfl (Dt.up (g02.tr g3) h2)) (d_cons (e_ixT (n := 0) (ds := (mostL (finB b L1) (spots k)).map dN) (d := dN ((mostL (finB b L1) (spots k)).getD 0 0)) ((e_fn (bitsOf (mostL (finB b L1) (spots k))) (ok_spots_of T) (hr.mono (by decide)) (a_cons (e_fn (finB b L1, k) (ok_most_in T) hr (a_cons (e_var 0 rfl (Dt.up (g2.tr g3) hbv')) (a_cons (e_var 1 rfl (Dt.up (g02.tr g3) h1)) a_nil)) kb (S := I _) fun _ _ _ _ r => r) a_nil) trivial (S := D (.tuple ((spots (bitsOf (mostL (finB b L1) (spots k)))).map dN))) fun _ _ _ _ r => r).eq (by rw [spots_most])) e_int (head_get hlt)) d_nil))) (show 3 ≤ 1000 by decide)).run fun v H4 g4 r => ?_)
    have hxl4 := g4 _ _ (g3 _ _ hxl2)
    have xs4 := DtA.up ((g2.tr g3).tr g4) hx
    have hL : L1.length ≤ 500 := by
      have e := congrArg List.length hrun
      rw [List.length_append] at e
      have := runF_len (offGo (spots k) p) 500 b
      unfold offRun at e
      omega
    refine ⟨xs, hxl4, by rw [xs4.encLen]; omega, ?_⟩
    have r : Dt H4 v (dD (offD (finB b L1) (spots k) p)) := r
    have hx5 : DtA (upd H4 l (.lst (xs ++ [v]))) (xs ++ [v]) ((L1 ++ [offD (finB b L1) (spots k) p]).map dD) := by
      rw [List.map_append]
      refine DtA.off hxl4 (xs4.app (.one r)) ?_
      have z := soft_deeds (L1 ++ [offD (finB b L1) (spots k) p])
      rw [List.map_append] at z
      exact z
    have hb5 : Dt (upd H4 l (.lst (xs ++ [v]))) bv (dB (finB b L1)) := Dt.off hxl4 (Dt.up ((g2.tr g3).tr g4) hbv) (soft_dB _)
    have g05 : Gr H (upd H4 l (.lst (xs ++ [v]))) := ((g02.tr g3).tr g4).mut hl0
    refine s_one (s_set 0 sc_taken_off.nd (e_fn (finB b L1, offD (finB b L1) (spots k) p) (ok_behind T) hr (a_cons (e_var 0 rfl hb5) (a_cons (e_ixEnd (d := dD (offD (finB b L1) (spots k) p)) (e_var 3 rfl (.lst upd_same hx5)) (by simp)) a_nil)) hbk (S := D (dB (bump (finB b L1) (offD (finB b L1) (spots k) p)))) fun _ _ _ _ r => r) fun v' H6 g6 hv' => ?_)
    refine ⟨g05.tr g6, by omega, L1 ++ [offD (finB b L1) (spots k) p], ?_⟩
    rw [finB_snoc]
    exact ⟨by rw [List.append_assoc]; exact hrun, by omega, bo.bump hbk, kindOn_bump _ kb, ⟨_, g6 _ _ upd_same, DtA.up g6 hx5⟩, v', hv', rfl⟩
  · have hlt : mostL (finB b L1) (spots k) = [] := by simpa using hb
    have hgo : offGo (spots k) p (finB b L1) = none := by unfold offGo; rw [if_pos hlt]
    rw [runF_none hgo, List.append_nil] at hrun
    subst hrun
    exact s_one (s_ret (e_tup (d_cons (e_var (P := D (.list ((offRun b (spots k) p).map dD))) 3 rfl (.lst (g2 _ _ hxl) (DtA.up g2 hx))) (d_cons (e_var 0 rfl (Dt.up g2 hbv)) d_nil)) (show 2 ≤ 1000 by decide)) fun v H3 g3 r => q v H3 ((g.tr g2).tr g3) r)
end
end K33
namespace K33
open PySem PySem.Spec PyProof.Rows L2
/-! plain: whole rows -/
def many1 (ds ss : List Nat) (h lot : Nat) (st : Step) : Nat := h * (spots (lot ^^^ stepB ds ss lot st)).length
def manyB (ds ss : List Nat) (h : Nat) : Nat → List Step → Nat
  | _, [] => 0
  | lot, st :: r => many1 ds ss h lot st + manyB ds ss h (stepB ds ss lot st) r
theorem manyB_snoc (ds ss : List Nat) (h : Nat) : ∀ (lot : Nat) (r : List Step) (st : Step), manyB ds ss h lot (r ++ [st]) = manyB ds ss h lot r + many1 ds ss h (r.foldl (stepB ds ss) lot) st
  | lot, [], st => by show many1 ds ss h lot st + 0 = 0 + many1 ds ss h lot st; omega
  | lot, e :: r, st => by
    show many1 ds ss h lot e + manyB ds ss h (stepB ds ss lot e) (r ++ [st]) = many1 ds ss h lot e + manyB ds ss h (stepB ds ss lot e) r + many1 ds ss h (r.foldl (stepB ds ss) (stepB ds ss lot e)) st
    rw [manyB_snoc ds ss h (stepB ds ss lot e) r st]
    omega
theorem many1_le (ds ss : List Nat) (h lot : Nat) (st : Step) : many1 ds ss h lot st ≤ h * 8 := Nat.mul_le_mul_left _ (spots_len _)
def stepRun (ds ss : List Nat) (h : Nat) (b : List Nat) (st : Step) : List Deed := if st.lay then layRun b (kindAt ds st.pos) st.pos h else offRun b (kindAt ss st.pos) st.pos
def blowF (ds ss : List Nat) (h : Nat) : List Nat → List Step → List Deed
  | _, [] => []
  | b, st :: r => stepRun ds ss h b st ++ blowF ds ss h (finB b (stepRun ds ss h b st)) r
theorem finB_app (b : List Nat) (hs gs : List Deed) : finB b (hs ++ gs) = finB (finB b hs) gs := by unfold finB; rw [List.foldl_append]
theorem blowF_snoc (ds ss : List Nat) (h : Nat) : ∀ (b : List Nat) (r : List Step) (st : Step), blowF ds ss h b (r ++ [st]) = blowF ds ss h b r ++ stepRun ds ss h (finB b (blowF ds ss h b r)) st
  | b, [], st => by show stepRun ds ss h b st ++ [] = [] ++ stepRun ds ss h b st; simp
  | b, e :: r, st => by
    show stepRun ds ss h b e ++ blowF ds ss h (finB b (stepRun ds ss h b e)) (r ++ [st]) = (stepRun ds ss h b e ++ blowF ds ss h (finB b (stepRun ds ss h b e)) r) ++ stepRun ds ss h (finB b (stepRun ds ss h b e ++ blowF ds ss h (finB b (stepRun ds ss h b e)) r)) st
    rw [blowF_snoc ds ss h _ r st, finB_app, List.append_assoc]
theorem stepRun_len (ds ss : List Nat) (h : Nat) (b : List Nat) (st : Step) : (stepRun ds ss h b st).length ≤ 500 := by
  unfold stepRun
  split
  · exact runF_len _ _ _
  · exact runF_len _ _ _
theorem blowF_len (ds ss : List Nat) (h : Nat) : ∀ (b : List Nat) (r : List Step), (blowF ds ss h b r).length ≤ 500 * r.length
  | b, [] => Nat.zero_le _
  | b, e :: r => by
    show (stepRun ds ss h b e ++ blowF ds ss h (finB b (stepRun ds ss h b e)) r).length ≤ 500 * (r.length + 1)
    rw [List.length_append]
    have := stepRun_len ds ss h b e
    have := blowF_len ds ss h (finB b (stepRun ds ss h b e)) r
    omega
/-- a step that can be blown on a board -/
def StepFit (ds ss : List Nat) (h : Nat) (b : List Nat) (st : Step) : Prop :=
  BOk b ∧ KindOn b (kindAt (if st.lay then ds else ss) st.pos) ∧ (if st.lay then layM (kindAt ds st.pos) h b ≤ 200 else offM (kindAt ss st.pos) b ≤ 200)
def RowFit (ds ss : List Nat) (h : Nat) (b : List Nat) (row : List Step) : Prop := ∀ i st, row[i]? = some st → StepFit ds ss h (finB b (blowF ds ss h b (row.take i))) st
end K33
namespace K33
open PySem PySem.Spec PyProof.Rows L2
section
variable {X : Cx} {σ : L2.St} {H : Hp} {Z : Ends} {a b c e o : Expr} {x y z : Str} {p1 p2 p3 p4 pos : Pos} {P R S : Pd} {ds : List PyData} {k : Nat}
/-- x, y = a, b -/
theorem r_par2 (i j : Nat) (hN : X.N.Nodup) [Mono P] [Mono R] {t t2 : Nat} (ha : E X a σ H P) (hb : E X b σ H R) (k : ∀ v w H1, Gr H H1 → P H1 v → R H1 w → Z.nx ((σ.set i (some v)).set j (some w)) H1) (hc : X.calm = true := by rfl) (hi : X.N[i]? = some x := by rfl) (hj : X.N[j]? = some y := by rfl) (hij : i ≠ j := by decide)
    (hx : X.env.scope.names.lookup x = some .local := by rfl) (hy : X.env.scope.names.lookup y = some .local := by rfl)
    (hw : swappedStores [.Tuple [.Name x p1, .Name y p2] t p3] (.Tuple [a, b] t2 p4) X.env = pure (some [x, y]) := by rfl) (hs : swapsWithSole [.Tuple [.Name x p1, .Name y p2] t p3] (.Tuple [a, b] t2 p4) pos.line X.env = pure false := by rfl)
    (s1 : starEach [a, b] X.env = (false, eval a X.env) :: starEach [b] X.env := by rfl) (s2 : starEach [b] X.env = (false, eval b X.env) :: starEach [] X.env := by rfl) :
    rdS X (.Assign [.Tuple [.Name x p1, .Name y p2] t p3] (.Tuple [a, b] t2 p4) pos) Z σ H :=
  rdS_of (ps_par hc hN hi hj hij hx hy (pA X [a, b]) hw hs) ((a_cons ha (a_cons hb a_nil s2) s1).run fun vs H1 g q => by
    obtain ⟨v, r, rfl, hv, w, r', rfl, hw, rfl⟩ := q
    exact ⟨v, w, rfl, k v w H1 g hv hw⟩)
theorem e_repT (ha : E X a σ H (D (.tuple ds))) (hb : E X b σ H (I (k : Int))) (hne : ds ≠ []) (h2 : 2 ≤ k) (h3 : k ≤ 1000) (hl : ds.length ≤ 1000) : E X (.BinOp a .Mult b pos) σ H (D (.tuple (List.replicate k ds).flatten)) :=
  e_op op_repT ha hb fun H1 _ x y px py Q q => by
    obtain ⟨p, xs, rfl, hp, hx⟩ := Dt.tup_eq px
    refine ⟨p, (k : Int), xs, rfl, Dt.int_eq py, .inl (.inl hp), fun z => ?_, by omega, by omega, by rw [hx.len]; exact hl, fun p' hp' => q _ _ (Gr.new hp') ?_⟩
    · subst z; cases hx; exact hne rfl
    · have rep : ∀ m : Nat, DtA H1 (List.replicate m xs).flatten (List.replicate m ds).flatten := fun m => by
        induction m with
        | zero => exact .nil
        | succ m ih => rw [List.replicate_succ, List.replicate_succ, List.flatten_cons, List.flatten_cons]; exact hx.app ih
      exact .tup upd_same ((rep _).up (Gr.new hp'))
end
section
variable {P : Program} {w : World} {K : PySem.W.Frag} {mg : Str → Option Value} {base : Heap} {C : Addr}
abbrev sp_many_deeds (C : Addr) : Sp := Fsp (fun i : SI × List Step × Nat => [Sto C i.1.1 i.1.2.1 i.1.2.2, D (.list (i.2.1.map dS)), I (i.2.2 : Int)]) (fun i => (Small i.1.2.1 ∧ Small i.1.2.2) ∧ (∀ st ∈ i.2.1, StepIn i.1.2.1 i.1.2.2 st) ∧ i.2.2 ≤ 9) (fun i _ => I (manyB i.1.2.1 i.1.2.2 i.2.2 0 i.2.1 : Int))
theorem ok_many_deeds (T : Txt K mg) (U : Cl K mg C) : Dn P w K mg base 2 "many_deeds" p_many_deeds (sp_many_deeds C) := by
  refine dn_of T.d_many_deeds sc_many_deeds (fun _ _ _ _ _ _ us hl => match us, hl with | [_, _, _], _ => rfl) (len_of fun _ => rfl) fun f cdv A outer s H vs Q E hr h => ?_
  obtain ⟨⟨⟨n, ds, ss⟩, row, h⟩, ⟨v0, _, rfl, h0, v1, _, rfl, h1, v2, _, rfl, h2, rfl⟩, ⟨⟨sd, sl⟩, hin, h9⟩, q⟩ := h
  dsimp only at h0 h1 h2 sd sl hin h9 q
  obtain ⟨a, xs, rfl, ha, hx⟩ := Dt.list_eq h1
  refine s_cons (r_set2 3 4 sc_many_deeds.nd ((e_tup (d_cons e_int (d_cons e_int d_nil)) (show 2 ≤ 1000 by decide)).run fun u H1 g1 hu => ?_))
  obtain ⟨q1, w1, w2, rfl, hq1, e1, e2⟩ := pair_of hu
  obtain rfl := Dt.int_eq e1
  obtain rfl := Dt.int_eq e2
  refine ⟨q1, _, _, rfl, hq1, s_cons (r_forL2 5 6 sc_many_deeds.nd ((e_var (P := Is (.ref a)) 1 rfl rfl).run fun v H2 g2 hv => ⟨a, xs, hv, (g1.tr g2) _ _ ha, fun i σ' H' => Gr H H' ∧ ∃ y z t, σ' = [some v0, some (.ref a), some v2, some (.int (endB ds ss (row.take i) : Int)), some (.int (manyB ds ss h 0 (row.take i) : Int)), y, z, t], ⟨g1.tr g2, none, none, none, rfl⟩, fun i σ' H' w => w.1 _ _ ha, fun i u σ' H' hu w => ?_, fun σ' H' w => ?_⟩))⟩
  · obtain ⟨g, y, z, t, rfl⟩ := w
    obtain ⟨st, hst, dst⟩ := hx.enc hu
    have dst : Dt H u (.tuple [.str (sword st.lay), dN st.pos]) := dst
    obtain ⟨l, w1, w2, rfl, hl, e1, e2⟩ := pair_of (Dt.up g dst)
    have hp := hin st (List.mem_of_getElem? hst)
    have lt := endB_lt sd sl (row.take i)
    have more : endB ds ss (row.take (i + 1)) = stepB ds ss (endB ds ss (row.take i)) st := fold_more hst
    have lt2 := endB_lt sd sl (row.take (i + 1))
    have mb : manyB ds ss h 0 (row.take (i + 1)) = manyB ds ss h 0 (row.take i) + many1 ds ss h (endB ds ss (row.take i)) st := by rw [take_more1 hst, manyB_snoc]; rfl
    refine ⟨l, w1, w2, rfl, hl, ?_⟩
    refine s_cons (s_set 7 sc_many_deeds.nd (e_if (P := I (endB ds ss (row.take (i + 1)) : Int)) ((t_eqS (e_var 5 rfl e1) (e_gs (T.c_LAY).choose_spec)).eq sword_eq) (fun hb => ?_) (fun hb => ?_)) fun v3 H3 g3 hv3 => ?_)
    · have hp' : st.pos < ds.length := by unfold StepIn at hp; rw [if_pos hb] at hp; exact hp
      refine (e_bor (e_var 3 rfl (.int _)) (e_ixT (n := st.pos) (d := dN (ds.getD st.pos 0)) (e_deliv U (e_var 0 rfl (Mono.up g h0))) (e_var 6 rfl e2) (dN_get hp'))).int ?_
      rw [bor_nat, more]
      unfold stepB
      rw [if_pos hb]
    · have hp' : st.pos < ss.length := by unfold StepIn at hp; rw [hb] at hp; exact hp
      refine (e_band (e_var 3 rfl (.int _)) (e_inv (e_ixT (n := st.pos) (d := dN (ss.getD st.pos 0)) (e_sales U (e_var 0 rfl (Mono.up g h0))) (e_var 6 rfl e2) (dN_get hp')))).int ?_
      rw [band_not _ _ lt (sl.at _), more]
      unfold stepB
      rw [hb]
      rfl
    · obtain rfl := Dt.int_eq hv3
      refine s_cons (s_set 4 sc_many_deeds.nd ((e_add (e_var 4 rfl (.int _)) (e_mul (e_var 2 rfl (Dt.up (g.tr g3) h2)) (e_len T.b_len (a_cons (P := Q2 ((spots (endB ds ss (row.take i) ^^^ endB ds ss (row.take (i + 1)))).map dN)) (e_fn (endB ds ss (row.take i) ^^^ endB ds ss (row.take (i + 1))) (ok_spots_of T) hr (a_cons ((e_bxor (e_var 3 rfl (.int _)) (e_var 7 rfl (.int _))).int (bxor_nat _ _ lt lt2)) a_nil) trivial fun _ _ _ _ r => .inr r) a_nil)) (.inl ⟨by omega, by omega⟩))).int (j := (manyB ds ss h 0 (row.take (i + 1)) : Int)) ?_) fun v4 H4 g4 hv4 => ?_)
      · rw [List.length_map, mb]
        unfold many1
        rw [← more]
        simp
      · obtain rfl := Dt.int_eq hv4
        refine s_one (s_set 3 sc_many_deeds.nd (e_var (P := I (endB ds ss (row.take (i + 1)) : Int)) 7 rfl (.int _)) fun v5 H5 g5 hv5 => ?_)
        obtain rfl := Dt.int_eq hv5
        exact ⟨((g.tr g3).tr g4).tr g5, _, _, _, rfl⟩
  · obtain ⟨g, y, z, t, rfl⟩ := w
    rw [hx.encLen, List.take_length]
    exact s_one (s_ret (e_var (P := I (manyB ds ss h 0 row : Int)) 4 rfl (.int _)) fun v H3 g3 r => q v H3 (g.tr g3) r)
def flat0 (n : Nat) : List Nat := List.replicate n 0
abbrev sp_blown_deeds (C : Addr) : Sp := Fsp (fun i : SI × List Step × Nat => [Sto C i.1.1 i.1.2.1 i.1.2.2, D (.list (i.2.1.map dS)), I (i.2.2 : Int)]) (fun i => (2 ≤ i.1.1 ∧ i.1.1 ≤ 8) ∧ i.2.1.length ≤ 60 ∧ (∀ st ∈ i.2.1, StepIn i.1.2.1 i.1.2.2 st) ∧ i.2.2 ≤ 9 ∧ RowFit i.1.2.1 i.1.2.2 i.2.2 (flat0 i.1.1) i.2.1) (fun i H => NewL H ((blowF i.1.2.1 i.1.2.2 i.2.2 (flat0 i.1.1) i.2.1).map dD))
theorem ok_blown_deeds (T : Txt K mg) (U : Cl K mg C) : Dn P w K mg base 4 "blown_deeds" p_blown_deeds (sp_blown_deeds C) := by
  refine dn_of T.d_blown_deeds sc_blown_deeds (fun _ _ _ _ _ _ us hl => match us, hl with | [_, _, _], _ => rfl) (len_of fun _ => rfl) fun f cdv A outer s H vs Q E hr h => ?_
  obtain ⟨⟨⟨n, ds, ss⟩, row, h⟩, ⟨v0, _, rfl, h0, v1, _, rfl, h1, v2, _, rfl, h2, rfl⟩, ⟨⟨hn2, hn8⟩, hl60, hin, h9, hfit⟩, q⟩ := h
  dsimp only at h0 h1 h2 hn2 hn8 hl60 hin h9 hfit q
  obtain ⟨a, xs, rfl, ha, hx⟩ := Dt.list_eq h1
  refine s_cons (r_par2 3 4 sc_blown_deeds.nd (P := D (dB (flat0 n))) (R := NewL H []) ((e_repT (e_tup (d_cons e_int d_nil) (show 1 ≤ 1000 by decide)) (e_shelves U (e_var 0 rfl h0)) (by simp) hn2 (by omega) (show 1 ≤ 1000 by decide)).eq ?_) (e_lst d_nil) fun bv lv H1 g1 hb1 hl1 => ?_)
  · unfold dB flat0
    rw [List.map_replicate]
    congr 1
    have : ∀ (m : Nat) (z : PyData), (List.replicate m [z]).flatten = List.replicate m z := fun m z => by
      induction m with
      | zero => rfl
      | succ m ih => rw [List.replicate_succ, List.flatten_cons, ih]; rfl
    exact this n _
  obtain ⟨l, xs1, rfl, hl0, hl1, hx1⟩ := hl1
  refine s_cons (r_forL2 5 6 sc_blown_deeds.nd ((e_var (P := Is (.ref a)) 1 rfl rfl).run fun v H2 g2 hv => ⟨a, xs, hv, (g1.tr g2) _ _ ha, fun i σ' H' => Gr H H' ∧ (∃ zs, H' l = some (.lst zs) ∧ DtA H' zs ((blowF ds ss h (flat0 n) (row.take i)).map dD)) ∧ ∃ bv y z t, Dt H' bv (dB (finB (flat0 n) (blowF ds ss h (flat0 n) (row.take i)))) ∧ σ' = [some v0, some (.ref a), some v2, some bv, some (.ref l), y, z, t], ⟨g1.tr g2, ⟨xs1, g2 _ _ hl1, DtA.up g2 hx1⟩, bv, none, none, none, Dt.up g2 hb1, rfl⟩, fun i σ' H' w => w.1 _ _ ha, fun i u σ' H' hu w => ?_, fun σ' H' w => ?_⟩))
  · obtain ⟨g, ⟨zs, hzl, hz⟩, bv, y, z, t, hbv, rfl⟩ := w
    obtain ⟨st, hst, dst⟩ := hx.enc hu
    have dst : Dt H u (.tuple [.str (sword st.lay), dN st.pos]) := dst
    obtain ⟨lp, w1, w2, rfl, hlp, e1, e2⟩ := pair_of (Dt.up g dst)
    have hp := hin st (List.mem_of_getElem? hst)
    have ft := hfit i st hst
    obtain ⟨bo, kb, mm⟩ := ft
    refine ⟨lp, w1, w2, rfl, hlp, ?_⟩
    let b1 := finB (flat0 n) (blowF ds ss h (flat0 n) (row.take i))
    let run := stepRun ds ss h b1 st
    have fin : ∀ (H3 : Hp) (v3 v4 : V) (y z : Option V), Gr H' H3 → Dt H3 v3 (.list (run.map dD)) → Dt H3 v4 (dB (finB b1 run)) → ∀ Z2 : Ends, (∀ σ2 H4, (Gr H H4 ∧ (∃ zs, H4 l = some (.lst zs) ∧ DtA H4 zs ((blowF ds ss h (flat0 n) (row.take (i + 1))).map dD)) ∧ ∃ bv y z t, Dt H4 bv (dB (finB (flat0 n) (blowF ds ss h (flat0 n) (row.take (i + 1))))) ∧ σ2 = [some v0, some (.ref a), some v2, some bv, some (.ref l), y, z, t]) → Z2.nx σ2 H4) →
        rdSs (Xd P w K mg base n_blown_deeds "blown_deeds" s_blown_deeds f cdv A outer s H E) ((defBody s_blown_deeds).getD 1 (.Pass ⟨0, 0, 0, 0⟩) |> fun | .For _ _ b _ _ => b.drop 1 | _ => []) Z2 [some v0, some (.ref a), some v2, some v4, some (.ref l), y, z, some v3] H3 := fun H3 v3 v4 y z g3 d3 d4 Z2 fin => by
      have hzl3 := g3 _ _ hzl
      refine s_one (r_extend (e_var 4 rfl rfl) hzl3 fun H4 g4 => (e_var (P := D (.list (run.map dD))) 7 rfl (Dt.up g4 d3)).run fun v5 H5 g5 r5 => ?_)
      obtain ⟨b, ys, rfl, hb, hy⟩ := Dt.list_eq r5
      have g35 := g4.tr g5
      have hzl5 := g35 _ _ hzl3
      have hz5 := DtA.up (g3.tr g35) hz
      refine ⟨b, zs, ys, rfl, hzl5, hb, ?_, fin _ _ ⟨((g.tr g3).tr g35).mut hl0, ⟨_, upd_same, ?_⟩, v4, _, _, _, ?_, rfl⟩⟩
      · rw [hz5.encLen, hy.encLen]
        have l1 := blowF_len ds ss h (flat0 n) (row.take i)
        have l2 := stepRun_len ds ss h b1 st
        have l3 := List.length_take_le' i row
        show _ + (stepRun ds ss h b1 st).length ≤ _
        omega
      · rw [take_more1 hst, blowF_snoc, List.map_append]
        refine DtA.off hzl5 (hz5.app hy) ?_
        have z := soft_deeds (blowF ds ss h (flat0 n) (row.take i) ++ run)
        rw [List.map_append] at z
        exact z
      · rw [take_more1 hst, blowF_snoc, finB_app]
        exact Dt.off hzl5 (Dt.up g35 d4) (soft_dB _)
    refine s_cons (s_if ((t_eqS (e_var 5 rfl e1) (e_gs (T.c_LAY).choose_spec)).eq sword_eq) (fun hb H3 g3 => ?_) (fun hb H3 g3 => ?_))
    · have hp' : st.pos < ds.length := by unfold StepIn at hp; rw [if_pos hb] at hp; exact hp
      rw [if_pos hb] at kb mm
      have hrun : run = layRun b1 (kindAt ds st.pos) st.pos h := by show stepRun ds ss h b1 st = _; unfold stepRun; rw [if_pos hb]
      refine s_one (r_set2 7 3 sc_blown_deeds.nd ((e_fn (b1, ds.getD st.pos 0, st.pos, h) (ok_laid T) hr (a_cons (e_var 3 rfl (Dt.up g3 hbv)) (a_cons (e_ixT (n := st.pos) (d := dN (ds.getD st.pos 0)) (e_deliv U (e_var 0 rfl (Mono.up (g.tr g3) h0))) (e_var 6 rfl (Dt.up g3 e2)) (dN_get hp')) (a_cons (e_var 6 rfl (Dt.up g3 e2)) (a_cons (e_var 2 rfl (Dt.up (g.tr g3) h2)) a_nil)))) ⟨bo, kb, mm, (show h ≤ 60 by omega)⟩ (S := D (.tuple [.list (run.map dD), dB (finB b1 run)])) fun _ _ _ _ r => by rw [hrun]; exact r).run fun v H4 g4 r => ?_))
      obtain ⟨q1, w1, w2, rfl, hq1, r1, r2⟩ := pair_of r
      exact ⟨q1, w1, w2, rfl, hq1, fin H4 w1 w2 _ _ (g3.tr g4) r1 r2 _ fun σ2 H4 w => w⟩
    · have hp' : st.pos < ss.length := by unfold StepIn at hp; rw [hb] at hp; exact hp
      simp only [hb, Bool.false_eq_true, if_false] at kb mm
      have hrun : run = offRun b1 (kindAt ss st.pos) st.pos := by show stepRun ds ss h b1 st = _; unfold stepRun; rw [hb]; rfl
      refine s_one (r_set2 7 3 sc_blown_deeds.nd ((e_fn (b1, ss.getD st.pos 0, st.pos) (ok_taken_off T) hr (a_cons (e_var 3 rfl (Dt.up g3 hbv)) (a_cons (e_ixT (n := st.pos) (d := dN (ss.getD st.pos 0)) (e_sales U (e_var 0 rfl (Mono.up (g.tr g3) h0))) (e_var 6 rfl (Dt.up g3 e2)) (dN_get hp')) (a_cons (e_var 6 rfl (Dt.up g3 e2)) a_nil))) ⟨bo, kb, mm⟩ (S := D (.tuple [.list (run.map dD), dB (finB b1 run)])) fun _ _ _ _ r => by rw [hrun]; exact r).run fun v H4 g4 r => ?_))
      obtain ⟨q1, w1, w2, rfl, hq1, r1, r2⟩ := pair_of r
      exact ⟨q1, w1, w2, rfl, hq1, fin H4 w1 w2 _ _ (g3.tr g4) r1 r2 _ fun σ2 H4 w => w⟩
  · obtain ⟨g, ⟨zs, hzl, hz⟩, bv, y, z, t, hbv, rfl⟩ := w
    rw [hx.encLen, List.take_length] at hz
    exact s_one (s_ret (e_var (P := NewL H ((blowF ds ss h (flat0 n) row).map dD)) 4 rfl ⟨l, zs, rfl, hl0, hzl, hz⟩) fun v H3 g3 r => q v H3 (g.tr g3) r)
abbrev sp_blown (C : Addr) : Sp := Fsp (fun i : SI × List Step × Nat => [Sto C i.1.1 i.1.2.1 i.1.2.2, Q2 (i.2.1.map dS), I (i.2.2 : Int)]) (fun i => (Small i.1.2.1 ∧ Small i.1.2.2) ∧ (2 ≤ i.1.1 ∧ i.1.1 ≤ 8) ∧ i.2.1.length ≤ 60 ∧ (∀ st ∈ i.2.1, StepIn i.1.2.1 i.1.2.2 st) ∧ i.2.2 ≤ 9 ∧ RowFit i.1.2.1 i.1.2.2 i.2.2 (flat0 i.1.1) i.2.1 ∧ manyB i.1.2.1 i.1.2.2 i.2.2 0 i.2.1 ≤ 200) (fun i H => NewL H ((blowF i.1.2.1 i.1.2.2 i.2.2 (flat0 i.1.1) i.2.1).map dD))
theorem fn_blown (T : Txt K mg) (U : Cl K mg C) {f : Addr} {fd : FuncData} (F0 : Fun K "blown" "blown" s_blown f fd) : FnOk P w K mg base CX0 6 f fd p_blown (sp_blown C) := by
  refine F0.ok sc_blown (len_of fun _ => rfl) fun cdv A outer s H vs Q E hr h => ⟨_, pSs _ _, ?_⟩
  obtain ⟨⟨⟨n, ds, ss⟩, row, h⟩, ⟨v0, _, rfl, h0, v1, _, rfl, h1, v2, _, rfl, h2, rfl⟩, ⟨hsm, hn, hl60, hin, h9, hfit, hmany⟩, q⟩ := h
  dsimp only at h0 h1 h2 hsm hn hl60 hin h9 hfit hmany q
  refine s_cons (s_expr (e_fn (n, ds, ss) (ok_want_store T U) (hr.mono (by decide)) (a_cons (e_var 0 rfl h0) a_nil) trivial (S := Any) fun _ _ _ _ _ => trivial) fun _ H1 g1 _ => ?_)
  refine s_cons (s_set 3 sc_blown.nd (e_fn ((n, ds, ss), row) (ok_want_row T U) hr (a_cons (e_var 0 rfl (Mono.up g1 h0)) (a_cons (e_var 1 rfl (Mono.up g1 h1)) a_nil)) ⟨hl60, hin⟩ (S := D (.list (row.map dS))) fun _ _ _ _ r => r.d) fun u H2 g2 hu => ?_)
  have g12 := g1.tr g2
  refine s_cons (s_skip (Wt.t ((w_or (b1 := false) (b2 := false) ((t_not (t_val (e_fn (h : Int) (ok_is_count T) (hr.mono (by decide)) (a_cons (e_var 2 rfl (Dt.up g12 h2)) a_nil) trivial fun _ _ _ _ r => r))).eq (by simp)) fun _ => w_or1 ((t_gt (e_var 2 rfl (Dt.up g12 h2)) (e_gi (T.c_MOST_HEIGHT).choose_spec)).eq (by simp; omega))))) fun H3 g3 => ?_)
  have g13 := g12.tr g3
  refine s_cons (s_expr (e_fn (("deeds" : Str), (200 : Int), (manyB ds ss h 0 row : Int)) (ok_want_at_most T) (hr.mono (by decide)) (a_cons e_str (a_cons (e_gi (T.c_MOST_DEEDS).choose_spec) (a_cons (e_fn ((n, ds, ss), row, h) (ok_many_deeds T U) (hr.mono (by decide)) (a_cons (e_var 0 rfl (Mono.up g13 h0)) (a_cons (e_var 3 rfl (Dt.up g3 hu)) (a_cons (e_var 2 rfl (Dt.up g13 h2)) a_nil))) ⟨hsm, hin, h9⟩ (S := I _) fun _ _ _ _ r => r) a_nil))) (by show ((manyB ds ss h 0 row : Nat) : Int) ≤ 200; omega) (S := Any) fun _ _ _ _ _ => trivial) fun _ H4 g4 _ => ?_)
  have g14 := g13.tr g4
  exact s_one (s_ret (e_fn ((n, ds, ss), row, h) (ok_blown_deeds T U) (hr.mono (by decide)) (a_cons (e_var 0 rfl (Mono.up g14 h0)) (a_cons (e_var 3 rfl (Dt.up (g3.tr g4) hu)) (a_cons (e_var 2 rfl (Dt.up g14 h2)) a_nil))) ⟨hn, hl60, hin, h9, hfit⟩ (S := NewL H4 ((blowF ds ss h (flat0 n) row).map dD)) fun _ _ _ g r => r.back g) fun v H5 g5 r => q v H5 (g14.tr g5) (r.back g14))
theorem ok_blown (T : Txt K mg) (U : Cl K mg C) : Dn P w K mg base 6 "blown" p_blown (sp_blown C) := by
  obtain ⟨f, fd, F, hm⟩ := T.d_blown
  exact ⟨f, fd, fn_blown T U F, hm, F.kp, F.binds fun _ _ _ _ _ _ us hl => match us, hl with | [_, _, _], _ => rfl⟩
end
end K33
namespace K33
open PySem PySem.Spec PyProof.Rows L2
/-! a heap without the pot -/
def wo (p : Addr) (H : Hp) : Hp := fun q => if q = p then none else H q
theorem wo_ne {p q : Addr} {H : Hp} (h : q ≠ p) : wo p H q = H q := by unfold wo; rw [if_neg h]
theorem wo_self {p : Addr} {H : Hp} : wo p H p = none := by unfold wo; rw [if_pos rfl]
theorem wo_some {p q : Addr} {H : Hp} {o : HO} (h : wo p H q = some o) : q ≠ p ∧ H q = some o := by
  have hq : q ≠ p := fun z => by rw [z, wo_self] at h; cases h
  exact ⟨hq, by rw [wo_ne hq] at h; exact h⟩
theorem wo_sub (p : Addr) (H : Hp) : Gr (wo p H) H := fun q o h => (wo_some h).2
theorem wo_gr {p : Addr} {H H' : Hp} (g : Gr H H') : Gr (wo p H) (wo p H') := fun q o h => by
  obtain ⟨h1, h2⟩ := wo_some h
  rw [wo_ne h1]
  exact g q o h2
theorem wo_upd (p : Addr) (H : Hp) (o : HO) : wo p (upd H p o) = wo p H := funext fun q => by
  by_cases h : q = p
  · subst h; rw [wo_self, wo_self]
  · rw [wo_ne h, wo_ne h, upd_ne h]
theorem wo_none {p q : Addr} {H : Hp} (h : H q = none) : wo p H q = none := by
  by_cases e : q = p
  · subst e; exact wo_self
  · rw [wo_ne e]; exact h
mutual
theorem Dt.wo {H : Hp} {p : Addr} {zs : List V} (hp : H p = some (.lst zs)) : ∀ {v : V} {d : PyData}, Dt H v d → soft d = true → Dt (wo p H) v d
  | _, _, .non, _ => .non
  | _, _, .bl b, _ => .bl b
  | _, _, .int i, _ => .int i
  | _, _, .str x, _ => .str x
  | _, _, .lst h a, s => by simp [soft] at s
  | _, _, .tup (a := q) h a, s => .tup (by rw [wo_ne (ne_of h hp (by intro z; cases z))]; exact h) (DtA.wo hp a (by simpa [soft] using s))
theorem DtA.wo {H : Hp} {p : Addr} {zs : List V} (hp : H p = some (.lst zs)) : ∀ {v : List V} {d : List PyData}, DtA H v d → softA d = true → DtA (wo p H) v d
  | _, _, .nil, _ => .nil
  | _, _, .cons h t, s => by
    simp only [softA, Bool.and_eq_true] at s
    exact .cons (Dt.wo hp h s.1) (DtA.wo hp t s.2)
end
def Pot (p : Addr) (H : Hp) : Prop := ∃ a b : Int, H p = some (.lst [.int a, .int b]) ∧ 0 ≤ a ∧ 0 ≤ b ∧ b < 2147483629
theorem Pot.lst {p : Addr} {H : Hp} (h : Pot p H) : ∃ zs, H p = some (.lst zs) := by obtain ⟨a, b, h, _⟩ := h; exact ⟨_, h⟩
theorem Pot.up {p : Addr} {H H' : Hp} (g : Gr H H') (h : Pot p H) : Pot p H' := by obtain ⟨a, b, h, k⟩ := h; exact ⟨a, b, g _ _ h, k⟩
/-- H has grown out of G, but for the pot -/
def St (p : Addr) (G H : Hp) : Prop := Gr G (wo p H) ∧ Pot p H
theorem St.gr {p : Addr} {G H H' : Hp} (h : St p G H) (g : Gr H H') : St p G H' := ⟨h.1.tr (wo_gr g), h.2.up g⟩
theorem St.tr {p : Addr} {G H H' : Hp} (h : St p G H) (k : St p (wo p H) H') : St p G H' := ⟨h.1.tr k.1, k.2⟩
theorem St.refl {p : Addr} {H : Hp} (h : Pot p H) : St p (wo p H) H := ⟨Gr.refl _, h⟩
theorem St.of {p : Addr} {H H' : Hp} (h : Pot p H) (g : Gr H H') : St p (wo p H) H' := ⟨wo_gr g, h.up g⟩
theorem St.sub {p : Addr} {G H : Hp} (h : St p G H) : Gr G H := h.1.tr (wo_sub p H)
theorem St.soft {p : Addr} {G H : Hp} {v : V} {d : PyData} (h : St p G H) (k : Dt H v d) (s : soft d = true) : Dt (wo p H) v d := by
  obtain ⟨zs, hz⟩ := h.2.lst
  exact Dt.wo hz k s
theorem St.ne {p : Addr} {G H : Hp} {q : Addr} (h : St p G H) (k : H q = none) : q ≠ p := fun z => by
  obtain ⟨zs, hz⟩ := h.2.lst
  rw [z, hz] at k
  cases k
theorem St.fresh {p : Addr} {G H : Hp} {q : Addr} (h : St p G H) (k : H q = none) : G q = none := h.1.back (wo_none k)
/-- an expression amid draws -/
def Evx (p : Addr) (te : TE) (σ : L2.St) (G : Hp) (P : Pd) : Prop := ∀ H1, St p G H1 → ∀ Q : VK, (∀ v H2, St p (wo p H1) H2 → P (wo p H2) v → Q v H2) → te σ H1 Q
def Etx (p : Addr) (tt : TT) (σ : L2.St) (G : Hp) : Prop := ∀ H1, St p G H1 → ∀ Q : Bool → Hp → Prop, (∀ b H2, St p (wo p H1) H2 → Q b H2) → tt σ H1 Q
def Eax (p : Addr) (ta : TA) (σ : L2.St) (G : Hp) (Ps : List Pd) : Prop := ∀ H1, St p G H1 → ∀ Q : List V → Hp → Prop, (∀ vs H2, St p (wo p H1) H2 → AllP Ps (wo p H2) vs → Q vs H2) → ta σ H1 Q
abbrev Xe (p : Addr) (X : Cx) (e : Expr) (σ : L2.St) (G : Hp) (P : Pd) : Prop := Evx p (rdE X e) σ G P
abbrev Xt (p : Addr) (X : Cx) (e : Expr) (σ : L2.St) (G : Hp) : Prop := Etx p (rdT X e) σ G
abbrev Xa (p : Addr) (X : Cx) (es : List Expr) (σ : L2.St) (G : Hp) (Ps : List Pd) : Prop := Eax p (rdA X es) σ G Ps
def Below (m : Nat) : Pd := fun _ v => ∃ d : Nat, d < m ∧ v = .int (d : Int)
instance {m : Nat} : Mono (Below m) := ⟨fun _ h => h⟩
section
variable {p : Addr} {X : Cx} {σ : L2.St} {G H : Hp} {Z : Ends} {a b c e o : Expr} {es : List Expr} {x : Str} {pos q : Pos} {P R S : Pd} {Ps : List Pd} {d : PyData} {ds : List PyData} {i : Int} {m : Nat} {v : V}
theorem Evx.of {te : TE} (h : PE X e te) (k : Evx p te σ G P) : Xe p X e σ G P := fun H1 s Q q => rdE_of h (k H1 s Q q)
theorem Evx.imp {te : TE} (h : Evx p te σ G P) (k : ∀ H v, P H v → R H v) : Evx p te σ G R := fun H1 s Q q => h H1 s Q fun v H2 s2 r => q v H2 s2 (k _ _ r)
theorem Evx.run {te : TE} (h : Evx p te σ G P) (s : St p G H) {Q : VK} (k : ∀ v H2, St p (wo p H) H2 → P (wo p H2) v → Q v H2) : te σ H Q := h H s Q k
theorem x_E {P : Hp → Pd} (h : ∀ H1, St p G H1 → E X e σ H1 (P H1)) (k : ∀ H1 H2 v, St p G H1 → Gr H1 H2 → P H1 H2 v → R (wo p H2) v) : Xe p X e σ G R := fun H1 s Q q =>
  h H1 s H1 (Gr.refl _) Q fun v H2 g r => q v H2 (St.of s.2 g) (k H1 H2 v s g r)
theorem x_soft (h : ∀ H1, St p G H1 → E X e σ H1 (D d)) (hs : soft d = true) : Xe p X e σ G (D d) := x_E (P := fun _ => D d) h fun H1 H2 v s g r => (s.gr g).soft r hs
theorem x_new (h : ∀ H1, St p G H1 → E X e σ H1 (NewL H1 ds)) (hs : softA ds = true) : Xe p X e σ G (D (.list ds)) := x_E (P := fun H1 => NewL H1 ds) h fun H1 H2 v s g r => by
  obtain ⟨l, xs, rfl, h1, h2, h3⟩ := r
  obtain ⟨zs, hz⟩ := (s.gr g).2.lst
  exact .lst (by rw [wo_ne (s.ne h1)]; exact h2) (DtA.wo hz h3 hs)
theorem x_int {t} : Xe p X (.Constant (.int i) t pos) σ G (I i) := x_soft (fun _ _ => e_int) rfl
theorem x_var (ix : Nat) (hs : σ[ix]? = some (some v)) (h : P G v) [Mono P] (hN : X.N[ix]? = some x := by rfl) (hv : Vis X.env.scope x := by first | exact Or.inl rfl | exact Or.inr (Or.inl rfl) | exact Or.inr (Or.inr rfl))
    (hd : (x == ("__debug__" : Str)) = false := by decide) (hcd : (x == ("__classdict__" : Str)) = false := by decide) : Xe p X (.Name x pos) σ G P :=
  .of (pe_var hN hv hd hcd) fun H1 s Q q => ⟨v, hs, q v H1 (St.refl s.2) (Mono.up s.1 h)⟩
theorem xa_nil : Xa p X [] σ G [] := fun H1 s Q q => rdA_of pa_nil (q [] H1 (St.refl s.2) rfl)
theorem xa_cons [Mono P] (h : Xe p X e σ G P) (hr : Xa p X es σ G Ps) (hs : starEach (e :: es) X.env = (false, eval e X.env) :: starEach es X.env := by rfl) : Xa p X (e :: es) σ G (P :: Ps) := fun H1 s Q q =>
  rdA_of (pa_cons (pE X e) (pA X es) hs) (h H1 s _ fun v H2 s2 r => hr H2 (s.tr s2) _ fun vs H3 s3 t => q _ H3 (s2.tr s3) ⟨v, vs, rfl, Mono.up s3.1 r, t⟩)
/-- a promise of a def whose first argument is a pot -/
def Psp {ι : Type} (A : ι → List Pd) (Pre : ι → Prop) (R : ι → Hp → Pd) : Sp := fun vs H Q _ => ∃ p r i, vs = .ref p :: r ∧ Pot p H ∧ AllP (A i) (wo p H) r ∧ Pre i ∧ ∀ v H', St p (wo p H) H' → R i (wo p H) (wo p H') v → Q v H'
theorem x_fn {lv : Nat} {ps : List Str} {ι : Type} {A : ι → List Pd} {Pre : ι → Prop} {R : ι → Hp → Pd} (i : ι) (F : Dn X.prog X.w X.K X.mg X.base lv x ps (Psp A Pre R)) (hr : Room lv X.A) (ha : Xa p X (e :: es) σ G (Is (.ref p) :: A i)) (hp : Pre i)
    (hR : ∀ H1 H2 v, St p G H1 → St p (wo p H1) H2 → R i (wo p H1) (wo p H2) v → S (wo p H2) v) (hg : Gl X x := by rfl) (hd : (x == ("__debug__" : Str)) = false := by decide)
    (he : starEach (e :: es) X.env = (false, eval e X.env) :: starEach es X.env := by rfl) (hpl : (backTo pos (starEach es X.env)).any (·.1) = false := by rfl) : Xe p X (.Call (.Name x q) (e :: es) [] pos) σ G S := fun H1 s Q k => by
  obtain ⟨f, fd, F, hm, hk, hb⟩ := F
  refine rdE_of (pe_call F hr hg hm hk hb .nil pass0 (pA X _) hd he hpl) (ha H1 s _ fun vs H2 s2 t => ?_)
  show Psp A Pre R (vs ++ []) H2 Q E0
  rw [List.append_nil]
  obtain ⟨v, r, rfl, hv, hr⟩ := t
  have e1 : v = .ref p := hv
  subst e1
  exact ⟨p, r, i, rfl, s2.2, hr, hp, fun v H3 s3 r => k v H3 (s2.tr s3) (hR H2 H3 v (s.tr s2) s3 r)⟩
theorem ev_opx {r : R2} {ta tb : TE} [Mono P] (ha : Evx p ta σ G P) (hb : Evx p tb σ G R) (hr : ∀ H1, St p G H1 → ∀ x y, P (wo p H1) x → R (wo p H1) y → ∀ Q : VK, (∀ v H2, Gr H1 H2 → S (wo p H2) v → Q v H2) → r x y H1 Q) : Evx p (tOp r ta tb) σ G S := fun H1 s Q q =>
  ha H1 s _ fun x H2 s2 px => hb H2 (s.tr s2) _ fun y H3 s3 py => hr H3 ((s.tr s2).tr s3) x y (Mono.up s3.1 px) py Q fun v H4 g r => q v H4 ((s2.tr s3).gr g) r
/-- e == j, e drawn -/
theorem xt_eq {t : Nat} (ha : Xe p X a σ G (Below m)) : Xt p X (.Compare a [.Eq] [.Constant (.int i) t q] pos) σ G :=
  fun H1 s Q k => rdT_of (pt_cmpR op_eq (pE X a) (pE X _) (nomark _)) (ha H1 s _ fun x H2 s2 px => e_int H2 (Gr.refl _) _ fun y H3 g py => by
    obtain ⟨d, hd, rfl⟩ := px
    obtain rfl := Dt.int_eq py
    exact ⟨rfl, ⟨_, rfl, k _ H3 (s2.gr g)⟩⟩)
theorem x_if (h : Xt p X c σ G) (h1 : Xe p X a σ G P) (h2 : Xe p X b σ G P) : Xe p X (.IfExp c a b pos) σ G P :=
  .of (pe_ifExp (pT X c) (pE X a) (pE X b)) fun H1 s Q q => h H1 s _ fun bb H2 s2 => by
    cases bb with
    | true => exact iteT (h1 H2 (s.tr s2) Q fun v H3 s3 => q v H3 (s2.tr s3))
    | false => exact iteF (h2 H2 (s.tr s2) Q fun v H3 s3 => q v H3 (s2.tr s3))
theorem x_ifb {b1 : Bool} (h : ∀ H1, St p G H1 → T X c σ H1 b1) (h1 : b1 = true → Xe p X a σ G P) (h2 : b1 = false → Xe p X b σ G P) : Xe p X (.IfExp c a b pos) σ G P :=
  .of (pe_ifExp (pT X c) (pE X a) (pE X b)) fun H1 s Q q => h H1 s H1 (Gr.refl _) _ fun H2 g => by
    cases b1 with
    | true => exact iteT (h1 rfl H2 (s.gr g) Q fun v H3 s3 => q v H3 ((St.of s.2 g).tr s3))
    | false => exact iteF (h2 rfl H2 (s.gr g) Q fun v H3 s3 => q v H3 ((St.of s.2 g).tr s3))
theorem r_ifx {sa sb : List Stmt} (h : Xt p X c σ G) (s : St p G H) (h1 : ∀ H1, St p (wo p H) H1 → rdSs X sa Z σ H1) (h2 : ∀ H1, St p (wo p H) H1 → rdSs X sb Z σ H1) : rdS X (.If c sa sb pos) Z σ H :=
  rdS_of (ps_if (pT X c) (pSs X sa) (pSs X sb)) (h H s _ fun b H1 s1 => by
    cases b with
    | true => exact iteT (h1 H1 s1)
    | false => exact iteF (h2 H1 s1))
theorem x_add {m : Nat} (ha : Xe p X a σ G (I i)) (hb : Xe p X b σ G (Below m)) : Xe p X (.BinOp a .Add b pos) σ G (fun _ v => ∃ d : Nat, d < m ∧ v = .int (i + d)) :=
  .of (pe_op op_add (pE X a) (pE X b)) (ev_opx ha hb fun H1 s x y px py Q k => by
    obtain ⟨d, hd, rfl⟩ := py
    exact ⟨i, d, Dt.int_eq px, rfl, k _ H1 (Gr.refl _) ⟨d, hd, rfl⟩⟩)
/-- xs[e], e drawn -/
theorem x_ixB {m : Nat} (ha : Xe p X a σ G (D (.list ds))) (hb : Xe p X b σ G (Below m)) (hm : m ≤ ds.length) (hs : PlainIx b := by intro _ _; rfl) : Xe p X (.Subscript a b pos) σ G (fun H v => ∃ (k : Nat) (d : PyData), k < m ∧ ds[k]? = some d ∧ Dt H v d) :=
  .of (pe_ix ix_list (pE X a) (pE X b) hs) (ev_opx ha hb fun H1 s x y px py Q k => by
    obtain ⟨l, xs, rfl, hp, hx⟩ := Dt.list_eq px
    obtain ⟨j, hj, rfl⟩ := py
    have hl : j < ds.length := Nat.lt_of_lt_of_le hj hm
    obtain ⟨v, hv, dv⟩ := hx.get (List.getElem?_eq_getElem hl)
    exact ⟨l, xs, j, v, rfl, rfl, .inl (.inl (wo_sub _ _ _ _ hp)), atI_nat hv, k v H1 (Gr.refl _) ⟨j, _, hj, List.getElem?_eq_getElem hl, dv⟩⟩)
end
end K33
namespace K33
open PySem PySem.Spec PyProof.Rows L2
section
variable {X : Cx} {σ : L2.St} {H : Hp} {Z : Ends} {a b c e o : Expr} {x y : Str} {p p1 p2 p3 p4 pos : Pos} {P R S : Pd} {ds : List PyData}
/-- the script -/
def Scr (K : PySem.W.Frag) (ns : List Int) : Pd := fun H v => ∃ a, v = .ref a ∧ SqL K H a (ns.map V.int)
instance {K : PySem.W.Frag} {ns : List Int} : Mono (Scr K ns) := ⟨fun g ⟨a, e, h⟩ => ⟨a, e, Same.seq g h⟩⟩
theorem e_lenS {K : PySem.W.Frag} {ns : List Int} (hK : X.K = K) (hm : X.mg "len" = none) (ha : EA X [e] σ H [Scr K ns]) (hg : Gl X "len" := by rfl) (he : starEach [e] X.env = (false, eval e X.env) :: starEach [] X.env := by rfl) (hpl : (backTo pos (starEach [] X.env)).any (·.1) = false := by rfl) : E X (.Call (.Name "len" p) [e] [] pos) σ H (I (ns.length : Int)) :=
  e_cb call_len_seq PySem.boot_len hm ha (rc1 fun H1 g v hv Q q => by
    obtain ⟨a, rfl, h⟩ := hv
    subst hK
    exact ⟨a, _, rfl, .inl h, q _ H1 (Gr.refl _) (by rw [List.length_map]; exact .int _)⟩) hg (by decide) (by decide) he hpl
theorem e_ixS {K : PySem.W.Frag} {ns : List Int} {n : Nat} {i : Int} (hK : X.K = K) (ha : E X a σ H (Scr K ns)) (hb : E X b σ H (I (n : Int))) (hi : ns[n]? = some i) (hs : PlainIx b := by intro _ _; rfl) : E X (.Subscript a b pos) σ H (I i) :=
  .of (pe_ix ix_list (pE X a) (pE X b) hs) (ev_op ha hb fun H1 _ x y px py Q q => by
    obtain ⟨p, rfl, hp⟩ := px
    subst hK
    exact ⟨p, _, n, .int i, rfl, Dt.int_eq py, hp, atI_nat (by rw [List.getElem?_map, hi]; rfl), q _ H1 (Gr.refl _) (.int _)⟩)
/-- xs[k], y = e, e a pair -/
theorem r_subset {l : Addr} (k j : Nat) (hN : X.N.Nodup) {t : Nat} (h : rdE X e σ H fun v H1 => ∃ q w u xs, v = .ref q ∧ H1 q = some (.tup [w, u]) ∧ E X o σ H1 (Is (.ref l)) ∧ E X c σ H1 (I (k : Int)) ∧ H1 l = some (.lst xs) ∧ k < xs.length ∧ ∀ H2, Gr H1 H2 → Z.nx (σ.set j (some u)) (upd H2 l (.lst (xs.set k w)))) (hc : X.calm = true := by rfl) (hj : X.N[j]? = some y := by rfl)
    (hy : Loc X.env.scope y := by first | exact Or.inl rfl | exact Or.inr rfl) (fy : X.fn y = true ∨ X.env.scope.names.lookup y = some .local := by first | exact .inl rfl | exact .inr rfl)
    (hs : swapsWithSole [.Tuple [.Subscript o c p1, .Name y p2] t p3] e pos.line X.env = pure false := by rfl) (hw : swappedStores [.Tuple [.Subscript o c p1, .Name y p2] t p3] e X.env = pure none := by rfl)
    (h1 : (assignEach [.Tuple [.Subscript o c p1, .Name y p2] t p3] X.env).map (·.2) = [assign (.Tuple [.Subscript o c p1, .Name y p2] t p3) X.env] := by rfl)
    (hn : (assignEach [.Subscript o c p1, .Name y p2] X.env).length = 2 := by rfl) (hst : (assignEach [.Subscript o c p1, .Name y p2] X.env).findIdx? (·.1) = none := by rfl)
    (ha1 : (assignEach [.Subscript o c p1, .Name y p2] X.env).map (·.2) = assign (.Subscript o c p1) X.env :: (assignEach [.Name y p2] X.env).map (·.2) := by rfl) (ha2 : (assignEach [.Name y p2] X.env).map (·.2) = assign (.Name y p2) X.env :: (assignEach [] X.env).map (·.2) := by rfl)
    (ha : ∀ v, assign (.Subscript o c p1) X.env v = (do
      let ov ← holding [v] (eval o X.env)
      let iv ← holding [v, ov] (eval c X.env)
      standAt p1
      holding [v, ov, iv] (setItem ov iv v)
      release [v, ov, iv] []) := by intro _; rfl) :
    rdS X (.Assign [.Tuple [.Subscript o c p1, .Name y p2] t p3] e pos) Z σ H :=
  rdS_of (ps_asg (pE X e) (pg_tup hc (pgs_cons (pg_sub (pE X o) (pE X c) set_list ha) (pgs_cons (pg_name hN hj hy fy) pgs_nil ha2) ha1) hn hst) hs hw h1) (Nx.w h fun v H1 ⟨q, w, u, xs, e1, h2, h3, h4, h5, h6, h7⟩ =>
    ⟨q, [w, u], e1, .inl (.inl h2), rfl, w, [u], rfl, h3 H1 (Gr.refl _) _ fun vo H2 g2 ho => h4 H2 g2 _ fun vi H3 g3 hi => by
      have e2 : vo = .ref l := ho
      have e3 := Dt.int_eq hi
      subst e2 e3
      have hx : ixN xs.length (k : Int) = some k := by
        unfold ixN
        rw [if_pos (by omega), if_pos (by omega)]
        simp
      exact ⟨l, xs, k, k, rfl, rfl, (g2.tr g3) _ _ h5, hx, u, [], rfl, rfl, h7 H3 (g2.tr g3)⟩⟩)
/-- x, y = a, b, one behind the other -/
theorem r_par2c (i j : Nat) (hN : X.N.Nodup) {t t2 : Nat} (h : rdE X a σ H fun v H1 => rdE X b σ H1 fun w H2 => Z.nx ((σ.set i (some v)).set j (some w)) H2) (hc : X.calm = true := by rfl) (hi : X.N[i]? = some x := by rfl) (hj : X.N[j]? = some y := by rfl) (hij : i ≠ j := by decide)
    (hx : X.env.scope.names.lookup x = some .local := by rfl) (hy : X.env.scope.names.lookup y = some .local := by rfl)
    (hw : swappedStores [.Tuple [.Name x p1, .Name y p2] t p3] (.Tuple [a, b] t2 p4) X.env = pure (some [x, y]) := by rfl) (hs : swapsWithSole [.Tuple [.Name x p1, .Name y p2] t p3] (.Tuple [a, b] t2 p4) pos.line X.env = pure false := by rfl)
    (s1 : starEach [a, b] X.env = (false, eval a X.env) :: starEach [b] X.env := by rfl) (s2 : starEach [b] X.env = (false, eval b X.env) :: starEach [] X.env := by rfl) :
    rdS X (.Assign [.Tuple [.Name x p1, .Name y p2] t p3] (.Tuple [a, b] t2 p4) pos) Z σ H :=
  rdS_of (ps_par hc hN hi hj hij hx hy (pa_cons (pE X a) (pa_cons (pE X b) pa_nil s2) s1) hw hs) (Nx.w h fun v H1 k => Nx.w k fun w H2 z => ⟨v, w, rfl, z⟩)
/-- a new list of these very values -/
def NewV (H0 : Hp) (xs : List V) : Pd := fun H v => ∃ l, v = .ref l ∧ H0 l = none ∧ H l = some (.lst xs)
instance {H0 : Hp} {xs : List V} : Mono (NewV H0 xs) := ⟨fun g ⟨l, h1, h2, h3⟩ => ⟨l, h1, h2, g _ _ h3⟩⟩
theorem e_listV {a : Addr} {xs : List V} (hm : X.mg "list" = none) (ha : E X e σ H (Is (.ref a))) (h0 : H a = some (.lst xs) ∨ H a = some (.tup xs)) (hg : Gl X "list" := by rfl) (he : starEach [e] X.env = (false, eval e X.env) :: starEach [] X.env := by rfl) (hpl : (backTo pos (starEach [] X.env)).any (·.1) = false := by rfl) : E X (.Call (.Name "list" p) [e] [] pos) σ H (NewV H xs) :=
  e_ct call_list_of PyProof.Rows.boot_list hm (a_cons ha a_nil he) (rc1 fun H1 g v hv Q q => by
    have e1 : v = .ref a := hv
    subst e1
    exact ⟨a, xs, rfl, h0.elim (fun h => .inl (.inl (.inl (g _ _ h)))) (fun h => .inr (.inl (.inl (g _ _ h)))), fun l hl => q _ _ (Gr.new hl) ⟨l, rfl, g.back hl, upd_same⟩⟩) hg (by decide) (by decide) he hpl
/-- len, a place, tuple of a list by its values -/
theorem e_lenV {l : Addr} {xs : List V} (hm : X.mg "len" = none) (ha : E X e σ H (Is (.ref l))) (h0 : H l = some (.lst xs)) (hg : Gl X "len" := by rfl) (he : starEach [e] X.env = (false, eval e X.env) :: starEach [] X.env := by rfl) (hpl : (backTo pos (starEach [] X.env)).any (·.1) = false := by rfl) : E X (.Call (.Name "len" p) [e] [] pos) σ H (I (xs.length : Int)) :=
  e_cb call_len_seq PySem.boot_len hm (a_cons ha a_nil he) (rc1 fun H1 g v hv Q q => by
    have e1 : v = .ref l := hv
    subst e1
    exact ⟨l, xs, rfl, .inl (.inl (.inl (g _ _ h0))), q _ H1 (Gr.refl _) (.int _)⟩) hg (by decide) (by decide) he hpl
theorem e_ixV {l : Addr} {xs : List V} {n : Nat} {v : V} (ha : E X a σ H (Is (.ref l))) (h0 : H l = some (.lst xs)) (hb : E X b σ H (I (n : Int))) (hi : xs[n]? = some v) (hs : PlainIx b := by intro _ _; rfl) : E X (.Subscript a b pos) σ H (Is v) :=
  .of (pe_ix ix_list (pE X a) (pE X b) hs) (ev_op ha hb fun H1 g x y px py Q q => by
    have e1 : x = .ref l := px
    subst e1
    exact ⟨l, xs, n, v, rfl, Dt.int_eq py, .inl (.inl (g _ _ h0)), atI_nat hi, q v H1 (Gr.refl _) rfl⟩)
/-- a new tuple of these very values -/
def NewT (H0 : Hp) (xs : List V) : Pd := fun H v => ∃ l, v = .ref l ∧ H0 l = none ∧ H l = some (.tup xs)
instance {H0 : Hp} {xs : List V} : Mono (NewT H0 xs) := ⟨fun g ⟨l, h1, h2, h3⟩ => ⟨l, h1, h2, g _ _ h3⟩⟩
theorem e_tupleV {l : Addr} {xs : List V} (hm : X.mg "tuple" = none) (ha : E X e σ H (Is (.ref l))) (h0 : H l = some (.lst xs)) (hg : Gl X "tuple" := by rfl) (he : starEach [e] X.env = (false, eval e X.env) :: starEach [] X.env := by rfl) (hpl : (backTo pos (starEach [] X.env)).any (·.1) = false := by rfl) : E X (.Call (.Name "tuple" p) [e] [] pos) σ H (NewT H xs) :=
  e_ct call_tuple_of PyProof.Rows.boot_tuple hm (a_cons ha a_nil he) (rc1 fun H1 g v hv Q q => by
    have e1 : v = .ref l := hv
    subst e1
    exact ⟨l, xs, rfl, .inl ⟨.inl (.inl (g _ _ h0)), fun t ht => q _ _ (Gr.new ht) ⟨t, rfl, g.back ht, upd_same⟩⟩⟩) hg (by decide) (by decide) he hpl
end
theorem len_ofP {ι : Type} {A : ι → List Pd} {Pre : ι → Prop} {R : ι → Hp → Pd} {n : Nat} (h : ∀ i, (A i).length + 1 = n) : ∀ vs H Q E, Psp A Pre R vs H Q E → vs.length = n := fun vs H Q E ⟨p, r, i, e, _, t, _⟩ => by rw [e, List.length_cons, t.len, h i]
theorem St.mut {p l : Addr} {G H : Hp} {o : HO} (h : St p G H) (hl : G l = none) (hp : l ≠ p) : St p G (upd H l o) := ⟨fun q u k => by
  have h1 := h.1 q u k
  obtain ⟨h2, h3⟩ := wo_some h1
  rw [wo_ne h2, upd_ne (ne_of_none k hl)]
  exact h3, by obtain ⟨a, b, h3, h4⟩ := h.2; exact ⟨a, b, by rw [upd_ne hp.symm]; exact h3, h4⟩⟩
theorem St.keep {p l : Addr} {H H' : Hp} {o : HO} (h : St p (wo p H) H') (hp : l ≠ p) (hl : H l = some o) : H' l = some o := (wo_some (h.1 l o (by rw [wo_ne hp]; exact hl))).2
section
variable {P : Program} {w : World} {K : PySem.W.Frag} {mg : Str → Option Value} {base : Heap}
/-- a new pot -/
def PotN (H0 : Hp) : Pd := fun H v => ∃ p, v = .ref p ∧ H0 p = none ∧ Pot p H
abbrev sp__law_pot (K : PySem.W.Frag) : Sp := Fsp (fun ns : List Int => [Scr K ns, I 0]) (fun _ => True) (fun _ H => PotN H)
theorem ok__law_pot (T : Txt K mg) : Dn P w K mg base 1 "_law_pot" p__law_pot (sp__law_pot K) := by
  refine dn_of T.d__law_pot sc__law_pot (fun _ _ _ _ _ _ us hl => match us, hl with | [_, _], _ => rfl) (len_of fun _ => rfl) fun f cdv A outer s H vs Q E hr h => ?_
  obtain ⟨ns, ⟨v0, _, rfl, h0, v1, _, rfl, h1, rfl⟩, _, q⟩ := h
  dsimp only at h0 h1 q
  obtain ⟨c, hc0, hc⟩ : ∃ c : Int, 0 ≤ c ∧ ((ns = [] ∧ c = 199) ∨ ∃ i r, ns = i :: r ∧ c = if i < 0 then -i else i) := by
    cases ns with
    | nil => exact ⟨199, by decide, .inl ⟨rfl, rfl⟩⟩
    | cons i r => exact ⟨if i < 0 then -i else i, by split <;> omega, .inr ⟨i, r, rfl, rfl⟩⟩
  refine s_cons (s_set (P := I c) 2 sc__law_pot.nd ?_ fun u H1 g1 hu => ?_)
  · rcases hc with ⟨rfl, rfl⟩ | ⟨i, r, rfl, rfl⟩
    · exact e_if (b1 := false) ((t_lt (e_var 1 rfl h1) (e_lenS rfl T.b_len (a_cons (e_var 0 rfl h0) a_nil))).eq (by decide)) (fun z => nomatch z) fun _ => (e_add (e_mul e_int (e_var 1 rfl h1) (.inl (by decide))) e_int).int (by decide)
    · exact e_if (b1 := true) ((t_lt (e_var 1 rfl h1) (e_lenS rfl T.b_len (a_cons (e_var 0 rfl h0) a_nil))).eq (by simp)) (fun _ => e_abs T.b_abs (a_cons (e_ixS (n := 0) rfl (e_var 0 rfl h0) (e_var 1 rfl h1) rfl) a_nil)) (fun z => nomatch z)
  refine s_one (s_ret (e_lst (d_cons (e_max2 T.b_max rfl (a_cons e_int (a_cons (e_sub (e_var 2 rfl hu) (e_pow e_int e_int ⟨by decide, by decide, by decide⟩)) a_nil))) (d_cons (e_add (e_mod (e_intf T.b_int (a_cons (e_add (e_add (e_mul (e_mod (e_intf T.b_int (a_cons (e_var 2 rfl hu) a_nil)) e_int (by decide)) e_int (.inr (by decide))) (e_mul e_int (e_var 1 rfl (Dt.up g1 h1)) (.inl (by decide)))) e_int) a_nil)) e_int (by decide)) e_int) d_nil)) (show 2 ≤ 1000 by decide)) fun v H2 g2 r => q v H2 (g1.tr g2) ?_)
  obtain ⟨p, xs, rfl, h2, h3, h4⟩ := r
  cases h4 with
  | cons a t =>
    cases t with
    | cons b t =>
      cases t
      obtain rfl := Dt.int_eq a
      obtain rfl := Dt.int_eq b
      refine ⟨p, rfl, g1.back h2, _, _, h3, ?_, ?_, ?_⟩
      · split <;> omega
      · omega
      · omega
abbrev sp__law_draw : Sp := Psp (fun m : Nat => [I (m : Int)]) (fun m => 0 < m ∧ m < 1073741824) (fun m _ => Below m)
theorem ok__law_draw (T : Txt K mg) : Dn P w K mg base 1 "_law_draw" p__law_draw sp__law_draw := by
  refine dn_of T.d__law_draw sc__law_draw (fun _ _ _ _ _ _ us hl => match us, hl with | [_, _], _ => rfl) (len_ofP fun _ => rfl) fun f cdv A outer s H vs Q E hr h => ?_
  obtain ⟨p, r, m, rfl, hpot, ⟨v1, _, rfl, h1, rfl⟩, ⟨hm, hm2⟩, q⟩ := h
  dsimp only at h1 hm hm2 q
  obtain ⟨a, b, hp, ha, hb, hb2⟩ := hpot
  obtain rfl := Dt.int_eq h1
  have pd : ∀ {a b : Int} {H : Hp}, H p = some (.lst [.int a, .int b]) → D (.list [.int a, .int b]) H (.ref p) := fun h => .lst h (.cons (.int _) (.cons (.int _) .nil))
  have fin : ∀ {H1 : Hp} {a' b' : Int}, (∀ q o, q ≠ p → H q = some o → H1 q = some o) → H1 p = some (.lst [.int a', .int b']) → 0 ≤ a' → 0 ≤ b' → b' < 2147483629 → St p (wo p H) H1 := fun k hp h1 h2 h3 => ⟨fun q o e => by
    obtain ⟨e1, e2⟩ := wo_some e
    rw [wo_ne e1]
    exact k q o e1 e2, _, _, hp, h1, h2, h3⟩
  refine s_cons (s_if (t_gt (e_ixL (n := 0) (d := .int a) (e_var 0 rfl (pd hp)) e_int rfl) e_int) (fun hb1 H1 g1 => ?_) (fun hb1 H1 g1 => s_nil ?_))
  · have hp1 := g1 _ _ hp
    refine s_cons (r_subset (l := p) 0 2 sc__law_draw.nd ((e_cb (S := fun H v => ∃ q, v = .ref q ∧ H q = some (.tup [.int (a / m), .int (a % m)])) call_divmod PyProof.Rows.boot_divmod T.b_divmod (a_cons (e_ixL (n := 0) (d := .int a) (e_var 0 rfl (pd hp1)) e_int rfl) (a_cons (e_var (P := I (m : Int)) 1 rfl (.int _)) a_nil)) fun H2 g2 vs t Q q => ?_).run fun v H2 g2 r => ?_))
    · obtain ⟨v, r, rfl, hv, w, r', rfl, hw, rfl⟩ := t
      refine ⟨a, m, by rw [Dt.int_eq hv, Dt.int_eq hw], ⟨by omega, by omega⟩, fun l hl => q _ _ (Gr.new hl) ⟨l, rfl, upd_same⟩⟩
    · obtain ⟨q1, rfl, hq⟩ := r
      have hp2 := g2 _ _ hp1
      refine ⟨q1, _, _, _, rfl, hq, e_var 0 rfl rfl, e_int, hp2, (show 0 < 2 by decide), fun H3 g3 => ?_⟩
      refine s_one (s_ret (e_var (P := I (a % m)) 2 rfl (.int _)) fun v H4 g4 r => q v H4 (fin (a' := a / m) (b' := b) (fun q o hq ho => g4 _ _ (by rw [upd_ne hq]; exact g3 _ _ (g2 _ _ (g1 _ _ ho)))) (g4 _ _ upd_same) (Int.ediv_nonneg ha (by omega)) hb hb2) ⟨(a % m).toNat, ?_, ?_⟩)
      · have := Int.emod_lt_of_pos a (show (0 : Int) < m by omega)
        have := Int.emod_nonneg a (show (m : Int) ≠ 0 by omega)
        omega
      · have := Int.emod_nonneg a (show (m : Int) ≠ 0 by omega)
        rw [Dt.int_eq r]
        congr 1
        omega
  · have hp1 := g1 _ _ hp
    let b1 : Int := (b * 39373 + 731) % 2147483629
    refine s_cons (r_setIx (l := p) (k := 1) (P := I b1) (e_mod (e_intf T.b_int (a_cons (e_add (e_mul (e_ixL (n := 1) (d := .int b) (e_var 0 rfl (pd hp1)) e_int rfl) e_int (.inr (by decide))) e_int) a_nil)) e_int (by decide)) (e_var 0 rfl rfl) e_int hp1 (show 1 < 2 by decide) fun v H2 g2 hv => ?_)
    obtain rfl := Dt.int_eq hv
    have hp2 : (upd H2 p (.lst ([V.int a, V.int b].set 1 (V.int b1)))) p = some (.lst [.int a, .int b1]) := upd_same
    have hb1 : 0 ≤ b1 ∧ b1 < 2147483629 := ⟨Int.emod_nonneg _ (by decide), Int.emod_lt_of_pos _ (by decide)⟩
    refine s_one (s_ret (e_mod (e_intf T.b_int (a_cons (e_fdiv (e_mod (e_intf T.b_int (a_cons (e_mul (e_ixL (n := 1) (d := .int b1) (e_var 0 rfl (pd hp2)) e_int rfl) (e_ixL (n := 1) (d := .int b1) (e_var 0 rfl (pd hp2)) e_int rfl) (.inl ⟨by omega, by omega⟩)) a_nil)) e_int (by decide)) e_int ⟨by decide, by decide⟩) a_nil)) (e_var (P := I (m : Int)) 1 rfl (.int _)) (by omega)) fun v H4 g4 r => q v H4 (fin (a' := a) (b' := b1) (fun q o hq ho => g4 _ _ (by rw [upd_ne hq]; exact g2 _ _ (g1 _ _ ho))) (g4 _ _ hp2) ha hb1.1 hb1.2) ⟨(b1 * b1 % 2147483587 / 13 % m).toNat, ?_, ?_⟩)
    · have := Int.emod_lt_of_pos (b1 * b1 % 2147483587 / 13) (show (0 : Int) < m by omega)
      have := Int.emod_nonneg (b1 * b1 % 2147483587 / 13) (show (m : Int) ≠ 0 by omega)
      omega
    · have := Int.emod_nonneg (b1 * b1 % 2147483587 / 13) (show (m : Int) ≠ 0 by omega)
      rw [Dt.int_eq r]
      congr 1
      omega
abbrev sp__law_pick : Sp := Psp (fun ds : List PyData => [D (.list ds)]) (fun ds => ds ≠ [] ∧ ds.length < 1000) (fun ds _ H v => ∃ (k : Nat) (d : PyData), ds[k]? = some d ∧ Dt H v d)
theorem ok__law_pick (T : Txt K mg) : Dn P w K mg base 2 "_law_pick" p__law_pick sp__law_pick := by
  refine dn_of T.d__law_pick sc__law_pick (fun _ _ _ _ _ _ us hl => match us, hl with | [_, _], _ => rfl) (len_ofP fun _ => rfl) fun f cdv A outer s H vs Q E hr h => ?_
  obtain ⟨p, r, ds, rfl, hpot, ⟨v1, _, rfl, h1, rfl⟩, ⟨hne, hl⟩, q⟩ := h
  have hpos := List.length_pos_iff.mpr hne
  refine s_one (r_ret ((x_ixB (x_var 1 rfl h1) (x_fn (p := p) ds.length (ok__law_draw T) hr (xa_cons (x_var 0 rfl rfl) (xa_cons (x_soft (fun H1 s => e_len T.b_len (a_cons (P := Q2 ds) (e_var 1 rfl (.inl (Dt.up s.sub h1))) a_nil)) rfl) xa_nil)) ⟨hpos, by omega⟩ (S := Below ds.length) fun _ _ _ _ _ r => r) (Nat.le_refl _)).run (St.refl hpot) fun v H2 s2 ⟨k, d, _, hk, hd⟩ => q v H2 s2 ⟨k, d, hk, hd⟩))
/-- a list of these very values -/
def LstV (a : Addr) (xs : List V) : Pd := fun H v => v = .ref a ∧ H a = some (.lst xs)
instance {a : Addr} {xs : List V} : Mono (LstV a xs) := ⟨fun g ⟨h1, h2⟩ => ⟨h1, g _ _ h2⟩⟩
abbrev sp__law_mixed : Sp := Psp (fun i : Addr × List V => [LstV i.1 i.2]) (fun i => i.2.length < 1000) (fun i H0 H v => ∃ l ys, ys.Perm i.2 ∧ v = .ref l ∧ H0 l = none ∧ H l = some (.lst ys))
theorem ok__law_mixed (T : Txt K mg) : Dn P w K mg base 2 "_law_mixed" p__law_mixed sp__law_mixed := by
  refine dn_of T.d__law_mixed sc__law_mixed (fun _ _ _ _ _ _ us hl => match us, hl with | [_, _], _ => rfl) (len_ofP fun _ => rfl) fun f cdv A outer s H vs Q E hr h => ?_
  obtain ⟨p, r, ⟨a, xs⟩, rfl, hpot, ⟨v1, _, rfl, ⟨rfl, h1⟩, rfl⟩, hl, q⟩ := h
  dsimp only at h1 hl q
  have haH := wo_sub p H _ _ h1
  have hap := (wo_some h1).1
  refine s_cons (r_par2c 2 3 sc__law_mixed.nd ((e_listV T.b_list (e_var 1 rfl rfl) (.inl haH)).run fun v H1 g1 r1 => (e_lst d_nil).run fun u H2 g2 r2 => ?_))
  obtain ⟨l, rfl, hl0, hl1⟩ := r1
  obtain ⟨f1, ys, rfl, hf0, hf1, hy⟩ := r2
  cases hy
  have s2 : St p (wo p H) H2 := (St.refl hpot).gr (g1.tr g2)
  have hlp : l ≠ p := (St.refl hpot).ne hl0
  have hfH : H f1 = none := g1.back hf0
  have hfp : f1 ≠ p := (St.refl hpot).ne hfH
  have hfl : f1 ≠ l := fun z => by rw [z, hl1] at hf0; cases hf0
  refine s_cons (r_forR 4 sc__law_mixed.nd T.b_range ((e_lenV T.b_len (e_var 1 rfl rfl) ((g1.tr g2) _ _ haH)).run fun v H3 g3 hv => ⟨xs.length, Dt.int_eq hv, by omega, fun i σ' H' => St p (wo p H) H' ∧ (∃ xl xf, H' l = some (.lst xl) ∧ H' f1 = some (.lst xf) ∧ i + xl.length = xs.length ∧ xf.length = i ∧ (xl ++ xf).Perm xs) ∧ ∃ y, σ' = [some (.ref p), some (.ref a), some (.ref l), some (.ref f1), y], ⟨s2.gr g3, ⟨xs, [], g3 _ _ (g2 _ _ hl1), g3 _ _ hf1, by simp, rfl, by rw [List.append_nil]⟩, none, rfl⟩, fun i σ' H' hi w => ?_, fun σ' H' w => ?_⟩))
  · obtain ⟨st, ⟨dl, df, hxl, hxf, e1, e2, pm⟩, y, rfl⟩ := w
    have hpos : 0 < dl.length := by omega
    refine s_one (r_app (e_var 3 rfl rfl) hxf fun H4 g4 => r_popAt (e_var 2 rfl rfl) (g4 _ _ hxl) fun H5 g5 => ?_)
    have st5 := (st.gr g4).gr g5
    have hxl5 := g5 _ _ (g4 _ _ hxl)
    have hxf5 := g5 _ _ (g4 _ _ hxf)
    refine (x_fn (p := p) (G := wo p H5) dl.length (ok__law_draw T) hr (xa_cons (x_var 0 rfl rfl) (xa_cons (x_soft (fun H1 s => e_lenV T.b_len (e_var 2 rfl rfl) (s.keep hlp hxl5)) rfl) xa_nil)) ⟨hpos, by omega⟩ (S := Below dl.length) fun _ _ _ _ _ r => r).run (St.refl st5.2) fun v H6 s6 r => ?_
    obtain ⟨k, hk, rfl⟩ := r
    have hxl6 := s6.keep hlp hxl5
    have hxf6 := s6.keep hfp hxf5
    refine ⟨dl, dl[k], k, rfl, hxl6, List.getElem?_eq_getElem hk, by omega, df, by rw [upd_ne hfl]; exact hxf6, by omega, ?_⟩
    refine ⟨((st5.tr s6).mut (wo_none hl0) hlp).mut (wo_none hfH) hfp, ⟨_, _, by rw [upd_ne hfl.symm]; exact upd_same, upd_same, ?_, ?_, ?_⟩, _, rfl⟩
    · rw [List.length_eraseIdx_of_lt hk]; omega
    · rw [List.length_append, e2]; rfl
    · refine List.Perm.trans ?_ pm
      have e4 : dl = dl.take k ++ dl[k] :: dl.drop (k + 1) := by rw [List.getElem_cons_drop, List.take_append_drop]
      have e5 : dl.eraseIdx k = dl.take k ++ dl.drop (k + 1) := List.eraseIdx_eq_take_drop_succ _ _
      have h6 : (dl.eraseIdx k ++ (df ++ [dl[k]])).Perm (dl ++ df) := by
        rw [e5]
        refine List.Perm.trans (l₂ := (dl.take k ++ dl.drop (k + 1)) ++ (dl[k] :: df)) (List.Perm.append_left _ (List.perm_append_comm (l₁ := df) (l₂ := [dl[k]]))) ?_
        refine List.Perm.trans List.perm_middle ?_
        refine List.Perm.trans (l₂ := (dl.take k ++ dl[k] :: dl.drop (k + 1)) ++ df) (List.Perm.append_right df (List.perm_middle (l₁ := dl.take k)).symm) ?_
        rw [← e4]
      exact h6
  · obtain ⟨st, ⟨dl, df, hxl, hxf, e1, e2, pm⟩, y, rfl⟩ := w
    have e3 : dl = [] := List.length_eq_zero_iff.mp (by omega)
    subst e3
    refine s_one (s_ret (e_var (P := Is (.ref f1)) 3 rfl rfl) fun v H4 g4 r => ?_)
    have e4 : v = .ref f1 := r
    subst e4
    exact q _ H4 (st.gr g4) ⟨f1, df, pm, rfl, wo_none hfH, by rw [wo_ne hfp]; exact g4 _ _ hxf⟩
end
end K33
namespace K33
open PySem PySem.Spec PyProof.Rows L2
/-! plain: data compared, laid out -/
theorem eqvAll_enc {α : Type} [DecidableEq α] {f : α → PyData} (h : ∀ a b, PyData.eqv (f a) (f b) = decide (a = b)) : ∀ xs ys : List α, PyData.eqvAll (xs.map f) (ys.map f) = decide (xs = ys)
  | [], [] => by simp only [List.map_nil, PyData.eqvAll, decide_true]
  | [], _ :: _ => by simp [PyData.eqvAll]
  | _ :: _, [] => by simp [PyData.eqvAll]
  | x :: xs, y :: ys => by
    rw [List.map_cons, List.map_cons, PyData.eqvAll, h x y, eqvAll_enc h xs ys, ← Bool.decide_and]
    exact decide_eq_decide.mpr (by rw [List.cons.injEq])
theorem eqv_list {α : Type} [DecidableEq α] {f : α → PyData} (h : ∀ a b, PyData.eqv (f a) (f b) = decide (a = b)) (xs ys : List α) : PyData.eqv (.list (xs.map f)) (.list (ys.map f)) = decide (xs = ys) := by
  rw [PyData.eqv]
  exact eqvAll_enc h xs ys
theorem eqv_dN (a b : Nat) : PyData.eqv (dN a) (dN b) = decide (a = b) := by
  show ((a : Int) == (b : Int)) = _
  rw [Bool.eq_iff_iff, beq_iff_eq, decide_eq_true_eq]
  omega
theorem eqv_dL (l m : List Nat) : PyData.eqv (dL l) (dL m) = decide (l = m) := eqv_list eqv_dN l m
theorem eqv_str (x y : Str) : PyData.eqv (.str x) (.str y) = decide (x = y) := by
  show (x == y) = _
  rw [Bool.eq_iff_iff, beq_iff_eq, decide_eq_true_eq]
theorem word_inj {a b : Bool} : word a = word b ↔ a = b := by cases a <;> cases b <;> decide
theorem eqv_dD (d e : Deed) : PyData.eqv (dD d) (dD e) = decide (d = e) := by
  show PyData.eqvAll [.str (word d.put), dN d.pos, dN d.sh] [.str (word e.put), dN e.pos, dN e.sh] = _
  rw [PyData.eqvAll, PyData.eqvAll, PyData.eqvAll, PyData.eqvAll, eqv_str, eqv_dN, eqv_dN, Bool.and_true, ← Bool.decide_and, ← Bool.decide_and]
  refine decide_eq_decide.mpr ?_
  rw [word_inj]
  cases d
  cases e
  simp
theorem canAll_enc {α : Type} {f : α → PyData} (h : ∀ a, (f a).canLay0 = true) : ∀ l : List α, PyData.canLayAll0 (l.map f) = true
  | [] => rfl
  | x :: r => by rw [List.map_cons, PyData.canLayAll0, h x, canAll_enc h r]; rfl
theorem depthAll_enc {α : Type} {f : α → PyData} {n : Nat} (h : ∀ a, (f a).depth ≤ n) : ∀ l : List α, PyData.depthAll (l.map f) ≤ n
  | [] => Nat.zero_le _
  | x :: r => by
    rw [List.map_cons, PyData.depthAll]
    exact Nat.max_le.mpr ⟨h x, depthAll_enc h r⟩
theorem can_list {α : Type} {f : α → PyData} (h : ∀ a, (f a).canLay0 = true) (l : List α) : (PyData.list (l.map f)).canLay0 = true := by
  rw [PyData.canLay0]; exact canAll_enc h l
theorem depth_list {α : Type} {f : α → PyData} {n : Nat} (h : ∀ a, (f a).depth ≤ n) (l : List α) : (PyData.list (l.map f)).depth ≤ n + 1 := by
  rw [PyData.depth]
  have := depthAll_enc h l
  omega
theorem shaped_of {d : PyData} {n : Nat} (h : d.canLay0 = true) (k : d.depth ≤ n) (hn : n ≤ 64 := by decide) : SeqAt.shaped d = true := by
  unfold SeqAt.shaped
  rw [h, decide_eq_true (Nat.le_trans k hn)]
  rfl
theorem can_dN (n : Nat) : (dN n).canLay0 = true := rfl
theorem depth_dN (n : Nat) : (dN n).depth ≤ 0 := Nat.le_refl _
theorem can_dL (l : List Nat) : (dL l).canLay0 = true := can_list can_dN l
theorem depth_dL (l : List Nat) : (dL l).depth ≤ 1 := depth_list depth_dN l
theorem word_ok (b : Bool) : PyData.canLay0 (.str (word b)) = true := by cases b <;> decide +kernel
theorem sword_ok (b : Bool) : PyData.canLay0 (.str (sword b)) = true := by cases b <;> decide +kernel
theorem can_dD (d : Deed) : (dD d).canLay0 = true := by
  show PyData.canLay0 (.tuple [.str (word d.put), dN d.pos, dN d.sh]) = true
  rw [PyData.canLay0, PyData.canLayAll0, PyData.canLayAll0, PyData.canLayAll0, PyData.canLayAll0, word_ok]
  rfl
theorem depth_dD (d : Deed) : (dD d).depth ≤ 1 := by
  show (PyData.tuple [.str (word d.put), dN d.pos, dN d.sh]).depth ≤ 1
  rw [PyData.depth, PyData.depthAll, PyData.depthAll, PyData.depthAll, PyData.depthAll]
  show max 0 (max 0 (max 0 0)) + 1 ≤ 1
  decide
theorem sh_dL (l : List Nat) : SeqAt.shaped (dL l) = true := shaped_of (can_dL l) (depth_dL l)
theorem sh_nats (l : List Nat) : SeqAt.shaped (.list (l.map dN)) = true := sh_dL l
theorem sh_dLs (l : List (List Nat)) : SeqAt.shaped (.list (l.map dL)) = true := shaped_of (can_list can_dL l) (depth_list depth_dL l)
theorem sh_dDs (l : List Deed) : SeqAt.shaped (.list (l.map dD)) = true := shaped_of (can_list can_dD l) (depth_list depth_dD l)
theorem sh_nil : SeqAt.shaped (.list []) = true := sh_dL []
theorem eqv_nil {α : Type} [DecidableEq α] {f : α → PyData} (h : ∀ a b, PyData.eqv (f a) (f b) = decide (a = b)) (xs : List α) : PyData.eqv (.list (xs.map f)) (.list []) = decide (xs = []) := eqv_list h xs []
theorem any_dL (ls : List (List Nat)) (l : List Nat) : ((ls.map dL).any fun z => PyData.eqv z (dL l)) = decide (l ∈ ls) := by
  induction ls with
  | nil => simp
  | cons x r ih =>
    rw [List.map_cons, List.any_cons, ih, eqv_dL]
    by_cases e : x = l
    · subst e; simp
    · have e' : ¬ l = x := fun z => e z.symm
      simp [e, e']
/-- permuted values, permuted data -/
theorem DtA.perm {α : Type} {enc : α → PyData} {G : Hp} {xs ys : List V} (p : ys.Perm xs) : ∀ {as : List α}, DtA G xs (as.map enc) → ∃ bs : List α, bs.Perm as ∧ DtA G ys (bs.map enc) := by
  induction p with
  | nil => intro as h; exact ⟨as, .refl _, h⟩
  | cons x p ih =>
    intro as h
    cases as with
    | nil => cases h
    | cons a r =>
      cases h with
      | cons h t =>
        obtain ⟨bs, pb, hb⟩ := ih t
        exact ⟨a :: bs, pb.cons a, .cons h hb⟩
  | swap x y l =>
    intro as h
    match as, h with
    | a :: b :: r, .cons h1 (.cons h2 t) => exact ⟨b :: a :: r, .swap a b r, .cons h2 (.cons h1 t)⟩
  | trans p1 p2 ih1 ih2 =>
    intro as h
    obtain ⟨bs, pb, hb⟩ := ih2 h
    obtain ⟨cs, pc, hc⟩ := ih1 hb
    exact ⟨cs, pc.trans pb, hc⟩
/-- the law's kinds -/
def KindL (n : Nat) (l : List Nat) : Prop := l ≠ [] ∧ l.Pairwise (· < ·) ∧ ∀ s ∈ l, s < n
def KindsOk (n m : Nat) (ls : List (List Nat)) : Prop := ls.length ≤ m ∧ (∀ l ∈ ls, KindL n l) ∧ ls.Nodup ∧ ∃ ls', ls = rowSort ls'
theorem rise_snoc {l : List Nat} {j : Nat} (h : l.Pairwise (· < ·)) (k : ∀ s ∈ l, s < j) : (l ++ [j]).Pairwise (· < ·) := List.pairwise_append.mpr ⟨h, List.pairwise_singleton _ _, fun a ha b hb => by rw [List.mem_singleton.mp hb]; exact k a ha⟩
theorem kinds_sort {n m : Nat} {ls : List (List Nat)} (h1 : ls.length ≤ m) (h2 : ∀ l ∈ ls, KindL n l) (h3 : ls.Nodup) : KindsOk n m (rowSort ls) :=
  ⟨by unfold rowSort; rw [List.length_mergeSort]; exact h1, fun l hl => h2 l (List.mem_mergeSort.mp hl), (List.mergeSort_perm ls rowLe).nodup_iff.mpr h3, ls, rfl⟩
theorem nodup_snoc {α : Type} {ls : List α} {l : α} (h : ls.Nodup) (k : l ∉ ls) : (ls ++ [l]).Nodup := List.nodup_append.mpr ⟨h, List.nodup_cons.mpr ⟨by simp, .nil⟩, fun a ha b hb => by rw [List.mem_singleton.mp hb]; exact fun z => k (z ▸ ha)⟩
end K33
namespace K33
open PySem PySem.Spec PyProof.Rows L2
/-! sorted, told by what stood before -/
theorem reads_allG {G : Hp} {β : Type} {enc : β → PyData} : ∀ (bs : List β) {xs : List V} {us : List Value}, DtA G xs (bs.map enc) → Vals xs us → PySem.W.EachIs (fun u b => ∃ x, RelV x u ∧ Dt G x (enc b)) us bs
  | [], _, _, h, r => by cases h; cases r; exact .nil
  | b :: bs, _, _, h, r => by
    cases h with
    | cons h1 h2 =>
      cases r with
      | cons r1 r2 => exact .cons ⟨_, r1, h1⟩ (reads_allG bs h2 r2)
section
variable {X : Cx} {σ : L2.St} {H G : Hp} {a b c e o : Expr} {es : List Expr} {pos q p1 : Pos} {P R S : Pd} {x : Str} {v : V} {d : PyData} {ds : List PyData} {Ps : List Pd} {p : Addr} {m : Nat}
def rSortG {β : Type} (enc : β → PyData) (bs : List β) : List V → Hp → VK → Prop := fun vs H Q => ∃ (a : Addr) (xs : List V) (G : Hp), vs = [.ref a] ∧ H a = some (.lst xs) ∧ Gr G H ∧ DtA G xs (bs.map enc) ∧ ∀ (zs : List V) (l : Addr), DtA G zs ((bs.mergeSort (PySem.W.dataLe false enc)).map enc) → H l = none → Q (.ref l) (upd H l (.lst zs))
theorem cr_sortG {β : Type} {enc : β → PyData} {bs : List β} (hu : X.A.units + 64 < cLine) (hal : PySem.W.AllAlike (bs.map enc)) (hk : PySem.W.Sortable (bs.map enc)) (hd : ∀ b ∈ bs, (enc b).depth ≤ 20) : CallR X (.builtin "sorted") (rSortG enc bs) := by
  intro pins s σ H xs us Q I r h
  obtain ⟨a, xs, G, rfl, hp, hG, hx, q⟩ := h
  cases r with
  | cons ra rr =>
    cases rr
    cases ra
    obtain ⟨its, rv, pl, hz⟩ := I.list (SqL.of hp)
    have e := reads_allG bs hx rv
    have er : PySem.W.EachIs (fun v b => ∃ as, Reads s.heap v (enc b) as) its bs := e.mono fun u b ⟨x, r1, h1⟩ => Dp.reads I (enc b) x u (Dt.up hG h1).dp r1
    refine PySem.W.sorted_data pl.isList e er hal hk (by rw [← e.length, ← rv.length]; exact hz) (fun b hb => by have := hd b hb; omega) fun out hl ho => ?_
    obtain ⟨zs, rz, hzs⟩ := back_all ho
    obtain ⟨ep, he'⟩ := PyProof.Rows.sortedAll_at s.heap its out.toArray
    have hlen : zs.length ≤ sizeLine := by
      rw [rz.length, hl, ← e.length, ← rv.length]
      exact hz
    exact ⟨.ref _, upd H (s.heap.objs.size + 1) (.lst zs), I.laid (t' := s.toks) (fun _ _ => PyProof.Rows.sortedAll_old) (Nat.le_succ _) ⟨hlen, out, ep, rz, he'⟩, rfl, q zs _ hzs (I.hok.fresh (Nat.le_succ _))⟩
theorem e_sortG {β : Type} {enc : β → PyData} {bs : List β} {l : Addr} {xs : List V} (hu : X.A.units + 64 < cLine) (hal : PySem.W.AllAlike (bs.map enc)) (hk : PySem.W.Sortable (bs.map enc)) (hd : ∀ b ∈ bs, (enc b).depth ≤ 20) (hm : X.mg "sorted" = none) (ha : E X e σ H (Is (.ref l))) (h0 : H l = some (.lst xs)) (hG : Gr G H) (hx : DtA G xs (bs.map enc)) (hg : Gl X "sorted" := by rfl)
    (he : starEach [e] X.env = (false, eval e X.env) :: starEach [] X.env := by rfl) (hpl : (backTo pos (starEach [] X.env)).any (·.1) = false := by rfl) : E X (.Call (.Name "sorted" q) [e] [] pos) σ H (fun H' v => ∃ (l : Addr) (zs : List V), v = .ref l ∧ H l = none ∧ H' l = some (.lst zs) ∧ DtA G zs ((bs.mergeSort (PySem.W.dataLe false enc)).map enc)) :=
  e_cb (cr_sortG hu hal hk hd) PyProof.Rows.boot_sorted hm (a_cons ha a_nil he) (rc1 fun H1 g v hv Q k => by
    have e1 : v = .ref l := hv
    subst e1
    exact ⟨l, xs, G, rfl, g _ _ h0, hG.tr g, hx, fun zs t hz ht => k _ _ (Gr.new ht) ⟨t, zs, rfl, g.back ht, upd_same, hz⟩⟩) hg (by decide) (by decide) he hpl
theorem t_ninD {ds : List PyData} (hu : X.A.units + 65 < cLine) (ha : E X a σ H (D d)) (hb : E X b σ H (D (.list ds))) (h1 : SeqAt.shaped d = true) (h2 : SeqAt.shaped (.list ds) = true) (hm : behindInMarks .NotIn b = false := by with_unfolding_all rfl) : T X (.Compare a [.NotIn] [b] pos) σ H (!ds.any fun z => PyData.eqv z d) :=
  t_cmp (op_notInD hu) ha hb (fun H1 _ x y px py Q q => ⟨d, ds, Dt.dp px, Dt.dp py, h1, h2, q _ H1 (Gr.refl _) (.bl _)⟩) hm
/-- [e], e drawn; (e, ..) amid draws -/
theorem x_lst1 (h : Xe p X e σ G (Below m)) (hs : starEach [e] X.env = (false, eval e X.env) :: starEach [] X.env := by rfl) : Xe p X (.List [e] pos) σ G (fun H v => ∃ (l : Addr) (d : Nat), v = .ref l ∧ d < m ∧ G l = none ∧ H l = some (.lst [.int (d : Int)])) :=
  .of (pe_lst (pa_cons (pE X e) pa_nil hs)) fun H1 s Q k => h H1 s _ fun v H2 s2 r => by
    obtain ⟨d, hd, rfl⟩ := r
    exact ⟨by show 1 ≤ sizeLine; decide, fun l hl => k _ _ (s2.gr (Gr.new hl)) ⟨l, d, rfl, hd, (s.tr s2).fresh hl, by rw [wo_ne (s2.ne hl)]; exact upd_same⟩⟩
theorem x_tup {t} (h : Xa p X es σ G Ps) (hl : es.length ≤ 1000) (hP : Ps.length = es.length) (mono : ∀ {H H' vs}, Gr H H' → AllP Ps H vs → AllP Ps H' vs) : Xe p X (.Tuple es t pos) σ G (fun H v => ∃ l vs, v = .ref l ∧ G l = none ∧ H l = some (.tup vs) ∧ AllP Ps H vs) :=
  .of (pe_tup (pA X es)) fun H1 s Q k => h H1 s _ fun vs H2 s2 r =>
    ⟨by rw [r.len, hP]; exact Nat.le_of_lt (small1000 hl), fun l hl => k _ _ (s2.gr (Gr.new hl)) ⟨l, vs, rfl, (s.tr s2).fresh hl, by rw [wo_ne (s2.ne hl)]; exact upd_same, mono (wo_gr (Gr.new hl)) r⟩⟩
end
theorem wo2_upd (f p : Addr) (H : Hp) (o : HO) : wo f (wo p (upd H f o)) = wo f (wo p H) := funext fun q => by
  unfold wo
  split
  · rfl
  · rename_i h
    split
    · rfl
    · rw [upd_ne h]
/-- a kind amid draws, away from f -/
def KindAt (f : Addr) (n : Nat) : Pd := fun H v => ∃ kl, KindL n kl ∧ Dt (wo f H) v (dL kl)
instance {f : Addr} {n : Nat} : Mono (KindAt f n) := ⟨fun g ⟨kl, h1, h2⟩ => ⟨kl, h1, Dt.up (wo_gr g) h2⟩⟩
def KindsAt (n m : Nat) : Pd := fun H v => ∃ ls, KindsOk n m ls ∧ Dt H v (.list (ls.map dL))
instance {n m : Nat} : Mono (KindsAt n m) := ⟨fun g ⟨kl, h1, h2⟩ => ⟨kl, h1, Dt.up g h2⟩⟩
theorem ints_dN (l : List Nat) {H : Hp} : DtA H (l.map fun s : Nat => V.int (s : Int)) (l.map dN) := by
  induction l with
  | nil => exact .nil
  | cons a r ih => exact .cons (.int _) ih
section
variable {P : Program} {w : World} {K : PySem.W.Frag} {mg : Str → Option Value} {base : Heap}
abbrev sp__law_kinds : Sp := Psp (fun i : Nat × Nat => [I (i.1 : Int), I (i.2 : Int)]) (fun i => (0 < i.1 ∧ i.1 ≤ 8) ∧ i.2 ≤ 8) (fun i _ => KindsAt i.1 i.2)
theorem ok__law_kinds (T : Txt K mg) : Dn P w K mg base 2 "_law_kinds" p__law_kinds sp__law_kinds := by
  refine dn_of T.d__law_kinds sc__law_kinds (fun _ _ _ _ _ _ us hl => match us, hl with | [_, _, _], _ => rfl) (len_ofP fun _ => rfl) fun f cdv A outer s H vs Q E hr h => ?_
  obtain ⟨p, r, ⟨n, m⟩, rfl, hpot, ⟨v1, _, rfl, h1, v2, _, rfl, h2, rfl⟩, ⟨⟨hn, hn8⟩, hm⟩, q⟩ := h
  dsimp only at h1 h2 hn hn8 hm q
  have hu : (A.deeper (envOfC "_law_kinds" (defScope s__law_kinds) s.heap.objs.size f cdv)).units + 65 < cLine := by
    have := hr.un
    omega
  have hu' : (A.deeper (envOfC "_law_kinds" (defScope s__law_kinds) s.heap.objs.size f cdv)).units + 64 < cLine := hr.units
  obtain rfl := Dt.int_eq h1
  obtain rfl := Dt.int_eq h2
  refine s_cons (s_set 3 sc__law_kinds.nd (e_lst d_nil) fun u H1 g1 hu1 => ?_)
  obtain ⟨f1, xs1, rfl, hf0, hf1, hx1⟩ := hu1
  cases hx1
  have st1 : St p (wo p H) H1 := (St.refl hpot).gr g1
  have hfp : f1 ≠ p := (St.refl hpot).ne hf0
  refine s_cons (r_forR 4 sc__law_kinds.nd T.b_range ((x_fn (p := p) (G := wo p H1) (m + 1) (ok__law_draw T) hr (xa_cons (x_var 0 rfl rfl) (xa_cons ((x_soft (fun H1 s => e_add (e_var 2 rfl (.int (m : Int))) e_int) rfl).imp fun H v r => by
      have r : Dt H v (.int ((m : Int) + 1)) := r
      show Dt H v (.int ((m + 1 : Nat) : Int))
      rw [show ((m + 1 : Nat) : Int) = (m : Int) + 1 by omega]
      exact r) xa_nil)) ⟨Nat.succ_pos _, by omega⟩ (S := Below (m + 1)) fun _ _ _ _ _ r => r).run (St.refl st1.2) fun v H2 s2 r => ?_))
  obtain ⟨tn, htn, rfl⟩ := r
  have st2 := st1.tr s2
  refine ⟨tn, rfl, by omega, fun i σ' H' => St p (wo p H) H' ∧ (∃ xs ls, H' f1 = some (.lst xs) ∧ DtA (wo f1 (wo p H')) xs (ls.map dL) ∧ (∀ l ∈ ls, KindL n l) ∧ ls.Nodup ∧ ls.length ≤ i) ∧ ∃ y z t, σ' = [some (.ref p), some (.int (n : Int)), some (.int (m : Int)), some (.ref f1), y, z, t], ⟨st2, ⟨[], [], s2.keep hfp hf1, .nil, fun l hl => by simp at hl, List.nodup_nil, Nat.le_refl _⟩, none, none, none, rfl⟩, fun i σ' H' hi w => ?_, fun σ' H' w => ?_⟩
  · obtain ⟨st, ⟨xs, ls, hxf, hxs, hks, hnd, hlen⟩, y, z, t, rfl⟩ := w
    refine s_cons (s_set 5 sc__law_kinds.nd (e_lst d_nil) fun u H3 g3 hu3 => ?_)
    obtain ⟨k, ys, rfl, hk0, hk1, hy⟩ := hu3
    cases hy
    have stA : St p (wo p H') H3 := (St.refl st.2).gr g3
    have hkp : k ≠ p := st.ne hk0
    have hkf : k ≠ f1 := fun z => by rw [z, hxf] at hk0; cases hk0
    refine s_cons (r_forR 6 sc__law_kinds.nd T.b_range ((e_var (P := I (n : Int)) 1 rfl (.int _)).run fun v H4 g4 hv => ⟨n, Dt.int_eq hv, by omega, fun j σ2 H5 => St p (wo p H') H5 ∧ (∃ kl : List Nat, H5 k = some (.lst (kl.map fun s : Nat => V.int (s : Int))) ∧ kl.Pairwise (· < ·) ∧ (∀ s ∈ kl, s < j) ∧ kl.length ≤ j) ∧ ∃ t, σ2 = [some (.ref p), some (.int (n : Int)), some (.int (m : Int)), some (.ref f1), some (.int (i : Int)), some (.ref k), t], ⟨stA.gr g4, ⟨[], g4 _ _ hk1, .nil, (fun s hs => by simp at hs), Nat.le_refl _⟩, t, rfl⟩, fun j σ2 H5 hj w => ?_, fun σ2 H5 w => ?_⟩))
    · obtain ⟨st5, ⟨kl, hkl, hri, hlt, hle⟩, t, rfl⟩ := w
      refine s_one (r_ifx (xt_eq (x_fn (p := p) (G := wo p H5) 2 (ok__law_draw T) hr (xa_cons (x_var 0 rfl rfl) (xa_cons x_int xa_nil)) ⟨by decide, by decide⟩ (S := Below 2) fun _ _ _ _ _ r => r)) (St.refl st5.2) (fun H6 s6 => ?_) (fun H6 s6 => s_nil ?_))
      · have hkl6 := s6.keep hkp hkl
        have st6 := st5.tr s6
        refine s_one (r_app (e_var 5 rfl rfl) hkl6 fun H7 g7 => (e_var (P := I (j : Int)) 6 rfl (.int _)).run fun v H8 g8 hv => ?_)
        obtain rfl := Dt.int_eq hv
        refine ⟨_, g8 _ _ (g7 _ _ hkl6), by rw [List.length_map]; omega, ((st6.gr g7).gr g8).mut (wo_none hk0) hkp, ⟨kl ++ [j], by rw [List.map_append]; exact upd_same, rise_snoc hri hlt, fun s hs => ?_, by rw [List.length_append]; exact Nat.succ_le_succ hle⟩, _, rfl⟩
        rcases List.mem_append.mp hs with z | z
        · have := hlt s z; omega
        · have := List.mem_singleton.mp z; omega
      · exact ⟨st5.tr s6, ⟨kl, s6.keep hkp hkl, hri, fun s hs => by have := hlt s hs; omega, by omega⟩, _, rfl⟩
    · obtain ⟨st5, ⟨kl, hkl, hri, hlt, hle⟩, t, rfl⟩ := w
      have hxf5 : H5 f1 = some (.lst xs) := st5.keep hfp hxf
      have hkd : ∀ {H6 : Hp}, St p (wo p H5) H6 → Dt (wo f1 (wo p H6)) (.ref k) (dL kl) := fun s6 => .lst (by rw [wo_ne hkf, wo_ne hkp]; exact s6.keep hkp hkl) (ints_dN kl)
      refine s_cons (r_set 5 sc__law_kinds.nd ((x_ifb (p := p) (G := wo p H5) (P := KindAt f1 n) (b1 := !decide (kl = [])) (fun H6 s6 => (t_neD (d := dL kl) hu' (e_var 5 rfl (Dt.up ((wo_sub _ _).tr (wo_sub _ _)) (hkd s6))) (e_lst d_nil).newD (sh_dL kl) sh_nil).eq (by rw [show PyData.eqv (dL kl) (.list []) = decide (kl = []) from eqv_nil eqv_dN kl])) (fun hb => x_var 5 rfl ⟨kl, ⟨by simpa using hb, hri, hlt⟩, hkd (St.refl st5.2)⟩) (fun hb => (x_lst1 (x_fn (p := p) n (ok__law_draw T) hr (xa_cons (x_var 0 rfl rfl) (xa_cons (x_var 1 rfl (.int (n : Int))) xa_nil)) ⟨hn, by omega⟩ (S := Below n) fun _ _ _ _ _ r => r)).imp fun Hw v ⟨l, d, hv, hd, hG, hl⟩ => ⟨[d], ⟨by simp, List.pairwise_singleton _ _, fun s hs => by rw [List.mem_singleton.mp hs]; exact hd⟩, by
        have hlf : l ≠ f1 := fun z => by rw [z, wo_ne hfp, hxf5] at hG; cases hG
        rw [hv]
        exact .lst (by rw [wo_ne hlf]; exact hl) (ints_dN [d])⟩)).run (St.refl st5.2) fun v H6 s6 r => ?_))
      obtain ⟨kl2, hk2, dk2⟩ := r
      have hxf6 := s6.keep hfp hxf5
      have st6 : St p (wo p H') H6 := st5.tr s6
      have hxs6 : DtA (wo f1 (wo p H6)) xs (ls.map dL) := DtA.up (wo_gr st6.1) hxs
      have sub6 : Gr (wo f1 (wo p H6)) H6 := (wo_sub _ _).tr (wo_sub _ _)
      refine s_one (s_if ((t_ninD (d := dL kl2) hu (e_var 5 rfl (Dt.up sub6 dk2)) (e_var (P := D (.list (ls.map dL))) 3 rfl (.lst hxf6 (DtA.up sub6 hxs6))) (sh_dL _) (sh_dLs _)).eq (by rw [any_dL])) (fun hb H7 g7 => ?_) (fun hb H7 g7 => s_nil ?_))
      · have hxf7 := g7 _ _ hxf6
        refine s_one (r_app (e_var 3 rfl rfl) hxf7 fun H8 g8 => (e_var (P := Is v) 5 rfl rfl).run fun v' H9 g9 hv' => ?_)
        have e1 : v' = v := hv'
        subst e1
        have g79 := (g7.tr g8).tr g9
        refine ⟨xs, (g8.tr g9) _ _ hxf7, by rw [hxs6.encLen]; omega, (st.tr (st6.gr g79)).mut (wo_none hf0) hfp, ⟨_, ls ++ [kl2], upd_same, ?_, ?_, ?_, ?_⟩, _, _, _, rfl⟩
        · rw [wo2_upd, List.map_append]
          exact (DtA.up (wo_gr (wo_gr g79)) hxs6).app (.one (Dt.up (wo_gr (wo_gr g79)) dk2))
        · intro l hl
          rcases List.mem_append.mp hl with z | z
          · exact hks l z
          · rw [List.mem_singleton.mp z]; exact hk2
        · exact nodup_snoc hnd (by simpa using hb)
        · rw [List.length_append]; exact Nat.succ_le_succ hlen
      · exact ⟨st.tr (st6.gr g7), ⟨xs, ls, g7 _ _ hxf6, DtA.up (wo_gr (wo_gr g7)) hxs6, hks, hnd, by omega⟩, _, _, _, rfl⟩
  · obtain ⟨st, ⟨xs, ls, hxf, hxs, hks, hnd, hlen⟩, y, z, t, rfl⟩ := w
    refine s_one (s_ret (e_sortG (enc := dL) (bs := ls) (G := wo f1 (wo p H')) hu' (dL_alike _) (dL_sortable _) (fun _ _ => dL_depth _) T.b_sorted (e_var 3 rfl rfl) hxf ((wo_sub _ _).tr (wo_sub _ _)) hxs) fun v H5 g5 r => ?_)
    obtain ⟨l, zs, rfl, hl0, hl1, hz⟩ := r
    rw [dL_le] at hz
    refine q _ H5 (st.gr g5) ⟨rowSort ls, kinds_sort (by omega) hks hnd, .lst (by rw [wo_ne (st.ne hl0)]; exact hl1) (DtA.up ((wo_sub _ _).tr (wo_gr g5)) hz)⟩
/-- the law's store -/
def dSt (n : Nat) (ds ss : List (List Nat)) : PyData := .tuple [dN n, .list (ds.map dL), .list (ss.map dL)]
def StoreAt (m : Nat) : Pd := fun H v => ∃ n ds ss, (2 ≤ n ∧ n ≤ m) ∧ KindsOk n 4 ds ∧ KindsOk n 3 ss ∧ Dt H v (dSt n ds ss)
abbrev sp__law_store : Sp := Psp (fun m : Nat => [I (m : Int)]) (fun m => 2 ≤ m ∧ m ≤ 8) (fun m _ => StoreAt m)
theorem ok__law_store (T : Txt K mg) : Dn P w K mg base 3 "_law_store" p__law_store sp__law_store := by
  refine dn_of T.d__law_store sc__law_store (fun _ _ _ _ _ _ us hl => match us, hl with | [_, _], _ => rfl) (len_ofP fun _ => rfl) fun f cdv A outer s H vs Q E hr h => ?_
  obtain ⟨p, r, m, rfl, hpot, ⟨v1, _, rfl, h1, rfl⟩, ⟨hm2, hm8⟩, q⟩ := h
  dsimp only at h1 q
  obtain rfl := Dt.int_eq h1
  refine s_cons (r_set 2 sc__law_store.nd ((x_add (p := p) (G := wo p H) x_int (x_fn (m - 1) (ok__law_draw T) (hr.mono (by decide)) (xa_cons (x_var 0 rfl rfl) (xa_cons ((x_soft (fun H1 s => e_sub (e_var 1 rfl (.int (m : Int))) e_int) rfl).imp fun H v r => by
      have r : Dt H v (.int ((m : Int) - 1)) := r
      show Dt H v (.int ((m - 1 : Nat) : Int))
      rw [show ((m - 1 : Nat) : Int) = (m : Int) - 1 by omega]
      exact r) xa_nil)) ⟨by omega, by omega⟩ (S := Below (m - 1)) fun _ _ _ _ _ r => r)).run (St.refl hpot) fun v H1 s1 r => ?_))
  obtain ⟨d, hd, rfl⟩ := r
  let n : Nat := 2 + d
  have hn : (2 : Int) + (d : Int) = ((n : Nat) : Int) := by show (2 : Int) + (d : Int) = ((2 + d : Nat) : Int); omega
  rw [hn]
  have n2 : 2 ≤ n ∧ n ≤ m := ⟨by show 2 ≤ 2 + d; omega, by show 2 + d ≤ m; omega⟩
  refine s_cons (r_set 3 sc__law_store.nd ((x_fn (p := p) (G := wo p H1) (n, 4) (ok__law_kinds T) hr (xa_cons (x_var 0 rfl rfl) (xa_cons (x_var 2 rfl (.int (n : Int))) (xa_cons x_int xa_nil))) ⟨⟨by omega, by omega⟩, (show 4 ≤ 8 by decide)⟩ (S := KindsAt n 4) fun _ _ _ _ _ r => r).run (St.refl s1.2) fun v2 H2 s2 r2 => ?_))
  obtain ⟨ds, hds, dds⟩ := r2
  refine s_one (r_ret ((x_tup (p := p) (G := wo p H2) (Ps := [I (n : Int), D (.list (ds.map dL)), KindsAt n 3]) (xa_cons (x_var 2 rfl (.int (n : Int))) (xa_cons (x_var 3 rfl dds) (xa_cons (x_fn (n, 3) (ok__law_kinds T) hr (xa_cons (x_var 0 rfl rfl) (xa_cons (x_var 2 rfl (.int (n : Int))) (xa_cons x_int xa_nil))) ⟨⟨by omega, by omega⟩, (show 3 ≤ 8 by decide)⟩ (S := KindsAt n 3) fun _ _ _ _ _ r => r) xa_nil))) (show 3 ≤ 1000 by decide) rfl (fun g ⟨a, _, e1, h1, b, _, e2, h2, c, _, e3, h3, e4⟩ => ⟨a, _, e1, Mono.up g h1, b, _, e2, Mono.up g h2, c, _, e3, Mono.up g h3, e4⟩)).run (St.refl s2.2) fun v3 H3 s3 r3 => ?_))
  obtain ⟨l, vs, rfl, hl0, hl1, a, _, rfl, ha, b, _, rfl, hb, c, _, rfl, ⟨ss, hss, hc⟩, rfl⟩ := r3
  exact q _ H3 (s1.tr (s2.tr s3)) ⟨n, ds, ss, n2, hds, hss, .tup hl1 (.cons ha (.cons hb (.cons hc .nil)))⟩
end
end K33
namespace K33
open PySem PySem.Spec PyProof.Rows L2
section
variable {X : Cx} {σ : L2.St} {H G : Hp} {Z : Ends} {a b c e o : Expr} {es : List Expr} {st : Stmt} {rest : List Stmt} {pos q p1 : Pos} {P R S : Pd} {x : Str} {v : V} {d : PyData} {ds : List PyData} {Ps : List Pd} {p : Addr} {m n : Nat} {b1 : Bool}
/-- a statement, what holds behind it, the rest -/
theorem s_mid (N : L2.St → Hp → Prop) (h : rdS X st { Z with nx := N } σ H) (k : ∀ σ' H', N σ' H' → rdSs X rest Z σ' H') : rdSs X (st :: rest) Z σ H :=
  s_cons fun pins s I => thn (h pins s I) fun fl s' r => by
    cases fl with
    | next => obtain ⟨σ', H', I', z⟩ := r; exact ⟨σ', H', I', k σ' H' z⟩
    | brk => exact r
    | cont => exact r
    | ret u => exact r
theorem x_ixT (ha : Xe p X a σ G (D (.tuple ds))) (hb : ∀ H1, E X b σ H1 (I (n : Int))) (hi : ds[n]? = some d) (hs : PlainIx b := by intro _ _; rfl) : Xe p X (.Subscript a b pos) σ G (D d) :=
  .of (pe_ix ix_tup (pE X a) (pE X b) hs) (ev_opx ha (R := fun _ v => v = .int (n : Int)) (fun H1 s Q k => hb H1 H1 (Gr.refl _) Q fun v H2 g r => k v H2 (St.of s.2 g) (Dt.int_eq r)) fun H1 s x y px py Q k => by
    obtain ⟨l, xs, rfl, hp, hx⟩ := Dt.tup_eq px
    obtain ⟨v, hv, dv⟩ := hx.get hi
    exact ⟨l, xs, n, v, rfl, py, .inl (.inl (wo_sub _ _ _ _ hp)), atI_nat hv, k v H1 (Gr.refl _) dv⟩)
abbrev Xw (p : Addr) (X : Cx) (e : Expr) (σ : L2.St) (G : Hp) : Prop := Etx p (rdW X e) σ G
theorem xw_and1 (h : Xt p X a σ G) : Xw p X (.BoolOp .And [a] pos) σ G := fun H1 s Q q => rdW_of (pw_and1 (pT X a)) (h H1 s Q q)
theorem xw_and (h : ∀ H1, St p G H1 → T X a σ H1 b1) (h2 : b1 = true → Xw p X (.BoolOp .And (b :: es) pos) σ G) : Xw p X (.BoolOp .And (a :: b :: es) pos) σ G := fun H1 s Q q =>
  rdW_of (pw_and (pT X a) (pW X _)) (h H1 s H1 (Gr.refl _) _ fun H2 g => by
    cases b1 with
    | true => exact iteT (h2 rfl H2 (s.gr g) Q fun b H3 s3 => q b H3 ((St.of s.2 g).tr s3))
    | false => exact iteF (q false H2 (St.of s.2 g)))
theorem Etx.t (h : Xw p X e σ G) : Xt p X e σ G := fun H1 s Q q => rdT_of (pW X e).pt (h H1 s Q q)
/-- list + list -/
theorem e_cat {es : List PyData} (ha : E X a σ H (D (.list ds))) (hb : E X b σ H (D (.list es))) (hz : ds.length + es.length ≤ 1000) : E X (.BinOp a .Add b pos) σ H (NewL H (ds ++ es)) :=
  e_op op_cat ha hb fun H1 g1 x y px py Q q => by
    obtain ⟨p, xs, rfl, hp, hx⟩ := Dt.list_eq px
    obtain ⟨l, ys, rfl, hl, hy⟩ := Dt.list_eq py
    refine ⟨p, l, xs, ys, rfl, rfl, hp, hl, by rw [hx.len, hy.len]; exact Nat.le_of_lt (small1000 hz), fun z hz => q _ _ (Gr.new hz) ⟨z, _, rfl, g1.back hz, upd_same, (hx.app hy).up (Gr.new hz)⟩⟩
end
theorem DtA.nats {G G' : Hp} {l : List Nat} {xs : List V} (h : DtA G xs (l.map dN)) : DtA G' xs (l.map dN) := by
  rw [dN_map] at h ⊢
  rw [h.ints]
  exact .of_ints _
theorem sh_dKs (ks : List (Bool × List Nat)) : SeqAt.shaped (.list (ks.map dK)) = true := by
  refine shaped_of (n := 3) (can_list (fun k => ?_) ks) (depth_list (n := 2) (fun k => ?_) ks)
  · obtain ⟨b, l⟩ := k
    cases b with
    | true => show PyData.canLay0 (.tuple (l.map dN)) = true; rw [PyData.canLay0]; exact canAll_enc can_dN l
    | false => exact can_dL l
  · obtain ⟨b, l⟩ := k
    cases b with
    | true =>
      show PyData.depth (.tuple (l.map dN)) ≤ 2
      rw [PyData.depth]
      have := depthAll_enc depth_dN l
      omega
    | false => exact Nat.le_trans (depth_dL l) (by decide)
theorem eqvK (ks : List (Bool × List Nat)) : PyData.eqv (.list (ks.map dK)) (.list []) = decide (ks = []) := by
  cases ks with
  | nil => rfl
  | cons k r => simp [PyData.eqv, PyData.eqvAll]
/-- a kind handed in -/
def KAt (f : Addr) (lk : List Nat) : Pd := fun H v => ∃ b, Dt (wo f H) v (dK (b, lk))
instance {f : Addr} {lk : List Nat} : Mono (KAt f lk) := ⟨fun g ⟨b, h⟩ => ⟨b, Dt.up (wo_gr g) h⟩⟩
def Given (ls : List (List Nat)) (ks : List (Bool × List Nat)) : Prop := ks.length ≤ 8 ∧ (∀ k ∈ ks, ∃ l ∈ ls, k.2.Perm l) ∧ ∀ l ∈ ls, ∃ k ∈ ks, k.2.Perm l
def GivenAt (ls : List (List Nat)) : Pd := fun H v => ∃ ks, Given ls ks ∧ Q2 (ks.map dK) H v
instance {ls : List (List Nat)} : Mono (GivenAt ls) := ⟨fun g ⟨ks, h1, h2⟩ => ⟨ks, h1, Mono.up g h2⟩⟩
section
variable {P : Program} {w : World} {K : PySem.W.Frag} {mg : Str → Option Value} {base : Heap} {C : Addr}
abbrev sp__law_given : Sp := Psp (fun ls : List (List Nat) => [D (.list (ls.map dL))]) (fun ls => ls.length ≤ 7 ∧ ∀ l ∈ ls, l.length < 1000) (fun ls _ => GivenAt ls)
theorem ok__law_given (T : Txt K mg) : Dn P w K mg base 3 "_law_given" p__law_given sp__law_given := by
  refine dn_of T.d__law_given sc__law_given (fun _ _ _ _ _ _ us hl => match us, hl with | [_, _], _ => rfl) (len_ofP fun _ => rfl) fun f cdv A outer s H vs Q E hr h => ?_
  obtain ⟨p, r, ls, rfl, hpot, ⟨v1, _, rfl, h1, rfl⟩, ⟨hls, hll⟩, q⟩ := h
  dsimp only at h1 hls hll q
  have hu : (A.deeper (envOfC "_law_given" (defScope s__law_given) s.heap.objs.size f cdv)).units + 64 < cLine := hr.units
  obtain ⟨a, xs, rfl, hax, hx⟩ := Dt.list_eq h1
  refine s_cons (s_set 2 sc__law_given.nd (e_lst d_nil) fun u H1 g1 hu1 => ?_)
  obtain ⟨f1, zs1, rfl, hf0, hf1, hz1⟩ := hu1
  cases hz1
  have st1 : St p (wo p H) H1 := (St.refl hpot).gr g1
  have hfp : f1 ≠ p := (St.refl hpot).ne hf0
  refine s_mid (fun σ' H' => St p (wo p H) H' ∧ (∃ zs ks, H' f1 = some (.lst zs) ∧ DtA (wo f1 (wo p H')) zs (ks.map dK) ∧ Given ls ks ∧ ks.length ≤ 7) ∧ ∃ y z, σ' = [some (.ref p), some (.ref a), some (.ref f1), y, z]) (r_forL 3 sc__law_given.nd ((x_fn (p := p) (G := wo p H1) (a, xs) (ok__law_mixed T) hr (xa_cons (x_var 0 rfl rfl) (xa_cons (x_var (P := LstV a xs) 1 rfl ⟨rfl, wo_gr g1 _ _ hax⟩) xa_nil)) (by show xs.length < 1000; rw [hx.encLen]; omega) (S := fun Hw v => ∃ l ys, ys.Perm xs ∧ v = .ref l ∧ (wo p H1) l = none ∧ Hw l = some (.lst ys)) fun H2 H3 v s2 s3 ⟨l, ys, pm, e, h0, h1⟩ => ⟨l, ys, pm, e, s2.1.back h0, h1⟩).run (St.refl st1.2) fun v H2 s2 r => ?_)) fun σ' H' w => ?_
  · obtain ⟨l, ys, pm, rfl, hl0, hl1⟩ := r
    obtain ⟨hlp, hl2⟩ := wo_some hl1
    have hlf : l ≠ f1 := fun z => by rw [z, wo_ne hfp, hf1] at hl0; cases hl0
    obtain ⟨ls', pls, hy⟩ := DtA.perm pm hx
    refine ⟨l, ys, rfl, hl2, fun i σ' H' => St p (wo p H) H' ∧ H' l = some (.lst ys) ∧ (∃ (zs : List V) (ks : List (Bool × List Nat)), H' f1 = some (.lst zs) ∧ DtA (wo f1 (wo p H')) zs (ks.map dK) ∧ ks.length = i ∧ ∀ (j : Nat) (k : Bool × List Nat), ks[j]? = some k → ∃ m, ls'[j]? = some m ∧ k.2.Perm m) ∧ ∃ y z, σ' = [some (.ref p), some (.ref a), some (.ref f1), y, z], ⟨st1.tr s2, hl2, ⟨[], [], s2.keep hfp hf1, .nil, rfl, fun j k h => by simp at h⟩, none, none, rfl⟩, fun i σ' H' w => w.2.1, fun i u σ' H' hu w => ?_, fun σ' H' w => ?_⟩
    · obtain ⟨st, hl', ⟨zs, ks, hzf, hzs, hki, hkr⟩, y, z, rfl⟩ := w
      obtain ⟨lk, hlk, du⟩ := hy.enc hu
      have hlkm : lk ∈ ls := pls.mem_iff.mp (List.mem_of_getElem? hlk)
      obtain ⟨b, us, rfl, hb, hbs⟩ := Dt.list_eq (show Dt (wo p H) u (.list (lk.map dN)) from du)
      refine s_cons (r_set 4 sc__law_given.nd ((x_fn (p := p) (G := wo p H') (b, us) (ok__law_mixed T) hr (xa_cons (x_var 0 rfl rfl) (xa_cons (x_var (P := LstV b us) 3 rfl ⟨rfl, st.1 _ _ hb⟩) xa_nil)) (by show us.length < 1000; rw [hbs.encLen]; exact hll lk hlkm) (S := fun Hw v => ∃ l ys, ys.Perm us ∧ v = .ref l ∧ (wo p H') l = none ∧ Hw l = some (.lst ys)) fun H2 H3 v s2 s3 ⟨l, ys, pm, e, h0, h1⟩ => ⟨l, ys, pm, e, s2.1.back h0, h1⟩).run (St.refl st.2) fun v H3 s3 r => ?_))
      obtain ⟨l2, ws, pm2, rfl, h20, h21⟩ := r
      obtain ⟨h2p, h22⟩ := wo_some h21
      have h2f : l2 ≠ f1 := fun z => by rw [z, wo_ne hfp, hzf] at h20; cases h20
      obtain ⟨lk', plk, hw⟩ := DtA.perm pm2 hbs
      have st3 := st.tr s3
      have hzf3 := s3.keep hfp hzf
      have hl3 := s3.keep hlp hl'
      have hzs3 : DtA (wo f1 (wo p H3)) zs (ks.map dK) := DtA.up (wo_gr s3.1) hzs
      refine s_one (r_app (e_var 2 rfl rfl) hzf3 fun H4 g4 => (x_if (p := p) (G := wo p H4) (P := KAt f1 lk') (xt_eq (x_fn (p := p) 3 (ok__law_draw T) (hr.mono (by decide)) (xa_cons (x_var 0 rfl rfl) (xa_cons x_int xa_nil)) ⟨by decide, by decide⟩ (S := Below 3) fun _ _ _ _ _ r => r)) (x_E (P := fun H5 => NewT H5 ws) (fun H5 s5 => e_tupleV T.b_tuple (e_var 4 rfl rfl) (s5.keep h2p (g4 _ _ h22))) fun H5 H6 v s5 g6 ⟨t, e, h0, h1⟩ => ⟨true, ?_⟩) (x_var 4 rfl ⟨false, .lst (by rw [wo_ne h2f, wo_ne h2p]; exact g4 _ _ h22) hw.nats⟩)).run (St.refl (st3.gr g4).2) fun v H5 s5 r => ?_)
      · subst e
        have htp : t ≠ p := s5.ne h0
        have htf : t ≠ f1 := fun z => by rw [z, s5.keep hfp (g4 _ _ hzf3)] at h0; cases h0
        exact .tup (by rw [wo_ne htf, wo_ne htp]; exact h1) hw.nats
      · obtain ⟨bb, dv⟩ := r
        have st5 := (st3.gr g4).tr s5
        have hzf5 := s5.keep hfp (g4 _ _ hzf3)
        have hl5 := s5.keep hlp (g4 _ _ hl3)
        refine ⟨zs, hzf5, by rw [hzs.encLen, hki]; have := (List.getElem?_eq_some_iff.mp hu).1; rw [hy.encLen, pls.length_eq] at this; omega, st5.mut (wo_none hf0) hfp, by rw [upd_ne hlf]; exact hl5, ⟨_, ks ++ [(bb, lk')], upd_same, ?_, ?_, ?_⟩, _, _, rfl⟩
        · rw [wo2_upd, List.map_append]
          exact (DtA.up (wo_gr ((wo_gr g4).tr s5.1)) hzs3).app (.one dv)
        · rw [List.length_append, hki]; rfl
        · intro j k hj
          by_cases hji : j < ks.length
          · rw [List.getElem?_append_left hji] at hj
            exact hkr j k hj
          · rw [List.getElem?_append_right (by omega)] at hj
            have e0 : j - ks.length = 0 := by
              have := (List.getElem?_eq_some_iff.mp hj).1
              rw [List.length_singleton] at this
              omega
            rw [e0] at hj
            have hk : (bb, lk') = k := by simpa using hj
            subst hk
            exact ⟨lk, by rw [show j = i by omega]; exact hlk, plk⟩
    · obtain ⟨st, hl', ⟨zs, ks, hzf, hzs, hki, hkr⟩, y, z, rfl⟩ := w
      have hlen : ks.length = ls'.length := by rw [hki, hy.encLen]
      have hlen2 := pls.length_eq
      refine ⟨st, ⟨zs, ks, hzf, hzs, ⟨by omega, fun k hk => ?_, fun m hm => ?_⟩, by omega⟩, y, z, rfl⟩
      · obtain ⟨j, hj⟩ := List.mem_iff_getElem?.mp hk
        obtain ⟨m, hm, pm⟩ := hkr j k hj
        exact ⟨m, pls.mem_iff.mp (List.mem_of_getElem? hm), pm⟩
      · obtain ⟨j, hj⟩ := List.mem_iff_getElem?.mp (pls.mem_iff.mpr hm)
        have hjl := (List.getElem?_eq_some_iff.mp hj).1
        obtain ⟨m', hm', pm⟩ := hkr j ks[j] (List.getElem?_eq_getElem (by omega))
        rw [hj] at hm'
        obtain rfl := Option.some.inj hm'
        exact ⟨_, List.getElem_mem _, pm⟩
  obtain ⟨st, ⟨zs, ks, hzf, hzs, hgv, hk7⟩, y, z, rfl⟩ := w
  have sub : ∀ {H2 : Hp}, Gr (wo f1 (wo p H2)) H2 := (wo_sub _ _).tr (wo_sub _ _)
  have kD : ∀ {H2 : Hp}, St p (wo p H') H2 → D (.list (ks.map dK)) H2 (.ref f1) := fun s2 => .lst (s2.keep hfp hzf) (DtA.up ((wo_gr s2.1).tr sub) hzs)
  refine s_mid (fun σ' H2 => St p (wo p H) H2 ∧ (∃ zs ks, H2 f1 = some (.lst zs) ∧ DtA (wo f1 (wo p H2)) zs (ks.map dK) ∧ Given ls ks) ∧ ∃ y z, σ' = [some (.ref p), some (.ref a), some (.ref f1), y, z]) ?_ fun σ' H2 w => ?_
  · by_cases hk : ks = []
    · refine s_skip (Wt.t ((w_and (b1 := false) (b2 := true) ((t_neD (d := .list (ks.map dK)) hu (e_var 2 rfl (kD (St.refl st.2))) (e_lst d_nil).newD (sh_dKs ks) sh_nil).eq (by rw [eqvK, decide_eq_true hk]; rfl)) (fun z => nomatch z)).eq rfl)) fun H2 g2 => ⟨st.gr g2, ⟨zs, ks, g2 _ _ hzf, DtA.up (wo_gr (wo_gr g2)) hzs, hgv⟩, y, z, rfl⟩
    · obtain ⟨k0, kr, rfl⟩ : ∃ k0 kr, ks = k0 :: kr := by
        cases ks with
        | nil => exact absurd rfl hk
        | cons a b => exact ⟨a, b, rfl⟩
      obtain ⟨v0, hv0, dv0⟩ := hzs.get (show ((k0 :: kr).map dK)[0]? = some (dK k0) from rfl)
      refine r_ifx (Etx.t (xw_and (p := p) (G := wo p H') (b1 := true) (fun H2 s2 => (t_neD (d := .list ((k0 :: kr).map dK)) hu (e_var 2 rfl (kD s2)) (e_lst d_nil).newD (sh_dKs _) sh_nil).eq (by rw [eqvK]; simp)) fun _ => xw_and (b1 := true) (fun H2 s2 => (t_lt (e_lenV T.b_len (e_var 2 rfl rfl) (s2.keep hfp hzf)) e_int).eq (by rw [hzs.encLen]; simp at hk7 ⊢; omega)) fun _ => xw_and1 (xt_eq (x_fn (p := p) 4 (ok__law_draw T) (hr.mono (by decide)) (xa_cons (x_var 0 rfl rfl) (xa_cons x_int xa_nil)) ⟨by decide, by decide⟩ (S := Below 4) fun _ _ _ _ _ r => r)))) (St.refl st.2) (fun H2 s2 => ?_) (fun H2 s2 => s_nil ⟨st.tr s2, ⟨zs, k0 :: kr, s2.keep hfp hzf, DtA.up (wo_gr s2.1) hzs, hgv⟩, y, z, rfl⟩)
      have hzf2 := s2.keep hfp hzf
      refine s_one (r_app (e_var 2 rfl rfl) hzf2 fun H3 g3 => (e_ixV (n := 0) (v := v0) (e_var 2 rfl rfl) (g3 _ _ hzf2) e_int hv0).run fun v H4 g4 r => ?_)
      have e1 : v = v0 := r
      subst e1
      have g24 := g3.tr g4
      refine ⟨zs, g24 _ _ hzf2, by rw [hzs.encLen]; simp at hk7 ⊢; omega, ((st.tr s2).gr g24).mut (wo_none hf0) hfp, ⟨_, (k0 :: kr) ++ [k0], upd_same, ?_, ?_, ?_, ?_⟩, y, z, rfl⟩
      · rw [wo2_upd, List.map_append]
        have g5 := wo_gr (p := f1) (s2.1.tr (wo_gr g24))
        exact (DtA.up g5 hzs).app (.one (Dt.up g5 dv0))
      · rw [List.length_append]; simp at hk7 ⊢; omega
      · intro k hk
        rcases List.mem_append.mp hk with z | z
        · exact hgv.2.1 k z
        · rw [List.mem_singleton.mp z]; exact hgv.2.1 k0 List.mem_cons_self
      · intro l hl
        obtain ⟨k, hk, pm⟩ := hgv.2.2 l hl
        exact ⟨k, List.mem_append_left _ hk, pm⟩
  · obtain ⟨st2, ⟨zs, ks, hzf, hzs, hgv⟩, y, z, rfl⟩ := w
    refine s_one (r_ret ((x_if (p := p) (G := wo p H2) (P := Q2 (ks.map dK)) (xt_eq (x_fn (p := p) 3 (ok__law_draw T) (hr.mono (by decide)) (xa_cons (x_var 0 rfl rfl) (xa_cons x_int xa_nil)) ⟨by decide, by decide⟩ (S := Below 3) fun _ _ _ _ _ r => r)) (x_E (P := fun H5 => NewT H5 zs) (fun H5 s5 => e_tupleV T.b_tuple (e_var 2 rfl rfl) (s5.keep hfp hzf)) fun H5 H6 v s5 g6 ⟨t, e, h0, h1⟩ => ?_) (x_var 2 rfl (.inl (.lst (by rw [wo_ne hfp]; exact hzf) (DtA.up (wo_sub _ _) hzs))))).run (St.refl st2.2) fun v H5 s5 r => q v H5 (st2.tr s5) ⟨ks, hgv, r⟩))
    subst e
    have htp : t ≠ p := s5.ne h0
    exact .inr (.tup (by rw [wo_ne htp]; exact h1) (DtA.up (((wo_sub _ _).tr s5.1).tr (wo_gr g6)) hzs))
end
end K33
namespace K33
open PySem PySem.Spec PyProof.Rows L2
theorem Sto.wo {C : Addr} {n : Nat} {ds ss : List Nat} {H : Hp} {p : Addr} {v : V} {zs : List V} (hp : H p = some (.lst zs)) (h : Sto C n ds ss H v) : Sto C n ds ss (wo p H) v := by
  obtain ⟨a, dx, fs, dv, sv, h1, h2, h3, h4, h5, h6, h7⟩ := h
  exact ⟨a, dx, fs, dv, sv, h1, by rw [wo_ne (ne_of h2 hp (by intro z; cases z))]; exact h2, h3, h4, Dt.wo hp h5 (soft_nats ds), h6, Dt.wo hp h7 (soft_nats ss)⟩
theorem rise_len8 {l : List Nat} (h : l.Pairwise (· < ·)) (k : ∀ s ∈ l, s < 8) : l.length ≤ 8 := by
  have := spots_bits h k
  rw [← this]
  exact spots_len _
theorem given_ok {n m : Nat} {ls : List (List Nat)} {ks : List (Bool × List Nat)} (hn : n ≤ 8) (h : KindsOk n m ls) (g : Given ls ks) : ks.length ≤ 8 ∧ ∀ k ∈ ks, LotOk n k.2 ∧ k.2 ≠ [] := ⟨g.1, fun k hk => by
  obtain ⟨l, hl, pm⟩ := g.2.1 k hk
  obtain ⟨h1, h2, h3⟩ := h.2.1 l hl
  have h8 := rise_len8 h2 fun s hs => Nat.lt_of_lt_of_le (h3 s hs) hn
  refine ⟨⟨fun s hs => h3 s (pm.mem_iff.mp hs), pm.nodup_iff.mpr (h2.imp fun h => Nat.ne_of_lt h), by rw [pm.length_eq]; omega⟩, fun z => h1 ?_⟩
  rw [z] at pm
  exact pm.symm.eq_nil⟩
def dB2 (D : List (List Nat)) : PyData := .list (D.map dL)
/-- the store that is made -/
def MadeAt (C : Addr) (n : Nat) (ds ss : List (List Nat)) : Pd := fun H v => ∃ ks ms, Given ds ks ∧ Given ss ms ∧ Sto C n (plainK (kindBits ks)) (plainK (kindBits ms)) H v
instance {C : Addr} {n : Nat} {ds ss : List (List Nat)} : Mono (MadeAt C n ds ss) := ⟨fun g ⟨ks, ms, h1, h2, h3⟩ => ⟨ks, ms, h1, h2, Mono.up g h3⟩⟩
abbrev SL : Type := Nat × List (List Nat) × List (List Nat)
section
variable {P : Program} {w : World} {K : PySem.W.Frag} {mg : Str → Option Value} {base : Heap} {C : Addr}
abbrev sp__law_made (C : Addr) : Sp := Psp (fun i : SL => [D (dSt i.1 i.2.1 i.2.2)]) (fun i => (2 ≤ i.1 ∧ i.1 ≤ 8) ∧ KindsOk i.1 4 i.2.1 ∧ KindsOk i.1 3 i.2.2) (fun i _ => MadeAt C i.1 i.2.1 i.2.2)
theorem ok__law_made (T : Txt K mg) (U : Cl K mg C) : Dn P w K mg base 8 "_law_made" p__law_made (sp__law_made C) := by
  refine dn_of T.d__law_made sc__law_made (fun _ _ _ _ _ _ us hl => match us, hl with | [_, _], _ => rfl) (len_ofP fun _ => rfl) fun f cdv A outer s H vs Q E hr h => ?_
  obtain ⟨p, r, ⟨n, ds, ss⟩, rfl, hpot, ⟨v1, _, rfl, h1, rfl⟩, ⟨hn, hds, hss⟩, q⟩ := h
  dsimp only at h1 hn hds hss q
  have h1 : Dt (wo p H) v1 (.tuple [dN n, .list (ds.map dL), .list (ss.map dL)]) := h1
  obtain ⟨fI, fdI, M, FI⟩ := U.mke
  have bI : Binds K fdI p_init [] := FI.binds fun _ _ _ _ _ _ us hl => match us, hl with | [_, _, _, _], _ => rfl
  have k8 : ∀ {m : Nat} {ls : List (List Nat)}, m ≤ 4 → KindsOk n m ls → ls.length ≤ 7 ∧ ∀ l ∈ ls, l.length < 1000 := fun hm h => ⟨by have := h.1; omega, fun l hl => by
    have := rise_len8 (h.2.1 l hl).2.1 fun s hs => Nat.lt_of_lt_of_le ((h.2.1 l hl).2.2 s hs) hn.2
    omega⟩
  refine s_one (r_ret (rdE_of (pe_make M (ok_init T U FI) hr (by rfl) U.mgC bI .nil pass0 (pA _ _)) ?_))
  refine (xa_cons (p := p) (G := wo p H) (x_ixT (d := dN n) (x_var 1 rfl h1) (fun _ => e_int (i := ((0 : Nat) : Int))) rfl) (xa_cons (x_fn ds (ok__law_given T) (hr.mono (by decide)) (xa_cons (x_var 0 rfl rfl) (xa_cons (x_ixT (d := .list (ds.map dL)) (x_var 1 rfl h1) (fun _ => e_int (i := ((1 : Nat) : Int))) rfl) xa_nil)) (k8 (by decide) hds) (S := GivenAt ds) fun _ _ _ _ _ r => r) (xa_cons (x_fn ss (ok__law_given T) (hr.mono (by decide)) (xa_cons (x_var 0 rfl rfl) (xa_cons (x_ixT (d := .list (ss.map dL)) (x_var 1 rfl h1) (fun _ => e_int (i := ((2 : Nat) : Int))) rfl) xa_nil)) (k8 (by decide) hss) (S := GivenAt ss) fun _ _ _ _ _ r => r) xa_nil))) H (St.refl hpot) _ fun vs H1 s1 r => ?_
  obtain ⟨a, _, rfl, ha, b, _, rfl, ⟨ks, hks, hb⟩, c, _, rfl, ⟨ms, hms, hc⟩, rfl⟩ := r
  intro x dx hx hdx hne
  have g1 : Gr H1 (upd (upd H1 dx (.own x)) x (.ins C dx [])) := (Gr.new hdx).tr (Gr.new (by rw [upd_ne hne.symm]; exact hx))
  have g2 := (wo_sub p H1).tr g1
  refine ⟨n, ks, ms, x, dx, a, b, c, rfl, upd_same, Dt.up g2 ha, Mono.up g2 hb, Mono.up g2 hc, hn, given_ok hn.2 hds hks, given_ok hn.2 hss hms, fun H2 keep sto => ⟨rfl, ?_⟩⟩
  have hxp : x ≠ p := s1.ne hx
  have hp2 : Pot p H2 := by
    obtain ⟨i, j, h, k⟩ := s1.2.up g1
    exact ⟨i, j, keep p _ hxp.symm h, k⟩
  obtain ⟨zs, hz⟩ := hp2.lst
  refine q _ H2 (s1.tr ⟨fun y o hy => ?_, hp2⟩) ⟨ks, ms, hks, hms, sto.wo hz⟩
  obtain ⟨e1, e2⟩ := wo_some hy
  rw [wo_ne e1]
  exact keep y o (ne_of_none e2 hx) (g1 _ _ e2)
theorem eqv_dS (a b : Step) : PyData.eqv (dS a) (dS b) = decide (a = b) := by
  show PyData.eqvAll [.str (sword a.lay), dN a.pos] [.str (sword b.lay), dN b.pos] = _
  rw [PyData.eqvAll, PyData.eqvAll, PyData.eqvAll, eqv_str, eqv_dN, Bool.and_true, ← Bool.decide_and]
  refine decide_eq_decide.mpr ?_
  have : sword a.lay = sword b.lay ↔ a.lay = b.lay := by cases a.lay <;> cases b.lay <;> decide
  rw [this]
  cases a
  cases b
  simp
theorem can_dS (d : Step) : (dS d).canLay0 = true := by
  show PyData.canLay0 (.tuple [.str (sword d.lay), dN d.pos]) = true
  rw [PyData.canLay0, PyData.canLayAll0, PyData.canLayAll0, PyData.canLayAll0, sword_ok]
  rfl
theorem depth_dS (d : Step) : (dS d).depth ≤ 1 := by
  show (PyData.tuple [.str (sword d.lay), dN d.pos]).depth ≤ 1
  rw [PyData.depth, PyData.depthAll, PyData.depthAll, PyData.depthAll]
  show max 0 (max 0 0) + 1 ≤ 1
  decide
theorem sh_dSs (l : List Step) : SeqAt.shaped (.list (l.map dS)) = true := shaped_of (can_list can_dS l) (depth_list depth_dS l)
theorem soft_steps (l : List Step) : softA (l.map dS) = true := soft_all dS soft_dS l
def StepL (ds ss : List (List Nat)) (st : Step) : Prop := st.pos < (if st.lay then ds else ss).length
def allSteps (ds ss : List (List Nat)) : List Step := (List.range ds.length).map (fun i => ⟨true, i⟩) ++ (List.range ss.length).map (fun i => ⟨false, i⟩)
theorem mem_allSteps {ds ss : List (List Nat)} {st : Step} (h : st ∈ allSteps ds ss) : StepL ds ss st := by
  unfold allSteps at h
  rcases List.mem_append.mp h with z | z
  · obtain ⟨i, hi, rfl⟩ := List.mem_map.mp z
    exact List.mem_range.mp hi
  · obtain ⟨i, hi, rfl⟩ := List.mem_map.mp z
    exact List.mem_range.mp hi
abbrev sp__law_row : Sp := Psp (fun i : SL => [D (dSt i.1 i.2.1 i.2.2)]) (fun i => i.2.1.length ≤ 8 ∧ i.2.2.length ≤ 8) (fun i H0 H v => ∃ row : List Step, row.length ≤ 6 ∧ (∀ st ∈ row, StepL i.2.1 i.2.2 st) ∧ NewL H0 (row.map dS) H v)
theorem ok__law_row (T : Txt K mg) : Dn P w K mg base 3 "_law_row" p__law_row sp__law_row := by
  refine dn_of T.d__law_row sc__law_row (fun _ _ _ _ _ _ us hl => match us, hl with | [_, _], _ => rfl) (len_ofP fun _ => rfl) fun f cdv A outer s H vs Q E hr h => ?_
  obtain ⟨p, r, ⟨n, ds, ss⟩, rfl, hpot, ⟨v1, _, rfl, h1, rfl⟩, ⟨hd8, hs8⟩, q⟩ := h
  dsimp only at h1 hd8 hs8 q
  have hu : (A.deeper (envOfC "_law_row" (defScope s__law_row) s.heap.objs.size f cdv)).units + 64 < cLine := hr.units
  have h1 : Dt (wo p H) v1 (.tuple [dN n, .list (ds.map dL), .list (ss.map dL)]) := h1
  refine s_cons (s_set 2 sc__law_row.nd (e_lst d_nil) fun u H1 g1 hu1 => ?_)
  obtain ⟨f1, zs1, rfl, hf0, hf1, hz1⟩ := hu1
  cases hz1
  have st1 : St p (wo p H) H1 := (St.refl hpot).gr g1
  have hfp : f1 ≠ p := (St.refl hpot).ne hf0
  refine s_cons (r_forR 3 sc__law_row.nd T.b_range ((x_fn (p := p) (G := wo p H1) 7 (ok__law_draw T) (hr.mono (by decide)) (xa_cons (x_var 0 rfl rfl) (xa_cons x_int xa_nil)) ⟨by decide, by decide⟩ (S := Below 7) fun _ _ _ _ _ r => r).run (St.refl st1.2) fun v H2 s2 r => ?_))
  obtain ⟨tn, htn, rfl⟩ := r
  have st2 := st1.tr s2
  refine ⟨tn, rfl, by omega, fun i σ' H' => St p (wo p H) H' ∧ (∃ (zs : List V) (row : List Step), H' f1 = some (.lst zs) ∧ DtA (wo p H') zs (row.map dS) ∧ row.length ≤ i ∧ ∀ st ∈ row, StepL ds ss st) ∧ ∃ y z t, σ' = [some (.ref p), some v1, some (.ref f1), y, z, t], ⟨st2, ⟨[], [], s2.keep hfp hf1, .nil, Nat.le_refl _, fun l hl => by simp at hl⟩, none, none, none, rfl⟩, fun i σ' H' hi w => ?_, fun σ' H' w => ?_⟩
  · obtain ⟨st, ⟨zs, row, hzf, hzs, hlen, hin⟩, y, z, t, rfl⟩ := w
    have hlA : (allSteps ds ss).length = ds.length + ss.length := by unfold allSteps; rw [List.length_append, List.length_map, List.length_map, List.length_range, List.length_range]
    have h1' := Dt.up st.sub h1
    refine s_cons (s_set 4 sc__law_row.nd ((e_cat (ds := (List.range ds.length).map fun i => dS ⟨true, i⟩) (es := (List.range ss.length).map fun i => dS ⟨false, i⟩) ((e_lcR (n := ds.length) (g := fun i => dS ⟨true, i⟩) (R := fun i _ => D (dS ⟨true, i⟩)) 5 (blkOk_by (N := n__law_row) (sc := defScope s__law_row) (by decide +kernel)) (fun _ _ _ _ _ => pg_name (i := 5) sc__law_row.nd rfl (Or.inl rfl)) sc__law_row.nd T.b_range ((e_len T.b_len (a_cons (P := Q2 (ds.map dL)) ((e_ixT (n := 1) (d := .list (ds.map dL)) (e_var 1 rfl h1') e_int rfl).imp fun _ _ _ r => .inl r) a_nil)).int (by rw [List.length_map])) (by omega)
        (fun a ha H3 g3 s0 H0 C0 cl fp => Evp.q (e_tup (d_cons e_str (d_cons (e_var 5 rfl (Dt.int _)) d_nil)) (show 2 ≤ 1000 by decide))) (fun _ _ => kp_soft rfl)).newD)
      ((e_lcR (n := ss.length) (g := fun i => dS ⟨false, i⟩) (R := fun i _ => D (dS ⟨false, i⟩)) 5 (blkOk_by (N := n__law_row) (sc := defScope s__law_row) (by decide +kernel)) (fun _ _ _ _ _ => pg_name (i := 5) sc__law_row.nd rfl (Or.inl rfl)) sc__law_row.nd T.b_range ((e_len T.b_len (a_cons (P := Q2 (ss.map dL)) ((e_ixT (n := 2) (d := .list (ss.map dL)) (e_var 1 rfl h1') e_int rfl).imp fun _ _ _ r => .inl r) a_nil)).int (by rw [List.length_map])) (by omega)
        (fun a ha H3 g3 s0 H0 C0 cl fp => Evp.q (e_tup (d_cons e_str (d_cons (e_var 5 rfl (Dt.int _)) d_nil)) (show 2 ≤ 1000 by decide))) (fun _ _ => kp_soft rfl)).newD) (by simp; omega))) fun u H3 g3 hu3 => ?_)
    have eA : ((List.range ds.length).map fun i => dS ⟨true, i⟩) ++ ((List.range ss.length).map fun i => dS ⟨false, i⟩) = (allSteps ds ss).map dS := by unfold allSteps; rw [List.map_append, List.map_map, List.map_map]; rfl
    rw [eA] at hu3
    obtain ⟨k, xs, rfl, hk0, hk1, hxs⟩ := hu3
    have st3 := st.gr g3
    have hzf3 := g3 _ _ hzf
    have hkp : k ≠ p := st.ne hk0
    obtain ⟨pz, hpz⟩ := st3.2.lst
    have hk3 : Dt (wo p H3) (.ref k) (.list ((allSteps ds ss).map dS)) := .lst (by rw [wo_ne hkp]; exact hk1) (DtA.wo hpz hxs (soft_steps _))
    have hzs3 := DtA.up (wo_gr g3) hzs
    refine s_one (s_if ((t_neD (d := .list ((allSteps ds ss).map dS)) hu (e_var 4 rfl (Dt.up (wo_sub _ _) hk3)) (e_lst d_nil).newD (sh_dSs _) sh_nil).eq (by rw [eqv_nil eqv_dS])) (fun hb H4 g4 => ?_) (fun hb H4 g4 => s_nil ⟨st3.gr g4, ⟨zs, row, g4 _ _ hzf3, DtA.up (wo_gr g4) hzs3, by omega, hin⟩, _, _, _, rfl⟩))
    have hne : allSteps ds ss ≠ [] := by simpa using hb
    refine s_one (r_app (e_var 2 rfl rfl) (g4 _ _ hzf3) fun H5 g5 => (x_fn (p := p) (G := wo p H5) ((allSteps ds ss).map dS) (ok__law_pick T) hr (xa_cons (x_var 0 rfl rfl) (xa_cons (x_var 4 rfl (Dt.up (wo_gr (g4.tr g5)) hk3)) xa_nil)) ⟨by simpa using hne, by rw [List.length_map]; omega⟩ (S := fun Hw v => ∃ st : Step, StepL ds ss st ∧ Dt Hw v (dS st)) fun H6 H7 v s6 s7 ⟨j, d, hj, hd⟩ => ?_).run (St.refl ((st3.gr g4).gr g5).2) fun v H6 s6 r => ?_)
    · rw [List.getElem?_map] at hj
      obtain ⟨st', hst', rfl⟩ := Option.map_eq_some_iff.mp hj
      exact ⟨st', mem_allSteps (List.mem_of_getElem? hst'), hd⟩
    · obtain ⟨st', hst', dst'⟩ := r
      have st6 := ((st3.gr g4).gr g5).tr s6
      have hzf6 := s6.keep hfp (g5 _ _ (g4 _ _ hzf3))
      have hw : wo p H6 f1 = some (.lst zs) := by rw [wo_ne hfp]; exact hzf6
      have e6 : wo p (upd H6 f1 (.lst (zs ++ [v]))) = upd (wo p H6) f1 (.lst (zs ++ [v])) := funext fun y => by
        by_cases h1 : y = p
        · subst h1; rw [wo_self, upd_ne hfp.symm, wo_self]
        · rw [wo_ne h1]
          by_cases h2 : y = f1
          · subst h2; rw [upd_same, upd_same]
          · rw [upd_ne h2, upd_ne h2, wo_ne h1]
      refine ⟨zs, hzf6, by rw [hzs.encLen]; omega, st6.mut (wo_none hf0) hfp, ⟨_, row ++ [st'], upd_same, ?_, by rw [List.length_append]; exact Nat.succ_le_succ hlen, ?_⟩, _, _, _, rfl⟩
      · rw [e6, List.map_append]
        refine DtA.off hw ((DtA.up ((wo_gr (g4.tr g5)).tr s6.1) hzs3).app (.one dst')) ?_
        have z := soft_steps (row ++ [st'])
        rw [List.map_append] at z
        exact z
      · intro s hs
        rcases List.mem_append.mp hs with z | z
        · exact hin s z
        · rw [List.mem_singleton.mp z]; exact hst'
  · obtain ⟨st, ⟨zs, row, hzf, hzs, hlen, hin⟩, y, z, t, rfl⟩ := w
    refine s_one (s_ret (e_var (P := Is (.ref f1)) 2 rfl rfl) fun v H4 g4 r => ?_)
    have e4 : v = .ref f1 := r
    subst e4
    exact q _ H4 (st.gr g4) ⟨row, by omega, hin, f1, zs, rfl, wo_none hf0, by rw [wo_ne hfp]; exact g4 _ _ hzf, DtA.up (wo_gr g4) hzs⟩
end
end K33
namespace K33
open PySem PySem.Spec PyProof.Rows L2
section
variable {X : Cx} {σ : L2.St} {H G : Hp} {Z : Ends} {a b c e o : Expr} {es : List Expr} {pos q p1 p2 p3 p4 p5 : Pos} {P R S : Pd} {x y z : Str} {v : V} {d : PyData} {ds : List PyData} {i : Int}
/-- in, not in, of lists of naturals -/
theorem nat_mem {n : Nat} {l : List Nat} : decide ((n : Int) ∈ zs l) = decide (n ∈ l) := decide_eq_decide.mpr mem_zs
theorem toZ {l : List Nat} (h : E X e σ H (D (.list (l.map dN)))) : E X e σ H (D (.list ((zs l).map .int))) := by rw [← dN_map]; exact h
theorem e_inN {n : Nat} {l : List Nat} (ha : E X a σ H (D (dN n))) (hb : E X b σ H (D (.list (l.map dN)))) (hm : behindInMarks .In b = false := by with_unfolding_all rfl) : E X (.Compare a [.In] [b] pos) σ H (B (decide (n ∈ l))) :=
  Evp.bl (e_in ha (toZ hb) hm) nat_mem
theorem t_inN {n : Nat} {l : List Nat} (ha : E X a σ H (D (dN n))) (hb : E X b σ H (D (.list (l.map dN)))) (hm : behindInMarks .In b = false := by with_unfolding_all rfl) : T X (.Compare a [.In] [b] pos) σ H (decide (n ∈ l)) :=
  Evb.eq (t_in ha (toZ hb) hm) nat_mem
theorem t_ninN {n : Nat} {l : List Nat} (ha : E X a σ H (D (dN n))) (hb : E X b σ H (D (.list (l.map dN)))) (hm : behindInMarks .NotIn b = false := by with_unfolding_all rfl) : T X (.Compare a [.NotIn] [b] pos) σ H (!decide (n ∈ l)) :=
  Evb.eq (t_nin ha (toZ hb) hm) (by rw [nat_mem])
/-- sorted of a list of naturals: ms is that list -/
theorem e_sortN {ns ms : List Nat} (hm : X.mg "sorted" = none) (ha : E X e σ H (D (.list (ns.map dN)))) (hl : ns.length < 64) (hp : ms.Perm ns) (hr : ms.Pairwise (· < ·)) (hg : Gl X "sorted" := by rfl) (he : starEach [e] X.env = (false, eval e X.env) :: starEach [] X.env := by rfl) (hpl : (backTo pos (starEach [] X.env)).any (·.1) = false := by rfl) : E X (.Call (.Name "sorted" q) [e] [] pos) σ H (NewL H (ms.map dN)) :=
  e_cb cr_sorted PyProof.Rows.boot_sorted hm (a_cons (toZ ha) a_nil he) (rc1 fun H1 g v hv Q k => by
    obtain ⟨l, xs, rfl, hp0, hx⟩ := Dt.list_eq hv
    rw [hx.ints] at hp0
    refine ⟨l, zs ns, rfl, .inl (.inl hp0), by unfold zs; rw [List.length_map]; exact hl, fun ys t hy hs ht => ?_⟩
    have hnd : (zs ms).Nodup := (zs_rise hr).imp fun h => Int.ne_of_lt h
    have hy2 : ys.Perm (zs ms) := hy.trans (hp.map _).symm
    have e1 : ys = zs ms := rise_uniq ((hs.and (hy2.nodup_iff.mpr hnd)).imp fun ⟨h1, h2⟩ => by omega) (zs_rise hr) fun k => hy2.mem_iff
    subst e1
    exact k _ _ (Gr.new ht) ⟨t, _, rfl, g.back ht, upd_same, by rw [dN_map]; exact .of_ints _⟩) hg (by decide) (by decide) he hpl
/-- xs * n -/
theorem e_repN {n : Nat} (ha : E X a σ H (D (.list ds))) (hb : E X b σ H (I (n : Int))) (h3 : ds.length * n ≤ 1000) (hn : n ≤ 1000) : E X (.BinOp a .Mult b pos) σ H (NewL H (List.replicate n ds).flatten) :=
  e_op op_rep ha hb fun H1 g x y px py Q q => by
    obtain ⟨p, xs, rfl, hp, hx⟩ := Dt.list_eq px
    refine ⟨p, (n : Int), xs, rfl, Dt.int_eq py, hp, by omega, by omega, by rw [hx.len]; exact Nat.le_of_lt (small1000 (by simpa using h3)), fun p' hp' => q _ _ (Gr.new hp') ⟨p', _, rfl, g.back hp', upd_same, ?_⟩⟩
    have rep : ∀ m : Nat, DtA H1 (List.replicate m xs).flatten (List.replicate m ds).flatten := fun m => by
      induction m with
      | zero => exact .nil
      | succ m ih => rw [List.replicate_succ, List.replicate_succ, List.flatten_cons, List.flatten_cons]; exact hx.app ih
    exact DtA.up (Gr.new hp') (rep _)
/-- x, y, z = a, b, c -/
theorem r_par3 (i j k : Nat) (hN : X.N.Nodup) {t t2 : Nat} (h : rdE X a σ H fun u H1 => rdE X b σ H1 fun v H2 => rdE X c σ H2 fun w H3 => Z.nx (((σ.set i (some u)).set j (some v)).set k (some w)) H3) (hc : X.calm = true := by rfl) (hi : X.N[i]? = some x := by rfl) (hj : X.N[j]? = some y := by rfl) (hk : X.N[k]? = some z := by rfl) (hij : i ≠ j := by decide) (hik : i ≠ k := by decide) (hjk : j ≠ k := by decide)
    (hx : X.env.scope.names.lookup x = some .local := by rfl) (hy : X.env.scope.names.lookup y = some .local := by rfl) (hz : X.env.scope.names.lookup z = some .local := by rfl)
    (hw : swappedStores [.Tuple [.Name x p1, .Name y p2, .Name z p3] t p4] (.Tuple [a, b, c] t2 p5) X.env = pure (some [x, y, z]) := by rfl) (hs : swapsWithSole [.Tuple [.Name x p1, .Name y p2, .Name z p3] t p4] (.Tuple [a, b, c] t2 p5) pos.line X.env = pure false := by rfl)
    (s1 : starEach [a, b, c] X.env = (false, eval a X.env) :: starEach [b, c] X.env := by rfl) (s2 : starEach [b, c] X.env = (false, eval b X.env) :: starEach [c] X.env := by rfl) (s3 : starEach [c] X.env = (false, eval c X.env) :: starEach [] X.env := by rfl) :
    rdS X (.Assign [.Tuple [.Name x p1, .Name y p2, .Name z p3] t p4] (.Tuple [a, b, c] t2 p5) pos) Z σ H :=
  rdS_of (ps_par3 hc hN hi hj hk hij hik hjk hx hy hz (pa_cons (pE X a) (pa_cons (pE X b) (pa_cons (pE X c) pa_nil s3) s2) s1) hw hs) (Nx.w h fun u H1 k1 => Nx.w k1 fun v H2 k2 => Nx.w k2 fun w H3 z => ⟨u, v, w, rfl, z⟩)
end
/-! plain: the law's own words -/
def customL (ds ss : List (List Nat)) (b : List Nat) (d : Deed) : Bool := if d.put then decide (d.sh ∈ leastL b (ds.getD d.pos [])) else decide (d.sh ∈ mostL b (ss.getD d.pos []))
def stepL (ds ss : List (List Nat)) (lot : List Nat) (st : Step) : List Nat := if st.lay then riseOf (lot ++ (ds.getD st.pos []).filter fun s => !decide (s ∈ lot)) else lot.filter fun s => !decide (s ∈ ss.getD st.pos [])
def flatB (n : Nat) (lot : List Nat) (h : Nat) : List Nat := (List.range n).map fun s => if s ∈ lot then h else 0
theorem dL_get {ds : List (List Nat)} {i : Nat} (h : i < ds.length) : (ds.map dL)[i]? = some (dL (ds.getD i [])) := by
  rw [List.getElem?_map, List.getD_eq_getElem?_getD, List.getElem?_eq_getElem h]
  rfl
theorem f_map_id (l : List Nat) (p : Nat → Bool) : (l.filter p).map dN = (l.filter p).map dN := rfl
section
variable {P : Program} {w : World} {K : PySem.W.Frag} {mg : Str → Option Value} {base : Heap} {C : Addr}
abbrev BL : Type := List Nat × List Nat
abbrev sp__law_least : Sp := Fsp (fun i : BL => [D (.list (i.1.map dN)), D (dL i.2)]) (fun i => KindOn i.1 i.2 ∧ i.2.length ≤ 8) (fun i H => NewL H ((leastL i.1 i.2).map dN))
theorem ok__law_least (T : Txt K mg) : Dn P w K mg base 1 "_law_least" p__law_least sp__law_least := by
  refine dn_of T.d__law_least sc__law_least (fun _ _ _ _ _ _ us hl => match us, hl with | [_, _], _ => rfl) (len_of fun _ => rfl) fun f cdv A outer s H vs Q E hr h => ?_
  obtain ⟨⟨b, k⟩, ⟨v0, _, rfl, h0, v1, _, rfl, h1, rfl⟩, ⟨⟨hne, hin⟩, hz⟩, q⟩ := h
  dsimp only at h0 h1 hne hin hz q
  have h1 : Dt H v1 (.list (k.map dN)) := h1
  obtain ⟨m, hm, em⟩ := lowOf_mem b hne
  refine s_cons (s_set 2 sc__law_least.nd (e_min (ns := zs (k.map (at0 b))) (mn := (lowOf b k : Int)) T.b_min rfl (a_cons ((e_lcL (enc := dN) (as := k) (g := fun s => dN (at0 b s)) (R := fun s _ => D (dN (at0 b s))) 3 (blkOk_by (N := n__law_least) (sc := defScope s__law_least) (by decide +kernel)) (fun _ _ _ _ _ => pg_name (i := 3) sc__law_least.nd rfl (Or.inl rfl)) sc__law_least.nd (e_var 1 rfl h1) (by omega)
    (fun a ha x H2 g dx s0 H0 C cl fp => Evp.q (e_ixL (n := a) (e_var 0 rfl (Dt.up g h0)) (e_var 3 rfl dx) (dN_get (hin a ha)))) (fun _ _ => kp_soft rfl)).newD.eq (by rw [← dN_map, List.map_map]; rfl)) a_nil) ?_ ?_) fun u2 H2 g2 hu2 => ?_)
  · exact mem_zs.mpr (List.mem_map.mpr ⟨m, hm, em⟩)
  · intro y hy
    obtain ⟨y', rfl, hy'⟩ := of_mem_zs hy
    obtain ⟨t, ht, rfl⟩ := List.mem_map.mp hy'
    have := lowOf_le b ht
    omega
  exact s_one (s_ret (e_lcLi (enc := dN) (as := k) (pp := fun s => decide (at0 b s = lowOf b k)) (g := dN) (R := fun s _ => D (dN s)) 3 (blkOk_by (N := n__law_least) (sc := defScope s__law_least) (by decide +kernel)) (fun _ _ _ _ _ => pg_name (i := 3) sc__law_least.nd rfl (Or.inl rfl)) sc__law_least.nd (e_var 1 rfl (Dt.up g2 h1)) (by omega)
    (fun a ha x H3 g dx s0 H0 C cl fp => (t_eqI (e_ixL (n := a) (e_var 0 rfl (Dt.up (g2.tr g) h0)) (e_var 3 rfl dx) (dN_get (hin a ha))) (e_var 2 rfl (Dt.up g hu2))).eq (decide_eq_decide.mpr (by omega))) (fun a ha _ x H3 g dx s0 H0 C cl fp => Evp.q (e_var 3 rfl dx)) (fun _ _ => kp_soft rfl)) fun v H3 g3 r => q v H3 (g2.tr g3) (r.back g2))
abbrev sp__law_most : Sp := Fsp (fun i : BL => [D (.list (i.1.map dN)), D (dL i.2)]) (fun i => KindOn i.1 i.2 ∧ i.2.length ≤ 8) (fun i H => NewL H ((mostL i.1 i.2).map dN))
theorem ok__law_most (T : Txt K mg) : Dn P w K mg base 1 "_law_most" p__law_most sp__law_most := by
  refine dn_of T.d__law_most sc__law_most (fun _ _ _ _ _ _ us hl => match us, hl with | [_, _], _ => rfl) (len_of fun _ => rfl) fun f cdv A outer s H vs Q E hr h => ?_
  obtain ⟨⟨b, k⟩, ⟨v0, _, rfl, h0, v1, _, rfl, h1, rfl⟩, ⟨⟨hne, hin⟩, hz⟩, q⟩ := h
  dsimp only at h0 h1 hne hin hz q
  have h1 : Dt H v1 (.list (k.map dN)) := h1
  obtain ⟨m, hm, em⟩ := highOf_mem b hne
  refine s_cons (s_set 2 sc__law_most.nd (e_max (ns := zs (k.map (at0 b))) (mn := (highOf b k : Int)) T.b_max rfl (a_cons ((e_lcL (enc := dN) (as := k) (g := fun s => dN (at0 b s)) (R := fun s _ => D (dN (at0 b s))) 3 (blkOk_by (N := n__law_most) (sc := defScope s__law_most) (by decide +kernel)) (fun _ _ _ _ _ => pg_name (i := 3) sc__law_most.nd rfl (Or.inl rfl)) sc__law_most.nd (e_var 1 rfl h1) (by omega)
    (fun a ha x H2 g dx s0 H0 C cl fp => Evp.q (e_ixL (n := a) (e_var 0 rfl (Dt.up g h0)) (e_var 3 rfl dx) (dN_get (hin a ha)))) (fun _ _ => kp_soft rfl)).newD.eq (by rw [← dN_map, List.map_map]; rfl)) a_nil) ?_ ?_) fun u2 H2 g2 hu2 => ?_)
  · exact mem_zs.mpr (List.mem_map.mpr ⟨m, hm, em⟩)
  · intro y hy
    obtain ⟨y', rfl, hy'⟩ := of_mem_zs hy
    obtain ⟨t, ht, rfl⟩ := List.mem_map.mp hy'
    have := highOf_ge b ht
    omega
  have e : mostL b k = k.filter fun s => decide (at0 b s = highOf b k) && decide (0 < highOf b k) := by
    unfold mostL
    by_cases hp : 0 < highOf b k
    · rw [if_pos hp]; simp [hp]
    · rw [if_neg hp]; simp [hp]
  rw [e] at q
  exact s_one (s_ret (e_lcLi (enc := dN) (as := k) (pp := fun s => decide (at0 b s = highOf b k) && decide (0 < highOf b k)) (g := dN) (R := fun s _ => D (dN s)) 3 (blkOk_by (N := n__law_most) (sc := defScope s__law_most) (by decide +kernel)) (fun _ _ _ _ _ => pg_name (i := 3) sc__law_most.nd rfl (Or.inl rfl)) sc__law_most.nd (e_var 1 rfl (Dt.up g2 h1)) (by omega)
    (fun a ha x H3 g dx s0 H0 C cl fp => (Wt.t (w_and (t_eqI (e_ixL (n := a) (e_var 0 rfl (Dt.up (g2.tr g) h0)) (e_var 3 rfl dx) (dN_get (hin a ha))) (e_var 2 rfl (Dt.up g hu2))) fun _ => w_and1 (t_gt (e_var 2 rfl (Dt.up g hu2)) e_int))).eq (by
      congr 1
      · exact decide_eq_decide.mpr (by omega)
      · exact decide_eq_decide.mpr (by omega))) (fun a ha _ x H3 g dx s0 H0 C cl fp => Evp.q (e_var 3 rfl dx)) (fun _ _ => kp_soft rfl)) fun v H3 g3 r => q v H3 (g2.tr g3) (r.back g2))
abbrev sp__law_is_custom : Sp := Fsp (fun i : SL × List Nat × Deed => [D (dSt i.1.1 i.1.2.1 i.1.2.2), D (.list (i.2.1.map dN)), D (dD i.2.2)]) (fun i => i.2.2.pos < (if i.2.2.put then i.1.2.1 else i.1.2.2).length ∧ KindOn i.2.1 ((if i.2.2.put then i.1.2.1 else i.1.2.2).getD i.2.2.pos []) ∧ ((if i.2.2.put then i.1.2.1 else i.1.2.2).getD i.2.2.pos []).length ≤ 8) (fun i _ => B (customL i.1.2.1 i.1.2.2 i.2.1 i.2.2))
theorem ok__law_is_custom (T : Txt K mg) : Dn P w K mg base 2 "_law_is_custom" p__law_is_custom sp__law_is_custom := by
  refine dn_of T.d__law_is_custom sc__law_is_custom (fun _ _ _ _ _ _ us hl => match us, hl with | [_, _, _], _ => rfl) (len_of fun _ => rfl) fun f cdv A outer s H vs Q E hr h => ?_
  obtain ⟨⟨⟨n, ds, ss⟩, b, d⟩, ⟨v0, _, rfl, h0, v1, _, rfl, h1, v2, _, rfl, h2, rfl⟩, ⟨hp, hk, h8⟩, q⟩ := h
  dsimp only at h0 h1 h2 hp hk h8 q
  have hu : (A.deeper (envOfC "_law_is_custom" (defScope s__law_is_custom) s.heap.objs.size f cdv)).units + 64 < cLine := hr.units
  have h0 : Dt H v0 (.tuple [dN n, .list (ds.map dL), .list (ss.map dL)]) := h0
  have h2 : Dt H v2 (.tuple [.str (word d.put), dN d.pos, dN d.sh]) := h2
  refine s_cons (s_if ((t_eqS (e_ixT (n := 0) (d := .str (word d.put)) (e_var 2 rfl h2) e_int rfl) e_str).eq word_ne) (fun hb H1 g1 => ?_) (fun hb H1 g1 => s_nil ?_))
  · simp only [hb, if_true] at hp hk h8
    refine s_one (s_ret ((e_inN (e_ixT (n := 2) (d := dN d.sh) (e_var 2 rfl (Dt.up g1 h2)) e_int rfl) (e_fn (b, ds.getD d.pos []) (ok__law_least T) hr (a_cons (e_var 1 rfl (Dt.up g1 h1)) (a_cons (e_ixL (n := d.pos) (d := dL (ds.getD d.pos [])) (e_ixT (n := 1) (d := .list (ds.map dL)) (e_var 0 rfl (Dt.up g1 h0)) e_int rfl) (e_ixT (n := 1) (d := dN d.pos) (e_var 2 rfl (Dt.up g1 h2)) e_int rfl) (dL_get hp)) a_nil)) ⟨hk, h8⟩ (S := D (.list ((leastL b (ds.getD d.pos [])).map dN))) fun _ _ _ _ r => r.d)).bl ?_) fun v H2 g2 r => q v H2 (g1.tr g2) r)
    unfold customL
    rw [if_pos hb]
  · simp only [hb, Bool.false_eq_true, if_false] at hp hk h8
    refine s_cons (s_set 3 sc__law_is_custom.nd (e_fn (b, ss.getD d.pos []) (ok__law_most T) hr (a_cons (e_var 1 rfl (Dt.up g1 h1)) (a_cons (e_ixL (n := d.pos) (d := dL (ss.getD d.pos [])) (e_ixT (n := 2) (d := .list (ss.map dL)) (e_var 0 rfl (Dt.up g1 h0)) e_int rfl) (e_ixT (n := 1) (d := dN d.pos) (e_var 2 rfl (Dt.up g1 h2)) e_int rfl) (dL_get hp)) a_nil)) ⟨hk, h8⟩ (S := D (.list ((mostL b (ss.getD d.pos [])).map dN))) fun _ _ _ _ r => r.d) fun u H2 g2 hu2 => ?_)
    have g12 := g1.tr g2
    refine s_one (s_ret (e_if (P := B (customL ds ss b d)) (b1 := true) ((t_eqS (e_ixT (n := 0) (d := .str (word d.put)) (e_var 2 rfl (Dt.up g12 h2)) e_int rfl) e_str).eq (by rw [word_ne2, hb]; rfl)) (fun _ => ((e_inN (e_ixT (n := 2) (d := dN d.sh) (e_var 2 rfl (Dt.up g12 h2)) e_int rfl) (e_var 3 rfl hu2)).bl ?_)) (fun z => nomatch z)) fun v H3 g3 r => q v H3 (g12.tr g3) r)
    unfold customL
    rw [hb]
    rfl
abbrev sp__law_behind : Sp := Fsp (fun i : List Nat × Deed => [D (.list (i.1.map dN)), D (dD i.2)]) (fun i => i.2.sh < i.1.length ∧ (i.2.put = false → 1 ≤ at0 i.1 i.2.sh)) (fun i H => NewL H ((bump i.1 i.2).map dN))
theorem ok__law_behind (T : Txt K mg) : Dn P w K mg base 1 "_law_behind" p__law_behind sp__law_behind := by
  refine dn_of T.d__law_behind sc__law_behind (fun _ _ _ _ _ _ us hl => match us, hl with | [_, _], _ => rfl) (len_of fun _ => rfl) fun f cdv A outer s H vs Q E hr h => ?_
  obtain ⟨⟨b, d⟩, ⟨v0, _, rfl, h0, v1, _, rfl, h1, rfl⟩, ⟨hlt, hpos⟩, q⟩ := h
  dsimp only at h0 h1 hlt hpos q
  have h1 : Dt H v1 (.tuple [.str (word d.put), dN d.pos, dN d.sh]) := h1
  refine s_cons (s_set 2 sc__law_behind.nd (e_list T.b_list (a_cons (P := Q2 (b.map dN)) (e_var 0 rfl (.inl h0)) a_nil)) fun u H1 g1 hu => ?_)
  obtain ⟨l, xs, rfl, hl0, hl1, hx⟩ := hu
  have a1 := Dt.up g1 h1
  let x : Nat := if d.put then at0 b d.sh + 1 else at0 b d.sh - 1
  refine s_cons (s_if (b1 := true) ((t_neS (e_ixT (n := 0) (d := .str (word d.put)) (e_var 1 rfl a1) e_int rfl) e_str).eq (by rw [word_ne3]; rfl)) (fun _ H2 g2 => ?_) (fun z => nomatch z))
  have hl2 := g2 _ _ hl1
  have hx2 := DtA.up g2 hx
  have a2 := Dt.up g2 a1
  refine s_one (r_setIx (l := l) (k := d.sh) (P := D (dN x)) ((e_add (e_ixL (n := d.sh) (d := dN (at0 b d.sh)) (e_var (P := D (.list (b.map dN))) 2 rfl (.lst hl2 hx2)) (e_ixT (n := 2) (d := dN d.sh) (e_var 1 rfl a2) e_int rfl) (dN_get hlt)) (e_if (P := I (if d.put then 1 else -1)) ((t_eqS (e_ixT (n := 0) (d := .str (word d.put)) (e_var 1 rfl a2) e_int rfl) e_str).eq word_ne) (fun hb => by rw [if_pos hb]; exact e_int) (fun hb => by rw [hb]; exact e_neg e_int))).int (j := (x : Int)) ?_) (e_var 2 rfl rfl) (e_ixT (n := 2) (d := dN d.sh) (e_var 1 rfl a2) e_int rfl) hl2 (by rw [hx.encLen]; exact hlt) fun v H3 g3 hv => ?_)
  · show ((at0 b d.sh : Nat) : Int) + _ = ((if d.put then at0 b d.sh + 1 else at0 b d.sh - 1 : Nat) : Int)
    cases hb : d.put with
    | true => simp
    | false =>
      have := hpos hb
      simp
      omega
  · have hx3 : DtA (upd H3 l (.lst (xs.set d.sh v))) (xs.set d.sh v) ((bump b d).map dN) := by
      have e1 : (bump b d).map dN = (b.map dN).set d.sh (dN x) := by unfold bump; rw [List.map_set]
      rw [e1]
      exact DtA.off (g3 _ _ hl2) ((DtA.up g3 hx2).setAt d.sh hv) (by rw [← e1]; exact soft_nats _)
    refine s_one (s_ret (e_var (P := Is (.ref l)) 2 rfl rfl) fun v' H4 g4 r => ?_)
    have e2 : v' = .ref l := r
    subst e2
    exact q _ H4 ((((g1.tr g2).tr g3).mut hl0).tr g4) ⟨l, _, rfl, hl0, g4 _ _ upd_same, DtA.up g4 hx3⟩
abbrev LotL (n : Nat) (lot : List Nat) : Prop := lot.Pairwise (· < ·) ∧ ∀ s ∈ lot, s < n
abbrev sp__law_step : Sp := Fsp (fun i : SL × List Nat × Step => [D (dSt i.1.1 i.1.2.1 i.1.2.2), D (.list (i.2.1.map dN)), D (dS i.2.2)]) (fun i => StepL i.1.2.1 i.1.2.2 i.2.2 ∧ (i.1.1 ≤ 8 ∧ LotL i.1.1 i.2.1) ∧ ∀ l, (l ∈ i.1.2.1 ∨ l ∈ i.1.2.2) → LotL i.1.1 l) (fun i H => NewL H ((stepL i.1.2.1 i.1.2.2 i.2.1 i.2.2).map dN))
theorem getD_mem {α : Type} {l : List (List α)} {i : Nat} (h : i < l.length) : l.getD i [] ∈ l := by
  rw [List.getD_eq_getElem?_getD, List.getElem?_eq_getElem h]
  exact List.getElem_mem h
theorem stepL_rise {n : Nat} {ds ss : List (List Nat)} {lot : List Nat} {st : Step} (h : LotL n lot) (hk : ∀ l, (l ∈ ds ∨ l ∈ ss) → LotL n l) (hs : StepL ds ss st) : LotL n (stepL ds ss lot st) := by
  unfold stepL
  unfold StepL at hs
  split
  · rename_i hb
    rw [if_pos hb] at hs
    have hd := hk _ (.inl (getD_mem hs))
    refine ⟨riseOf_rise (List.nodup_append.mpr ⟨h.1.imp fun h => Nat.ne_of_lt h, (hd.1.filter _).imp fun h => Nat.ne_of_lt h, fun a ha b hb e => ?_⟩), fun s hs => ?_⟩
    · subst e
      have := (List.mem_filter.mp hb).2
      simp at this
      exact this ha
    · rcases List.mem_append.mp (riseOf_mem.mp hs) with z | z
      · exact h.2 s z
      · exact hd.2 s (List.mem_filter.mp z).1
  · exact ⟨h.1.filter _, fun s hs => h.2 s (List.mem_filter.mp hs).1⟩
theorem ok__law_step (T : Txt K mg) : Dn P w K mg base 1 "_law_step" p__law_step sp__law_step := by
  refine dn_of T.d__law_step sc__law_step (fun _ _ _ _ _ _ us hl => match us, hl with | [_, _, _], _ => rfl) (len_of fun _ => rfl) fun f cdv A outer s H vs Q E hr h => ?_
  obtain ⟨⟨⟨n, ds, ss⟩, lot, st⟩, ⟨v0, _, rfl, h0, v1, _, rfl, h1, v2, _, rfl, h2, rfl⟩, ⟨hst, ⟨hn, hlot⟩, hkk⟩, q⟩ := h
  dsimp only at h0 h1 h2 hst hn hlot hkk q
  have h0 : Dt H v0 (.tuple [dN n, .list (ds.map dL), .list (ss.map dL)]) := h0
  have h2 : Dt H v2 (.tuple [.str (sword st.lay), dN st.pos]) := h2
  have hri := stepL_rise hlot hkk hst
  have hl8 := rise_len8 hlot.1 fun s hs => Nat.lt_of_lt_of_le (hlot.2 s hs) hn
  have k8 : ∀ l, (l ∈ ds ∨ l ∈ ss) → l.length ≤ 8 := fun l hl => rise_len8 (hkk l hl).1 fun s hs => Nat.lt_of_lt_of_le ((hkk l hl).2 s hs) hn
  refine s_cons (s_if ((t_eqS (e_ixT (n := 0) (d := .str (sword st.lay)) (e_var 2 rfl h2) e_int rfl) e_str).eq sword_eq) (fun hb H1 g1 => ?_) (fun hb H1 g1 => s_nil ?_))
  · have hp : st.pos < ds.length := by unfold StepL at hst; rw [if_pos hb] at hst; exact hst
    have e : stepL ds ss lot st = riseOf (lot ++ (ds.getD st.pos []).filter fun s => !decide (s ∈ lot)) := by unfold stepL; rw [if_pos hb]
    have hz := k8 _ (.inl (getD_mem hp))
    have hf := List.length_filter_le (fun s => !decide (s ∈ lot)) (ds.getD st.pos [])
    rw [e] at q hri
    refine s_one (s_ret (e_sortN (ns := lot ++ (ds.getD st.pos []).filter fun s => !decide (s ∈ lot)) T.b_sorted ((e_cat (ds := lot.map dN) (e_var 1 rfl (Dt.up g1 h1)) ((e_lcLi (enc := dN) (as := ds.getD st.pos []) (pp := fun s => !decide (s ∈ lot)) (g := dN) (R := fun s _ => D (dN s)) 3 (blkOk_by (N := n__law_step) (sc := defScope s__law_step) (by decide +kernel)) (fun _ _ _ _ _ => pg_name (i := 3) sc__law_step.nd rfl (Or.inl rfl)) sc__law_step.nd
      (e_ixL (n := st.pos) (d := dL (ds.getD st.pos [])) (e_ixT (n := 1) (d := .list (ds.map dL)) (e_var 0 rfl (Dt.up g1 h0)) e_int rfl) (e_ixT (n := 1) (d := dN st.pos) (e_var 2 rfl (Dt.up g1 h2)) e_int rfl) (dL_get hp)) (by omega)
      (fun a ha x H3 g dx s0 H0 C cl fp => t_ninN (e_var 3 rfl dx) (e_var 1 rfl (Dt.up (g1.tr g) h1))) (fun a ha _ x H3 g dx s0 H0 C cl fp => Evp.q (e_var 3 rfl dx)) (fun _ _ => kp_soft rfl)).newD) (by rw [List.length_map, List.length_map]; omega)).newD.eq (by rw [List.map_append])) (by rw [List.length_append]; omega) (List.mergeSort_perm _ _) hri.1) fun v H2 g2 r => q v H2 (g1.tr g2) (r.back g1))
  · have hp : st.pos < ss.length := by unfold StepL at hst; rw [hb] at hst; exact hst
    have e : stepL ds ss lot st = lot.filter fun s => !decide (s ∈ ss.getD st.pos []) := by unfold stepL; rw [hb]; rfl
    rw [e] at q
    exact s_one (s_ret (e_lcLi (enc := dN) (as := lot) (pp := fun s => !decide (s ∈ ss.getD st.pos [])) (g := dN) (R := fun s _ => D (dN s)) 3 (blkOk_by (N := n__law_step) (sc := defScope s__law_step) (by decide +kernel)) (fun _ _ _ _ _ => pg_name (i := 3) sc__law_step.nd rfl (Or.inl rfl)) sc__law_step.nd (e_var 1 rfl (Dt.up g1 h1)) (by omega)
      (fun a ha x H3 g dx s0 H0 C cl fp => t_ninN (e_var 3 rfl dx) (e_ixL (n := st.pos) (d := dL (ss.getD st.pos [])) (e_ixT (n := 2) (d := .list (ss.map dL)) (e_var 0 rfl (Dt.up (g1.tr g) h0)) e_int rfl) (e_ixT (n := 1) (d := dN st.pos) (e_var 2 rfl (Dt.up (g1.tr g) h2)) e_int rfl) (dL_get hp))) (fun a ha _ x H3 g dx s0 H0 C cl fp => Evp.q (e_var 3 rfl dx)) (fun _ _ => kp_soft rfl)) fun v H2 g2 r => q v H2 (g1.tr g2) (r.back g1))
abbrev sp__law_flat_board : Sp := Fsp (fun i : SL × List Nat × Nat => [D (dSt i.1.1 i.1.2.1 i.1.2.2), D (.list (i.2.1.map dN)), I (i.2.2 : Int)]) (fun i => i.1.1 ≤ 8) (fun i H => NewL H ((flatB i.1.1 i.2.1 i.2.2).map dN))
theorem ok__law_flat_board (T : Txt K mg) : Dn P w K mg base 1 "_law_flat_board" p__law_flat_board sp__law_flat_board := by
  refine dn_of T.d__law_flat_board sc__law_flat_board (fun _ _ _ _ _ _ us hl => match us, hl with | [_, _, _], _ => rfl) (len_of fun _ => rfl) fun f cdv A outer s H vs Q E hr h => ?_
  obtain ⟨⟨⟨n, ds, ss⟩, lot, h⟩, ⟨v0, _, rfl, h0, v1, _, rfl, h1, v2, _, rfl, h2, rfl⟩, hn, q⟩ := h
  dsimp only at h0 h1 h2 hn q
  have h0 : Dt H v0 (.tuple [dN n, .list (ds.map dL), .list (ss.map dL)]) := h0
  refine s_one (s_ret (e_lcR (n := n) (g := fun s => dN (if s ∈ lot then h else 0)) (R := fun s _ => D (dN (if s ∈ lot then h else 0))) 3 (blkOk_by (N := n__law_flat_board) (sc := defScope s__law_flat_board) (by decide +kernel)) (fun _ _ _ _ _ => pg_name (i := 3) sc__law_flat_board.nd rfl (Or.inl rfl)) sc__law_flat_board.nd T.b_range (e_ixT (n := 0) (d := dN n) (e_var 0 rfl h0) e_int rfl) (by omega)
    (fun a ha H3 g s0 H0 C cl fp => Evp.q (e_if (t_inN (e_var 3 rfl (Dt.int (a : Int))) (e_var 1 rfl (Dt.up g h1))) (fun hb => ?_) (fun hb => ?_))) (fun _ _ => kp_soft rfl)) fun v H2 g2 r => q v H2 g2 ?_)
  · rw [if_pos (of_decide_eq_true hb)]
    exact e_var 2 rfl (Dt.up g h2)
  · rw [if_neg (of_decide_eq_false hb)]
    exact e_int
  · unfold flatB
    rw [List.map_map]
    exact r
end
end K33
namespace K33
open PySem PySem.Spec PyProof.Rows L2
section
variable {X : Cx} {σ : L2.St} {H : Hp} {Z : Ends} {e : Expr} {x y z : Str} {p1 p2 p4 p3 pos : Pos}
/-- a, b, c = e, e a triple -/
theorem r_set3 (i j k : Nat) (hN : X.N.Nodup) {t : Nat} (h : rdE X e σ H fun v H1 => ∃ q w u r, v = .ref q ∧ H1 q = some (.tup [w, u, r]) ∧ Z.nx (((σ.set i (some w)).set j (some u)).set k (some r)) H1) (hc : X.calm = true := by rfl) (hi : X.N[i]? = some x := by rfl) (hj : X.N[j]? = some y := by rfl) (hk : X.N[k]? = some z := by rfl)
    (hx : Loc X.env.scope x := by first | exact Or.inl rfl | exact Or.inr rfl) (hy : Loc X.env.scope y := by first | exact Or.inl rfl | exact Or.inr rfl) (hz : Loc X.env.scope z := by first | exact Or.inl rfl | exact Or.inr rfl) (fx : X.fn x = true ∨ X.env.scope.names.lookup x = some .local := by first | exact .inl rfl | exact .inr rfl) (fy : X.fn y = true ∨ X.env.scope.names.lookup y = some .local := by first | exact .inl rfl | exact .inr rfl) (fz : X.fn z = true ∨ X.env.scope.names.lookup z = some .local := by first | exact .inl rfl | exact .inr rfl)
    (hs : swapsWithSole [.Tuple [.Name x p1, .Name y p2, .Name z p4] t p3] e pos.line X.env = pure false := by rfl) (hw : swappedStores [.Tuple [.Name x p1, .Name y p2, .Name z p4] t p3] e X.env = pure none := by rfl)
    (h1 : (assignEach [.Tuple [.Name x p1, .Name y p2, .Name z p4] t p3] X.env).map (·.2) = [assign (.Tuple [.Name x p1, .Name y p2, .Name z p4] t p3) X.env] := by rfl)
    (hn : (assignEach [.Name x p1, .Name y p2, .Name z p4] X.env).length = 3 := by rfl) (hst : (assignEach [.Name x p1, .Name y p2, .Name z p4] X.env).findIdx? (·.1) = none := by rfl)
    (ha1 : (assignEach [.Name x p1, .Name y p2, .Name z p4] X.env).map (·.2) = assign (.Name x p1) X.env :: (assignEach [.Name y p2, .Name z p4] X.env).map (·.2) := by rfl) (ha2 : (assignEach [.Name y p2, .Name z p4] X.env).map (·.2) = assign (.Name y p2) X.env :: (assignEach [.Name z p4] X.env).map (·.2) := by rfl) (ha3 : (assignEach [.Name z p4] X.env).map (·.2) = assign (.Name z p4) X.env :: (assignEach [] X.env).map (·.2) := by rfl) :
    rdS X (.Assign [.Tuple [.Name x p1, .Name y p2, .Name z p4] t p3] e pos) Z σ H :=
  rdS_of (ps_asg (pE X e) (pg_tup hc (pgs_cons (pg_name hN hi hx fx) (pgs_cons (pg_name hN hj hy fy) (pgs_cons (pg_name hN hk hz fz) pgs_nil ha3) ha2) ha1) hn hst) hs hw h1) (by
    have k : ∀ v H1, (∃ q w u r, v = V.ref q ∧ H1 q = some (.tup [w, u, r]) ∧ Z.nx (((σ.set i (some w)).set j (some u)).set k (some r)) H1) → gTup X.K 3 (gCons (gName i) (gCons (gName j) (gCons (gName k) gNil))) v σ H1 Z.nx := fun v H1 ⟨q, w, u, r, e1, h2, h3⟩ => ⟨q, [w, u, r], e1, .inl (.inl h2), rfl, w, [u, r], rfl, u, [r], rfl, r, [], rfl, rfl, h3⟩
    exact fun pins s I => thn (h pins s I) fun u s1 ⟨v, H1, I1, r1, q1⟩ => ⟨v, H1, I1, r1, k v H1 q1⟩)
end
theorem triple_of {H : Hp} {v : V} {d d' d2 : PyData} (h : Dt H v (.tuple [d, d', d2])) : ∃ q w u r, v = .ref q ∧ H q = some (.tup [w, u, r]) ∧ Dt H w d ∧ Dt H u d' ∧ Dt H r d2 := by
  obtain ⟨q, ws, rfl, hq, hx⟩ := Dt.tup_eq h
  cases hx with
  | cons a t =>
    cases t with
    | cons b t =>
      cases t with
      | cons c t => cases t; exact ⟨q, _, _, _, rfl, hq, a, b, c⟩
/-! plain: what a history that follows is -/
def lenL (h : Nat) (lot late : List Nat) : Nat := h * ((late.filter fun s => !decide (s ∈ lot)).length + (lot.filter fun s => !decide (s ∈ late)).length)
def DeedL (ds ss : List (List Nat)) (st : Step) (b : List Nat) (d : Deed) : Prop :=
  d.put = st.lay ∧ d.pos = st.pos ∧ (d.pos < (if d.put then ds else ss).length ∧ KindOn b ((if d.put then ds else ss).getD d.pos []) ∧ ((if d.put then ds else ss).getD d.pos []).length ≤ 8) ∧ customL ds ss b d = true ∧ d.sh < b.length ∧ (d.put = false → 1 ≤ at0 b d.sh)
def FollowsR (n : Nat) (ds ss : List (List Nat)) (h : Nat) : List Nat → List Step → List Deed → Prop
  | lot, [], hs => LotL n lot ∧ hs = []
  | lot, st :: r, hs => LotL n lot ∧ StepL ds ss st ∧ ∃ run rest, hs = run ++ rest ∧ run.length = lenL h lot (stepL ds ss lot st) ∧ (∀ j d, run[j]? = some d → DeedL ds ss st (finB (flatB n lot h) (run.take j)) d) ∧ finB (flatB n lot h) run = flatB n (stepL ds ss lot st) h ∧ FollowsR n ds ss h (stepL ds ss lot st) r rest
theorem drop_get {α : Type} {l : List α} {i : Nat} {a : α} (h : l[i]? = some a) : l.drop i = a :: l.drop (i + 1) := by
  have hi := (List.getElem?_eq_some_iff.mp h).1
  rw [List.drop_eq_getElem_cons hi]
  congr 1
  rw [List.getElem?_eq_getElem hi] at h
  exact Option.some.inj h
theorem flatB_nil (n h : Nat) : (flatB n [] h).map dN = (List.replicate n [dN 0]).flatten := by
  unfold flatB
  rw [List.map_map]
  have e : (dN ∘ fun s : Nat => if s ∈ ([] : List Nat) then h else 0) = fun _ => dN 0 := funext fun s => by simp
  rw [e, List.map_const', List.length_range]
  induction n with
  | zero => rfl
  | succ m ih => rw [List.replicate_succ, List.replicate_succ, List.flatten_cons, ← ih]; rfl
section
variable {P : Program} {w : World} {K : PySem.W.Frag} {mg : Str → Option Value} {base : Heap} {C : Addr}
abbrev sp__law_follows : Sp := Fsp (fun i : SL × List Step × Nat × List Deed => [D (dSt i.1.1 i.1.2.1 i.1.2.2), D (.list (i.2.1.map dS)), I (i.2.2.1 : Int), D (.list (i.2.2.2.map dD))]) (fun i => i.1.1 ≤ 8 ∧ (∀ l, (l ∈ i.1.2.1 ∨ l ∈ i.1.2.2) → LotL i.1.1 l) ∧ i.2.2.1 ≤ 9 ∧ i.2.2.2.length ≤ 1000 ∧ FollowsR i.1.1 i.1.2.1 i.1.2.2 i.2.2.1 [] i.2.1 i.2.2.2) (fun _ _ => B true)
theorem ok__law_follows (T : Txt K mg) : Dn P w K mg base 3 "_law_follows" p__law_follows sp__law_follows := by
  refine dn_of T.d__law_follows sc__law_follows (fun _ _ _ _ _ _ us hl => match us, hl with | [_, _, _, _], _ => rfl) (len_of fun _ => rfl) fun f cdv A outer s H vs Q E hr h => ?_
  obtain ⟨⟨⟨n, ds, ss⟩, row, h, hs⟩, ⟨v0, _, rfl, h0, v1, _, rfl, h1, v2, _, rfl, h2, v3, _, rfl, h3, rfl⟩, ⟨hn, hkk, h9, hlen, hF⟩, q⟩ := h
  dsimp only at h0 h1 h2 h3 hn hkk h9 hlen hF q
  have hu : (A.deeper (envOfC "_law_follows" (defScope s__law_follows) s.heap.objs.size f cdv)).units + 64 < cLine := hr.units
  have h0' : Dt H v0 (.tuple [dN n, .list (ds.map dL), .list (ss.map dL)]) := h0
  obtain ⟨a, xs, rfl, ha, hx⟩ := Dt.list_eq h1
  refine s_cons (r_set3 4 5 6 sc__law_follows.nd ((e_tup (d_cons (e_lst d_nil).newD (d_cons (e_repN (ds := [dN 0]) (e_lst (d_cons e_int d_nil) (show 1 ≤ 1000 by decide)).newD (e_ixT (n := 0) (d := dN n) (e_var 0 rfl h0') e_int rfl) (by simp; omega) (by omega)).newD (d_cons e_int d_nil))) (show 3 ≤ 1000 by decide)).run fun u H1 g1 hu1 => ?_))
  obtain ⟨q1, w1, w2, w3, rfl, hq1, e1, e2, e3⟩ := triple_of hu1
  obtain rfl := Dt.int_eq e3
  rw [← flatB_nil n h] at e2
  refine ⟨q1, w1, w2, _, rfl, hq1, s_cons (r_forL 7 sc__law_follows.nd ((e_var (P := Is (.ref a)) 1 rfl rfl).run fun v H2 g2 hv => ⟨a, xs, hv, (g1.tr g2) _ _ ha, fun i σ' H' => Gr H H' ∧ ∃ (lot : List Nat) (at' : Nat) (vl vb : V) (y1 y2 y3 y4 y5 : Option V), Dt H' vl (.list (lot.map dN)) ∧ Dt H' vb (.list ((flatB n lot h).map dN)) ∧ at' ≤ hs.length ∧ FollowsR n ds ss h lot (row.drop i) (hs.drop at') ∧ σ' = [some v0, some (.ref a), some v2, some v3, some vl, some vb, some (.int (at' : Int)), y1, y2, y3, y4, y5, none],
    ⟨g1.tr g2, [], 0, w1, w2, none, none, none, none, none, Dt.up g2 e1, Dt.up g2 e2, Nat.zero_le _, hF, rfl⟩, fun i σ' H' w => w.1 _ _ ha, fun i u σ' H' hu' w => ?_, fun σ' H' w => ?_⟩))⟩
  · obtain ⟨g, lot, at', vl, vb, y1, y2, y3, y4, y5, dl, db, hat, hFr, rfl⟩ := w
    obtain ⟨st, hst, dst⟩ := hx.enc hu'
    have dst : Dt H' u (.tuple [.str (sword st.lay), dN st.pos]) := Dt.up g dst
    rw [drop_get hst] at hFr
    obtain ⟨hlot, hsl, run, rest, hrun, hlr, hdl, hfin, hnext⟩ := hFr
    have hlate := stepL_rise hlot hkk hsl
    have l8 : ∀ {l : List Nat}, LotL n l → l.length ≤ 8 := fun hl => rise_len8 hl.1 fun s hs => Nat.lt_of_lt_of_le (hl.2 s hs) hn
    have z1 := l8 hlot
    have z2 := l8 hlate
    refine s_cons (s_set 8 sc__law_follows.nd (e_fn ((n, ds, ss), lot, st) (ok__law_step T) (hr.mono (by decide)) (a_cons (e_var 0 rfl (Dt.up g h0)) (a_cons (e_var 4 rfl dl) (a_cons (P := D (dS st)) (e_var 7 rfl dst) a_nil))) ⟨hsl, ⟨hn, hlot⟩, hkk⟩ (S := D (.list ((stepL ds ss lot st).map dN))) fun _ _ _ _ r => r.d) fun vL H3 g3 dL3 => ?_)
    have dl3 := Dt.up g3 dl
    refine s_cons (s_set 9 sc__law_follows.nd ((e_mul (e_var 2 rfl (Dt.up (g.tr g3) h2)) (e_add (e_len T.b_len (a_cons (P := Q2 (((stepL ds ss lot st).filter fun s => !decide (s ∈ lot)).map dN)) ((e_lcLi (enc := dN) (as := stepL ds ss lot st) (pp := fun s => !decide (s ∈ lot)) (g := dN) (R := fun s _ => D (dN s)) 12 (blkOk_by (N := n__law_follows) (sc := defScope s__law_follows) (by decide +kernel)) (fun _ _ _ _ _ => pg_name (i := 12) sc__law_follows.nd rfl (Or.inl rfl)) sc__law_follows.nd (e_var 8 rfl dL3) (by omega)
        (fun a ha x H5 g5 dx s0 H0 C cl fp => t_ninN (e_var 12 rfl dx) (e_var 4 rfl (Dt.up g5 dl3))) (fun a ha _ x H5 g5 dx s0 H0 C cl fp => Evp.q (e_var 12 rfl dx)) (fun _ _ => kp_soft rfl)).imp fun _ _ _ r => .inl r.d) a_nil))
      (e_len T.b_len (a_cons (P := Q2 ((lot.filter fun s => !decide (s ∈ stepL ds ss lot st)).map dN)) ((e_lcLi (enc := dN) (as := lot) (pp := fun s => !decide (s ∈ stepL ds ss lot st)) (g := dN) (R := fun s _ => D (dN s)) 12 (blkOk_by (N := n__law_follows) (sc := defScope s__law_follows) (by decide +kernel)) (fun _ _ _ _ _ => pg_name (i := 12) sc__law_follows.nd rfl (Or.inl rfl)) sc__law_follows.nd (e_var 4 rfl dl3) (by omega)
        (fun a ha x H5 g5 dx s0 H0 C cl fp => t_ninN (e_var 12 rfl dx) (e_var 8 rfl (Dt.up g5 dL3))) (fun a ha _ x H5 g5 dx s0 H0 C cl fp => Evp.q (e_var 12 rfl dx)) (fun _ _ => kp_soft rfl)).imp fun _ _ _ r => .inl r.d) a_nil))) (.inl ⟨by omega, by omega⟩)).int (j := (lenL h lot (stepL ds ss lot st) : Int)) ?_) fun vM H4 g4 hM => ?_)
    · rw [List.length_map, List.length_map]
      unfold lenL
      simp
    obtain rfl := Dt.int_eq hM
    have dst4 := Dt.up (g3.tr g4) dst
    refine s_cons (s_set 10 sc__law_follows.nd (e_if (P := D (.str (word st.lay))) ((t_eqS (e_ixT (n := 0) (d := .str (sword st.lay)) (e_var 7 rfl dst4) e_int rfl) e_str).eq sword_eq) (fun hb => by rw [hb]; exact e_str) (fun hb => by rw [hb]; exact e_str)) fun vW H5 g5 hW => ?_)
    have g5' := (g3.tr g4).tr g5
    have gH5 := g.tr g5'
    have hrl : run.length ≤ hs.length - at' := by
      have e := congrArg List.length hrun
      rw [List.length_drop, List.length_append] at e
      omega
    refine s_cons (r_forL 11 sc__law_follows.nd ((e_slL (ds := hs.map dD) (l := some (at' : Int)) (u := some ((at' : Int) + (lenL h lot (stepL ds ss lot st) : Int))) (e_var 3 rfl (Dt.up gH5 h3)) (po_some (pE _ _)) (o_some (e_var 6 rfl (.int _))) (po_some (pE _ _)) (o_some (e_add (e_var 6 rfl (.int _)) (e_var 9 rfl (.int _))))).run fun v6 H6 g6 r6 => ?_))
    obtain ⟨l6, zs, rfl, hl60, hl6, hz6⟩ := r6
    have ez : (((hs.map dD).drop (HT.sIx (hs.map dD).length 0 (some (at' : Int)))).take (HT.sIx (hs.map dD).length (hs.map dD).length (some ((at' : Int) + (lenL h lot (stepL ds ss lot st) : Int))) - HT.sIx (hs.map dD).length 0 (some (at' : Int)))) = run.map dD := by
      rw [show ((at' : Int) + (lenL h lot (stepL ds ss lot st) : Int)) = ((at' + lenL h lot (stepL ds ss lot st) : Nat) : Int) by omega, HT.sIx_nat, HT.sIx_nat, List.length_map]
      rw [show min at' hs.length = at' by omega, show min (at' + lenL h lot (stepL ds ss lot st)) hs.length - at' = run.length by omega, ← List.map_drop, hrun, List.map_append]
      rw [List.take_append_of_le_length (by rw [List.length_map]; exact Nat.le_refl _), List.take_of_length_le (by rw [List.length_map]; exact Nat.le_refl _)]
    rw [ez] at hz6
    have gH6 := gH5.tr g6
    refine ⟨l6, zs, rfl, hl6, fun j σ2 H2 => Gr H6 H2 ∧ ∃ (vb : V) (y5 : Option V), Dt H2 vb (.list ((finB (flatB n lot h) (run.take j)).map dN)) ∧ σ2 = [some v0, some (.ref a), some v2, some v3, some vl, some vb, some (.int (at' : Int)), some u, some vL, some (.int (lenL h lot (stepL ds ss lot st) : Int)), some vW, y5, none], ⟨Gr.refl _, vb, y5, Dt.up (g5'.tr g6) db, rfl⟩, fun j σ2 H2 w => w.1 _ _ hl6, fun j u2 σ2 H7 hu2 w => ?_, fun σ2 H7 w => ?_⟩
    · obtain ⟨g7, vb, y5, db, rfl⟩ := w
      obtain ⟨d, hd, dd⟩ := hz6.enc hu2
      have dd : Dt H7 u2 (.tuple [.str (word d.put), dN d.pos, dN d.sh]) := Dt.up g7 dd
      obtain ⟨e1, e2, e3, e4, e5, e6⟩ := hdl j d hd
      have g67 := (g5'.tr g6).tr g7
      have dst7 := Dt.up g67 dst
      refine s_cons (s_skip (Wt.t ((w_or (b1 := false) (b2 := false) ((t_neS (e_ixT (n := 0) (d := .str (word d.put)) (e_var 11 rfl dd) e_int rfl) (e_var 10 rfl (Dt.up (g6.tr g7) hW))).eq (by rw [e1]; simp)) fun _ => w_or (b1 := false) (b2 := false) ((t_neI (e_ixT (n := 1) (d := dN d.pos) (e_var 11 rfl dd) e_int rfl) (e_ixT (n := 1) (d := dN st.pos) (e_var 7 rfl dst7) e_int rfl)).eq (by rw [e2]; simp)) fun _ =>
        w_or1 (t_not (b1 := true) (t_val (e_fn ((n, ds, ss), finB (flatB n lot h) (run.take j), d) (ok__law_is_custom T) hr (a_cons (e_var 0 rfl (Dt.up (gH6.tr g7) h0)) (a_cons (e_var 5 rfl db) (a_cons (P := D (dD d)) (e_var 11 rfl dd) a_nil))) e3 (S := B true) fun _ _ v _ r => by
          have z : B (customL ds ss (finB (flatB n lot h) (run.take j)) d) _ v := r
          rw [e4] at z
          exact z)))))) fun H8 g8 => ?_)
      refine s_one (s_set 5 sc__law_follows.nd (e_fn (finB (flatB n lot h) (run.take j), d) (ok__law_behind T) (hr.mono (by decide)) (a_cons (e_var 5 rfl (Dt.up g8 db)) (a_cons (P := D (dD d)) (e_var 11 rfl (Dt.up g8 dd)) a_nil)) ⟨e5, e6⟩ (S := D (.list ((bump (finB (flatB n lot h) (run.take j)) d).map dN))) fun _ _ _ _ r => r.d) fun v9 H9 g9 d9 => ?_)
      exact ⟨(g7.tr g8).tr g9, v9, _, by rw [take_more1 hd, finB_snoc]; exact d9, rfl⟩
    · obtain ⟨g7, vb, y5, db, rfl⟩ := w
      rw [hz6.encLen, List.take_length, hfin] at db
      have g67 := (g4.tr g5).tr (g6.tr g7)
      have gH7 := gH6.tr g7
      refine s_cons (r_set2 4 6 sc__law_follows.nd ((e_tup (d_cons (e_var (P := D (.list ((stepL ds ss lot st).map dN))) 8 rfl (Dt.up g67 dL3)) (d_cons (e_add (e_var 6 rfl (.int (at' : Int))) (e_var 9 rfl (.int _))) d_nil)) (show 2 ≤ 1000 by decide)).run fun v8 H8 g8 r8 => ?_))
      obtain ⟨q8, w8, w9, rfl, hq8, e8, e9⟩ := pair_of r8
      obtain rfl := Dt.int_eq e9
      have db8 := Dt.up g8 db
      refine ⟨q8, w8, _, rfl, hq8, s_one (s_skip ((t_neD (d := .list ((flatB n (stepL ds ss lot st) h).map dN)) hu (e_var 5 rfl db8) (e_fn ((n, ds, ss), stepL ds ss lot st, h) (ok__law_flat_board T) (hr.mono (by decide)) (a_cons (e_var 0 rfl (Dt.up (gH7.tr g8) h0)) (a_cons (e_var 4 rfl e8) (a_cons (e_var 2 rfl (Dt.up (gH7.tr g8) h2)) a_nil))) hn (S := D (.list ((flatB n (stepL ds ss lot st) h).map dN))) fun _ _ _ _ r => r.d) (sh_nats _) (sh_nats _)).eq (by rw [eqv_list eqv_dN]; simp)) fun H9 g9 => ?_)⟩
      refine ⟨(gH7.tr g8).tr g9, stepL ds ss lot st, at' + lenL h lot (stepL ds ss lot st), w8, vb, some u, some vL, some (.int (lenL h lot (stepL ds ss lot st) : Int)), some vW, y5, Dt.up g9 e8, Dt.up g9 db8, by omega, ?_, ?_⟩
      · have e7 : hs.drop (at' + lenL h lot (stepL ds ss lot st)) = rest := by rw [← List.drop_drop, hrun, ← hlr, List.drop_left]
        rw [e7]
        exact hnext
      · rw [show ((at' + lenL h lot (stepL ds ss lot st) : Nat) : Int) = (at' : Int) + (lenL h lot (stepL ds ss lot st) : Int) by omega]
        rfl
  · obtain ⟨g, lot, at', vl, vb, y1, y2, y3, y4, y5, dl, db, hat, hFr, rfl⟩ := w
    rw [hx.encLen, List.drop_length] at hFr
    have e := congrArg List.length hFr.2
    rw [List.length_drop, List.length_nil] at e
    exact s_one (s_ret ((e_eqI (e_var 6 rfl (.int (at' : Int))) (e_len T.b_len (a_cons (P := Q2 (hs.map dD)) (e_var 3 rfl (.inl (Dt.up g h3))) a_nil))).bl (by rw [List.length_map]; simp; omega)) fun v H3 g3 r => q v H3 (g.tr g3) r)
end
end K33
namespace K33
open PySem PySem.Spec PyProof.Rows L2
/-! defs that run where no repr is under way -/
section
variable {P : Program} {w : World} {K : PySem.W.Frag} {mg : Str → Option Value} {base : Heap}
/-- one entry of a def: from its body at this very entry -/
theorem enter_at {k : Nat} {f : Addr} {x : Str} {st : Stmt} {fd : FuncData} {N ps : List Str} {A : Around} {outer : List Env} {s : Shared} {H : Hp} {args : Args} {us : List Value} {vs : List V} {Q : VK} {E : XK}
    (F : Fun K x x st f fd) (S : FnScope N ps (defScope st)) (hr : Room (k + 1) A) (env0 : Env0 P w K mg base A outer s H) (bind : BindsTo s fd args (ps.zip us)) (rel : Vals vs us) (hlen : vs.length = ps.length)
    (body : ∀ cdv, rdSs (Xd P w K mg base N x st f cdv A outer s H E) (defBody st) { nx := fun _ H' => Q .non H', rt := Q } (start N vs) H) :
    codeAny (model P w) A (.call (.ref f) args) (CR CX0 outer P w H s Q E) s := by
  obtain ⟨oc, od, kV, doc, pm, an, cdv, ct, osl, rfl, look, code⟩ := F.ex
  have Kin : K.In s.heap := env0.mod.kin.keeps fun b o e => (env0.bs b o e).1
  have noLim : s.heap.NoLimit := env0.mod.nolimit.keeps fun b o e => (env0.bs b o e).1
  have kinds : ∀ y ∈ ps.zip us, (defScope st).names.lookup y.1 = some .local ∨ ((defScope st).names.lookup y.1 = some .cell ∧ ((cellsFrom (s.heap.objs.size + 1) (defScope st).names []).lookup y.1).isSome = true) := by
    rintro ⟨y, u⟩ m
    exact (S.par y (List.of_mem_zip m).1).imp id fun z => ⟨z, PySem.W.cellsFrom_some _ _ _ (.inl z)⟩
  refine codeAny_call_function hr.depth (Kin _ _ look) rfl S.co S.gen rfl (PySem.W.codeRec_of Kin code) (bind _ _ _ _ (wpAny_newFunctionEnv_cells S.kind kinds fun env he s1 inCall => ?_))
  subst he
  refine ⟨noLim.keeps inCall.toInCall.keep, codeAny_func ?_⟩
  have J := inv_start (CX := CX0) (qual := x) (f := f) (cd := cdv) (E := E) S hr.hd env0 hlen rel inCall
  have run := ((pSs (Xd P w K mg base N x st f cdv A outer s H E) (defBody st)).nox).run [] s1 (start N vs) H { nx := fun _ H' => Q .non H', rt := Q } J (body cdv)
  refine wpAny_mono run (fun fl s2 end2 => ?_) fun e s2 h => h
  match fl, end2 with
  | .ret u, ⟨v, σ2, H2, I2, rv, q⟩ => exact ⟨v, H2, I2.os, I2.bare, I2.base, I2.hok, rv, q⟩
  | .next, ⟨σ2, H2, I2, q⟩ => exact ⟨.non, H2, I2.os, I2.bare, I2.base, I2.hok, rfl, q⟩
  | .brk, ⟨_, _, _, q⟩ => exact q.elim
  | .cont, ⟨_, _, _, q⟩ => exact q.elim
/-- a def's promise where no repr is under way -/
def GOk (P : Program) (w : World) (K : PySem.W.Frag) (mg : Str → Option Value) (base : Heap) (k : Nat) (f : Addr) (fd : FuncData) (ps : List Str) (sp : Sp) : Prop :=
  ∀ (A : Around) (outer : List Env) (s : Shared) (H : Hp) (args : Args) (us : List Value) (vs : List V) (Q : VK) (E : XK), A.guards = some [] → Room k A → Env0 P w K mg base A outer s H → BindsTo s fd args (ps.zip us) → Vals vs us → sp vs H Q E →
    vs.length = ps.length ∧ codeAny (model P w) A (.call (.ref f) args) (CR CX0 outer P w H s Q E) s
def GDn (P : Program) (w : World) (K : PySem.W.Frag) (mg : Str → Option Value) (base : Heap) (k : Nat) (x : Str) (ps : List Str) (sp : Sp) : Prop :=
  ∃ f fd, (∀ vs H Q E, sp vs H Q E → vs.length = ps.length) ∧ GOk P w K mg base k f fd ps sp ∧ mg x = some (.ref f) ∧ PySem.W.keepIn K (.ref f) = true ∧ Binds K fd ps []
theorem gok_of {x : Str} {st : Stmt} {f : Addr} {fd : FuncData} {N ps : List Str} {k : Nat} {sp : Sp} (F : Fun K x x st f fd) (S : FnScope N ps (defScope st)) (len : ∀ vs H Q E, sp vs H Q E → vs.length = ps.length)
    (hbody : ∀ (f : Addr) (cdv : Value) (A : Around) (outer : List Env) (s : Shared) (H : Hp) (vs : List V) (Q : VK) (E : XK), A.guards = some [] → Room k (A.deeper (envOfC x (defScope st) s.heap.objs.size f cdv)) → sp vs H Q E →
      rdSs (Xd P w K mg base N x st f cdv A outer s H E) (defBody st) { nx := fun _ H' => Q .non H', rt := Q } (start N vs) H) : GOk P w K mg base (k + 1) f fd ps sp := fun A outer s H args us vs Q E hgd hr env0 bind rel h =>
  ⟨len _ _ _ _ h, enter_at F S hr env0 bind rel (len _ _ _ _ h) fun cdv => hbody f cdv A outer s H vs Q E hgd (hr.deeper _) h⟩
theorem gdn_of {x : Str} {st : Stmt} {N ps : List Str} {k : Nat} {sp : Sp} (d : Df K mg x st) (S : FnScope N ps (defScope st))
    (hb : ∀ (kV doc pm : Value) (an : Option Addr) (cdv ct : Value) (us : List Value), us.length = ps.length → bindArgs (PySem.W.fnOf x x (defArgs st) (defBody st) (defScope st) .none kV doc pm an cdv ct) ⟨us, []⟩ = pure (ps.zip us))
    (len : ∀ vs H Q E, sp vs H Q E → vs.length = ps.length)
    (hbody : ∀ (f : Addr) (cdv : Value) (A : Around) (outer : List Env) (s : Shared) (H : Hp) (vs : List V) (Q : VK) (E : XK), A.guards = some [] → Room k (A.deeper (envOfC x (defScope st) s.heap.objs.size f cdv)) → sp vs H Q E →
      rdSs (Xd P w K mg base N x st f cdv A outer s H E) (defBody st) { nx := fun _ H' => Q .non H', rt := Q } (start N vs) H) : GDn P w K mg base (k + 1) x ps sp := by
  obtain ⟨f, fd, F, hm⟩ := d
  exact ⟨f, fd, len, gok_of F S len hbody, hm, F.kp, F.binds hb⟩
end
section
variable {X : Cx} {σ : L2.St} {H : Hp} {e : Expr} {es : List Expr} {pos p : Pos} {x : Str} {Ps : List Pd}
/-- x(e, ..), x a def that may look at repr -/
theorem r_callG {lv : Nat} {ps : List Str} {sp : Sp} {Q : VK} (F : GDn X.prog X.w X.K X.mg X.base lv x ps sp) (hgd : X.A.guards = some []) (hr : Room lv X.A) (ha : rdA X (e :: es) σ H fun vs H1 => sp vs H1 Q E0) (hg : Gl X x := by rfl) (hd : (x == ("__debug__" : Str)) = false := by decide)
    (he : starEach (e :: es) X.env = (false, eval e X.env) :: starEach es X.env := by rfl) (hpl : (backTo pos (starEach es X.env)).any (·.1) = false := by rfl) : rdE X (.Call (.Name x p) (e :: es) [] pos) σ H Q := by
  obtain ⟨f, fd, len, F, hm, hk, hb⟩ := F
  intro pins s I
  refine wpAny_Call_Name_kw (ld_glob I hg hm (PySem.W.callWith_K (h₀ := X.base) I.ok.mod.kin hk (thn (ha pos pins s I) ?_) he hpl) hd)
  rintro us s1 ⟨vs, H1, J, rel, h⟩
  have hl : (us ++ []).length = ps.length := by rw [List.append_nil, ← rel.length]; exact len _ _ _ _ h
  have bind := hb s1 us J.kIn hl
  rw [List.append_nil] at bind
  refine ⟨J.kIn, wpAny_call (codeAny_mono (F X.A X.stack s1 H1 ⟨us, []⟩ us vs Q E0 hgd hr J.env0 bind rel h).2 ?_)⟩
  intro r s2 hq
  match r, hq with
  | .error e, hq => exact pass0 pins σ H1 s1 e s2 J hq
  | .ok (.ret u), hq => exact J.after hq
  | .ok .next, hq => exact hq.elim
  | .ok .brk, hq => exact hq.elim
  | .ok .cont, hq => exact hq.elim
end
/-! the law's own entry -/
theorem law_at {P : Program} {w : World} {K : PySem.W.Frag} {mg mb : Str → Option Value} {k : Nat} {fa a : Addr} {fd : FuncData} {x : Str} {sp : Sp} {s1 : Shared} {vs : List Value} {ns : List Int}
    (KX : K.In s1.heap) (hns : s1.heap.Ns mainGlobals mg) (hb : s1.heap.Ns builtinsNs mb) (hbb : ∀ x : Str, x ≠ "__name__" → mb x = bootBuiltins x) (hlim : s1.heap.NoLimit) (hg : s1.gens = #[])
    (ha : s1.heap.get? a = some { cls := .type "list", data := .seq vs.toArray }) (hi : IntsAre vs ns) (hl : ns.length ≤ sizeLine) (hr : Room k callerA)
    (F : ∀ base : Heap, K.In base → base.Ns mainGlobals mg → GOk P w K mg base k fa fd [x] sp) (bind : ∀ (s : Shared) (u : Value), BindsTo s fd ⟨[u], []⟩ [(x, u)])
    (hsp : ∀ H : Hp, SqL K H a (ns.map V.int) → sp [.ref a] H (fun v _ => v = .bl true) E0) :
    codeAny (model P w) callerA (.call (.ref fa) ⟨[.ref a], []⟩) (fun r s' => r = .ok (.ret (.bool true)) ∧ OldK s1.heap s'.heap ∧ s'.os = s1.os ∧ AllBare s'.gens) s1 := by
  have vals := vals_ints hi
  -- the heap H tracks the script at most, and then it is no object of the module
  have go : ∀ H : Hp, (∀ b u, H b = some u → b = a ∧ K.lookup a = none ∧ u = .frz { cls := .type "list", data := .seq vs.toArray } (.lst (ns.map V.int))) → SqL K H a (ns.map V.int) →
      codeAny (model P w) callerA (.call (.ref fa) ⟨[.ref a], []⟩) (fun r s' => r = .ok (.ret (.bool true)) ∧ OldK s1.heap s'.heap ∧ s'.os = s1.os ∧ AllBare s'.gens) s1 := by
    intro H only script
    have free : ∀ {b : Addr} {o : Obj}, s1.heap.get? b = some o → (b = a → o.data ≠ .seq vs.toArray) → H b = none := fun {b o} e ne => by
      rcases h : H b with _ | u
      · rfl
      · obtain ⟨rfl, _⟩ := only b u h
        rw [ha] at e
        exact absurd (congrArg Obj.data (Option.some.inj e)).symm (ne rfl)
    have ns : ∀ {b : Addr} {m : Str → Option Value}, s1.heap.Ns b m → (hidT s1.heap H).Ns b m := fun {b m} ⟨o, es, ep, e, d, r⟩ => ⟨o, es, ep, hidT_get e (free e fun _ => by rw [d]; exact nofun), d, r⟩
    have Kb : K.In (hidT s1.heap H) := fun b o e => hidT_get (KX b o e) (by
      rcases h : H b with _ | u
      · rfl
      · obtain ⟨rfl, k0, _⟩ := only b u h
        rw [k0] at e
        cases e)
    have hok : HOk P w H s1.heap := fun b u h => by
      obtain ⟨rfl, _, rfl⟩ := only b u h
      exact ⟨ha, by rw [List.length_map]; exact hl, vs, _, vals, ha⟩
    have lim : (hidT s1.heap H).NoLimit := by
      obtain ⟨mc, h1, h2⟩ := hlim
      exact ⟨mc, ns h1, h2⟩
    have env0 : Env0 P w K mg (hidT s1.heap H) callerA [] s1 H := by
      refine ⟨rfl, ⟨Kb, ns hns, ⟨mb, ns hb, hbb⟩, lim⟩, fun b o e => of_hidT e, Nat.le_of_eq (hidT_size _ _), trivial, fun b m => ?_, hok, .of_eq hg⟩
      exact absurd (show b ∈ ([] : List Addr) from m) (by simp)
    refine codeAny_mono (F _ Kb (ns hns) callerA [] s1 H ⟨[.ref a], []⟩ [.ref a] [.ref a] _ E0 rfl hr env0 (bind s1 (.ref a)) (.cons rfl .nil) (hsp H script)).2 ?_
    intro r s2 h
    match r, h with
    | .error e, h => exact h.elim
    | .ok .next, h => exact h.elim
    | .ok .brk, h => exact h.elim
    | .ok .cont, h => exact h.elim
    | .ok (.ret u), ⟨v, H2, os, bare, un, hok2, rel, q⟩ =>
      have e1 : v = .bl true := q
      subst e1
      obtain rfl : u = Value.bool true := rel
      refine ⟨rfl, OldK.of_keep fun b o e => ?_, os, bare⟩
      rcases h : H b with _ | y
      · refine un.keep b o e h (fun z => absurd (show b ∈ ([] : List Addr) from z) (by simp)) (by simp)
      · obtain ⟨rfl, k0, rfl⟩ := only b y h
        obtain ⟨e2, _⟩ := hok2 b _ (un.frzs b _ _ h)
        rw [ha] at e
        cases e
        exact e2
  rcases hk : K.lookup a with _ | o
  · refine go (fun b => if b = a then some (.frz { cls := .type "list", data := .seq vs.toArray } (.lst (ns.map V.int))) else none) (fun b u h => ?_) (.inl (.inr ⟨_, if_pos rfl⟩))
    by_cases e : b = a
    · rw [if_pos e] at h
      cases h
      exact ⟨e, hk, rfl⟩
    · rw [if_neg e] at h
      cases h
  · have e := KX a o hk
    rw [ha] at e
    cases e
    exact go (fun _ => none) (fun b u h => by cases h) (.inr ⟨_, vs.toArray, _, hk, rfl, rfl, rfl, by rw [List.size_toArray, hi.length]; exact hl, by simpa using vals⟩)
end K33
namespace K33
open PySem PySem.Spec PyProof.Rows L2
/-! plain: kinds out of what was handed in -/
theorem zs_inj {l m : List Nat} (h : zs l = zs m) : l = m := by
  unfold zs at h
  exact (List.map_inj_right (fun a b e => by omega)).mp h
theorem rowLe_total (a b : List Nat) : (rowLe a b || rowLe b a) = true := by
  unfold rowLe
  rcases List.le_total (zs a) (zs b) with h | h
  · simp [h]
  · simp [h]
theorem rowLe_trans (a b c : List Nat) (h1 : rowLe a b = true) (h2 : rowLe b c = true) : rowLe a c = true := by
  unfold rowLe at *
  simp only [decide_eq_true_eq] at *
  exact List.le_trans h1 h2
theorem rowLe_anti {a b : List Nat} (h1 : rowLe a b = true) (h2 : rowLe b a = true) : a = b := by
  unfold rowLe at *
  simp only [decide_eq_true_eq] at *
  exact zs_inj (List.le_antisymm h1 h2)
theorem sorted_uniq : ∀ {l m : List (List Nat)}, l.Pairwise (fun a b => rowLe a b = true) → m.Pairwise (fun a b => rowLe a b = true) → l.Perm m → l = m
  | [], m, _, _, p => (p.symm.eq_nil).symm
  | x :: l, [], _, _, p => absurd p.eq_nil (by simp)
  | x :: l, y :: m, hl, hm, p => by
    have h1 := List.pairwise_cons.mp hl
    have h2 := List.pairwise_cons.mp hm
    have e : x = y := by
      have hx : x ∈ y :: m := p.mem_iff.mp List.mem_cons_self
      have hy : y ∈ x :: l := p.mem_iff.mpr List.mem_cons_self
      rcases List.mem_cons.mp hx with e | a
      · exact e
      · rcases List.mem_cons.mp hy with e | b
        · exact e.symm
        · exact rowLe_anti (h1.1 _ b) (h2.1 _ a)
    subst e
    rw [sorted_uniq h1.2 h2.2 (List.Perm.cons_inv p)]
theorem rowSort_sorted (l : List (List Nat)) : (rowSort l).Pairwise (fun a b => rowLe a b = true) := List.pairwise_mergeSort (fun a b c => rowLe_trans a b c) rowLe_total l
theorem lotL_spots {n : Nat} {l : List Nat} (hn : n ≤ 8) (h : LotL n l) : spots (bitsOf l) = l := spots_bits h.1 fun s hs => Nat.lt_of_lt_of_le (h.2 s hs) hn
theorem bitsOf_perm {l m : List Nat} (p : l.Perm m) : bitsOf l = bitsOf m := Nat.eq_of_testBit_eq fun i => by
  rw [bits_test, bits_test]
  exact decide_eq_decide.mpr p.mem_iff
theorem plain_given {n m : Nat} {ls : List (List Nat)} {ks : List (Bool × List Nat)} (hn : n ≤ 8) (h : KindsOk n m ls) (g : Given ls ks) : plainK (kindBits ks) = ls.map bitsOf := by
  obtain ⟨_, hk, hnd, ls', hls⟩ := h
  have lot : ∀ l ∈ ls, LotL n l := fun l hl => ⟨(hk l hl).2.1, (hk l hl).2.2⟩
  have mem : ∀ b, b ∈ kindBits ks ↔ ∃ l ∈ ls, bitsOf l = b := fun b => by
    unfold kindBits
    rw [List.mem_map]
    constructor
    · rintro ⟨k, hk', rfl⟩
      obtain ⟨l, hl, p⟩ := g.2.1 k hk'
      exact ⟨l, hl, (bitsOf_perm p).symm⟩
    · rintro ⟨l, hl, rfl⟩
      obtain ⟨k, hk', p⟩ := g.2.2 l hl
      exact ⟨k, hk', bitsOf_perm p⟩
  have lt : ∀ b ∈ kindBits ks, b < 256 := fun b hb => by
    obtain ⟨l, hl, rfl⟩ := (mem b).mp hb
    exact bits_lt fun s hs => Nat.lt_of_lt_of_le ((lot l hl).2 s hs) hn
  have p : ((bitSet (kindBits ks)).map spots).Perm ls := by
    refine (List.perm_ext_iff_of_nodup ?_ hnd).mpr fun l => ?_
    · refine List.Pairwise.map (R := fun a b => a ∈ bitSet (kindBits ks) ∧ b ∈ bitSet (kindBits ks) ∧ a < b) spots ?_ ?_
      · rintro a b ⟨ha, hb, hab⟩ e
        obtain ⟨l1, h1, rfl⟩ := (mem a).mp ((bitSet_mem lt).mp ha)
        obtain ⟨l2, h2, rfl⟩ := (mem b).mp ((bitSet_mem lt).mp hb)
        rw [lotL_spots hn (lot l1 h1), lotL_spots hn (lot l2 h2)] at e
        subst e
        omega
      · exact List.Pairwise.imp_of_mem (fun ha hb hab => ⟨ha, hb, hab⟩) (bitSet_rise _)
    · rw [List.mem_map]
      constructor
      · rintro ⟨b, hb, rfl⟩
        obtain ⟨l1, h1, rfl⟩ := (mem b).mp ((bitSet_mem lt).mp hb)
        rw [lotL_spots hn (lot l1 h1)]
        exact h1
      · intro hl
        exact ⟨bitsOf l, (bitSet_mem lt).mpr ((mem _).mpr ⟨l, hl, rfl⟩), lotL_spots hn (lot l hl)⟩
  have e : rowSort ((bitSet (kindBits ks)).map spots) = ls := by
    refine sorted_uniq (rowSort_sorted _) (by rw [hls]; exact rowSort_sorted _) ((List.mergeSort_perm _ _).trans p)
  unfold plainK
  rw [e]
/-! plain: the bits' steps are the lots' steps -/
structure Kd (n : Nat) (ds ss : List (List Nat)) : Prop where
  n8 : n ≤ 8
  kk : ∀ l, (l ∈ ds ∨ l ∈ ss) → KindL n l
theorem Kd.lot {n : Nat} {ds ss : List (List Nat)} (k : Kd n ds ss) : ∀ l, (l ∈ ds ∨ l ∈ ss) → LotL n l := fun l hl => ⟨(k.kk l hl).2.1, (k.kk l hl).2.2⟩
theorem getD_bits {ds : List (List Nat)} {i : Nat} : (ds.map bitsOf).getD i 0 = bitsOf (ds.getD i []) := by
  rw [List.getD_eq_getElem?_getD, List.getD_eq_getElem?_getD, List.getElem?_map]
  cases ds[i]? with
  | none => rfl
  | some l => rfl
theorem Kd.at {n : Nat} {ds ss : List (List Nat)} (k : Kd n ds ss) {st : Step} (h : StepL ds ss st) : KindL n ((if st.lay then ds else ss).getD st.pos []) := by
  unfold StepL at h
  refine k.kk _ ?_
  have := getD_mem h
  split at this
  · rename_i e; rw [if_pos e]; exact .inl this
  · rename_i e; rw [if_neg e]; exact .inr this
theorem kindAt_bits {n : Nat} (hn : n ≤ 8) {ds : List (List Nat)} {i : Nat} (h : LotL n (ds.getD i [])) : kindAt (ds.map bitsOf) i = ds.getD i [] := by
  unfold kindAt
  rw [getD_bits, lotL_spots hn h]
theorem mem_stepL {ds ss : List (List Nat)} {lot : List Nat} {st : Step} {s : Nat} : s ∈ stepL ds ss lot st ↔ if st.lay then s ∈ lot ∨ s ∈ ds.getD st.pos [] else s ∈ lot ∧ s ∉ ss.getD st.pos [] := by
  unfold stepL
  split
  · rw [riseOf_mem, List.mem_append, List.mem_filter]
    constructor
    · rintro (h | h)
      · exact .inl h
      · exact .inr h.1
    · rintro (h | h)
      · exact .inl h
      · by_cases e : s ∈ lot
        · exact .inl e
        · exact .inr ⟨h, by simpa using e⟩
  · rw [List.mem_filter]
    simp
theorem stepB_bits {ds ss : List (List Nat)} {lot : List Nat} {st : Step} : stepB (ds.map bitsOf) (ss.map bitsOf) (bitsOf lot) st = bitsOf (stepL ds ss lot st) := Nat.eq_of_testBit_eq fun i => by
  rw [bits_test]
  unfold stepB
  split
  · rename_i e
    rw [Nat.testBit_or, getD_bits, bits_test, bits_test, ← Bool.decide_or]
    refine decide_eq_decide.mpr ?_
    rw [mem_stepL, if_pos e]
  · rename_i e
    rw [Nat.testBit_xor, Nat.testBit_and, getD_bits, bits_test, bits_test]
    rw [show (decide (i ∈ lot) ^^ (decide (i ∈ lot) && decide (i ∈ ss.getD st.pos []))) = decide (i ∈ lot ∧ i ∉ ss.getD st.pos []) by
      by_cases h1 : i ∈ lot <;> by_cases h2 : i ∈ ss.getD st.pos [] <;> simp [h1, h2]]
    refine decide_eq_decide.mpr ?_
    rw [mem_stepL, if_neg e]
def lotOf (ds ss : List (List Nat)) (row : List Step) : List Nat := row.foldl (stepL ds ss) []
theorem endB_bits {ds ss : List (List Nat)} {row : List Step} : endB (ds.map bitsOf) (ss.map bitsOf) row = bitsOf (lotOf ds ss row) := by
  unfold endB lotOf
  have h : ∀ (row : List Step) (lot : List Nat), row.foldl (stepB (ds.map bitsOf) (ss.map bitsOf)) (bitsOf lot) = bitsOf (row.foldl (stepL ds ss) lot) := by
    intro row
    induction row with
    | nil => intro lot; rfl
    | cons st r ih =>
      intro lot
      rw [List.foldl_cons, List.foldl_cons, stepB_bits, ih]
  exact h row []
theorem fold_rise {n : Nat} {ds ss : List (List Nat)} (k : Kd n ds ss) : ∀ (row : List Step) (lot : List Nat), LotL n lot → (∀ st ∈ row, StepL ds ss st) → LotL n (row.foldl (stepL ds ss) lot)
  | [], lot, h, _ => h
  | st :: r, lot, h, hr => fold_rise k r _ (stepL_rise h k.lot (hr st List.mem_cons_self)) fun s hs => hr s (List.mem_cons_of_mem _ hs)
theorem lot_nil (n : Nat) : LotL n [] := ⟨.nil, fun s hs => by simp at hs⟩
/-- how many shelves change -/
theorem many1_len {n : Nat} {ds ss : List (List Nat)} (k : Kd n ds ss) {lot : List Nat} {st : Step} (h : Nat) (hl : LotL n lot) (hs : StepL ds ss st) : many1 (ds.map bitsOf) (ss.map bitsOf) h (bitsOf lot) st = lenL h lot (stepL ds ss lot st) := by
  have hl2 := stepL_rise hl k.lot hs
  unfold many1 lenL
  rw [stepB_bits]
  congr 1
  have nd1 : lot.Nodup := hl.1.imp fun h => Nat.ne_of_lt h
  have nd2 : (stepL ds ss lot st).Nodup := hl2.1.imp fun h => Nat.ne_of_lt h
  rw [← List.length_append]
  refine List.Perm.length_eq ((List.perm_ext_iff_of_nodup (spots_nodup _) ?_).mpr fun s => ?_)
  · refine List.nodup_append.mpr ⟨nd2.filter _, nd1.filter _, fun a ha b hb e => ?_⟩
    subst e
    have h1 := (List.mem_filter.mp ha).2
    have h2 := (List.mem_filter.mp hb).1
    simp at h1
    exact h1 h2
  · rw [spots_mem, Nat.testBit_xor, bits_test, bits_test, List.mem_append, List.mem_filter, List.mem_filter]
    have b1 : s ∈ lot → s < 8 := fun h => Nat.lt_of_lt_of_le (hl.2 s h) k.n8
    have b2 : s ∈ stepL ds ss lot st → s < 8 := fun h => Nat.lt_of_lt_of_le (hl2.2 s h) k.n8
    by_cases h1 : s ∈ lot <;> by_cases h2 : s ∈ stepL ds ss lot st <;> simp [h1, h2, b1, b2]
end K33
namespace K33
open PySem PySem.Spec PyProof.Rows L2
/-! plain: runs -/
def RunAll (P : List Nat → Deed → Prop) (b : List Nat) (run : List Deed) : Prop := ∀ j d, run[j]? = some d → P (finB b (run.take j)) d
theorem RunAll.nil {P : List Nat → Deed → Prop} {b : List Nat} : RunAll P b [] := fun j d h => by simp at h
theorem RunAll.cons {P : List Nat → Deed → Prop} {b : List Nat} {d : Deed} {run : List Deed} (h : P b d) (t : RunAll P (bump b d) run) : RunAll P b (d :: run)
  | 0, e, he => by
    have : d = e := by simpa using he
    subst this
    exact h
  | j + 1, e, he => t j e (by simpa using he)
theorem RunAll.imp {P R : List Nat → Deed → Prop} {b : List Nat} {run : List Deed} (h : RunAll P b run) (k : ∀ b d, P b d → R b d) : RunAll R b run := fun j d e => k _ _ (h j d e)
theorem HistOk.of {ds ss : List Nat} : ∀ {b : List Nat} {run : List Deed}, RunAll (StepOk ds ss) b run → HistOk ds ss b run
  | _, [], _ => trivial
  | b, d :: r, h => ⟨h 0 d rfl, HistOk.of fun j e he => h (j + 1) e (by simpa using he)⟩
theorem HistOk.app {ds ss : List Nat} : ∀ {b : List Nat} {r1 r2 : List Deed}, HistOk ds ss b r1 → HistOk ds ss (finB b r1) r2 → HistOk ds ss b (r1 ++ r2)
  | _, [], _, _, h => h
  | b, d :: r, r2, h, k => ⟨h.1, HistOk.app (b := bump b d) h.2 k⟩
/-- what a laid deed is -/
def Laid (k : List Nat) (p h : Nat) (b : List Nat) (d : Deed) : Prop := d = layD b k p ∧ lowOf b k < h ∧ KindOn b k ∧ BOk b
def Taken (k : List Nat) (p : Nat) (b : List Nat) (d : Deed) : Prop := d = offD b k p ∧ mostL b k ≠ [] ∧ KindOn b k ∧ BOk b
theorem lay_all {k : List Nat} {p h : Nat} (kn : k.Nodup) (hh : h ≤ 60) : ∀ (f : Nat) (b : List Nat), KindOn b k → BOk b → layM k h b ≤ f →
    (runF (layGo k p h) f b).length = layM k h b ∧ (∀ s, at0 (finB b (runF (layGo k p h) f b)) s = if s ∈ k then max (at0 b s) h else at0 b s) ∧ RunAll (Laid k p h) b (runF (layGo k p h) f b)
  | 0, b, kb, bo, hm => by
    have z : layM k h b = 0 := by omega
    refine ⟨z.symm, fun s => ?_, .nil⟩
    show at0 b s = _
    by_cases hs : s ∈ k
    · have := sum_zero z s hs
      rw [if_pos hs]
      omega
    · rw [if_neg hs]
  | f + 1, b, kb, bo, hm => by
    by_cases hl : lowOf b k < h
    · have hgo : layGo k p h b = some (layD b k p) := by unfold layGo; rw [if_pos hl]
      have hb := lay_ok (p := p) bo kb hl hh
      have hmb := layM_bump (p := p) kb kn hl
      obtain ⟨i1, i2, i3⟩ := lay_all kn hh (p := p) f (bump b (layD b k p)) (kindOn_bump _ kb) (bo.bump hb) (by omega)
      rw [runF_some hgo]
      refine ⟨by rw [List.length_cons, i1]; exact hmb, fun s => ?_, .cons ⟨rfl, hl, kb, bo⟩ i3⟩
      show at0 (finB (bump b (layD b k p)) (runF (layGo k p h) f (bump b (layD b k p)))) s = _
      obtain ⟨h1, h2⟩ := lay_at (p := p) (b := b) kb.1
      rw [i2, at0_bump hb.1]
      by_cases hs : s = (layD b k p).sh
      · subst hs
        rw [if_pos h1, if_pos h1, if_pos rfl]
        show max (if true = true then _ else _) h = _
        rw [if_pos rfl]
        omega
      · rw [if_neg hs]
    · have hgo : layGo k p h b = none := by unfold layGo; rw [if_neg hl]
      rw [runF_none hgo]
      have ge : ∀ s ∈ k, h ≤ at0 b s := fun s hs => Nat.le_trans (by omega) (lowOf_le b hs)
      refine ⟨(zero_sum fun s hs => by have := ge s hs; omega).symm, fun s => ?_, .nil⟩
      show at0 b s = _
      by_cases hs : s ∈ k
      · have := ge s hs
        rw [if_pos hs]
        omega
      · rw [if_neg hs]
theorem off_all {k : List Nat} {p : Nat} (kn : k.Nodup) : ∀ (f : Nat) (b : List Nat), KindOn b k → BOk b → offM k b ≤ f →
    (runF (offGo k p) f b).length = offM k b ∧ (∀ s, at0 (finB b (runF (offGo k p) f b)) s = if s ∈ k then 0 else at0 b s) ∧ RunAll (Taken k p) b (runF (offGo k p) f b)
  | 0, b, kb, bo, hm => by
    have z : offM k b = 0 := by omega
    refine ⟨z.symm, fun s => ?_, .nil⟩
    show at0 b s = _
    by_cases hs : s ∈ k
    · have := sum_zero z s hs
      rw [if_pos hs]
      exact this
    · rw [if_neg hs]
  | f + 1, b, kb, bo, hm => by
    by_cases hl : mostL b k = []
    · have hgo : offGo k p b = none := by unfold offGo; rw [if_pos hl]
      rw [runF_none hgo]
      have ge : ∀ s ∈ k, at0 b s = 0 := fun s hs => by
        have h0 : ¬ 0 < highOf b k := fun z => mostL_ne kb.1 z hl
        have := highOf_ge b hs
        omega
      refine ⟨(zero_sum ge).symm, fun s => ?_, .nil⟩
      show at0 b s = _
      by_cases hs : s ∈ k
      · rw [if_pos hs, ge s hs]
      · rw [if_neg hs]
    · have hgo : offGo k p b = some (offD b k p) := by unfold offGo; rw [if_neg hl]
      have hb := off_ok (p := p) bo kb hl
      have hmb := offM_bump (p := p) kb kn hl
      obtain ⟨i1, i2, i3⟩ := off_all kn (p := p) f (bump b (offD b k p)) (kindOn_bump _ kb) (bo.bump hb) (by omega)
      rw [runF_some hgo]
      refine ⟨by rw [List.length_cons, i1]; exact hmb, fun s => ?_, .cons ⟨rfl, hl, kb, bo⟩ i3⟩
      show at0 (finB (bump b (offD b k p)) (runF (offGo k p) f (bump b (offD b k p)))) s = _
      obtain ⟨h1, h2, h3⟩ := off_at (p := p) hl
      rw [i2, at0_bump hb.1]
      by_cases hs : s = (offD b k p).sh
      · subst hs
        rw [if_pos h1, if_pos h1]
      · rw [if_neg hs]
/-! plain: flat boards -/
theorem at0_flat {n : Nat} {lot : List Nat} {h : Nat} (hl : ∀ s ∈ lot, s < n) (s : Nat) : at0 (flatB n lot h) s = if s ∈ lot then h else 0 := by
  unfold at0 flatB
  rw [List.getD_eq_getElem?_getD, List.getElem?_map]
  by_cases hs : s < n
  · rw [List.getElem?_range hs]
    rfl
  · rw [List.getElem?_eq_none (by rw [List.length_range]; omega)]
    have : s ∉ lot := fun z => hs (hl s z)
    rw [if_neg this]
    rfl
theorem flat_len (n : Nat) (lot : List Nat) (h : Nat) : (flatB n lot h).length = n := by unfold flatB; rw [List.length_map, List.length_range]
theorem at0_ext {a b : List Nat} (hl : a.length = b.length) (h : ∀ s, at0 a s = at0 b s) : a = b := by
  refine List.ext_getElem hl fun i h1 h2 => ?_
  have e := h i
  unfold at0 at e
  rw [List.getD_eq_getElem?_getD, List.getD_eq_getElem?_getD, List.getElem?_eq_getElem h1, List.getElem?_eq_getElem h2] at e
  exact e
theorem flat_ok {n : Nat} {lot : List Nat} {h : Nat} (hn : n ≤ 8) (hl : ∀ s ∈ lot, s < n) (hh : h ≤ 60) : BOk (flatB n lot h) := ⟨by rw [flat_len]; exact hn, fun s => by
  rw [at0_flat hl]
  split
  · exact hh
  · exact Nat.zero_le _⟩
theorem kindL_on {n : Nat} {k lot : List Nat} {h : Nat} (hk : KindL n k) : KindOn (flatB n lot h) k := ⟨hk.1, by rw [flat_len]; exact hk.2.2⟩
theorem sum_if {p : Nat → Bool} {h : Nat} : ∀ k : List Nat, (k.map fun s => if p s then h else 0).sum = h * (k.filter p).length
  | [] => rfl
  | a :: r => by
    rw [List.map_cons, List.sum_cons, sum_if r]
    cases e : p a with
    | true => rw [List.filter_cons_of_pos e, List.length_cons, if_pos rfl, Nat.mul_succ]; omega
    | false => rw [List.filter_cons_of_neg (by rw [e]; decide), if_neg (by decide)]; omega
theorem layM_flat {n : Nat} {k lot : List Nat} {h : Nat} (hl : ∀ s ∈ lot, s < n) : layM k h (flatB n lot h) = h * (k.filter fun s => !decide (s ∈ lot)).length := by
  rw [← sum_if]
  unfold layM
  congr 1
  refine List.map_congr_left fun s hs => ?_
  rw [at0_flat hl]
  by_cases e : s ∈ lot <;> simp [e]
theorem offM_flat {n : Nat} {k lot : List Nat} {h : Nat} (hl : ∀ s ∈ lot, s < n) : offM k (flatB n lot h) = h * (k.filter fun s => decide (s ∈ lot)).length := by
  rw [← sum_if]
  unfold offM
  congr 1
  refine List.map_congr_left fun s hs => ?_
  rw [at0_flat hl]
  by_cases e : s ∈ lot <;> simp [e]
end K33
namespace K33
open PySem PySem.Spec PyProof.Rows L2
/-! plain: the law of whole rows -/
theorem nodup_of {n : Nat} {l : List Nat} (h : LotL n l) : l.Nodup := h.1.imp fun h => Nat.ne_of_lt h
theorem len_eq {a b : List Nat} (ha : a.Nodup) (hb : b.Nodup) (h : ∀ s, s ∈ a ↔ s ∈ b) : a.length = b.length := ((List.perm_ext_iff_of_nodup ha hb).mpr h).length_eq
section
variable {n h : Nat} {ds ss : List (List Nat)} {lot : List Nat} {st : Step}
theorem len_lay (k : Kd n ds ss) (hl : LotL n lot) (hs : StepL ds ss st) (hb : st.lay = true) : lenL h lot (stepL ds ss lot st) = h * ((ds.getD st.pos []).filter fun s => !decide (s ∈ lot)).length := by
  have hl2 := stepL_rise hl k.lot hs
  have hk := k.at hs
  rw [if_pos hb] at hk
  unfold lenL
  rw [len_eq (a := lot.filter fun s => !decide (s ∈ stepL ds ss lot st)) (b := []) ((nodup_of hl).filter _) .nil fun s => ?_, len_eq (a := (stepL ds ss lot st).filter fun s => !decide (s ∈ lot)) (b := (ds.getD st.pos []).filter fun s => !decide (s ∈ lot)) ((nodup_of hl2).filter _) ((hk.2.1.imp fun h => Nat.ne_of_lt h).filter _) fun s => ?_]
  · rfl
  · have m := mem_stepL (ds := ds) (ss := ss) (lot := lot) (st := st) (s := s)
    rw [if_pos hb] at m
    simp only [List.mem_filter]
    by_cases h1 : s ∈ lot <;> by_cases h2 : s ∈ ds.getD st.pos [] <;> simp [h1, h2, m]
  · have m := mem_stepL (ds := ds) (ss := ss) (lot := lot) (st := st) (s := s)
    rw [if_pos hb] at m
    simp only [List.mem_filter]
    by_cases h1 : s ∈ lot <;> by_cases h2 : s ∈ ds.getD st.pos [] <;> simp [h1, h2, m]
theorem len_off (k : Kd n ds ss) (hl : LotL n lot) (hs : StepL ds ss st) (hb : st.lay = false) : lenL h lot (stepL ds ss lot st) = h * ((ss.getD st.pos []).filter fun s => decide (s ∈ lot)).length := by
  have hl2 := stepL_rise hl k.lot hs
  have hk := k.at hs
  simp only [hb, Bool.false_eq_true, if_false] at hk
  have hb' : ¬ st.lay = true := by rw [hb]; decide
  unfold lenL
  rw [len_eq (a := (stepL ds ss lot st).filter fun s => !decide (s ∈ lot)) (b := []) ((nodup_of hl2).filter _) .nil fun s => ?_, len_eq (a := lot.filter fun s => !decide (s ∈ stepL ds ss lot st)) (b := (ss.getD st.pos []).filter fun s => decide (s ∈ lot)) ((nodup_of hl).filter _) ((hk.2.1.imp fun h => Nat.ne_of_lt h).filter _) fun s => ?_]
  · show h * (0 + _) = _
    rw [Nat.zero_add]
  · simp only [List.mem_filter]
    have := mem_stepL (ds := ds) (ss := ss) (lot := lot) (st := st) (s := s)
    rw [if_neg hb'] at this
    by_cases h1 : s ∈ lot <;> by_cases h2 : s ∈ ss.getD st.pos [] <;> simp [h1, h2, this]
  · have m := mem_stepL (ds := ds) (ss := ss) (lot := lot) (st := st) (s := s)
    rw [if_neg hb'] at m
    simp only [List.mem_filter]
    by_cases h1 : s ∈ lot <;> by_cases h2 : s ∈ ss.getD st.pos [] <;> simp [h1, h2, m]
theorem len8 (hn : n ≤ 8) {l : List Nat} (h : KindL n l) : l.length ≤ 8 := rise_len8 h.2.1 fun s hs => Nat.lt_of_lt_of_le (h.2.2 s hs) hn
abbrev Bs (ds : List (List Nat)) : List Nat := ds.map bitsOf
/-- one step of a row, blown -/
theorem step_all (k : Kd n ds ss) (hh : h ≤ 9) (hl : LotL n lot) (hs : StepL ds ss st) :
    (stepRun (Bs ds) (Bs ss) h (flatB n lot h) st).length = lenL h lot (stepL ds ss lot st) ∧ finB (flatB n lot h) (stepRun (Bs ds) (Bs ss) h (flatB n lot h) st) = flatB n (stepL ds ss lot st) h ∧
    RunAll (DeedL ds ss st) (flatB n lot h) (stepRun (Bs ds) (Bs ss) h (flatB n lot h) st) ∧ RunAll (StepOk (Bs ds) (Bs ss)) (flatB n lot h) (stepRun (Bs ds) (Bs ss) h (flatB n lot h) st) ∧ StepFit (Bs ds) (Bs ss) h (flatB n lot h) st := by
  have hl2 := stepL_rise hl k.lot hs
  have hk := k.at hs
  have bo : BOk (flatB n lot h) := flat_ok k.n8 hl.2 (by omega)
  cases hb : st.lay with
  | true =>
    rw [if_pos hb] at hk
    have hs' : st.pos < ds.length := by unfold StepL at hs; rw [if_pos hb] at hs; exact hs
    have kb : KindOn (flatB n lot h) (ds.getD st.pos []) := kindL_on hk
    have ka : kindAt (Bs ds) st.pos = ds.getD st.pos [] := kindAt_bits k.n8 ⟨hk.2.1, hk.2.2⟩
    have h8 := len8 k.n8 hk
    have hM : layM (ds.getD st.pos []) h (flatB n lot h) ≤ 72 := by
      rw [layM_flat hl.2]
      have h1 := List.length_filter_le (fun s => !decide (s ∈ lot)) (ds.getD st.pos [])
      exact Nat.mul_le_mul hh (Nat.le_trans h1 h8)
    have e : stepRun (Bs ds) (Bs ss) h (flatB n lot h) st = runF (layGo (ds.getD st.pos []) st.pos h) 500 (flatB n lot h) := by
      unfold stepRun layRun
      rw [if_pos hb, ka]
    obtain ⟨r1, r2, r3⟩ := lay_all (p := st.pos) (hk.2.1.imp fun h => Nat.ne_of_lt h) (show h ≤ 60 by omega) 500 (flatB n lot h) kb bo (by omega)
    rw [e]
    refine ⟨by rw [r1, len_lay k hl hs hb, layM_flat hl.2], at0_ext (by rw [finB_len, flat_len, flat_len]) fun s => ?_, r3.imp fun b d ⟨e1, e2, e3, e4⟩ => ?_, r3.imp fun b d ⟨e1, e2, e3, e4⟩ => ?_, bo, ?_, ?_⟩
    · rw [r2, at0_flat hl.2, at0_flat hl2.2]
      have := mem_stepL (ds := ds) (ss := ss) (lot := lot) (st := st) (s := s)
      rw [if_pos hb] at this
      by_cases h1 : s ∈ lot <;> by_cases h2 : s ∈ ds.getD st.pos [] <;> simp [h1, h2, this]
    · subst e1
      obtain ⟨h1, h2⟩ := lay_at (p := st.pos) (b := b) e3.1
      refine ⟨hb.symm, rfl, ⟨hs', e3, h8⟩, ?_, e3.2 _ h1, fun z => nomatch z⟩
      show (if true = true then decide _ else _) = true
      rw [if_pos rfl]
      exact decide_eq_true (mem_leastL.mpr ⟨h1, h2⟩)
    · subst e1
      obtain ⟨h1, h2⟩ := lay_at (p := st.pos) (b := b) e3.1
      refine ⟨⟨?_, ?_⟩, ?_, ?_, lay_ok e4 e3 e2 (by omega)⟩
      · show st.pos < (if true = true then Bs ds else Bs ss).length
        rw [if_pos rfl, List.length_map]
        exact hs'
      · show _ ∈ kindAt (if true = true then Bs ds else Bs ss) st.pos
        rw [if_pos rfl, ka]
        exact h1
      · show KindOn b (kindAt (if true = true then Bs ds else Bs ss) st.pos)
        rw [if_pos rfl, ka]
        exact e3
      · show (if true = true then decide (_ ∈ leastL b (kindAt (Bs ds) st.pos)) else _) = true
        rw [if_pos rfl, ka]
        exact decide_eq_true (mem_leastL.mpr ⟨h1, h2⟩)
    · rw [if_pos hb, ka]
      exact kb
    · rw [if_pos hb, ka]
      omega
  | false =>
    simp only [hb, Bool.false_eq_true, if_false] at hk
    have hb' : ¬ st.lay = true := by rw [hb]; decide
    have hs' : st.pos < ss.length := by unfold StepL at hs; rw [if_neg hb'] at hs; exact hs
    have kb : KindOn (flatB n lot h) (ss.getD st.pos []) := kindL_on hk
    have ka : kindAt (Bs ss) st.pos = ss.getD st.pos [] := kindAt_bits k.n8 ⟨hk.2.1, hk.2.2⟩
    have h8 := len8 k.n8 hk
    have hM : offM (ss.getD st.pos []) (flatB n lot h) ≤ 72 := by
      rw [offM_flat hl.2]
      have h1 := List.length_filter_le (fun s => decide (s ∈ lot)) (ss.getD st.pos [])
      exact Nat.mul_le_mul hh (Nat.le_trans h1 h8)
    have e : stepRun (Bs ds) (Bs ss) h (flatB n lot h) st = runF (offGo (ss.getD st.pos []) st.pos) 500 (flatB n lot h) := by
      unfold stepRun offRun
      rw [if_neg hb', ka]
    obtain ⟨r1, r2, r3⟩ := off_all (p := st.pos) (hk.2.1.imp fun h => Nat.ne_of_lt h) 500 (flatB n lot h) kb bo (by omega)
    rw [e]
    refine ⟨by rw [r1, len_off k hl hs hb, offM_flat hl.2], at0_ext (by rw [finB_len, flat_len, flat_len]) fun s => ?_, r3.imp fun b d ⟨e1, e2, e3, e4⟩ => ?_, r3.imp fun b d ⟨e1, e2, e3, e4⟩ => ?_, bo, ?_, ?_⟩
    · rw [r2, at0_flat hl.2, at0_flat hl2.2]
      have := mem_stepL (ds := ds) (ss := ss) (lot := lot) (st := st) (s := s)
      rw [if_neg hb'] at this
      by_cases h1 : s ∈ lot <;> by_cases h2 : s ∈ ss.getD st.pos [] <;> simp [h1, h2, this]
    · subst e1
      obtain ⟨h1, h2, h3⟩ := off_at (p := st.pos) e2
      refine ⟨hb.symm, rfl, ⟨hs', e3, h8⟩, ?_, e3.2 _ h1, fun _ => by omega⟩
      show (if false = true then _ else decide _) = true
      rw [if_neg (by decide)]
      exact decide_eq_true (mem_mostL.mpr ⟨h1, h2, h3⟩)
    · subst e1
      obtain ⟨h1, h2, h3⟩ := off_at (p := st.pos) e2
      refine ⟨⟨?_, ?_⟩, ?_, ?_, off_ok e4 e3 e2⟩
      · show st.pos < (if false = true then Bs ds else Bs ss).length
        rw [if_neg (by decide), List.length_map]
        exact hs'
      · show _ ∈ kindAt (if false = true then Bs ds else Bs ss) st.pos
        rw [if_neg (by decide), ka]
        exact h1
      · show KindOn b (kindAt (if false = true then Bs ds else Bs ss) st.pos)
        rw [if_neg (by decide), ka]
        exact e3
      · show (if false = true then _ else decide (_ ∈ mostL b (kindAt (Bs ss) st.pos))) = true
        rw [if_neg (by decide), ka]
        exact decide_eq_true (mem_mostL.mpr ⟨h1, h2, h3⟩)
    · rw [if_neg hb', ka]
      exact kb
    · rw [if_neg hb', ka]
      omega
theorem row_all (k : Kd n ds ss) (hh : h ≤ 9) : ∀ (row : List Step) (lot : List Nat), LotL n lot → (∀ st ∈ row, StepL ds ss st) →
    FollowsR n ds ss h lot row (blowF (Bs ds) (Bs ss) h (flatB n lot h) row) ∧ HistOk (Bs ds) (Bs ss) (flatB n lot h) (blowF (Bs ds) (Bs ss) h (flatB n lot h) row) ∧
    finB (flatB n lot h) (blowF (Bs ds) (Bs ss) h (flatB n lot h) row) = flatB n (row.foldl (stepL ds ss) lot) h ∧ (blowF (Bs ds) (Bs ss) h (flatB n lot h) row).length = manyB (Bs ds) (Bs ss) h (bitsOf lot) row
  | [], lot, hl, _ => ⟨⟨hl, rfl⟩, trivial, rfl, rfl⟩
  | st :: r, lot, hl, hr => by
    have hs := hr st List.mem_cons_self
    obtain ⟨a1, a2, a3, a4, a5⟩ := step_all k hh hl hs
    obtain ⟨b1, b2, b3, b4⟩ := row_all k hh r (stepL ds ss lot st) (stepL_rise hl k.lot hs) fun s m => hr s (List.mem_cons_of_mem _ m)
    have e : blowF (Bs ds) (Bs ss) h (flatB n lot h) (st :: r) = stepRun (Bs ds) (Bs ss) h (flatB n lot h) st ++ blowF (Bs ds) (Bs ss) h (flatB n (stepL ds ss lot st) h) r := by
      rw [blowF, a2]
    rw [e]
    refine ⟨⟨hl, hs, _, _, rfl, a1, a3, a2, b1⟩, .app (HistOk.of a4) (by rw [a2]; exact b2), by rw [finB_app, a2, b3]; rfl, ?_⟩
    rw [List.length_append, a1, b4, manyB, many1_len k h hl hs, stepB_bits]
theorem flat_nil : flatB n [] h = flat0 n := by
  unfold flatB flat0
  rw [show (fun s : Nat => if s ∈ ([] : List Nat) then h else 0) = fun _ => 0 from funext fun s => by simp, List.map_const', List.length_range]
theorem row_fit (k : Kd n ds ss) (hh : h ≤ 9) {row : List Step} (hr : ∀ st ∈ row, StepL ds ss st) : RowFit (Bs ds) (Bs ss) h (flat0 n) row := fun i st hi => by
  have ht : ∀ s ∈ row.take i, StepL ds ss s := fun s m => hr s (List.mem_of_mem_take m)
  obtain ⟨_, _, b3, _⟩ := row_all k hh (row.take i) [] (lot_nil n) ht
  rw [← flat_nil (n := n) (h := h), b3]
  exact (step_all k hh (fold_rise k _ _ (lot_nil n) ht) (hr st (List.mem_of_getElem? hi))).2.2.2.2
theorem manyB_le (ds ss : List Nat) : ∀ (lot : Nat) (row : List Step), manyB ds ss h lot row ≤ h * 8 * row.length
  | _, [] => Nat.zero_le _
  | lot, st :: r => by
    rw [manyB, List.length_cons, Nat.mul_succ]
    have := many1_le ds ss h lot st
    have := manyB_le ds ss (stepB ds ss lot st) r
    omega
theorem small_bits (k : Kd n ds ss) : Small (Bs ds) ∧ Small (Bs ss) := by
  have h : ∀ l, (l ∈ ds ∨ l ∈ ss) → bitsOf l < 256 := fun l hl => bits_lt fun s hs => Nat.lt_of_lt_of_le ((k.kk l hl).2.2 s hs) k.n8
  constructor
  · intro b hb
    obtain ⟨l, hl, rfl⟩ := List.mem_map.mp hb
    exact h l (.inl hl)
  · intro b hb
    obtain ⟨l, hl, rfl⟩ := List.mem_map.mp hb
    exact h l (.inr hl)
theorem step_in {st : Step} (h : StepL ds ss st) : StepIn (Bs ds) (Bs ss) st := by
  unfold StepIn
  unfold StepL at h
  cases hb : st.lay with
  | true => rw [hb] at h; simpa using h
  | false => rw [hb] at h; simpa using h
theorem blown_pre (k : Kd n ds ss) (hn : 2 ≤ n) (hh : h ≤ 9) {row : List Step} (hl : row.length ≤ 60) (hr : ∀ st ∈ row, StepL ds ss st) (hm : manyB (Bs ds) (Bs ss) h 0 row ≤ 200) :
    (Small (Bs ds) ∧ Small (Bs ss)) ∧ (2 ≤ n ∧ n ≤ 8) ∧ row.length ≤ 60 ∧ (∀ st ∈ row, StepIn (Bs ds) (Bs ss) st) ∧ h ≤ 9 ∧ RowFit (Bs ds) (Bs ss) h (flat0 n) row ∧ manyB (Bs ds) (Bs ss) h 0 row ≤ 200 :=
  ⟨small_bits k, ⟨hn, k.n8⟩, hl, fun st m => step_in (hr st m), hh, row_fit k hh hr, hm⟩
/-- every step twice -/
def dbl : List Step → List Step
  | [] => []
  | st :: r => st :: st :: dbl r
theorem dbl_snoc (st : Step) : ∀ row : List Step, dbl (row ++ [st]) = dbl row ++ [st, st]
  | [] => rfl
  | a :: r => by show a :: a :: dbl (r ++ [st]) = _; rw [dbl_snoc st r]; rfl
theorem dbl_len : ∀ row : List Step, (dbl row).length = 2 * row.length
  | [] => rfl
  | a :: r => by show (dbl r).length + 1 + 1 = 2 * (r.length + 1); rw [dbl_len r]; omega
theorem mem_dbl {s : Step} : ∀ {row : List Step}, s ∈ dbl row → s ∈ row
  | a :: r, h => by
    rcases List.mem_cons.mp h with e | h
    · exact e ▸ List.mem_cons_self
    · rcases List.mem_cons.mp h with e | h
      · exact e ▸ List.mem_cons_self
      · exact List.mem_cons_of_mem _ (mem_dbl h)
theorem step_twice (k : Kd n ds ss) (hl : LotL n lot) (hs : StepL ds ss st) : stepL ds ss (stepL ds ss lot st) st = stepL ds ss lot st := by
  have hl2 := stepL_rise hl k.lot hs
  refine rise_uniqN (stepL_rise hl2 k.lot hs).1 hl2.1 fun s => ?_
  rw [mem_stepL, mem_stepL]
  split
  · constructor
    · rintro (h | h)
      · exact h
      · exact .inr h
    · exact .inl
  · exact ⟨fun h => h.1, fun h => ⟨h, h.2⟩⟩
theorem lenL_same (h : Nat) (lot : List Nat) : lenL h lot lot = 0 := by
  have : lot.filter (fun s => !decide (s ∈ lot)) = [] := List.filter_eq_nil_iff.mpr fun s hs => by simp [hs]
  unfold lenL
  rw [this]
  rfl
theorem many_dbl (k : Kd n ds ss) (h : Nat) : ∀ (row : List Step) (lot : List Nat), LotL n lot → (∀ st ∈ row, StepL ds ss st) → manyB (Bs ds) (Bs ss) h (bitsOf lot) (dbl row) = manyB (Bs ds) (Bs ss) h (bitsOf lot) row
  | [], _, _, _ => rfl
  | st :: r, lot, hl, hr => by
    have hs := hr st List.mem_cons_self
    have hl2 := stepL_rise hl k.lot hs
    rw [dbl, manyB, manyB, manyB, stepB_bits, stepB_bits, step_twice k hl hs, many1_len k h hl2 hs, step_twice k hl hs, lenL_same, many_dbl k h r _ hl2 fun s m => hr s (List.mem_cons_of_mem _ m)]
    omega
end
end K33
namespace K33
open PySem PySem.Spec PyProof.Rows L2
/-! plain: what repr shows of a row -/
theorem step_shown : ∀ p, p < 8 → ∀ b : Bool, ((dS ⟨b, p⟩).weight ≤ 20 ∧ (dS ⟨b, p⟩).intsShort 13 = true) ∧ (dS ⟨b, p⟩).showable = true ∧ (dS ⟨b, p⟩).hasDict = false := by decide +kernel
theorem steps_shown {row : List Step} (h : ∀ st ∈ row, st.pos < 8) : PyData.weightAll (row.map dS) ≤ 21 * row.length ∧ PyData.intsShortAll 13 (row.map dS) = true ∧ PyData.showableAll (row.map dS) = true ∧ PyData.hasDictAll (row.map dS) = false := by
  induction row with
  | nil => exact ⟨Nat.zero_le _, rfl, rfl, rfl⟩
  | cons st r ih =>
    obtain ⟨i1, i2, i3, i4⟩ := ih fun s m => h s (List.mem_cons_of_mem _ m)
    obtain ⟨⟨j1, j2⟩, j3, j4⟩ := step_shown st.pos (h st List.mem_cons_self) st.lay
    rw [List.map_cons, PyData.weightAll, PyData.intsShortAll, PyData.showableAll, PyData.hasDictAll, i2, i3, i4, List.length_cons]
    refine ⟨?_, ?_, ?_, ?_⟩
    · show (dS ⟨st.lay, st.pos⟩).weight + 1 + _ ≤ _
      omega
    · show ((dS ⟨st.lay, st.pos⟩).intsShort 13 && true) = true
      rw [j2]; rfl
    · show ((dS ⟨st.lay, st.pos⟩).showable && true) = true
      rw [j3]; rfl
    · show ((dS ⟨st.lay, st.pos⟩).hasDict || false) = false
      rw [j4]; rfl
theorem row_shown {row : List Step} (h : ∀ st ∈ row, st.pos < 8) (hl : row.length ≤ 60) : (PyData.list (row.map dS)).showable = true ∧ (PyData.list (row.map dS)).hasDict = false ∧ (PyData.list (row.map dS)).depth ≤ 20 ∧ (PyData.list (row.map dS)).shown.length ≤ sizeLine := by
  obtain ⟨i1, i2, i3, i4⟩ := steps_shown h
  have hd : (PyData.list (row.map dS)).depth ≤ 2 := depth_list depth_dS row
  refine ⟨?_, ?_, by omega, ?_⟩
  · rw [PyData.showable]; exact i3
  · rw [PyData.hasDict]; exact i4
  · have hc := can_list can_dS row
    have e : PyData.layable0 (.list (row.map dS)) = true := by
      unfold PyData.layable0
      rw [hc, decide_eq_true (show (PyData.list (row.map dS)).depth ≤ 64 by omega), decide_eq_true (show (PyData.list (row.map dS)).weight ≤ 2 ^ 20 from by
        rw [PyData.weight]
        exact Nat.le_trans i1 (Nat.le_trans (Nat.mul_le_mul_left 21 hl) (by decide)))]
      rfl
    have h1 := PyProof.Rows.shown_le13 e (by rw [PyData.intsShort]; exact i2)
    exact Nat.le_trans h1 (by decide)
end K33
namespace K33
open PySem PySem.Spec PyProof.Rows L2
section
variable {X : Cx} {σ : L2.St} {H : Hp} {a b c : Expr} {p k1 k2 k3 pos : Pos} {C : Addr}
def kwV {α : Type} : List α → List α → List α
  | [], [x, y, z] => [z, y, x]
  | _, _ => []
/-- blown(height = a, row = b, store = c) -/
theorem r_kwBlown {Q : VK} (T : Txt X.K X.mg) (U : Cl X.K X.mg C) (hr : Room 6 X.A) (h : rdE X a σ H fun v0 H1 => rdE X b σ H1 fun v1 H2 => rdE X c σ H2 fun v2 H3 => sp_blown C [v2, v1, v0] H3 Q E0) (hg : Gl X "blown" := by rfl)
    (hall : (backToKw pos (keywordEach [⟨some "height", a, k1⟩, ⟨some "row", b, k2⟩, ⟨some "store", c, k3⟩] X.env)).all (·.1.isSome) = true := by rfl) (hks : (backToKw pos (keywordEach [⟨some "height", a, k1⟩, ⟨some "row", b, k2⟩, ⟨some "store", c, k3⟩] X.env)).filterMap (·.1) = (["height", "row", "store"] : List Str) := by rfl)
    (hpl : ((backTo pos (starEach [] X.env)).any (·.1) || (backToKw pos (keywordEach [⟨some "height", a, k1⟩, ⟨some "row", b, k2⟩, ⟨some "store", c, k3⟩] X.env)).any (·.1.isNone)) = false := by rfl) :
    rdE X (.Call (.Name "blown" p) [] [⟨some "height", a, k1⟩, ⟨some "row", b, k2⟩, ⟨some "store", c, k3⟩] pos) σ H Q := by
  obtain ⟨f, fd, F, hm⟩ := T.d_blown
  have G : FnOk X.prog X.w X.K X.mg X.base CX0 6 f fd p_blown (sp_blown C) := fn_blown T U F
  have KB : KBinds X.K fd p_blown ["height", "row", "store"] kwV kwV := by
    obtain ⟨oc, od, kV, doc, pm, an, cdv, ct, osl, rfl, look, code⟩ := F.ex
    refine ⟨fun s us ws _ hl => ?_, fun {vs us zs ws} r rz => ?_⟩
    · match us, ws, hl with
      | [], [x, y, z], _ => exact .of_eq rfl
    · cases r with
      | nil =>
        cases rz with
        | nil => exact .nil
        | cons a t =>
          cases t with
          | nil => exact .nil
          | cons b t =>
            cases t with
            | nil => exact .nil
            | cons c t =>
              cases t with
              | nil => exact .cons c (.cons b (.cons a .nil))
              | cons d t => exact .nil
      | cons a t => exact .nil
  intro pins s I
  refine wpAny_Call_Name_kw (ld_glob I hg hm ?_ (by decide))
  refine PySem.W.callWith_KW0 (h₀ := X.base) I.ok.mod.kin F.kp hall ?_ hpl
  refine thn ((pk_cons (pE X a) (pk_cons (pE X b) (pk_cons (pE X c) pk_nil))).run pos pins s σ H (fun vs H3 => sp_blown C (kwV [] vs) H3 Q E0) I ?_) fun ws s2 ⟨zs, H2, I2, rz, q2⟩ => ⟨I2.kIn, ?_⟩
  · exact Nx.w h fun v0 H1 k => Nx.w k fun v1 H2 k => Nx.w k fun v2 H3 k => k
  · rw [hks]
    exact run_fnk (us := []) (vs := []) G hr KB pass0 I2 .nil rz q2
end
section
variable {P : Program} {w : World} {K : PySem.W.Frag} {mg : Str → Option Value} {base : Heap} {C : Addr}
theorem sIx_m1 (n : Nat) : HT.sIx n n (some (-1)) = n - 1 := by
  show (if (-1 : Int) < 0 then ((-1 : Int) + (n : Int)).toNat else min (-1 : Int).toNat n) = n - 1
  rw [if_pos (by decide)]
  omega
theorem StoreAt.kd {m n : Nat} {ds ss : List (List Nat)} (hm : m ≤ 8) (hn : 2 ≤ n ∧ n ≤ m) (hd : KindsOk n 4 ds) (hs : KindsOk n 3 ss) : Kd n ds ss := ⟨Nat.le_trans hn.2 hm, fun l h => h.elim (fun h => hd.2.1 l h) fun h => hs.2.1 l h⟩
def sp__law_right : Sp := fun vs H Q _ => ∃ p, vs = [.ref p] ∧ Pot p H ∧ ∀ H', Q (.bl true) H'
theorem ok__law_right (T : Txt K mg) (U : Cl K mg C) : GDn P w K mg base 9 "_law_right" p__law_right sp__law_right := by
  refine gdn_of T.d__law_right sc__law_right (fun _ _ _ _ _ _ us hl => match us, hl with | [_], _ => rfl) (fun vs H Q E h => by obtain ⟨p, rfl, _⟩ := h; rfl) fun f cdv A outer s H vs Q E hgd hr h => ?_
  obtain ⟨p, rfl, hpot, q⟩ := h
  have hu : (A.deeper (envOfC "_law_right" (defScope s__law_right) s.heap.objs.size f cdv)).units + 64 < cLine := hr.units
  have hgd' : (A.deeper (envOfC "_law_right" (defScope s__law_right) s.heap.objs.size f cdv)).guards = some [] := hgd
  have st0 := St.refl hpot
  refine s_cons (r_set 1 sc__law_right.nd ((x_fn (p := p) (G := wo p H) 5 (ok__law_store T) (hr.mono (by decide)) (xa_cons (x_var 0 rfl rfl) (xa_cons x_int xa_nil)) ⟨by decide, by decide⟩ (S := StoreAt 5) fun _ _ _ _ _ r => r).run st0 fun vs1 H1 s1 r1 => ?_))
  obtain ⟨n, ds, ss, hn, hds, hss, d1⟩ := r1
  have kd : Kd n ds ss := StoreAt.kd (by decide) hn hds hss
  refine s_cons (r_par3 2 3 4 sc__law_right.nd ((x_fn (p := p) (G := wo p H1) (n, ds, ss) (ok__law_made T U) hr (xa_cons (x_var 0 rfl rfl) (xa_cons (x_var 1 rfl d1) xa_nil)) ⟨⟨hn.1, by show n ≤ 8; omega⟩, hds, hss⟩ (S := MadeAt C n ds ss) fun _ _ _ _ _ r => r).run (St.refl s1.2) fun vm H2 s2 m2 =>
    (x_fn (p := p) (G := wo p H2) (n, ds, ss) (ok__law_row T) (hr.mono (by decide)) (xa_cons (x_var 0 rfl rfl) (xa_cons (x_var 1 rfl (Dt.up s2.1 d1)) xa_nil)) ⟨Nat.le_trans hds.1 (by decide), Nat.le_trans hss.1 (by decide)⟩ (S := fun Hw v => ∃ row : List Step, row.length ≤ 6 ∧ (∀ st ∈ row, StepL ds ss st) ∧ Dt Hw v (.list (row.map dS))) fun H3 H4 v _ _ ⟨row, h1, h2, h3⟩ => ⟨row, h1, h2, h3.d⟩).run (St.refl s2.2) fun vr H3 s3 r3 =>
    (x_fn (p := p) (G := wo p H3) 5 (ok__law_draw T) (hr.mono (by decide)) (xa_cons (x_var 0 rfl rfl) (xa_cons x_int xa_nil)) ⟨by decide, by decide⟩ (S := Below 5) fun _ _ _ _ _ r => r).run (St.refl s3.2) fun vh H4 s4 r4 => ?_))
  obtain ⟨ks, ms, gks, gms, m2⟩ := m2
  rw [plain_given kd.n8 hds gks, plain_given kd.n8 hss gms] at m2
  obtain ⟨row, hl6, hrow, r3⟩ := r3
  obtain ⟨h, hh, rfl⟩ := r4
  have d4 := Dt.up (s2.1.tr (s3.1.tr s4.1)) d1
  have m4 : Sto C n (Bs ds) (Bs ss) (wo p H4) vm := Mono.up (s3.1.tr s4.1) m2
  have r4 := Dt.up s4.1 r3
  have subs : ∀ {H5 : Hp}, St p (wo p H4) H5 → Gr (wo p H4) H5 := fun s5 => s5.sub
  have pos8 : ∀ st ∈ row, st.pos < 8 := fun st m => by
    have z := hrow st m
    unfold StepL at z
    have z1 := hds.1
    have z2 := hss.1
    split at z <;> omega
  obtain ⟨sh1, sh2, sh3, sh4⟩ := row_shown pos8 (show row.length ≤ 60 by omega)
  refine s_cons (r_par2c 5 6 sc__law_right.nd ((x_if (p := p) (G := wo p H4) (P := Q2 (row.map dS)) (xt_eq (x_fn (p := p) 2 (ok__law_draw T) (hr.mono (by decide)) (xa_cons (x_var 0 rfl rfl) (xa_cons x_int xa_nil)) ⟨by decide, by decide⟩ (S := Below 2) fun _ _ _ _ _ r => r))
      ((x_soft (d := .tuple (row.map dS)) (fun H5 s5 => e_tuple T.b_tuple (a_cons (P := Q2 (row.map dS)) (e_var 3 rfl (.inl (Dt.up s5.sub r4))) a_nil)) (soft_steps row)).imp fun _ _ r => .inr r)
      ((x_new (ds := row.map dS) (fun H5 s5 => e_list T.b_list (a_cons (P := Q2 (row.map dS)) (e_var 3 rfl (.inl (Dt.up s5.sub r4))) a_nil)) (soft_steps row)).imp fun _ _ r => .inl r)).run (St.refl s4.2) fun vhd H5 s5 hd5 =>
    (e_repr hgd' hu sh1 sh2 sh3 sh4 ⟨_, .inl rfl⟩ T.b_repr (a_cons (e_var 3 rfl (Dt.up s5.sub r4)) a_nil)).run fun vst H6 g6 hst => ?_))
  obtain rfl := Dt.str_eq hst
  have d6 := Dt.up (s5.sub.tr g6) d4
  have m6 : Sto C n (Bs ds) (Bs ss) H6 vm := Mono.up (s5.sub.tr g6) m4
  have r6 := Dt.up (s5.sub.tr g6) r4
  have hd6 : Q2 (row.map dS) H6 vhd := Mono.up ((wo_sub p H5).tr g6) hd5
  -- plain facts
  have h9 : h ≤ 9 := by omega
  have hmany : manyB (Bs ds) (Bs ss) h 0 row ≤ 200 := by
    have h1 := manyB_le (h := h) (Bs ds) (Bs ss) 0 row
    have h2 : h * 8 * row.length ≤ 4 * 8 * 6 := Nat.mul_le_mul (Nat.mul_le_mul_right 8 (by omega)) hl6
    omega
  have pre := blown_pre kd hn.1 h9 (row := row) (by omega) hrow hmany
  have mdbl : ∀ st ∈ dbl row, StepL ds ss st := fun st m => hrow st (mem_dbl m)
  have eqD : manyB (Bs ds) (Bs ss) h 0 (dbl row) = manyB (Bs ds) (Bs ss) h 0 row := many_dbl kd h row [] (lot_nil n) hrow
  have hlD : (dbl row).length ≤ 60 := by rw [dbl_len]; omega
  have preD := blown_pre kd hn.1 h9 hlD mdbl (by rw [eqD]; exact hmany)
  obtain ⟨f1, f2, f3, f4⟩ := row_all kd h9 row [] (lot_nil n) hrow
  obtain ⟨e1, e2, e3, e4⟩ := row_all kd h9 (dbl row) [] (lot_nil n) mdbl
  rw [flat_nil] at f1 f2 f3 f4 e1 e2 e3 e4
  have f4' : (blowF (Bs ds) (Bs ss) h (flat0 n) row).length = manyB (Bs ds) (Bs ss) h 0 row := f4
  have e4' : (blowF (Bs ds) (Bs ss) h (flat0 n) (dbl row)).length = manyB (Bs ds) (Bs ss) h 0 row := by rw [← eqD]; exact e4
  have hlot : LotL n (lotOf ds ss row) := fold_rise kd row [] (lot_nil n) hrow
  have espots : spots (endB (Bs ds) (Bs ss) row) = lotOf ds ss row := by rw [endB_bits, lotL_spots kd.n8 hlot]
  have d6' : Dt H6 vs1 (.tuple [dN n, .list (ds.map dL), .list (ss.map dL)]) := d6
  -- history = blown(made, handed, height)
  refine s_cons (s_set 7 sc__law_right.nd (e_fn ((n, Bs ds, Bs ss), row, h) (ok_blown T U) (hr.mono (by decide)) (a_cons (e_var 2 rfl m6) (a_cons (e_var 5 rfl hd6) (a_cons (e_var (P := I (h : Int)) 4 rfl (.int _)) a_nil))) pre (S := NewL H6 ((blowF (Bs ds) (Bs ss) h (flat0 n) row).map dD)) fun _ _ _ g r => r.back g) fun vH H7 g7 hH => ?_)
  obtain ⟨lh, zh, rfl, hlh0, hlh, hzh⟩ := hH
  have hH : Dt H7 (.ref lh) (.list ((blowF (Bs ds) (Bs ss) h (flat0 n) row).map dD)) := .lst hlh hzh
  have d7 := Dt.up g7 d6
  have d7' := Dt.up g7 d6'
  have m7 : Sto C n (Bs ds) (Bs ss) H7 vm := Mono.up g7 m6
  have r7 := Dt.up g7 r6
  have hd7 : Q2 (row.map dS) H7 vhd := Mono.up g7 hd6
  refine s_cons (s_skip (Wt.t (w_or (b1 := false) (b2 := false) (t_not (b1 := true) (t_val (e_isTy T.b_isinstance (e_var (P := D (.list ((blowF (Bs ds) (Bs ss) h (flat0 n) row).map dD))) 7 rfl hH) (e_ty PyProof.Rows.boot_list T.b_list) (fun _ _ h => ty_list h) (b1 := true) (by decide +kernel)))) fun _ =>
    w_or (b1 := false) (b2 := false) (t_not (b1 := true) (t_val (e_fn ((n, ds, ss), row, h, blowF (Bs ds) (Bs ss) h (flat0 n) row) (ok__law_follows T) (hr.mono (by decide)) (a_cons (e_var 1 rfl d7) (a_cons (e_var 3 rfl r7) (a_cons (e_var (P := I (h : Int)) 4 rfl (.int _)) (a_cons (e_var 7 rfl hH) a_nil)))) ⟨kd.n8, kd.lot, h9, by show (blowF (Bs ds) (Bs ss) h (flat0 n) row).length ≤ 1000; omega, f1⟩ (S := B true) fun _ _ _ _ r => r))) fun _ =>
    w_or1 ((t_neS (e_repr hgd' hu sh1 sh2 sh3 sh4 ⟨_, .inl rfl⟩ T.b_repr (a_cons (e_list T.b_list (a_cons (e_var 5 rfl hd7) a_nil)).newD a_nil)) (e_var (P := D (.str (PyData.list (row.map dS)).shown)) 6 rfl (.str _))).eq (by simp)))) fun H8 g8 => ?_)
  refine s_cons (s_set 8 sc__law_right.nd (e_lst d_nil).newD fun vl H9 g9 hl9 => ?_)
  have g79 := g8.tr g9
  obtain ⟨ra, rx, rfl, hra, hrx⟩ := Dt.list_eq r7
  refine s_mid (fun σ' H' => Gr H7 H' ∧ ∃ vl y, Dt H' vl (.list ((lotOf ds ss row).map dN)) ∧ σ' = [some (.ref p), some vs1, some vm, some (.ref ra), some (.int (h : Int)), some vhd, some (.str (PyData.list (row.map dS)).shown), some (.ref lh), some vl, y, none, none]) (r_forL 9 sc__law_right.nd ((e_var (P := Is (.ref ra)) 3 rfl rfl).run fun v H10 g10 hv => ⟨ra, rx, hv, (g79.tr g10) _ _ hra, fun i σ' H' => Gr H7 H' ∧ ∃ vl y, Dt H' vl (.list ((lotOf ds ss (row.take i)).map dN)) ∧ σ' = [some (.ref p), some vs1, some vm, some (.ref ra), some (.int (h : Int)), some vhd, some (.str (PyData.list (row.map dS)).shown), some (.ref lh), some vl, y, none, none],
    ⟨g79.tr g10, vl, none, Dt.up g10 hl9, rfl⟩, fun i σ' H' w => w.1 _ _ hra, fun i u σ' H' hu' w => ?_, fun σ' H' w => ?_⟩)) fun σ' H' w => ?_
  · obtain ⟨g, vl, y, dl, rfl⟩ := w
    obtain ⟨st, hst, dst⟩ := hrx.enc hu'
    have ht : ∀ s ∈ row.take i, StepL ds ss s := fun s m => hrow s (List.mem_of_mem_take m)
    refine s_one (s_set 8 sc__law_right.nd (e_fn ((n, ds, ss), lotOf ds ss (row.take i), st) (ok__law_step T) (hr.mono (by decide)) (a_cons (e_var 1 rfl (Dt.up g d7)) (a_cons (e_var 8 rfl dl) (a_cons (e_var 9 rfl (Dt.up g dst)) a_nil))) ⟨hrow st (List.mem_of_getElem? hst), ⟨kd.n8, fold_rise kd _ [] (lot_nil n) ht⟩, kd.lot⟩ (S := D (.list ((stepL ds ss (lotOf ds ss (row.take i)) st).map dN))) fun _ _ _ _ r => r.d) fun v' H11 g11 dl' => ?_)
    refine ⟨g.tr g11, v', some u, ?_, rfl⟩
    have e : lotOf ds ss (row.take (i + 1)) = stepL ds ss (lotOf ds ss (row.take i)) st := fold_more hst
    rw [e]
    exact dl'
  · obtain ⟨g, vl, y, dl, rfl⟩ := w
    rw [hrx.encLen, List.take_length] at dl
    exact ⟨g, vl, y, dl, rfl⟩
  obtain ⟨g, vl, y, dl, rfl⟩ := w
  have eL0 : (List.replicate n [dN 0]).flatten = (flat0 n).map dN := by rw [← flatB_nil n h, flat_nil]
  refine s_cons (s_skip (Wt.t (w_or (b1 := false) (b2 := false) ((t_neD (d := .list ((lotOf ds ss row).map dN)) hu (e_fn ((n, Bs ds, Bs ss), row) (ok_row_lot T U) (hr.mono (by decide)) (a_cons (e_var 2 rfl (Mono.up g m7)) (a_cons (P := Q2 (row.map dS)) (e_var 3 rfl (.inl (Dt.up g r7))) a_nil)) ⟨small_bits kd, by show row.length ≤ 60; omega, fun st m => step_in (hrow st m)⟩ (S := D (.list ((lotOf ds ss row).map dN))) fun _ _ _ _ r => by
      have r := NewL.d r
      rw [espots] at r
      exact r) (e_var 8 rfl dl) (sh_nats _) (sh_nats _)).eq (by rw [eqv_list eqv_dN]; simp)) fun _ =>
    w_or1 ((t_neD (d := .list ((flatB n (lotOf ds ss row) h).map dN)) hu (e_fn ((n, Bs ds, Bs ss), flat0 n, blowF (Bs ds) (Bs ss) h (flat0 n) row) (ok_played T U) (hr.mono (by decide)) (a_cons (e_var 2 rfl (Mono.up g m7)) (a_cons (P := Q2 ((flat0 n).map dN)) ((e_repN (ds := [dN 0]) (n := n) (e_lst (d_cons e_int d_nil) (show 1 ≤ 1000 by decide)).newD (e_ixT (n := 0) (d := dN n) (e_var 1 rfl (Dt.up g d7')) e_int rfl) (by simp; have := kd.n8; omega) (by have := kd.n8; omega)).imp fun _ _ _ r => .inl (by
        have r := NewL.d r
        rw [eL0] at r
        exact r)) (a_cons (P := Q2 ((blowF (Bs ds) (Bs ss) h (flat0 n) row).map dD)) (e_var 7 rfl (.inl (Dt.up g hH))) a_nil))) ⟨⟨by show (flat0 n).length = n; unfold flat0; rw [List.length_replicate], kd.n8, fun x hx => by rw [List.eq_of_mem_replicate hx]; decide⟩, f2, by show (blowF (Bs ds) (Bs ss) h (flat0 n) row).length ≤ 200; omega⟩ (S := D (.list ((flatB n (lotOf ds ss row) h).map dN))) fun _ _ _ _ r => by
      have r := NewL.d r
      dsimp only at r
      rw [f3] at r
      exact r) (e_fn ((n, ds, ss), lotOf ds ss row, h) (ok__law_flat_board T) (hr.mono (by decide)) (a_cons (e_var 1 rfl (Dt.up g d7)) (a_cons (e_var 8 rfl dl) (a_cons (e_var (P := I (h : Int)) 4 rfl (.int _)) a_nil))) kd.n8 (S := D (.list ((flatB n (lotOf ds ss row) h).map dN))) fun _ _ _ _ r => r.d) (sh_nats _) (sh_nats _)).eq (by rw [eqv_list eqv_dN]; simp)))) fun H12 g12 => ?_)
  have h12 := g.tr g12
  -- again
  refine s_cons (r_set 10 sc__law_right.nd (r_kwBlown T U (hr.mono (by decide)) ((e_var (P := I (h : Int)) 4 rfl (.int _)).run fun v0 H13 g13 a0 => (e_var (P := D (.list (row.map dS))) 3 rfl (Dt.up (h12.tr g13) r7)).run fun v1 H14 g14 a1 => (e_var (P := Sto C n (Bs ds) (Bs ss)) 2 rfl (Mono.up (h12.tr (g13.tr g14)) m7)).run fun v2 H15 g15 a2 => ⟨((n, Bs ds, Bs ss), row, h), ⟨v2, _, rfl, a2, v1, _, rfl, .inl (Dt.up g15 a1), v0, _, rfl, Dt.up (g14.tr g15) a0, rfl⟩, pre, fun v16 H16 g16 r16 => ?_⟩)))
  have h16 := h12.tr ((g13.tr g14).tr (g15.tr g16))
  have r16 := r16.d
  have m16 : Sto C n (Bs ds) (Bs ss) H16 vm := Mono.up h16 m7
  have pre0 := blown_pre (h := 0) kd hn.1 (by decide) (row := row) (by omega) hrow (by
    have h1 := manyB_le (h := 0) (Bs ds) (Bs ss) 0 row
    omega)
  have preN := blown_pre kd hn.1 h9 (row := []) (by decide) (fun st m => by simp at m) (Nat.zero_le _)
  have z0 : blowF (Bs ds) (Bs ss) 0 (flat0 n) row = [] := by
    have h1 := (row_all (h := 0) kd (by decide) row [] (lot_nil n) hrow).2.2.2
    have h2 := manyB_le (h := 0) (Bs ds) (Bs ss) (bitsOf []) row
    rw [flat_nil] at h1
    exact List.length_eq_zero_iff.mp (by omega)
  refine s_cons (s_skip (Wt.t (w_or (b1 := false) (b2 := false) ((t_neD (d := .list ((blowF (Bs ds) (Bs ss) h (flat0 n) row).map dD)) hu (e_var 10 rfl r16) (e_var 7 rfl (Dt.up h16 hH)) (sh_dDs _) (sh_dDs _)).eq (by rw [eqv_list eqv_dD]; simp)) fun _ =>
    w_or (b1 := false) (b2 := false) ((t_neD (d := .list []) hu (e_fn ((n, Bs ds, Bs ss), [], h) (ok_blown T U) (hr.mono (by decide)) (a_cons (e_var 2 rfl m16) (a_cons (P := Q2 []) ((e_lst d_nil).imp fun _ _ _ r => .inl r.d) (a_cons (e_var (P := I (h : Int)) 4 rfl (.int _)) a_nil))) preN (S := D (.list [])) fun _ _ _ _ r => NewL.d r) (e_lst d_nil).newD sh_nil sh_nil).eq (by decide)) fun _ =>
    w_or1 ((t_neD (d := .list []) hu (e_fn ((n, Bs ds, Bs ss), row, 0) (ok_blown T U) (hr.mono (by decide)) (a_cons (e_var 2 rfl m16) (a_cons (P := Q2 (row.map dS)) (e_var 3 rfl (.inl (Dt.up h16 r7))) (a_cons (P := I ((0 : Nat) : Int)) e_int a_nil))) pre0 (S := D (.list [])) fun _ _ _ _ r => by
      have r := NewL.d r
      dsimp only at r
      rw [z0] at r
      exact r) (e_lst d_nil).newD sh_nil sh_nil).eq (by decide)))) fun H17 g17 => ?_)
  have h17 := h16.tr g17
  -- doubled
  refine s_cons (s_set 11 sc__law_right.nd (e_lst d_nil).newD fun vd H18 g18 hd18 => ?_)
  have h18 := h17.tr g18
  refine s_mid (fun σ' H' => Gr H7 H' ∧ ∃ vd y, Dt H' vd (.list ((dbl row).map dS)) ∧ σ' = [some (.ref p), some vs1, some vm, some (.ref ra), some (.int (h : Int)), some vhd, some (.str (PyData.list (row.map dS)).shown), some (.ref lh), some vl, y, some v16, some vd]) (r_forL 9 sc__law_right.nd ((e_var (P := Is (.ref ra)) 3 rfl rfl).run fun v H19 g19 hv => ⟨ra, rx, hv, (h18.tr g19) _ _ hra, fun i σ' H' => Gr H7 H' ∧ ∃ vd y, Dt H' vd (.list ((dbl (row.take i)).map dS)) ∧ σ' = [some (.ref p), some vs1, some vm, some (.ref ra), some (.int (h : Int)), some vhd, some (.str (PyData.list (row.map dS)).shown), some (.ref lh), some vl, y, some v16, some vd],
    ⟨h18.tr g19, vd, y, Dt.up g19 hd18, rfl⟩, fun i σ' H' w => w.1 _ _ hra, fun i u σ' H' hu' w => ?_, fun σ' H' w => ?_⟩)) fun σ' H' w => ?_
  · obtain ⟨g, vd, y, dd, rfl⟩ := w
    obtain ⟨st, hst, dst⟩ := hrx.enc hu'
    refine s_one (s_set 11 sc__law_right.nd (e_cat (ds := (dbl (row.take i)).map dS) (es := [dS st, dS st]) (e_var 11 rfl dd) (e_lst (d_cons (e_var 9 rfl (Dt.up g dst)) (d_cons (e_var 9 rfl (Dt.up g dst)) d_nil)) (show 2 ≤ 1000 by decide)).newD (by
      rw [List.length_map, dbl_len, List.length_take]
      show 2 * min i row.length + 2 ≤ 1000
      omega)).newD fun v' H20 g20 dd' => ?_)
    refine ⟨g.tr g20, v', some u, ?_, rfl⟩
    rw [take_more1 hst, dbl_snoc, List.map_append]
    exact dd'
  · obtain ⟨g, vd, y, dd, rfl⟩ := w
    rw [hrx.encLen, List.take_length] at dd
    exact ⟨g, vd, y, dd, rfl⟩
  obtain ⟨g, vd, y, dd, rfl⟩ := w
  have m19 : Sto C n (Bs ds) (Bs ss) H' vm := Mono.up g m7
  refine s_cons (s_skip (Wt.t (w_or (b1 := false) (b2 := false) (t_not (b1 := true) (t_val (e_fn ((n, ds, ss), dbl row, h, blowF (Bs ds) (Bs ss) h (flat0 n) (dbl row)) (ok__law_follows T) (hr.mono (by decide)) (a_cons (e_var 1 rfl (Dt.up g d7)) (a_cons (e_var 11 rfl dd) (a_cons (e_var (P := I (h : Int)) 4 rfl (.int _)) (a_cons (e_fn ((n, Bs ds, Bs ss), dbl row, h) (ok_blown T U) (hr.mono (by decide)) (a_cons (e_var 2 rfl m19) (a_cons (P := Q2 ((dbl row).map dS)) (e_var 11 rfl (.inl dd)) (a_cons (e_var (P := I (h : Int)) 4 rfl (.int _)) a_nil))) preD (S := D (.list ((blowF (Bs ds) (Bs ss) h (flat0 n) (dbl row)).map dD))) fun _ _ _ _ r => NewL.d r) a_nil)))) ⟨kd.n8, kd.lot, h9, by show (blowF (Bs ds) (Bs ss) h (flat0 n) (dbl row)).length ≤ 1000; omega, e1⟩ (S := B true) fun _ _ _ _ r => r))) fun _ =>
    w_or1 ((t_neI (e_len T.b_len (a_cons (P := Q2 ((blowF (Bs ds) (Bs ss) h (flat0 n) (dbl row)).map dD)) (e_fn ((n, Bs ds, Bs ss), dbl row, h) (ok_blown T U) (hr.mono (by decide)) (a_cons (e_var 2 rfl m19) (a_cons (P := Q2 ((dbl row).map dS)) (e_var 11 rfl (.inl dd)) (a_cons (e_var (P := I (h : Int)) 4 rfl (.int _)) a_nil))) preD fun _ _ _ _ r => .inl (NewL.d r)) a_nil)) (e_len T.b_len (a_cons (P := Q2 ((blowF (Bs ds) (Bs ss) h (flat0 n) row).map dD)) (e_var 7 rfl (.inl (Dt.up g hH))) a_nil))).eq (by rw [List.length_map, List.length_map, e4', f4']; all_goals simp)))) fun H20 g20 => ?_)
  have h20 := g.tr g20
  have hlh20 := h20 _ _ hlh
  -- the history is changed; what was made before it stands
  refine s_cons (r_app (e_var 7 rfl rfl) hlh20 fun H21 g21 => (e_non).run fun vN H22 g22 hN => ⟨zh, g22 _ _ (g21 _ _ hlh20), by rw [hzh.encLen]; omega, ?_⟩)
  have h22 := h20.tr (g21.tr g22)
  have gm : Gr H6 (upd H22 lh (.lst (zh ++ [vN]))) := (g7.tr h22).mut hlh0
  have hz22 : DtA (upd H22 lh (.lst (zh ++ [vN]))) (zh ++ [vN]) ((blowF (Bs ds) (Bs ss) h (flat0 n) row).map dD ++ [.none]) := by
    refine DtA.off (h22 _ _ hlh) ((DtA.up h22 hzh).app (.one hN)) ?_
    have sa : ∀ l : List Deed, softA (l.map dD ++ [.none]) = true := fun l => by
      induction l with
      | nil => rfl
      | cons d r ih => show (soft (dD d) && softA (r.map dD ++ [.none])) = true; rw [ih, soft_dD]; rfl
    exact sa _
  refine s_one (s_ret (P := B true) ((e_eqD (d := .list ((blowF (Bs ds) (Bs ss) h (flat0 n) row).map dD)) (d' := .list ((blowF (Bs ds) (Bs ss) h (flat0 n) row).map dD)) hu (e_fn ((n, Bs ds, Bs ss), row, h) (ok_blown T U) (hr.mono (by decide)) (a_cons (e_var 2 rfl (Mono.up gm m6)) (a_cons (P := Q2 (row.map dS)) (e_var 3 rfl (.inl (Dt.up gm r6))) (a_cons (e_var (P := I (h : Int)) 4 rfl (.int _)) a_nil))) pre (S := D (.list ((blowF (Bs ds) (Bs ss) h (flat0 n) row).map dD))) fun _ _ _ _ r => NewL.d r)
    (Evp.eq (Evp.newD (e_slL (lo := none) (l := none) (u := some (-1)) (e_var (P := D (.list ((blowF (Bs ds) (Bs ss) h (flat0 n) row).map dD ++ [.none]))) 7 rfl (.lst upd_same hz22)) po_none o_none (po_some (pE _ _)) (o_some (e_neg e_int)))) ?_) (sh_dDs _) (sh_dDs _)).bl (by rw [eqv_list eqv_dD]; simp)) fun v H23 g23 r => ?_)
  · rw [HT.sIx_none, List.drop_zero]
    have e : HT.sIx ((blowF (Bs ds) (Bs ss) h (flat0 n) row).map dD ++ [PyData.none]).length ((blowF (Bs ds) (Bs ss) h (flat0 n) row).map dD ++ [PyData.none]).length (some (-1)) = ((blowF (Bs ds) (Bs ss) h (flat0 n) row).map dD).length := by
      rw [sIx_m1, List.length_append]
      rfl
    rw [e, Nat.sub_zero, List.take_left']
    rfl
  · have e : v = .bl true := Dt.bl_eq r
    rw [e]
    exact q H23
def PotP : Pd := fun H v => ∃ p, v = .ref p ∧ Pot p H
instance : Mono PotP := ⟨fun g ⟨p, h1, h2⟩ => ⟨p, h1, h2.up g⟩⟩
def sp_law (K : PySem.W.Frag) : Sp := fun vs H Q _ => ∃ (a : Addr) (ns : List Int), vs = [.ref a] ∧ SqL K H a (ns.map V.int) ∧ ∀ H', Q (.bl true) H'
theorem ok_law (T : Txt K mg) (U : Cl K mg C) {f : Addr} {fd : FuncData} (F : Fun K "law" "law" s_law f fd) : GOk P w K mg base 10 f fd p_law (sp_law K) := by
  refine gok_of F sc_law (fun vs H Q E h => by obtain ⟨a, ns, rfl, _⟩ := h; rfl) fun f cdv A outer s H vs Q E hgd hr h => ?_
  obtain ⟨a, ns, rfl, hS, q⟩ := h
  refine s_one (r_ret (r_callG (ok__law_right T U) hgd hr (Eva.run (a_cons (P := PotP) (e_fn ns (ok__law_pot T) (hr.mono (by decide)) (a_cons (P := Scr K ns) (e_var 0 rfl ⟨a, rfl, hS⟩) (a_cons (P := I 0) e_int a_nil)) trivial fun _ _ v _ ⟨p, e, _, hp⟩ => ⟨p, e, hp⟩) a_nil) fun vs H1 g1 t => ?_)))
  obtain ⟨v, r, rfl, ⟨p, rfl, hp⟩, rfl⟩ := t
  exact ⟨p, rfl, hp, q⟩
end
end K33
namespace K33
open PySem PySem.Spec PyProof.Rows L2
/-! what the top has left -/
abbrev Has (K : PySem.W.Frag) (x : Str) (st : Stmt) : Prop := ∃ (f : Addr) (oc : Value) (od : Option Addr) (kV doc pm : Value) (an : Option Addr) (cdv ct : Value) (osl : Array (Option Value)),
  PySem.W.nsIn K mainGlobals x = some (some (.ref f)) ∧ K.lookup f = some ⟨oc, od, .func (PySem.W.fnOf x x (defArgs st) (defBody st) (defScope st) .none kV doc pm an cdv ct), osl⟩ ∧ PySem.W.codeIn K cdv x = true ∧ PySem.W.keepIn K (.ref f) = true
theorem has_mk {K : PySem.W.Frag} {x : Str} {st : Stmt} {f : Addr} {oc : Value} {od : Option Addr} {kV doc pm : Value} {an : Option Addr} {cdv ct : Value} {osl : Array (Option Value)}
    (a : PySem.W.nsIn K mainGlobals x = some (some (.ref f))) (l : K.lookup f = some ⟨oc, od, .func (PySem.W.fnOf x x (defArgs st) (defBody st) (defScope st) .none kV doc pm an cdv ct), osl⟩) (c : PySem.W.codeIn K cdv x = true) (k : PySem.W.keepIn K (.ref f) = true) : Has K x st :=
  ⟨f, oc, od, kV, doc, pm, an, cdv, ct, osl, a, l, c, k⟩
theorem con_int {K : PySem.W.Frag} {x : Str} {i v : Int} {t : Tok} (e : PySem.W.nsIn K mainGlobals x = some (some (.int v t))) (h : v = i) : ∃ v t, PySem.W.nsIn K mainGlobals x = some (some (.int v t)) ∧ v = i := ⟨v, t, e, h⟩
theorem con_str {K : PySem.W.Frag} {x i v : Str} {t : Tok} (e : PySem.W.nsIn K mainGlobals x = some (some (.str v t))) (h : v = i) : ∃ v t, PySem.W.nsIn K mainGlobals x = some (some (.str v t)) ∧ v = i := ⟨v, t, e, h⟩
theorem Has.df {K : PySem.W.Frag} {h : Heap} {mg : Str → Option Value} {x : Str} {st : Stmt} (X : K.In h) (G : h.Ns mainGlobals mg) (k : Has K x st) : Df K mg x st := by
  obtain ⟨f, oc, od, kV, doc, pm, an, cdv, ct, osl, a, l, c, kp⟩ := k
  exact ⟨f, _, fun_mk l c kp, PySem.W.mg_of X G a⟩
abbrev HasC (K : PySem.W.Frag) : Prop := ∃ (C f : Addr) (oc : Value) (od : Option Addr) (kV doc pm : Value) (an : Option Addr) (cdv ct : Value) (osl : Array (Option Value)),
  PySem.W.nsIn K mainGlobals "Store" = some (some (.ref C)) ∧ PySem.W.findIn K (.ref C) "__init__" = some (some (.ref f)) ∧ PySem.W.isFn K (.ref f) = true ∧
  K.lookup f = some ⟨oc, od, .func (PySem.W.fnOf "__init__" "Store.__init__" (defArgs s_init) (defBody s_init) (defScope s_init) .none kV doc pm an cdv ct), osl⟩ ∧ PySem.W.codeIn K cdv "Store.__init__" = true ∧ PySem.W.keepIn K (.ref f) = true ∧
  PySem.W.plainGet K C Str.empty = true ∧ PySem.W.hasDictIn K C = true ∧ PySem.W.plainOver K C = true ∧ PySem.W.findIn K (.ref C) "__setattr__" = some (some (.builtin "object.__setattr__")) ∧ PySem.W.makesIn K C = true ∧ PySem.W.keepIn K (.ref C) = true ∧
  PySem.W.findIn K (.ref C) "__class__" = some (some (.builtin "object.__class__")) ∧ PySem.W.specialIn K (.builtin "object.__class__") "__get__" = some (some (.builtin "getset_descriptor.__get__")) ∧ PySem.W.takesIn K (.builtin "object.__class__") = some true ∧ PySem.W.mroIn K C (.type "object") = some true ∧
  PySem.W.findIn K (.ref C) "own_shelves" = some none ∧ PySem.W.findIn K (.ref C) "own_deliveries" = some none ∧ PySem.W.findIn K (.ref C) "own_sales" = some none ∧ PySem.W.findIn K (.ref C) "own_kept" = some none
theorem hasC_mk {K : PySem.W.Frag} {C f : Addr} {oc : Value} {od : Option Addr} {kV doc pm : Value} {an : Option Addr} {cdv ct : Value} {osl : Array (Option Value)}
    (a : PySem.W.nsIn K mainGlobals "Store" = some (some (.ref C))) (i : PySem.W.findIn K (.ref C) "__init__" = some (some (.ref f))) (fn : PySem.W.isFn K (.ref f) = true) (l : K.lookup f = some ⟨oc, od, .func (PySem.W.fnOf "__init__" "Store.__init__" (defArgs s_init) (defBody s_init) (defScope s_init) .none kV doc pm an cdv ct), osl⟩) (c : PySem.W.codeIn K cdv "Store.__init__" = true) (kf : PySem.W.keepIn K (.ref f) = true) (pg : PySem.W.plainGet K C Str.empty = true) (hd : PySem.W.hasDictIn K C = true) (po : PySem.W.plainOver K C = true) (sa : PySem.W.findIn K (.ref C) "__setattr__" = some (some (.builtin "object.__setattr__"))) (mk : PySem.W.makesIn K C = true) (kc : PySem.W.keepIn K (.ref C) = true) (hc : PySem.W.findIn K (.ref C) "__class__" = some (some (.builtin "object.__class__"))) (hg : PySem.W.specialIn K (.builtin "object.__class__") "__get__" = some (some (.builtin "getset_descriptor.__get__"))) (ht : PySem.W.takesIn K (.builtin "object.__class__") = some true) (hm : PySem.W.mroIn K C (.type "object") = some true) (n1 : PySem.W.findIn K (.ref C) "own_shelves" = some none) (n2 : PySem.W.findIn K (.ref C) "own_deliveries" = some none) (n3 : PySem.W.findIn K (.ref C) "own_sales" = some none) (n4 : PySem.W.findIn K (.ref C) "own_kept" = some none) : HasC K :=
  ⟨C, f, oc, od, kV, doc, pm, an, cdv, ct, osl, a, i, fn, l, c, kf, pg, hd, po, sa, mk, kc, hc, hg, ht, hm, n1, n2, n3, n4⟩
theorem HasC.cl {K : PySem.W.Frag} {h : Heap} {mg : Str → Option Value} (X : K.In h) (G : h.Ns mainGlobals mg) (k : HasC K) : ∃ C, Cl K mg C := by
  obtain ⟨C, f, oc, od, kV, doc, pm, an, cdv, ct, osl, a, i, fn, l, c, kf, pg, hd, po, sa, mk, kc, hc, hg, ht, hm, n1, n2, n3, n4⟩ := k
  exact ⟨C, PySem.W.mg_of X G a, ⟨⟨pg, hd, po, sa⟩, hc, hg, ht, hm, if_pos (beq_self_eq_true _)⟩, n1, n2, n3, n4, f, _, ⟨mk, i, fn, kc⟩, fun_mk l c kf⟩
theorem all_mk {l : PySem.W.OpenLaw} {w : World} {K : PySem.W.Frag} {h : Heap} {mg : Str → Option Value} {fa : Addr} (X : K.In h) (G : h.Ns mainGlobals mg) (hfa : mg "law" = some (.ref fa)) (hC : HasC K)
    (h_is_integer : Has K "is_integer" s_is_integer) (h_is_count : Has K "is_count" s_is_count) (h_is_list : Has K "is_list" s_is_list) (h_want_at_most : Has K "want_at_most" s_want_at_most)
    (h_are_shelves : Has K "are_shelves" s_are_shelves) (h_want_shelves : Has K "want_shelves" s_want_shelves) (h_is_lot_of : Has K "is_lot_of" s_is_lot_of) (h_bits_of : Has K "bits_of" s_bits_of)
    (h_spots_of : Has K "spots_of" s_spots_of) (h_told_lot : Has K "told_lot" s_told_lot) (h_is_kind : Has K "is_kind" s_is_kind) (h_are_kinds : Has K "are_kinds" s_are_kinds)
    (h_plain_kinds : Has K "plain_kinds" s_plain_kinds) (h_want_store : Has K "want_store" s_want_store) (h_is_board_of : Has K "is_board_of" s_is_board_of) (h_want_board : Has K "want_board" s_want_board)
    (h_least_in : Has K "least_in" s_least_in) (h_most_in : Has K "most_in" s_most_in) (h_is_one_of : Has K "is_one_of" s_is_one_of) (h_is_deed_of : Has K "is_deed_of" s_is_deed_of)
    (h_want_history : Has K "want_history" s_want_history) (h_is_by_custom : Has K "is_by_custom" s_is_by_custom) (h_behind : Has K "behind" s_behind) (h_played_to : Has K "played_to" s_played_to)
    (h_play_of : Has K "play_of" s_play_of) (h_played : Has K "played" s_played) (h_is_step : Has K "is_step" s_is_step) (h_is_row : Has K "is_row" s_is_row)
    (h_want_row : Has K "want_row" s_want_row) (h_end_of : Has K "end_of" s_end_of) (h_lot_at_end : Has K "lot_at_end" s_lot_at_end) (h_row_lot : Has K "row_lot" s_row_lot)
    (h_laid : Has K "laid" s_laid) (h_taken_off : Has K "taken_off" s_taken_off) (h_many_deeds : Has K "many_deeds" s_many_deeds) (h_blown_deeds : Has K "blown_deeds" s_blown_deeds)
    (h_blown : Has K "blown" s_blown) (h__law_pot : Has K "_law_pot" s__law_pot) (h__law_draw : Has K "_law_draw" s__law_draw) (h__law_pick : Has K "_law_pick" s__law_pick)
    (h__law_mixed : Has K "_law_mixed" s__law_mixed) (h__law_kinds : Has K "_law_kinds" s__law_kinds) (h__law_store : Has K "_law_store" s__law_store) (h__law_given : Has K "_law_given" s__law_given)
    (h__law_made : Has K "_law_made" s__law_made) (h__law_least : Has K "_law_least" s__law_least) (h__law_most : Has K "_law_most" s__law_most) (h__law_is_custom : Has K "_law_is_custom" s__law_is_custom)
    (h__law_behind : Has K "_law_behind" s__law_behind) (h__law_row : Has K "_law_row" s__law_row) (h__law_step : Has K "_law_step" s__law_step) (h__law_flat_board : Has K "_law_flat_board" s__law_flat_board)
    (h__law_follows : Has K "_law_follows" s__law_follows) (h__law_right : Has K "_law_right" s__law_right) (h_law : Has K "law" s_law) (z_len : PySem.W.nsIn K mainGlobals "len" = some none)
    (z_sorted : PySem.W.nsIn K mainGlobals "sorted" = some none) (z_set : PySem.W.nsIn K mainGlobals "set" = some none) (z_all : PySem.W.nsIn K mainGlobals "all" = some none) (z_min : PySem.W.nsIn K mainGlobals "min" = some none)
    (z_max : PySem.W.nsIn K mainGlobals "max" = some none) (z_isinstance : PySem.W.nsIn K mainGlobals "isinstance" = some none) (z_int : PySem.W.nsIn K mainGlobals "int" = some none) (z_bool : PySem.W.nsIn K mainGlobals "bool" = some none)
    (z_list : PySem.W.nsIn K mainGlobals "list" = some none) (z_tuple : PySem.W.nsIn K mainGlobals "tuple" = some none) (z_range : PySem.W.nsIn K mainGlobals "range" = some none) (z_str : PySem.W.nsIn K mainGlobals "str" = some none)
    (z_enumerate : PySem.W.nsIn K mainGlobals "enumerate" = some none) (z_abs : PySem.W.nsIn K mainGlobals "abs" = some none) (z_divmod : PySem.W.nsIn K mainGlobals "divmod" = some none) (z_repr : PySem.W.nsIn K mainGlobals "repr" = some none)
    (k_LEAST_SHELVES : ∃ v t, PySem.W.nsIn K mainGlobals "LEAST_SHELVES" = some (some (.int v t)) ∧ v = (2 : Int)) (k_MOST_SHELVES : ∃ v t, PySem.W.nsIn K mainGlobals "MOST_SHELVES" = some (some (.int v t)) ∧ v = (8 : Int)) (k_MOST_KINDS : ∃ v t, PySem.W.nsIn K mainGlobals "MOST_KINDS" = some (some (.int v t)) ∧ v = (8 : Int)) (k_MOST_PIECES : ∃ v t, PySem.W.nsIn K mainGlobals "MOST_PIECES" = some (some (.int v t)) ∧ v = (60 : Int))
    (k_MOST_DEEDS : ∃ v t, PySem.W.nsIn K mainGlobals "MOST_DEEDS" = some (some (.int v t)) ∧ v = (200 : Int)) (k_PUT : ∃ v t, PySem.W.nsIn K mainGlobals "PUT" = some (some (.str v t)) ∧ v = ("put" : Str)) (k_TAKE : ∃ v t, PySem.W.nsIn K mainGlobals "TAKE" = some (some (.str v t)) ∧ v = ("take" : Str)) (k_MISS : ∃ v t, PySem.W.nsIn K mainGlobals "MISS" = some (some (.str v t)) ∧ v = ("miss" : Str))
    (k_MOST_STEPS : ∃ v t, PySem.W.nsIn K mainGlobals "MOST_STEPS" = some (some (.int v t)) ∧ v = (60 : Int)) (k_MOST_HEIGHT : ∃ v t, PySem.W.nsIn K mainGlobals "MOST_HEIGHT" = some (some (.int v t)) ∧ v = (9 : Int)) (k_LAY : ∃ v t, PySem.W.nsIn K mainGlobals "LAY" = some (some (.str v t)) ∧ v = ("lay" : Str))
    : ∃ fd : FuncData, (∀ (s : Shared) (v : Value), BindsTo s fd ⟨[v], []⟩ [("_law_script", v)]) ∧ ∀ base : Heap, K.In base → base.Ns mainGlobals mg → GOk l.prog w K mg base 10 fa fd p_law (sp_law K) := by
  have T : Txt K mg := {
    d_is_integer := h_is_integer.df X G
    d_is_count := h_is_count.df X G
    d_is_list := h_is_list.df X G
    d_want_at_most := h_want_at_most.df X G
    d_are_shelves := h_are_shelves.df X G
    d_want_shelves := h_want_shelves.df X G
    d_is_lot_of := h_is_lot_of.df X G
    d_bits_of := h_bits_of.df X G
    d_spots_of := h_spots_of.df X G
    d_told_lot := h_told_lot.df X G
    d_is_kind := h_is_kind.df X G
    d_are_kinds := h_are_kinds.df X G
    d_plain_kinds := h_plain_kinds.df X G
    d_want_store := h_want_store.df X G
    d_is_board_of := h_is_board_of.df X G
    d_want_board := h_want_board.df X G
    d_least_in := h_least_in.df X G
    d_most_in := h_most_in.df X G
    d_is_one_of := h_is_one_of.df X G
    d_is_deed_of := h_is_deed_of.df X G
    d_want_history := h_want_history.df X G
    d_is_by_custom := h_is_by_custom.df X G
    d_behind := h_behind.df X G
    d_played_to := h_played_to.df X G
    d_play_of := h_play_of.df X G
    d_played := h_played.df X G
    d_is_step := h_is_step.df X G
    d_is_row := h_is_row.df X G
    d_want_row := h_want_row.df X G
    d_end_of := h_end_of.df X G
    d_lot_at_end := h_lot_at_end.df X G
    d_row_lot := h_row_lot.df X G
    d_laid := h_laid.df X G
    d_taken_off := h_taken_off.df X G
    d_many_deeds := h_many_deeds.df X G
    d_blown_deeds := h_blown_deeds.df X G
    d_blown := h_blown.df X G
    d__law_pot := h__law_pot.df X G
    d__law_draw := h__law_draw.df X G
    d__law_pick := h__law_pick.df X G
    d__law_mixed := h__law_mixed.df X G
    d__law_kinds := h__law_kinds.df X G
    d__law_store := h__law_store.df X G
    d__law_given := h__law_given.df X G
    d__law_made := h__law_made.df X G
    d__law_least := h__law_least.df X G
    d__law_most := h__law_most.df X G
    d__law_is_custom := h__law_is_custom.df X G
    d__law_behind := h__law_behind.df X G
    d__law_row := h__law_row.df X G
    d__law_step := h__law_step.df X G
    d__law_flat_board := h__law_flat_board.df X G
    d__law_follows := h__law_follows.df X G
    d__law_right := h__law_right.df X G
    d_law := h_law.df X G
    b_len := PySem.W.mg_none_of X G z_len
    b_sorted := PySem.W.mg_none_of X G z_sorted
    b_set := PySem.W.mg_none_of X G z_set
    b_all := PySem.W.mg_none_of X G z_all
    b_min := PySem.W.mg_none_of X G z_min
    b_max := PySem.W.mg_none_of X G z_max
    b_isinstance := PySem.W.mg_none_of X G z_isinstance
    b_int := PySem.W.mg_none_of X G z_int
    b_bool := PySem.W.mg_none_of X G z_bool
    b_list := PySem.W.mg_none_of X G z_list
    b_tuple := PySem.W.mg_none_of X G z_tuple
    b_range := PySem.W.mg_none_of X G z_range
    b_str := PySem.W.mg_none_of X G z_str
    b_enumerate := PySem.W.mg_none_of X G z_enumerate
    b_abs := PySem.W.mg_none_of X G z_abs
    b_divmod := PySem.W.mg_none_of X G z_divmod
    b_repr := PySem.W.mg_none_of X G z_repr
    c_LEAST_SHELVES := by obtain ⟨v, t, e, rfl⟩ := k_LEAST_SHELVES; exact ⟨t, PySem.W.mg_of X G e⟩
    c_MOST_SHELVES := by obtain ⟨v, t, e, rfl⟩ := k_MOST_SHELVES; exact ⟨t, PySem.W.mg_of X G e⟩
    c_MOST_KINDS := by obtain ⟨v, t, e, rfl⟩ := k_MOST_KINDS; exact ⟨t, PySem.W.mg_of X G e⟩
    c_MOST_PIECES := by obtain ⟨v, t, e, rfl⟩ := k_MOST_PIECES; exact ⟨t, PySem.W.mg_of X G e⟩
    c_MOST_DEEDS := by obtain ⟨v, t, e, rfl⟩ := k_MOST_DEEDS; exact ⟨t, PySem.W.mg_of X G e⟩
    c_PUT := by obtain ⟨v, t, e, rfl⟩ := k_PUT; exact ⟨t, PySem.W.mg_of X G e⟩
    c_TAKE := by obtain ⟨v, t, e, rfl⟩ := k_TAKE; exact ⟨t, PySem.W.mg_of X G e⟩
    c_MISS := by obtain ⟨v, t, e, rfl⟩ := k_MISS; exact ⟨t, PySem.W.mg_of X G e⟩
    c_MOST_STEPS := by obtain ⟨v, t, e, rfl⟩ := k_MOST_STEPS; exact ⟨t, PySem.W.mg_of X G e⟩
    c_MOST_HEIGHT := by obtain ⟨v, t, e, rfl⟩ := k_MOST_HEIGHT; exact ⟨t, PySem.W.mg_of X G e⟩
    c_LAY := by obtain ⟨v, t, e, rfl⟩ := k_LAY; exact ⟨t, PySem.W.mg_of X G e⟩ }
  obtain ⟨C, U⟩ := hC.cl X G
  obtain ⟨f, fd, F, hm⟩ := T.d_law
  have e := hfa.symm.trans hm
  cases e
  refine ⟨fd, ?_, fun base _ _ => ok_law T U F⟩
  obtain ⟨oc, od, kV, doc, pm, an, cdv, ct, osl, rfl, look, code⟩ := F.ex
  exact fun s v => .of_eq rfl
theorem walkG {l : PySem.W.OpenLaw} {q : Program} {loose : List Str} {XP : (Str → Option Value) → Heap → Prop} {YP : World → Heap → Prop} {d : DefRec} {K : Params → PySem.W.Frag} (hn : l.most = some 63) (hdf : d.params.defaults = [])
    (hY : ∀ (w : World) (h : Heap), YP w h → (K w.params).In h)
    (F : ∀ (w : World) (mg : Str → Option Value) (fa : Addr) (h : Heap), (K w.params).In h → h.Ns mainGlobals mg → mg d.name = some (.ref fa) →
      ∃ fd : FuncData, (∀ (s : Shared) (u : Value), BindsTo s fd ⟨[u], []⟩ [("_law_script", u)]) ∧ ∀ base : Heap, (K w.params).In base → base.Ns mainGlobals mg → GOk l.prog w (K w.params) mg base 10 fa fd p_law (sp_law (K w.params))) :
    PySem.W.WalkO q loose XP YP l.row.toRowW d [] (fun f vs => PySem.call f vs) := by
  refine Att.attach_call hn hdf fun w s0 s1 mg mb fa o pm cd doc a vs ns G Y ho hd hcd hmg hobj hints hlen hg => ?_
  have KX := hY w _ Y
  obtain ⟨fd, bind, hF⟩ := F w mg fa _ KX G.T.g hmg
  exact law_at KX G.T.g G.T.b G.T.builtins G.T.nolimit hg hobj hints (Nat.le_trans hlen (by decide)) ⟨rfl, by decide, by decide⟩ hF bind fun H hS => ⟨a, ns, rfl, hS, fun _ => rfl⟩
end K33
open PySem PySem.W PyProof.Rows
set_option maxRecDepth 100000 in
set_option maxHeartbeats 0 in
theorem PySem.Challenge.cw_twoabove_k33_whole_rows_blown_up_holds : PySem.Challenge.rw_twoabove_k33_whole_rows_blown_up.Holds := by
  w_on; o_law; k_head; (case hw => w_witness2)
  k_fill
  refine K33.walkG (l := PySem.Challenge.rw_twoabove_k33_whole_rows_blown_up) rfl rfl (fun w h Y => PySem.W.kIn_of Y) ?F
  case F =>
    intro w mg fa h KX G hmg
    refine' K33.all_mk KX G hmg
      ?hC ?h_is_integer ?h_is_count ?h_is_list ?h_want_at_most ?h_are_shelves ?h_want_shelves ?h_is_lot_of ?h_bits_of ?h_spots_of ?h_told_lot ?h_is_kind
      ?h_are_kinds ?h_plain_kinds ?h_want_store ?h_is_board_of ?h_want_board ?h_least_in ?h_most_in ?h_is_one_of ?h_is_deed_of ?h_want_history ?h_is_by_custom ?h_behind
      ?h_played_to ?h_play_of ?h_played ?h_is_step ?h_is_row ?h_want_row ?h_end_of ?h_lot_at_end ?h_row_lot ?h_laid ?h_taken_off ?h_many_deeds
      ?h_blown_deeds ?h_blown ?h__law_pot ?h__law_draw ?h__law_pick ?h__law_mixed ?h__law_kinds ?h__law_store ?h__law_given ?h__law_made ?h__law_least ?h__law_most
      ?h__law_is_custom ?h__law_behind ?h__law_row ?h__law_step ?h__law_flat_board ?h__law_follows ?h__law_right ?h_law ?z_len ?z_sorted ?z_set ?z_all
      ?z_min ?z_max ?z_isinstance ?z_int ?z_bool ?z_list ?z_tuple ?z_range ?z_str ?z_enumerate ?z_abs ?z_divmod
      ?z_repr ?k_LEAST_SHELVES ?k_MOST_SHELVES ?k_MOST_KINDS ?k_MOST_PIECES ?k_MOST_DEEDS ?k_PUT ?k_TAKE ?k_MISS ?k_MOST_STEPS ?k_MOST_HEIGHT ?k_LAY
    case hC =>
      refine' K33.hasC_mk ?qC_a ?qC_i ?qC_fn ?qC_l ?qC_c ?qC_kf ?qC_pg ?qC_hd ?qC_po ?qC_sa ?qC_mk ?qC_kc ?qC_hc ?qC_hg ?qC_ht ?qC_hm ?qC_n1 ?qC_n2 ?qC_n3 ?qC_n4
      case qC_a => k_is
      case qC_i => k_is
      case qC_fn => k_is
      case qC_l => k_is
      case qC_c => k_is
      case qC_kf => k_is
      case qC_pg => k_is
      case qC_hd => k_is
      case qC_po => k_is
      case qC_sa => k_is
      case qC_mk => k_is
      case qC_kc => k_is
      case qC_hc => k_is
      case qC_hg => k_is
      case qC_ht => k_is
      case qC_hm => k_is
      case qC_n1 => k_is
      case qC_n2 => k_is
      case qC_n3 => k_is
      case qC_n4 => k_is
    case h_is_integer =>
      refine' K33.has_mk ?qa_is_integer ?ql_is_integer ?qc_is_integer ?qk_is_integer
      case qa_is_integer => k_is
      case ql_is_integer => k_is
      case qc_is_integer => k_is
      case qk_is_integer => k_is
    case h_is_count =>
      refine' K33.has_mk ?qa_is_count ?ql_is_count ?qc_is_count ?qk_is_count
      case qa_is_count => k_is
      case ql_is_count => k_is
      case qc_is_count => k_is
      case qk_is_count => k_is
    case h_is_list =>
      refine' K33.has_mk ?qa_is_list ?ql_is_list ?qc_is_list ?qk_is_list
      case qa_is_list => k_is
      case ql_is_list => k_is
      case qc_is_list => k_is
      case qk_is_list => k_is
    case h_want_at_most =>
      refine' K33.has_mk ?qa_want_at_most ?ql_want_at_most ?qc_want_at_most ?qk_want_at_most
      case qa_want_at_most => k_is
      case ql_want_at_most => k_is
      case qc_want_at_most => k_is
      case qk_want_at_most => k_is
    case h_are_shelves =>
      refine' K33.has_mk ?qa_are_shelves ?ql_are_shelves ?qc_are_shelves ?qk_are_shelves
      case qa_are_shelves => k_is
      case ql_are_shelves => k_is
      case qc_are_shelves => k_is
      case qk_are_shelves => k_is
    case h_want_shelves =>
      refine' K33.has_mk ?qa_want_shelves ?ql_want_shelves ?qc_want_shelves ?qk_want_shelves
      case qa_want_shelves => k_is
      case ql_want_shelves => k_is
      case qc_want_shelves => k_is
      case qk_want_shelves => k_is
    case h_is_lot_of =>
      refine' K33.has_mk ?qa_is_lot_of ?ql_is_lot_of ?qc_is_lot_of ?qk_is_lot_of
      case qa_is_lot_of => k_is
      case ql_is_lot_of => k_is
      case qc_is_lot_of => k_is
      case qk_is_lot_of => k_is
    case h_bits_of =>
      refine' K33.has_mk ?qa_bits_of ?ql_bits_of ?qc_bits_of ?qk_bits_of
      case qa_bits_of => k_is
      case ql_bits_of => k_is
      case qc_bits_of => k_is
      case qk_bits_of => k_is
    case h_spots_of =>
      refine' K33.has_mk ?qa_spots_of ?ql_spots_of ?qc_spots_of ?qk_spots_of
      case qa_spots_of => k_is
      case ql_spots_of => k_is
      case qc_spots_of => k_is
      case qk_spots_of => k_is
    case h_told_lot =>
      refine' K33.has_mk ?qa_told_lot ?ql_told_lot ?qc_told_lot ?qk_told_lot
      case qa_told_lot => k_is
      case ql_told_lot => k_is
      case qc_told_lot => k_is
      case qk_told_lot => k_is
    case h_is_kind =>
      refine' K33.has_mk ?qa_is_kind ?ql_is_kind ?qc_is_kind ?qk_is_kind
      case qa_is_kind => k_is
      case ql_is_kind => k_is
      case qc_is_kind => k_is
      case qk_is_kind => k_is
    case h_are_kinds =>
      refine' K33.has_mk ?qa_are_kinds ?ql_are_kinds ?qc_are_kinds ?qk_are_kinds
      case qa_are_kinds => k_is
      case ql_are_kinds => k_is
      case qc_are_kinds => k_is
      case qk_are_kinds => k_is
    case h_plain_kinds =>
      refine' K33.has_mk ?qa_plain_kinds ?ql_plain_kinds ?qc_plain_kinds ?qk_plain_kinds
      case qa_plain_kinds => k_is
      case ql_plain_kinds => k_is
      case qc_plain_kinds => k_is
      case qk_plain_kinds => k_is
    case h_want_store =>
      refine' K33.has_mk ?qa_want_store ?ql_want_store ?qc_want_store ?qk_want_store
      case qa_want_store => k_is
      case ql_want_store => k_is
      case qc_want_store => k_is
      case qk_want_store => k_is
    case h_is_board_of =>
      refine' K33.has_mk ?qa_is_board_of ?ql_is_board_of ?qc_is_board_of ?qk_is_board_of
      case qa_is_board_of => k_is
      case ql_is_board_of => k_is
      case qc_is_board_of => k_is
      case qk_is_board_of => k_is
    case h_want_board =>
      refine' K33.has_mk ?qa_want_board ?ql_want_board ?qc_want_board ?qk_want_board
      case qa_want_board => k_is
      case ql_want_board => k_is
      case qc_want_board => k_is
      case qk_want_board => k_is
    case h_least_in =>
      refine' K33.has_mk ?qa_least_in ?ql_least_in ?qc_least_in ?qk_least_in
      case qa_least_in => k_is
      case ql_least_in => k_is
      case qc_least_in => k_is
      case qk_least_in => k_is
    case h_most_in =>
      refine' K33.has_mk ?qa_most_in ?ql_most_in ?qc_most_in ?qk_most_in
      case qa_most_in => k_is
      case ql_most_in => k_is
      case qc_most_in => k_is
      case qk_most_in => k_is
    case h_is_one_of =>
      refine' K33.has_mk ?qa_is_one_of ?ql_is_one_of ?qc_is_one_of ?qk_is_one_of
      case qa_is_one_of => k_is
      case ql_is_one_of => k_is
      case qc_is_one_of => k_is
      case qk_is_one_of => k_is
    case h_is_deed_of =>
      refine' K33.has_mk ?qa_is_deed_of ?ql_is_deed_of ?qc_is_deed_of ?qk_is_deed_of
      case qa_is_deed_of => k_is
      case ql_is_deed_of => k_is
      case qc_is_deed_of => k_is
      case qk_is_deed_of => k_is
    case h_want_history =>
      refine' K33.has_mk ?qa_want_history ?ql_want_history ?qc_want_history ?qk_want_history
      case qa_want_history => k_is
      case ql_want_history => k_is
      case qc_want_history => k_is
      case qk_want_history => k_is
    case h_is_by_custom =>
      refine' K33.has_mk ?qa_is_by_custom ?ql_is_by_custom ?qc_is_by_custom ?qk_is_by_custom
      case qa_is_by_custom => k_is
      case ql_is_by_custom => k_is
      case qc_is_by_custom => k_is
      case qk_is_by_custom => k_is
    case h_behind =>
      refine' K33.has_mk ?qa_behind ?ql_behind ?qc_behind ?qk_behind
      case qa_behind => k_is
      case ql_behind => k_is
      case qc_behind => k_is
      case qk_behind => k_is
    case h_played_to =>
      refine' K33.has_mk ?qa_played_to ?ql_played_to ?qc_played_to ?qk_played_to
      case qa_played_to => k_is
      case ql_played_to => k_is
      case qc_played_to => k_is
      case qk_played_to => k_is
    case h_play_of =>
      refine' K33.has_mk ?qa_play_of ?ql_play_of ?qc_play_of ?qk_play_of
      case qa_play_of => k_is
      case ql_play_of => k_is
      case qc_play_of => k_is
      case qk_play_of => k_is
    case h_played =>
      refine' K33.has_mk ?qa_played ?ql_played ?qc_played ?qk_played
      case qa_played => k_is
      case ql_played => k_is
      case qc_played => k_is
      case qk_played => k_is
    case h_is_step =>
      refine' K33.has_mk ?qa_is_step ?ql_is_step ?qc_is_step ?qk_is_step
      case qa_is_step => k_is
      case ql_is_step => k_is
      case qc_is_step => k_is
      case qk_is_step => k_is
    case h_is_row =>
      refine' K33.has_mk ?qa_is_row ?ql_is_row ?qc_is_row ?qk_is_row
      case qa_is_row => k_is
      case ql_is_row => k_is
      case qc_is_row => k_is
      case qk_is_row => k_is
    case h_want_row =>
      refine' K33.has_mk ?qa_want_row ?ql_want_row ?qc_want_row ?qk_want_row
      case qa_want_row => k_is
      case ql_want_row => k_is
      case qc_want_row => k_is
      case qk_want_row => k_is
    case h_end_of =>
      refine' K33.has_mk ?qa_end_of ?ql_end_of ?qc_end_of ?qk_end_of
      case qa_end_of => k_is
      case ql_end_of => k_is
      case qc_end_of => k_is
      case qk_end_of => k_is
    case h_lot_at_end =>
      refine' K33.has_mk ?qa_lot_at_end ?ql_lot_at_end ?qc_lot_at_end ?qk_lot_at_end
      case qa_lot_at_end => k_is
      case ql_lot_at_end => k_is
      case qc_lot_at_end => k_is
      case qk_lot_at_end => k_is
    case h_row_lot =>
      refine' K33.has_mk ?qa_row_lot ?ql_row_lot ?qc_row_lot ?qk_row_lot
      case qa_row_lot => k_is
      case ql_row_lot => k_is
      case qc_row_lot => k_is
      case qk_row_lot => k_is
    case h_laid =>
      refine' K33.has_mk ?qa_laid ?ql_laid ?qc_laid ?qk_laid
      case qa_laid => k_is
      case ql_laid => k_is
      case qc_laid => k_is
      case qk_laid => k_is
    case h_taken_off =>
      refine' K33.has_mk ?qa_taken_off ?ql_taken_off ?qc_taken_off ?qk_taken_off
      case qa_taken_off => k_is
      case ql_taken_off => k_is
      case qc_taken_off => k_is
      case qk_taken_off => k_is
    case h_many_deeds =>
      refine' K33.has_mk ?qa_many_deeds ?ql_many_deeds ?qc_many_deeds ?qk_many_deeds
      case qa_many_deeds => k_is
      case ql_many_deeds => k_is
      case qc_many_deeds => k_is
      case qk_many_deeds => k_is
    case h_blown_deeds =>
      refine' K33.has_mk ?qa_blown_deeds ?ql_blown_deeds ?qc_blown_deeds ?qk_blown_deeds
      case qa_blown_deeds => k_is
      case ql_blown_deeds => k_is
      case qc_blown_deeds => k_is
      case qk_blown_deeds => k_is
    case h_blown =>
      refine' K33.has_mk ?qa_blown ?ql_blown ?qc_blown ?qk_blown
      case qa_blown => k_is
      case ql_blown => k_is
      case qc_blown => k_is
      case qk_blown => k_is
    case h__law_pot =>
      refine' K33.has_mk ?qa__law_pot ?ql__law_pot ?qc__law_pot ?qk__law_pot
      case qa__law_pot => k_is
      case ql__law_pot => k_is
      case qc__law_pot => k_is
      case qk__law_pot => k_is
    case h__law_draw =>
      refine' K33.has_mk ?qa__law_draw ?ql__law_draw ?qc__law_draw ?qk__law_draw
      case qa__law_draw => k_is
      case ql__law_draw => k_is
      case qc__law_draw => k_is
      case qk__law_draw => k_is
    case h__law_pick =>
      refine' K33.has_mk ?qa__law_pick ?ql__law_pick ?qc__law_pick ?qk__law_pick
      case qa__law_pick => k_is
      case ql__law_pick => k_is
      case qc__law_pick => k_is
      case qk__law_pick => k_is
    case h__law_mixed =>
      refine' K33.has_mk ?qa__law_mixed ?ql__law_mixed ?qc__law_mixed ?qk__law_mixed
      case qa__law_mixed => k_is
      case ql__law_mixed => k_is
      case qc__law_mixed => k_is
      case qk__law_mixed => k_is
    case h__law_kinds =>
      refine' K33.has_mk ?qa__law_kinds ?ql__law_kinds ?qc__law_kinds ?qk__law_kinds
      case qa__law_kinds => k_is
      case ql__law_kinds => k_is
      case qc__law_kinds => k_is
      case qk__law_kinds => k_is
    case h__law_store =>
      refine' K33.has_mk ?qa__law_store ?ql__law_store ?qc__law_store ?qk__law_store
      case qa__law_store => k_is
      case ql__law_store => k_is
      case qc__law_store => k_is
      case qk__law_store => k_is
    case h__law_given =>
      refine' K33.has_mk ?qa__law_given ?ql__law_given ?qc__law_given ?qk__law_given
      case qa__law_given => k_is
      case ql__law_given => k_is
      case qc__law_given => k_is
      case qk__law_given => k_is
    case h__law_made =>
      refine' K33.has_mk ?qa__law_made ?ql__law_made ?qc__law_made ?qk__law_made
      case qa__law_made => k_is
      case ql__law_made => k_is
      case qc__law_made => k_is
      case qk__law_made => k_is
    case h__law_least =>
      refine' K33.has_mk ?qa__law_least ?ql__law_least ?qc__law_least ?qk__law_least
      case qa__law_least => k_is
      case ql__law_least => k_is
      case qc__law_least => k_is
      case qk__law_least => k_is
    case h__law_most =>
      refine' K33.has_mk ?qa__law_most ?ql__law_most ?qc__law_most ?qk__law_most
      case qa__law_most => k_is
      case ql__law_most => k_is
      case qc__law_most => k_is
      case qk__law_most => k_is
    case h__law_is_custom =>
      refine' K33.has_mk ?qa__law_is_custom ?ql__law_is_custom ?qc__law_is_custom ?qk__law_is_custom
      case qa__law_is_custom => k_is
      case ql__law_is_custom => k_is
      case qc__law_is_custom => k_is
      case qk__law_is_custom => k_is
    case h__law_behind =>
      refine' K33.has_mk ?qa__law_behind ?ql__law_behind ?qc__law_behind ?qk__law_behind
      case qa__law_behind => k_is
      case ql__law_behind => k_is
      case qc__law_behind => k_is
      case qk__law_behind => k_is
    case h__law_row =>
      refine' K33.has_mk ?qa__law_row ?ql__law_row ?qc__law_row ?qk__law_row
      case qa__law_row => k_is
      case ql__law_row => k_is
      case qc__law_row => k_is
      case qk__law_row => k_is
    case h__law_step =>
      refine' K33.has_mk ?qa__law_step ?ql__law_step ?qc__law_step ?qk__law_step
      case qa__law_step => k_is
      case ql__law_step => k_is
      case qc__law_step => k_is
      case qk__law_step => k_is
    case h__law_flat_board =>
      refine' K33.has_mk ?qa__law_flat_board ?ql__law_flat_board ?qc__law_flat_board ?qk__law_flat_board
      case qa__law_flat_board => k_is
      case ql__law_flat_board => k_is
      case qc__law_flat_board => k_is
      case qk__law_flat_board => k_is
    case h__law_follows =>
      refine' K33.has_mk ?qa__law_follows ?ql__law_follows ?qc__law_follows ?qk__law_follows
      case qa__law_follows => k_is
      case ql__law_follows => k_is
      case qc__law_follows => k_is
      case qk__law_follows => k_is
    case h__law_right =>
      refine' K33.has_mk ?qa__law_right ?ql__law_right ?qc__law_right ?qk__law_right
      case qa__law_right => k_is
      case ql__law_right => k_is
      case qc__law_right => k_is
      case qk__law_right => k_is
    case h_law =>
      refine' K33.has_mk ?qa_law ?ql_law ?qc_law ?qk_law
      case qa_law => k_is
      case ql_law => k_is
      case qc_law => k_is
      case qk_law => k_is
    case z_len => k_is
    case z_sorted => k_is
    case z_set => k_is
    case z_all => k_is
    case z_min => k_is
    case z_max => k_is
    case z_isinstance => k_is
    case z_int => k_is
    case z_bool => k_is
    case z_list => k_is
    case z_tuple => k_is
    case z_range => k_is
    case z_str => k_is
    case z_enumerate => k_is
    case z_abs => k_is
    case z_divmod => k_is
    case z_repr => k_is
    case k_LEAST_SHELVES =>
      refine' K33.con_int ?qt_LEAST_SHELVES ?qv_LEAST_SHELVES
      case qt_LEAST_SHELVES => k_is
      case qv_LEAST_SHELVES => decide +kernel
    case k_MOST_SHELVES =>
      refine' K33.con_int ?qt_MOST_SHELVES ?qv_MOST_SHELVES
      case qt_MOST_SHELVES => k_is
      case qv_MOST_SHELVES => decide +kernel
    case k_MOST_KINDS =>
      refine' K33.con_int ?qt_MOST_KINDS ?qv_MOST_KINDS
      case qt_MOST_KINDS => k_is
      case qv_MOST_KINDS => decide +kernel
    case k_MOST_PIECES =>
      refine' K33.con_int ?qt_MOST_PIECES ?qv_MOST_PIECES
      case qt_MOST_PIECES => k_is
      case qv_MOST_PIECES => decide +kernel
    case k_MOST_DEEDS =>
      refine' K33.con_int ?qt_MOST_DEEDS ?qv_MOST_DEEDS
      case qt_MOST_DEEDS => k_is
      case qv_MOST_DEEDS => decide +kernel
    case k_PUT =>
      refine' K33.con_str ?qt_PUT ?qv_PUT
      case qt_PUT => k_is
      case qv_PUT => decide +kernel
    case k_TAKE =>
      refine' K33.con_str ?qt_TAKE ?qv_TAKE
      case qt_TAKE => k_is
      case qv_TAKE => decide +kernel
    case k_MISS =>
      refine' K33.con_str ?qt_MISS ?qv_MISS
      case qt_MISS => k_is
      case qv_MISS => decide +kernel
    case k_MOST_STEPS =>
      refine' K33.con_int ?qt_MOST_STEPS ?qv_MOST_STEPS
      case qt_MOST_STEPS => k_is
      case qv_MOST_STEPS => decide +kernel
    case k_MOST_HEIGHT =>
      refine' K33.con_int ?qt_MOST_HEIGHT ?qv_MOST_HEIGHT
      case qt_MOST_HEIGHT => k_is
      case qv_MOST_HEIGHT => decide +kernel
    case k_LAY =>
      refine' K33.con_str ?qt_LAY ?qv_LAY
      case qt_LAY => k_is
      case qv_LAY => decide +kernel
