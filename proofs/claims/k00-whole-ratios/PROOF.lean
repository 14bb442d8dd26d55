import PyProof.Rows.All
import Wide.All
import OpenK.AllK
import Wide.FinOn
import HandS.ForMost
import HandS.ForExc
import HandS.Wide
import HandS.WideBits
import HandS.IsInst
import HandS.Evl
import HandS.Star
import HandS.HotCalls
import HandS.ExcIs
import HandS.Codes
import HandS.Text
import HandS.Style
import HandS.FStr
import HandS.WideMore
import HandS.ReplaceLit
import HandS.RevTup
import HandS.Rev
import PyProof.SumWalkG
import PyProof.WalkInts
import PySem.Challenge.RW_withinwidth_k00_whole_ratios
set_option Elab.async false
set_option linter.all false
set_option maxRecDepth 100000
set_option maxHeartbeats 9000000
set_option exponentiation.threshold 999
/-! D1: expressions that come to data (PyData), over a heap of which a part G never changes. -/
namespace DL
open PySem PySem.Spec PyProof.Rows L2

abbrev D := PyData
abbrev Ex (H H' : Hp) : Prop := Evl.Ex H H'
/-- from what is known (G, within H) to what is known behind (G', within H'); what is newly known is new -/
structure Nx (G H G' H' : Hp) : Prop where
  g : Ex G G'
  h : Ex H H'
  gh : Ex G' H'
  fr : ∀ a, G' a ≠ Option.none → G a ≠ Option.none ∨ H a = Option.none
theorem Nx.refl {G H : Hp} (e : Ex G H) : Nx G H G H := ⟨Evl.Ex.refl _, Evl.Ex.refl _, e, fun _ h => .inl h⟩
theorem Nx.trans {G H G1 H1 G2 H2 : Hp} (a : Nx G H G1 H1) (b : Nx G1 H1 G2 H2) : Nx G H G2 H2 :=
  ⟨a.g.trans b.g, a.h.trans b.h, b.gh, fun x h => by
    rcases b.fr x h with q | q
    · exact a.fr x q
    · exact .inr (Evl.fresh_back a.h q)⟩
/-- a new object, known from now on -/
theorem Nx.new {G H : Hp} (e : Ex G H) {p : Addr} {o : HO} (hp : H p = Option.none) : Nx G H (upd G p o) (upd H p o) := by
  have gp : G p = Option.none := Evl.fresh_back e hp
  refine ⟨Evl.Ex.new gp, Evl.Ex.new hp, fun a u q => ?_, fun a q => ?_⟩
  · by_cases h : a = p
    · subst h; rw [upd_same] at q ⊢; exact q
    · rw [upd_ne h] at q ⊢; exact e a u q
  · by_cases h : a = p
    · subst h; exact .inr hp
    · rw [upd_ne h] at q; exact .inl q
/-- what stands beside the known part stays beside it -/
theorem Nx.beside {G H G' H' : Hp} (n : Nx G H G' H') {l : Addr} {o : HO} (h1 : G l = Option.none) (h2 : H l = some o) : G' l = Option.none ∧ H' l = some o := by
  refine ⟨?_, n.h l o h2⟩
  cases q : G' l with
  | none => rfl
  | some u =>
    rcases n.fr l (by rw [q]; exact fun z => nomatch z) with z | z
    · exact absurd h1 z
    · rw [h2] at z; cases z

section
variable {K : PySem.W.Frag} {H H' : Hp}
mutual
theorem Dp.mono (e : Ex H H') : ∀ {v : V} {d : D}, Dp K H v d → Dp K H' v d
  | _, _, .non => .non
  | _, _, .bl b => .bl b
  | _, _, .int i => .int i
  | _, _, .str x => .str x
  | _, _, .lst h r => .lst (Evl.ex_l e h) (DpAll.mono e r)
  | _, _, .tup h r => .tup (Evl.ex_t e h) (DpAll.mono e r)
theorem DpAll.mono (e : Ex H H') : ∀ {vs : List V} {ds : List D}, DpAll K H vs ds → DpAll K H' vs ds
  | _, _, .nil => .nil
  | _, _, .cons h r => .cons (Dp.mono e h) (DpAll.mono e r)
end
theorem Dp.int_inv {v : V} {i : Int} (h : Dp K H v (.int i)) : v = .int i := by cases h; rfl
theorem Dp.str_inv {v : V} {x : Str} (h : Dp K H v (.str x)) : v = .str x := by cases h; rfl
theorem Dp.bl_inv {v : V} {b : Bool} (h : Dp K H v (.bool b)) : v = .bl b := by cases h; rfl
theorem Dp.non_inv {v : V} (h : Dp K H v .none) : v = .non := by cases h; rfl
theorem Dp.tup_inv {v : V} {ds : List D} (h : Dp K H v (.tuple ds)) : ∃ a xs, v = .ref a ∧ SqT K H a xs ∧ DpAll K H xs ds := by
  cases h with
  | tup h r => exact ⟨_, _, rfl, h, r⟩
theorem Dp.lst_inv {v : V} {ds : List D} (h : Dp K H v (.list ds)) : ∃ a xs, v = .ref a ∧ SqL K H a xs ∧ DpAll K H xs ds := by
  cases h with
  | lst h r => exact ⟨_, _, rfl, h, r⟩
theorem DpAll.len : ∀ {vs : List V} {ds : List D}, DpAll K H vs ds → vs.length = ds.length
  | _, _, .nil => rfl
  | _, _, .cons _ r => congrArg (· + 1) (DpAll.len r)
theorem DpAll.get : ∀ {vs : List V} {ds : List D} {j : Nat} {d : D}, DpAll K H vs ds → ds[j]? = some d → ∃ v, vs[j]? = some v ∧ Dp K H v d
  | _, _, _, _, .nil, e => by simp at e
  | _, _, 0, _, .cons h _, e => by simp at e; subst e; exact ⟨_, rfl, h⟩
  | _, _, j + 1, _, .cons _ r, e => by
    obtain ⟨v, h1, h2⟩ := DpAll.get (j := j) r (by simpa using e)
    exact ⟨v, by simpa using h1, h2⟩
theorem DpAll.getV : ∀ {vs : List V} {ds : List D} {j : Nat} {v : V}, DpAll K H vs ds → vs[j]? = some v → ∃ d, ds[j]? = some d ∧ Dp K H v d
  | _, _, _, _, .nil, e => by simp at e
  | _, _, 0, _, .cons h _, e => by simp at e; subst e; exact ⟨_, rfl, h⟩
  | _, _, j + 1, _, .cons _ r, e => by
    obtain ⟨v, h1, h2⟩ := DpAll.getV (j := j) r (by simpa using e)
    exact ⟨v, by simpa using h1, h2⟩
theorem DpAll.append : ∀ {vs ws : List V} {ds es : List D}, DpAll K H vs ds → DpAll K H ws es → DpAll K H (vs ++ ws) (ds ++ es)
  | _, _, _, _, .nil, s => s
  | _, _, _, _, .cons h r, s => .cons h (DpAll.append r s)
theorem DpAll.map_inv {α : Type} {f : α → D} {g : α → V} (hf : ∀ v a, Dp K H v (f a) → v = g a) : ∀ {l : List α} {vs : List V}, DpAll K H vs (l.map f) → vs = l.map g
  | [], _, .nil => rfl
  | _ :: _, _, .cons h r => by rw [hf _ _ h, DpAll.map_inv hf r]; rfl
theorem DpAll.ints_inv {l : List Int} {vs : List V} (h : DpAll K H vs (l.map PyData.int)) : vs = l.map V.int := DpAll.map_inv (fun _ _ h => Dp.int_inv h) h
theorem DpAll.bls_inv {l : List Bool} {vs : List V} (h : DpAll K H vs (l.map PyData.bool)) : vs = l.map V.bl := DpAll.map_inv (fun _ _ h => Dp.bl_inv h) h
theorem DpAll.strs_inv {l : List Str} {vs : List V} (h : DpAll K H vs (l.map PyData.str)) : vs = l.map V.str := DpAll.map_inv (fun _ _ h => Dp.str_inv h) h
theorem DpAll.ints {l : List Int} : DpAll K H (l.map V.int) (l.map PyData.int) := by
  induction l with
  | nil => exact .nil
  | cons a r ih => exact .cons (.int a) ih
theorem DpAll.rev {vs : List V} {ds : List D} (h : DpAll K H vs ds) : DpAll K H vs.reverse ds.reverse := by
  induction vs generalizing ds with
  | nil => cases h; exact .nil
  | cons v vs ih =>
    cases h with
    | cons h r =>
      rw [List.reverse_cons, List.reverse_cons]
      exact DpAll.append (ih r) (.cons h .nil)
end

/-! ### any reading -/
def wE (X : Cx) (e : Expr) : TE := fun σ H Q => ∃ t : TE, PE X e t ∧ t σ H Q
def wT (X : Cx) (e : Expr) : TT := fun σ H Q => ∃ t : TT, PT X e t ∧ t σ H Q
def wW (X : Cx) (e : Expr) : TT := fun σ H Q => ∃ t : TT, PW X e t ∧ t σ H Q
def wA (X : Cx) (es : List Expr) : TA := fun σ H Q => ∃ t : TA, PA X es t ∧ t σ H Q
def wS (X : Cx) (st : Stmt) : TS := fun Z σ H => ∃ t : TS, PS X st t ∧ t Z σ H
def wB (X : Cx) (st : List Stmt) : TS := fun Z σ H => ∃ t : TS, PSs X st t ∧ t Z σ H
section
variable {X : Cx}
theorem pe_w {e : Expr} : PE X e (wE X e) := ⟨fun pins s σ H Q I ⟨_, h, q⟩ => h.run pins s σ H Q I q⟩
theorem pt_w {e : Expr} : PT X e (wT X e) := ⟨fun pins s σ H Q I ⟨_, h, q⟩ => h.run pins s σ H Q I q⟩
theorem pw_w {e : Expr} : PW X e (wW X e) := ⟨fun wh pins s σ H Q I ⟨_, h, q⟩ => h.run wh pins s σ H Q I q⟩
theorem pa_w {es : List Expr} : PA X es (wA X es) := ⟨fun pos pins s σ H Q I ⟨_, h, q⟩ => h.run pos pins s σ H Q I q⟩
theorem ps_w {st : Stmt} : PS X st (wS X st) := ⟨fun pins s σ H Z I ⟨_, h, q⟩ => h.run pins s σ H Z I q⟩
theorem pss_w {st : List Stmt} : PSs X st (wB X st) := ⟨fun pins s σ H Z I ⟨_, h, q⟩ => h.run pins s σ H Z I q⟩
end

/-- e comes to d, wherever G is known -/
def E (X : Cx) (e : Expr) (σ : L2.St) (G : Hp) (d : D) : Prop :=
  ∀ G1 H1, Ex G G1 → Ex G1 H1 → ∀ Q : VK, (∀ v G2 H2, Nx G1 H1 G2 H2 → Dp X.K G2 v d → Q v H2) → wE X e σ H1 Q
def T (X : Cx) (e : Expr) (σ : L2.St) (G : Hp) (b : Bool) : Prop :=
  ∀ G1 H1, Ex G G1 → Ex G1 H1 → ∀ Q : Bool → Hp → Prop, (∀ G2 H2, Nx G1 H1 G2 H2 → Q b H2) → wT X e σ H1 Q
def TW (X : Cx) (e : Expr) (σ : L2.St) (G : Hp) (b : Bool) : Prop :=
  ∀ G1 H1, Ex G G1 → Ex G1 H1 → ∀ Q : Bool → Hp → Prop, (∀ G2 H2, Nx G1 H1 G2 H2 → Q b H2) → wW X e σ H1 Q
def A (X : Cx) (es : List Expr) (σ : L2.St) (G : Hp) (ds : List D) : Prop :=
  ∀ G1 H1, Ex G G1 → Ex G1 H1 → ∀ Q : List V → Hp → Prop, (∀ vs G2 H2, Nx G1 H1 G2 H2 → DpAll X.K G2 vs ds → Q vs H2) → wA X es σ H1 Q

section
variable {X : Cx} {σ : L2.St} {G G' : Hp} {a b c e : Expr} {es : List Expr} {pos p : Pos} {d d' da db dc : D} {i j : Int} {x : Str}
theorem E.mono (h : E X e σ G d) (g : Ex G G') : E X e σ G' d := fun G1 H1 g1 gh => h G1 H1 (g.trans g1) gh
theorem T.mono {k : Bool} (h : T X e σ G k) (g : Ex G G') : T X e σ G' k := fun G1 H1 g1 gh => h G1 H1 (g.trans g1) gh
theorem e_is (h : E X e σ G d) (q : d = d') : E X e σ G d' := q ▸ h
theorem t_is {k k' : Bool} (h : T X e σ G k) (q : k = k') : T X e σ G k' := q ▸ h
theorem e_var (n : Nat) {v : V} (hd : Dp X.K G v d) (hs : σ[n]? = some (some v) := by rfl) (hN : X.N[n]? = some x := by rfl)
    (hv : Vis X.env.scope x := by first | exact Or.inl rfl | exact Or.inr (Or.inl rfl) | exact Or.inr (Or.inr rfl)) (h1 : (x == ("__debug__" : Str)) = false := by decide) (h2 : (x == ("__classdict__" : Str)) = false := by decide) : E X (.Name x pos) σ G d :=
  fun G1 H1 g gh Q k => ⟨_, pe_var hN hv h1 h2, v, hs, k v G1 H1 (Nx.refl gh) (Dp.mono g hd)⟩
theorem e_int {n : Nat} : E X (.Constant (.int i) n pos) σ G (.int i) := fun G1 H1 _ gh Q k => ⟨_, pe_int, k _ G1 H1 (Nx.refl gh) (.int i)⟩
theorem e_bl {k : Bool} {n : Nat} : E X (.Constant (.bool k) n pos) σ G (.bool k) := fun G1 H1 _ gh Q q => ⟨_, pe_bl, q _ G1 H1 (Nx.refl gh) (.bl k)⟩
theorem e_non {n : Nat} : E X (.Constant .none n pos) σ G .none := fun G1 H1 _ gh Q q => ⟨_, pe_non, q _ G1 H1 (Nx.refl gh) .non⟩
theorem e_str {s : Str} {n : Nat} : E X (.Constant (.str s) n pos) σ G (.str s) := fun G1 H1 _ gh Q q => ⟨_, pe_str, q _ G1 H1 (Nx.refl gh) (.str s)⟩
/-- a module's number -/
theorem e_globI {u : Value} (hm : X.mg x = some u) (r : RelV (.int i) u) (hg : Gl X x := by rfl) (h1 : (x == ("__debug__" : Str)) = false := by decide) : E X (.Name x pos) σ G (.int i) :=
  fun G1 H1 _ gh Q k => ⟨_, pe_glob hg hm r h1, k _ G1 H1 (Nx.refl gh) (.int i)⟩

/-! operators -/
theorem e_op {op : Operator} {r : R2} (ho : OpR X (binaryOp op) r) (ha : E X a σ G da) (hb : E X b σ G db)
    (hr : ∀ u v G1 H1, Ex G G1 → Ex G1 H1 → Dp X.K G1 u da → Dp X.K G1 v db → ∀ Q : VK, (∀ w G2 H2, Nx G1 H1 G2 H2 → Dp X.K G2 w d → Q w H2) → r u v H1 Q) : E X (.BinOp a op b pos) σ G d := fun G1 H1 g gh Q k =>
  ⟨_, pe_op ho pe_w pe_w, ha G1 H1 g gh _ fun u G2 H2 n hu => hb G2 H2 (g.trans n.g) n.gh _ fun v G3 H3 n2 hv =>
    hr u v G3 H3 ((g.trans n.g).trans n2.g) n2.gh (Dp.mono n2.g hu) hv Q fun w G4 H4 n3 hw => k w G4 H4 ((n.trans n2).trans n3) hw⟩
theorem e_opI {op : Operator} {C : Int → Int → Prop} {g : Int → Int → V} {z : Int} (ho : OpR X (binaryOp op) (rI C g)) (ha : E X a σ G (.int i)) (hb : E X b σ G (.int j)) (hc : C i j) (hz : g i j = .int z) : E X (.BinOp a op b pos) σ G (.int z) :=
  e_op ho ha hb fun u v G1 H1 _ gh hu hv Q k => by
    cases hu; cases hv
    exact ⟨i, j, rfl, rfl, hc, k _ G1 H1 (Nx.refl gh) (by rw [hz]; exact .int z)⟩
theorem e_opI0 {op : Operator} {g : Int → Int → V} {z : Int} (ho : OpR X (binaryOp op) (rI0 g)) (ha : E X a σ G (.int i)) (hb : E X b σ G (.int j)) (hz : g i j = .int z) : E X (.BinOp a op b pos) σ G (.int z) :=
  e_op ho ha hb fun u v G1 H1 _ gh hu hv Q k => by
    cases hu; cases hv
    exact ⟨i, j, rfl, rfl, k _ G1 H1 (Nx.refl gh) (by rw [hz]; exact .int z)⟩
theorem e_add (ha : E X a σ G (.int i)) (hb : E X b σ G (.int j)) : E X (.BinOp a .Add b pos) σ G (.int (i + j)) := e_opI0 op_add ha hb rfl
theorem e_sub (ha : E X a σ G (.int i)) (hb : E X b σ G (.int j)) : E X (.BinOp a .Sub b pos) σ G (.int (i - j)) := e_opI0 op_sub ha hb rfl
theorem e_mul (ha : E X a σ G (.int i)) (hb : E X b σ G (.int j)) (hc : CMulW i j) : E X (.BinOp a .Mult b pos) σ G (.int (i * j)) := e_opI op_mulW ha hb hc rfl
theorem e_div (ha : E X a σ G (.int i)) (hb : E X b σ G (.int j)) (hc : CDivW i j) : E X (.BinOp a .FloorDiv b pos) σ G (.int (i / j)) := e_opI op_fdivW ha hb hc rfl
theorem e_mod (ha : E X a σ G (.int i)) (hb : E X b σ G (.int j)) (hc : 0 < j) : E X (.BinOp a .Mod b pos) σ G (.int (i % j)) := e_opI op_mod ha hb hc rfl
theorem e_shl (ha : E X a σ G (.int i)) (hb : E X b σ G (.int j)) (hc : CShl i j) : E X (.BinOp a .LShift b pos) σ G (.int (i * 2 ^ j.toNat)) := e_opI op_shlW ha hb hc rfl
theorem e_un {op : UnaryOp} {r : V → Hp → VK → Prop} (ho : UnR X (unaryOp op) r) (ha : E X a σ G da)
    (hr : ∀ u G1 H1, Ex G G1 → Ex G1 H1 → Dp X.K G1 u da → ∀ Q : VK, (∀ w G2 H2, Nx G1 H1 G2 H2 → Dp X.K G2 w d → Q w H2) → r u H1 Q) : E X (.UnaryOp op a pos) σ G d := fun G1 H1 g gh Q k =>
  ⟨_, pe_un ho pe_w, ha G1 H1 g gh _ fun u G2 H2 n hu => hr u G2 H2 (g.trans n.g) n.gh hu Q fun w G4 H4 n3 hw => k w G4 H4 (n.trans n3) hw⟩
theorem e_neg (ha : E X a σ G (.int i)) : E X (.UnaryOp .USub a pos) σ G (.int (-i)) := e_un un_neg ha fun u G1 H1 _ gh hu Q k => by
  cases hu
  exact ⟨i, rfl, k _ G1 H1 (Nx.refl gh) (.int _)⟩
theorem e_addS {s t : Str} (ha : E X a σ G (.str s)) (hb : E X b σ G (.str t)) (hc : s.length + t.length ≤ sizeLine) : E X (.BinOp a .Add b pos) σ G (.str (s ++ t)) :=
  e_op op_add_str ha hb fun u v G1 H1 _ gh hu hv Q k => by
    cases hu; cases hv
    exact ⟨s, t, rfl, rfl, hc, k _ G1 H1 (Nx.refl gh) (.str _)⟩

/-! comparisons: as values, as tests -/
theorem e_cmp {op : CmpOp} {r : R2} {k : Bool} (ho : OpR X (compareOp op) r) (hm : behindInMarks op b = false) (ha : E X a σ G da) (hb : E X b σ G db)
    (hr : ∀ u v G1 H1, Ex G G1 → Ex G1 H1 → Dp X.K G1 u da → Dp X.K G1 v db → ∀ Q : VK, Q (.bl k) H1 → r u v H1 Q) : E X (.Compare a [op] [b] pos) σ G (.bool k) := fun G1 H1 g gh Q q =>
  ⟨_, pe_cmpR ho pe_w pe_w hm, ha G1 H1 g gh _ fun u G2 H2 n hu => hb G2 H2 (g.trans n.g) n.gh _ fun v G3 H3 n2 hv =>
    hr u v G3 H3 ((g.trans n.g).trans n2.g) n2.gh (Dp.mono n2.g hu) hv Q (q _ G3 H3 (n.trans n2) (.bl k))⟩
theorem t_cmp {op : CmpOp} {r : R2} {k : Bool} (ho : OpR X (compareOp op) r) (hm : behindInMarks op b = false) (ha : E X a σ G da) (hb : E X b σ G db)
    (hr : ∀ u v G1 H1, Ex G G1 → Ex G1 H1 → Dp X.K G1 u da → Dp X.K G1 v db → ∀ Q : VK, Q (.bl k) H1 → r u v H1 Q) : T X (.Compare a [op] [b] pos) σ G k := fun G1 H1 g gh Q q =>
  ⟨_, pt_cmpR ho pe_w pe_w hm, ha G1 H1 g gh _ fun u G2 H2 n hu => hb G2 H2 (g.trans n.g) n.gh _ fun v G3 H3 n2 hv =>
    hr u v G3 H3 ((g.trans n.g).trans n2.g) n2.gh (Dp.mono n2.g hu) hv _ ⟨k, rfl, q G3 H3 (n.trans n2)⟩⟩
theorem r_int {f : Int → Int → Bool} {G1 H1 : Hp} {u v : V} (hu : Dp X.K G1 u (.int i)) (hv : Dp X.K G1 v (.int j)) (Q : VK) (q : Q (.bl (f i j)) H1) : rI0 (fun i j => .bl (f i j)) u v H1 Q := by
  cases hu; cases hv
  exact ⟨i, j, rfl, rfl, q⟩
theorem e_lt (ha : E X a σ G (.int i)) (hb : E X b σ G (.int j)) : E X (.Compare a [.Lt] [b] pos) σ G (.bool (decide (i < j))) := e_cmp op_lt (nomark _) ha hb fun _ _ _ _ _ _ hu hv Q q => r_int hu hv Q q
theorem e_le (ha : E X a σ G (.int i)) (hb : E X b σ G (.int j)) : E X (.Compare a [.LtE] [b] pos) σ G (.bool (decide (i ≤ j))) := e_cmp op_le (nomark _) ha hb fun _ _ _ _ _ _ hu hv Q q => r_int (f := fun i j => decide (i ≤ j)) hu hv Q q
theorem e_gt (ha : E X a σ G (.int i)) (hb : E X b σ G (.int j)) : E X (.Compare a [.Gt] [b] pos) σ G (.bool (decide (j < i))) := e_cmp op_gt (nomark _) ha hb fun _ _ _ _ _ _ hu hv Q q => r_int (f := fun i j => decide (j < i)) hu hv Q q
theorem e_ge (ha : E X a σ G (.int i)) (hb : E X b σ G (.int j)) : E X (.Compare a [.GtE] [b] pos) σ G (.bool (decide (j ≤ i))) := e_cmp op_ge (nomark _) ha hb fun _ _ _ _ _ _ hu hv Q q => r_int (f := fun i j => decide (j ≤ i)) hu hv Q q
theorem t_lt (ha : E X a σ G (.int i)) (hb : E X b σ G (.int j)) : T X (.Compare a [.Lt] [b] pos) σ G (decide (i < j)) := t_cmp op_lt (nomark _) ha hb fun _ _ _ _ _ _ hu hv Q q => r_int hu hv Q q
theorem t_le (ha : E X a σ G (.int i)) (hb : E X b σ G (.int j)) : T X (.Compare a [.LtE] [b] pos) σ G (decide (i ≤ j)) := t_cmp op_le (nomark _) ha hb fun _ _ _ _ _ _ hu hv Q q => r_int (f := fun i j => decide (i ≤ j)) hu hv Q q
theorem t_gt (ha : E X a σ G (.int i)) (hb : E X b σ G (.int j)) : T X (.Compare a [.Gt] [b] pos) σ G (decide (j < i)) := t_cmp op_gt (nomark _) ha hb fun _ _ _ _ _ _ hu hv Q q => r_int (f := fun i j => decide (j < i)) hu hv Q q
theorem t_ge (ha : E X a σ G (.int i)) (hb : E X b σ G (.int j)) : T X (.Compare a [.GtE] [b] pos) σ G (decide (j ≤ i)) := t_cmp op_ge (nomark _) ha hb fun _ _ _ _ _ _ hu hv Q q => r_int (f := fun i j => decide (j ≤ i)) hu hv Q q
/-- == of scalars -/
def vOf : D → V
  | .none => .non
  | .bool b => .bl b
  | .int i => .int i
  | .str s => .str s
  | _ => .non
def isSc : D → Bool
  | .none => true
  | .bool _ => true
  | .int _ => true
  | .str _ => true
  | _ => false
theorem sc_inv {K : PySem.W.Frag} {H : Hp} {v : V} {d : D} (h : Dp K H v d) (s : isSc d = true) : v = vOf d := by
  cases h <;> first | rfl | cases s
theorem e_eq (ha : E X a σ G da) (hb : E X b σ G db) (s1 : isSc da = true) (s2 : isSc db = true) (hs : scal (vOf da) (vOf db) = true) : E X (.Compare a [.Eq] [b] pos) σ G (.bool (decide (vOf da = vOf db))) :=
  e_cmp op_eq (nomark _) ha hb fun u v G1 H1 _ _ hu hv Q q => by rw [sc_inv hu s1, sc_inv hv s2]; exact ⟨hs, q⟩
theorem t_eq (ha : E X a σ G da) (hb : E X b σ G db) (s1 : isSc da = true) (s2 : isSc db = true) (hs : scal (vOf da) (vOf db) = true) : T X (.Compare a [.Eq] [b] pos) σ G (decide (vOf da = vOf db)) :=
  t_cmp op_eq (nomark _) ha hb fun u v G1 H1 _ _ hu hv Q q => by rw [sc_inv hu s1, sc_inv hv s2]; exact ⟨hs, q⟩
theorem e_ne (ha : E X a σ G da) (hb : E X b σ G db) (s1 : isSc da = true) (s2 : isSc db = true) (hs : scal (vOf da) (vOf db) = true) : E X (.Compare a [.NotEq] [b] pos) σ G (.bool (!decide (vOf da = vOf db))) :=
  e_cmp op_ne (nomark _) ha hb fun u v G1 H1 _ _ hu hv Q q => by rw [sc_inv hu s1, sc_inv hv s2]; exact ⟨hs, q⟩
theorem t_ne (ha : E X a σ G da) (hb : E X b σ G db) (s1 : isSc da = true) (s2 : isSc db = true) (hs : scal (vOf da) (vOf db) = true) : T X (.Compare a [.NotEq] [b] pos) σ G (!decide (vOf da = vOf db)) :=
  t_cmp op_ne (nomark _) ha hb fun u v G1 H1 _ _ hu hv Q q => by rw [sc_inv hu s1, sc_inv hv s2]; exact ⟨hs, q⟩
theorem decV (i j : Int) : decide (V.int i = V.int j) = decide (i = j) := by
  by_cases h : i = j
  · subst h; simp
  · have q : ¬ V.int i = V.int j := fun z => h (V.int.inj z)
    rw [decide_eq_false h, decide_eq_false q]
theorem e_eqI (ha : E X a σ G (.int i)) (hb : E X b σ G (.int j)) : E X (.Compare a [.Eq] [b] pos) σ G (.bool (decide (i = j))) := e_is (e_eq ha hb rfl rfl rfl) (by show PyData.bool (decide (V.int i = V.int j)) = _; rw [decV])
theorem t_eqI (ha : E X a σ G (.int i)) (hb : E X b σ G (.int j)) : T X (.Compare a [.Eq] [b] pos) σ G (decide (i = j)) := t_is (t_eq ha hb rfl rfl rfl) (decV i j)
theorem e_neI (ha : E X a σ G (.int i)) (hb : E X b σ G (.int j)) : E X (.Compare a [.NotEq] [b] pos) σ G (.bool (!decide (i = j))) := e_is (e_ne ha hb rfl rfl rfl) (by show PyData.bool (!decide (V.int i = V.int j)) = _; rw [decV])
theorem t_neI (ha : E X a σ G (.int i)) (hb : E X b σ G (.int j)) : T X (.Compare a [.NotEq] [b] pos) σ G (!decide (i = j)) := t_is (t_ne ha hb rfl rfl rfl) (by show (!decide (V.int i = V.int j)) = _; rw [decV])
/-- deep == -/
theorem e_eqD (hu : X.A.units + 64 < cLine) (ha : E X a σ G da) (hb : E X b σ G db) (s1 : SeqAt.shaped da = true) (s2 : SeqAt.shaped db = true) : E X (.Compare a [.Eq] [b] pos) σ G (.bool (PyData.eqv da db)) :=
  e_cmp (op_eqD hu) (nomark _) ha hb fun u v G1 H1 _ gh hu hv Q q => ⟨da, db, Dp.mono gh hu, Dp.mono gh hv, s1, s2, q⟩
theorem t_neD (hu : X.A.units + 64 < cLine) (ha : E X a σ G da) (hb : E X b σ G db) (s1 : SeqAt.shaped da = true) (s2 : SeqAt.shaped db = true) : T X (.Compare a [.NotEq] [b] pos) σ G (!PyData.eqv da db) :=
  t_cmp (op_neD hu) (nomark _) ha hb fun u v G1 H1 _ gh hu hv Q q => ⟨da, db, Dp.mono gh hu, Dp.mono gh hv, s1, s2, q⟩
def isN : D → Bool
  | .none => true
  | _ => false
theorem dp_isN {K : PySem.W.Frag} {H : Hp} {v : V} {d : D} (h : Dp K H v d) : decide (v = .non) = isN d := by
  cases h <;> first | rfl | simp [isN]
theorem e_isN (ha : E X a σ G da) {n : Nat} {q : Pos} : E X (.Compare a [.Is] [.Constant .none n q] pos) σ G (.bool (isN da)) :=
  e_cmp op_isN (nomark _) ha e_non fun u v G1 H1 _ _ hu hv Q q => by cases hv; rw [← dp_isN hu] at q; exact ⟨rfl, q⟩
theorem t_isN (ha : E X a σ G da) {n : Nat} {q : Pos} : T X (.Compare a [.Is] [.Constant .none n q] pos) σ G (isN da) :=
  t_cmp op_isN (nomark _) ha e_non fun u v G1 H1 _ _ hu hv Q q => by cases hv; rw [← dp_isN hu] at q; exact ⟨rfl, q⟩

/-! tests -/
/-- a value that is a truth value, as a test -/
theorem t_val {k : Bool} (h : E X e σ G (.bool k)) (he : ∀ whole, isTrue e X.env whole = (do let v ← whole; standAt e.pos; holding [v] (truthy v)) := by intro _; rfl) : T X e σ G k := fun G1 H1 g gh Q q =>
  ⟨_, pt_val pe_w he, h G1 H1 g gh _ fun v G2 H2 n hv => ⟨k, Dp.bl_inv hv, q G2 H2 n⟩⟩
theorem t_not {k : Bool} (h : T X a σ G k) : T X (.UnaryOp .Not a pos) σ G (!k) := fun G1 H1 g gh Q q => ⟨_, pt_not pt_w, h G1 H1 g gh _ fun G2 H2 n => q G2 H2 n⟩
theorem t_of {k : Bool} (h : TW X e σ G k) : T X e σ G k := fun G1 H1 g gh Q q => ⟨_, PW.pt pw_w, h G1 H1 g gh Q q⟩
theorem tw_and1 {k : Bool} (h : T X a σ G k) : TW X (.BoolOp .And [a] pos) σ G k := fun G1 H1 g gh Q q => ⟨_, pw_and1 pt_w, h G1 H1 g gh Q q⟩
theorem tw_or1 {k : Bool} (h : T X a σ G k) : TW X (.BoolOp .Or [a] pos) σ G k := fun G1 H1 g gh Q q => ⟨_, pw_or1 pt_w, h G1 H1 g gh Q q⟩
theorem tw_and {k l : Bool} (h : T X a σ G k) (h2 : k = true → TW X (.BoolOp .And (b :: es) pos) σ G l) : TW X (.BoolOp .And (a :: b :: es) pos) σ G (k && l) := fun G1 H1 g gh Q q =>
  ⟨_, pw_and pt_w pw_w, h G1 H1 g gh _ fun G2 H2 n => by
    cases k with
    | true => exact iteT (h2 rfl G2 H2 (g.trans n.g) n.gh Q fun G3 H3 n3 => q G3 H3 (n.trans n3))
    | false => exact iteF (q G2 H2 n)⟩
theorem tw_or {k l : Bool} (h : T X a σ G k) (h2 : k = false → TW X (.BoolOp .Or (b :: es) pos) σ G l) : TW X (.BoolOp .Or (a :: b :: es) pos) σ G (k || l) := fun G1 H1 g gh Q q =>
  ⟨_, pw_or pt_w pw_w, h G1 H1 g gh _ fun G2 H2 n => by
    cases k with
    | true => exact iteT (q G2 H2 n)
    | false => exact iteF (h2 rfl G2 H2 (g.trans n.g) n.gh Q fun G3 H3 n3 => q G3 H3 (n.trans n3))⟩
theorem t_and {k l : Bool} (h : T X a σ G k) (h2 : k = true → T X b σ G l) : T X (.BoolOp .And [a, b] pos) σ G (k && l) := t_of (tw_and h fun z => tw_and1 (h2 z))
theorem t_or {k l : Bool} (h : T X a σ G k) (h2 : k = false → T X b σ G l) : T X (.BoolOp .Or [a, b] pos) σ G (k || l) := t_of (tw_or h fun z => tw_or1 (h2 z))
theorem tw_orT (h : T X a σ G true) : TW X (.BoolOp .Or (a :: b :: es) pos) σ G true := tw_or (l := true) h fun z => nomatch z
theorem tw_orF {l : Bool} (h : T X a σ G false) (h2 : TW X (.BoolOp .Or (b :: es) pos) σ G l) : TW X (.BoolOp .Or (a :: b :: es) pos) σ G l := tw_or h fun _ => h2
theorem tw_andF (h : T X a σ G false) : TW X (.BoolOp .And (a :: b :: es) pos) σ G false := tw_and (l := true) h fun z => nomatch z
theorem tw_andT {l : Bool} (h : T X a σ G true) (h2 : TW X (.BoolOp .And (b :: es) pos) σ G l) : TW X (.BoolOp .And (a :: b :: es) pos) σ G l := tw_and h fun _ => h2
/-- and, or, not as values -/
theorem e_one {op : BoolOp} (h : E X a σ G d) : E X (.BoolOp op [a] pos) σ G d := fun G1 H1 g gh Q q => ⟨_, pe_one pe_w, h G1 H1 g gh Q q⟩
theorem e_and {k l : Bool} (h : E X a σ G (.bool k)) (h2 : k = true → E X (.BoolOp .And (b :: es) pos) σ G (.bool l)) : E X (.BoolOp .And (a :: b :: es) pos) σ G (.bool (k && l)) := fun G1 H1 g gh Q q =>
  ⟨_, pe_and pe_w pe_w, h G1 H1 g gh _ fun v G2 H2 n hv => ⟨k, Dp.bl_inv hv, by
    cases k with
    | true => exact iteT (h2 rfl G2 H2 (g.trans n.g) n.gh Q fun w G3 H3 n3 hw => q w G3 H3 (n.trans n3) hw)
    | false => exact iteF (q _ G2 H2 n (.bl false))⟩⟩
theorem e_or {k l : Bool} (h : E X a σ G (.bool k)) (h2 : k = false → E X (.BoolOp .Or (b :: es) pos) σ G (.bool l)) : E X (.BoolOp .Or (a :: b :: es) pos) σ G (.bool (k || l)) := fun G1 H1 g gh Q q =>
  ⟨_, pe_or pe_w pe_w, h G1 H1 g gh _ fun v G2 H2 n hv => ⟨k, Dp.bl_inv hv, by
    cases k with
    | true => exact iteT (q _ G2 H2 n (.bl true))
    | false => exact iteF (h2 rfl G2 H2 (g.trans n.g) n.gh Q fun w G3 H3 n3 hw => q w G3 H3 (n.trans n3) hw)⟩⟩
theorem e_and2 {k l : Bool} (h : E X a σ G (.bool k)) (h2 : k = true → E X b σ G (.bool l)) : E X (.BoolOp .And [a, b] pos) σ G (.bool (k && l)) := e_and h fun z => e_one (h2 z)
theorem e_or2 {k l : Bool} (h : E X a σ G (.bool k)) (h2 : k = false → E X b σ G (.bool l)) : E X (.BoolOp .Or [a, b] pos) σ G (.bool (k || l)) := e_or h fun z => e_one (h2 z)
theorem e_not {k : Bool} (h : E X a σ G (.bool k)) : E X (.UnaryOp .Not a pos) σ G (.bool (!k)) := fun G1 H1 g gh Q q =>
  ⟨_, pe_not pe_w, h G1 H1 g gh _ fun v G2 H2 n hv => ⟨k, Dp.bl_inv hv, q _ G2 H2 n (.bl _)⟩⟩
theorem e_if {k : Bool} (h : T X c σ G k) (h1 : k = true → E X a σ G d) (h2 : k = false → E X b σ G d) : E X (.IfExp c a b pos) σ G d := fun G1 H1 g gh Q q =>
  ⟨_, pe_ifExp pt_w pe_w pe_w, h G1 H1 g gh _ fun G2 H2 n => by
    cases k with
    | true => exact iteT (h1 rfl G2 H2 (g.trans n.g) n.gh Q fun w G3 H3 n3 hw => q w G3 H3 (n.trans n3) hw)
    | false => exact iteF (h2 rfl G2 H2 (g.trans n.g) n.gh Q fun w G3 H3 n3 hw => q w G3 H3 (n.trans n3) hw)⟩
/-- a <= b <= c of ints -/
theorem e_chain {op op' : CmpOp} {f f' : Int → Int → Bool} {z : Int} (ho : OpR X (compareOp op) (rI0 fun i j => .bl (f i j))) (ho' : OpR X (compareOp op') (rI0 fun i j => .bl (f' i j))) (ha : E X a σ G (.int i)) (hb : E X b σ G (.int j)) (hc : E X c σ G (.int z))
    (h : ∀ {ta tb tc : TE}, PE X a ta → PE X b tb → PE X c tc → PE X (.Compare a [op, op'] [b, c] pos) (tChain (rI0 fun i j => .bl (f i j)) (rI0 fun i j => .bl (f' i j)) ta tb tc)) : E X (.Compare a [op, op'] [b, c] pos) σ G (.bool (f i j && f' j z)) := fun G1 H1 g gh Q q =>
  ⟨_, h pe_w pe_w pe_w, ha G1 H1 g gh _ fun u G2 H2 n hu => hb G2 H2 (g.trans n.g) n.gh _ fun v G3 H3 n2 hv => by
    cases hu; cases hv
    refine ⟨i, j, rfl, rfl, f i j, rfl, ?_⟩
    cases e : f i j with
    | true => exact iteT (hc G3 H3 ((g.trans n.g).trans n2.g) n2.gh _ fun w G4 H4 n4 hw => by
        cases hw
        exact ⟨j, z, rfl, rfl, by rw [e] at q; exact q _ G4 H4 ((n.trans n2).trans n4) (.bl _)⟩)
    | false => exact iteF (by rw [e] at q; exact q _ G3 H3 (n.trans n2) (.bl false))⟩

/-! arguments, displays -/
theorem a_nil : A X [] σ G [] := fun G1 H1 _ gh Q q => ⟨_, pa_nil, q [] G1 H1 (Nx.refl gh) .nil⟩
theorem a_cons {ds : List D} (h : E X e σ G d) (hr : A X es σ G ds) (hs : starEach (e :: es) X.env = (false, eval e X.env) :: starEach es X.env := by rfl) : A X (e :: es) σ G (d :: ds) := fun G1 H1 g gh Q q =>
  ⟨_, pa_cons pe_w pa_w hs, h G1 H1 g gh _ fun u G2 H2 n hu => hr G2 H2 (g.trans n.g) n.gh _ fun vs G3 H3 n2 hv => q _ G3 H3 (n.trans n2) (.cons (Dp.mono n2.g hu) hv)⟩
theorem e_tup {ds : List D} {n : Nat} (h : A X es σ G ds) (hl : ds.length ≤ 1000 := by simp) : E X (.Tuple es n pos) σ G (.tuple ds) := fun G1 H1 g gh Q q =>
  ⟨_, pe_tup pa_w, h G1 H1 g gh _ fun vs G2 H2 n hv => ⟨by rw [DpAll.len hv]; exact Evl.sz_of (by omega), fun p hp =>
    q _ _ _ (n.trans (Nx.new n.gh hp)) (.tup (Evl.st_of upd_same) (DpAll.mono (Evl.Ex.new (Evl.fresh_back n.gh hp)) hv))⟩⟩
theorem e_lst {ds : List D} (h : A X es σ G ds) (hl : ds.length ≤ 1000 := by simp) : E X (.List es pos) σ G (.list ds) := fun G1 H1 g gh Q q =>
  ⟨_, pe_lst pa_w, h G1 H1 g gh _ fun vs G2 H2 n hv => ⟨by rw [DpAll.len hv]; exact Evl.sz_of (by omega), fun p hp =>
    q _ _ _ (n.trans (Nx.new n.gh hp)) (.lst (Evl.sq_of upd_same) (DpAll.mono (Evl.Ex.new (Evl.fresh_back n.gh hp)) hv))⟩⟩

/-! items -/
theorem DpAll.at {K : PySem.W.Frag} {H : Hp} {vs : List V} {ds : List D} (h : DpAll K H vs ds) (e : atI ds i = some d) : ∃ v, atI vs i = some v ∧ Dp K H v d := by
  unfold atI at e ⊢
  rw [DpAll.len h]
  cases q : ixN ds.length i with
  | none => rw [q] at e; cases e
  | some j =>
    rw [q] at e
    exact DpAll.get h e
theorem e_ixT {ds : List D} (ha : E X a σ G (.tuple ds)) (hb : E X b σ G (.int i)) (h : atI ds i = some d) (hs : PlainIx b := by exact fun _ _ => rfl) : E X (.Subscript a b pos) σ G d := fun G1 H1 g gh Q q =>
  ⟨_, pe_ix ix_tup pe_w pe_w hs, ha G1 H1 g gh _ fun u G2 H2 n hu => hb G2 H2 (g.trans n.g) n.gh _ fun v G3 H3 n2 hv => by
    cases hv
    obtain ⟨p, xs, rfl, ht, hx⟩ := Dp.tup_inv (Dp.mono n2.g hu)
    obtain ⟨v, e1, e2⟩ := DpAll.at hx h
    exact ⟨p, xs, i, v, rfl, rfl, Evl.ex_t n2.gh ht, e1, q v G3 H3 (n.trans n2) e2⟩⟩
theorem e_ixL {ds : List D} (ha : E X a σ G (.list ds)) (hb : E X b σ G (.int i)) (h : atI ds i = some d) (hs : PlainIx b := by exact fun _ _ => rfl) : E X (.Subscript a b pos) σ G d := fun G1 H1 g gh Q q =>
  ⟨_, pe_ix ix_list pe_w pe_w hs, ha G1 H1 g gh _ fun u G2 H2 n hu => hb G2 H2 (g.trans n.g) n.gh _ fun v G3 H3 n2 hv => by
    cases hv
    obtain ⟨p, xs, rfl, ht, hx⟩ := Dp.lst_inv (Dp.mono n2.g hu)
    obtain ⟨v, e1, e2⟩ := DpAll.at hx h
    exact ⟨p, xs, i, v, rfl, rfl, Evl.ex_l n2.gh ht, e1, q v G3 H3 (n.trans n2) e2⟩⟩

/-! built-in functions -/
theorem e_callB {id : String} {r : List V → Hp → VK → Prop} {ds : List D} (hc : CallR X (.builtin id) r) (hm : X.mg x = Option.none) (hv : bootBuiltins x = some (.builtin id)) (ha : A X (e :: es) σ G ds)
    (hr : ∀ us G1 H1, Ex G G1 → Ex G1 H1 → DpAll X.K G1 us ds → ∀ Q : VK, (∀ w G2 H2, Nx G1 H1 G2 H2 → Dp X.K G2 w d → Q w H2) → r us H1 Q)
    (hg : Gl X x := by rfl) (hn : x ≠ "__name__" := by decide) (hdb : (x == ("__debug__" : Str)) = false := by decide)
    (he : starEach (e :: es) X.env = (false, eval e X.env) :: starEach es X.env := by rfl) (hpl : (backTo pos (starEach es X.env)).any (·.1) = false := by rfl) : E X (.Call (.Name x p) (e :: es) [] pos) σ G d := fun G1 H1 g gh Q q =>
  ⟨_, pe_callB hc hg hm hv pa_w hn hdb he hpl, ha G1 H1 g gh _ fun us G2 H2 n hu => hr us G2 H2 (g.trans n.g) n.gh hu Q fun w G3 H3 n3 hw => q w G3 H3 (n.trans n3) hw⟩
theorem e_callTy {id : String} {r : List V → Hp → VK → Prop} {ds : List D} (hc : CallR X (.type id) r) (hm : X.mg x = Option.none) (hv : bootBuiltins x = some (.type id)) (ha : A X (e :: es) σ G ds)
    (hr : ∀ us G1 H1, Ex G G1 → Ex G1 H1 → DpAll X.K G1 us ds → ∀ Q : VK, (∀ w G2 H2, Nx G1 H1 G2 H2 → Dp X.K G2 w d → Q w H2) → r us H1 Q)
    (hg : Gl X x := by rfl) (hn : x ≠ "__name__" := by decide) (hdb : (x == ("__debug__" : Str)) = false := by decide)
    (he : starEach (e :: es) X.env = (false, eval e X.env) :: starEach es X.env := by rfl) (hpl : (backTo pos (starEach es X.env)).any (·.1) = false := by rfl) : E X (.Call (.Name x p) (e :: es) [] pos) σ G d := fun G1 H1 g gh Q q =>
  ⟨_, pe_callTy hc hg hm hv pa_w hn hdb he hpl, ha G1 H1 g gh _ fun us G2 H2 n hu => hr us G2 H2 (g.trans n.g) n.gh hu Q fun w G3 H3 n3 hw => q w G3 H3 (n.trans n3) hw⟩
theorem all1 {K : PySem.W.Frag} {H : Hp} {us : List V} (h : DpAll K H us [d]) : ∃ u, us = [u] ∧ Dp K H u d := by
  cases h with
  | cons h r => cases r; exact ⟨_, rfl, h⟩
theorem all2 {K : PySem.W.Frag} {H : Hp} {us : List V} (h : DpAll K H us [d, d']) : ∃ u v, us = [u, v] ∧ Dp K H u d ∧ Dp K H v d' := by
  cases h with
  | cons h r => obtain ⟨v, rfl, q⟩ := all1 r; exact ⟨_, v, rfl, h, q⟩
theorem all3 {K : PySem.W.Frag} {H : Hp} {us : List V} {d3 : D} (h : DpAll K H us [d, d', d3]) : ∃ u v w, us = [u, v, w] ∧ Dp K H u d ∧ Dp K H v d' ∧ Dp K H w d3 := by
  cases h with
  | cons h r => obtain ⟨v, w, rfl, q, q2⟩ := all2 r; exact ⟨_, v, w, rfl, h, q, q2⟩
theorem absI (i : Int) : (if i < 0 then -i else i) = (i.natAbs : Int) := by omega
theorem e_abs (hm : X.mg "abs" = Option.none) (ha : E X a σ G (.int i)) (hg : Gl X "abs" := by rfl) (he : starEach [a] X.env = (false, eval a X.env) :: starEach [] X.env := by rfl) (hpl : (backTo pos (starEach [] X.env)).any (·.1) = false := by rfl) :
    E X (.Call (.Name "abs" p) [a] [] pos) σ G (.int (i.natAbs : Int)) :=
  e_callB call_abs hm (by decide +kernel) (a_cons ha a_nil he) (fun us G1 H1 _ gh hu Q q => by
    obtain ⟨u, rfl, h⟩ := all1 hu
    cases h
    exact ⟨i, rfl, q _ G1 H1 (Nx.refl gh) (by rw [absI]; exact .int _)⟩) hg (by decide) (by decide) he hpl
theorem e_intB {k : Bool} (hm : X.mg "int" = Option.none) (ha : E X a σ G (.bool k)) (hg : Gl X "int" := by rfl) (he : starEach [a] X.env = (false, eval a X.env) :: starEach [] X.env := by rfl) (hpl : (backTo pos (starEach [] X.env)).any (·.1) = false := by rfl) :
    E X (.Call (.Name "int" p) [a] [] pos) σ G (.int (if k then 1 else 0)) :=
  e_callTy call_int1 hm (by decide +kernel) (a_cons ha a_nil he) (fun us G1 H1 _ gh hu Q q => by
    obtain ⟨u, rfl, h⟩ := all1 hu
    cases h
    exact .inr ⟨k, rfl, q _ G1 H1 (Nx.refl gh) (.int _)⟩) hg (by decide) (by decide) he hpl
theorem e_intI (hm : X.mg "int" = Option.none) (ha : E X a σ G (.int i)) (hg : Gl X "int" := by rfl) (he : starEach [a] X.env = (false, eval a X.env) :: starEach [] X.env := by rfl) (hpl : (backTo pos (starEach [] X.env)).any (·.1) = false := by rfl) :
    E X (.Call (.Name "int" p) [a] [] pos) σ G (.int i) :=
  e_callTy call_int1 hm (by decide +kernel) (a_cons ha a_nil he) (fun us G1 H1 _ gh hu Q q => by
    obtain ⟨u, rfl, h⟩ := all1 hu
    cases h
    exact .inl ⟨i, rfl, q _ G1 H1 (Nx.refl gh) (.int _)⟩) hg (by decide) (by decide) he hpl
theorem e_strI (hm : X.mg "str" = Option.none) (ha : E X a σ G (.int i)) (hz : i.natAbs.log2 < 1920) (hg : Gl X "str" := by rfl) (he : starEach [a] X.env = (false, eval a X.env) :: starEach [] X.env := by rfl) (hpl : (backTo pos (starEach [] X.env)).any (·.1) = false := by rfl) :
    E X (.Call (.Name "str" p) [a] [] pos) σ G (.str (toString i)) :=
  e_callTy call_str_int hm (by decide +kernel) (a_cons ha a_nil he) (fun us G1 H1 _ gh hu Q q => by
    obtain ⟨u, rfl, h⟩ := all1 hu
    cases h
    exact ⟨i, rfl, hz, q _ G1 H1 (Nx.refl gh) (.str _)⟩) hg (by decide) (by decide) he hpl
theorem e_max2 (hcalm : X.calm = true) (hm : X.mg "max" = Option.none) (ha : E X a σ G (.int i)) (hb : E X b σ G (.int j)) (hg : Gl X "max" := by rfl) (he : starEach [a, b] X.env = (false, eval a X.env) :: starEach [b] X.env := by rfl)
    (he2 : starEach [b] X.env = (false, eval b X.env) :: starEach [] X.env := by rfl) (hpl : (backTo pos (starEach [b] X.env)).any (·.1) = false := by rfl) :
    E X (.Call (.Name "max" p) [a, b] [] pos) σ G (.int (max i j)) :=
  e_callB (call_max2 hcalm) hm (by decide +kernel) (a_cons ha (a_cons hb a_nil he2) he) (fun us G1 H1 _ gh hu Q q => by
    obtain ⟨u, v, rfl, h, h'⟩ := all2 hu
    cases h; cases h'
    exact ⟨i, j, rfl, q _ G1 H1 (Nx.refl gh) (by rw [show (if j > i then j else i) = max i j by omega]; exact .int _)⟩) hg (by decide) (by decide) he hpl
theorem e_len {ds : List D} (hm : X.mg "len" = Option.none) (ha : E X a σ G da) (hd : da = .tuple ds ∨ da = .list ds) (hg : Gl X "len" := by rfl) (he : starEach [a] X.env = (false, eval a X.env) :: starEach [] X.env := by rfl) (hpl : (backTo pos (starEach [] X.env)).any (·.1) = false := by rfl) :
    E X (.Call (.Name "len" p) [a] [] pos) σ G (.int (ds.length : Int)) :=
  e_callB call_len_seq hm (by decide +kernel) (a_cons ha a_nil he) (fun us G1 H1 _ gh hu Q q => by
    obtain ⟨u, rfl, h⟩ := all1 hu
    rcases hd with rfl | rfl
    · obtain ⟨p, xs, rfl, ht, hx⟩ := Dp.tup_inv h
      exact ⟨p, xs, rfl, .inr (Evl.ex_t gh ht), q _ G1 H1 (Nx.refl gh) (by rw [DpAll.len hx]; exact .int _)⟩
    · obtain ⟨p, xs, rfl, ht, hx⟩ := Dp.lst_inv h
      exact ⟨p, xs, rfl, .inl (Evl.ex_l gh ht), q _ G1 H1 (Nx.refl gh) (by rw [DpAll.len hx]; exact .int _)⟩) hg (by decide) (by decide) he hpl
theorem e_lenS {s : Str} (hm : X.mg "len" = Option.none) (ha : E X a σ G (.str s)) (hz : s.length ≤ sizeLine) (hg : Gl X "len" := by rfl) (he : starEach [a] X.env = (false, eval a X.env) :: starEach [] X.env := by rfl) (hpl : (backTo pos (starEach [] X.env)).any (·.1) = false := by rfl) :
    E X (.Call (.Name "len" p) [a] [] pos) σ G (.int (s.length : Int)) :=
  e_callB call_len_str hm (by decide +kernel) (a_cons ha a_nil he) (fun us G1 H1 _ gh hu Q q => by
    obtain ⟨u, rfl, h⟩ := all1 hu
    cases h
    exact ⟨s, rfl, hz, q _ G1 H1 (Nx.refl gh) (.int _)⟩) hg (by decide) (by decide) he hpl
theorem e_allB {bs : List Bool} (hcalm : X.calm = true) (hm : X.mg "all" = Option.none) (ha : E X a σ G (.list (bs.map PyData.bool))) (hg : Gl X "all" := by rfl) (he : starEach [a] X.env = (false, eval a X.env) :: starEach [] X.env := by rfl) (hpl : (backTo pos (starEach [] X.env)).any (·.1) = false := by rfl) :
    E X (.Call (.Name "all" p) [a] [] pos) σ G (.bool (bs.all id)) :=
  e_callB (cr_all hcalm) hm (by decide +kernel) (a_cons ha a_nil he) (fun us G1 H1 _ gh hu Q q => by
    obtain ⟨u, rfl, h⟩ := all1 hu
    obtain ⟨l, xs, rfl, hl, hx⟩ := Dp.lst_inv h
    rw [DpAll.bls_inv hx] at hl
    exact ⟨l, bs, rfl, Evl.ex_l gh hl, q _ G1 H1 (Nx.refl gh) (.bl _)⟩) hg (by decide) (by decide) he hpl
theorem e_sumI {ns : List Int} (hcalm : X.calm = true) (hm : X.mg "sum" = Option.none) (ha : E X a σ G (.list (ns.map PyData.int))) (hg : Gl X "sum" := by rfl) (he : starEach [a] X.env = (false, eval a X.env) :: starEach [] X.env := by rfl) (hpl : (backTo pos (starEach [] X.env)).any (·.1) = false := by rfl) :
    E X (.Call (.Name "sum" p) [a] [] pos) σ G (.int ns.sum) :=
  e_callB (cr_sum hcalm) hm (by decide +kernel) (a_cons ha a_nil he) (fun us G1 H1 _ gh hu Q q => by
    obtain ⟨u, rfl, h⟩ := all1 hu
    obtain ⟨l, xs, rfl, hl, hx⟩ := Dp.lst_inv h
    rw [DpAll.ints_inv hx] at hl
    exact ⟨l, ns, rfl, Evl.ex_l gh hl, q _ G1 H1 (Nx.refl gh) (.int _)⟩) hg (by decide) (by decide) he hpl
/-- isinstance(x, T), T a built-in class by its global name -/
def tyD : D → String
  | .none => "NoneType"
  | .bool _ => "bool"
  | .int _ => "int"
  | .str _ => "str"
  | .tuple _ => "tuple"
  | .list _ => "list"
  | .dict _ => "dict"
def tyIs (a : String) (b : String) : Bool := (kitB a b).getD false
end
end DL

/-! D2: isinstance, calls of defs by contract, comprehensions, statements. -/
namespace DL
open PySem PySem.Spec PyProof.Rows L2

/-! ### isinstance -/
theorem dp_ty {K : PySem.W.Frag} {H : Hp} {v : V} {d : D} (h : Dp K H v d) : TyX K H v (.type (tyD d)) := by
  cases h with
  | non => exact .base .non
  | bl b => exact .base (.bl b)
  | int i => exact .base (.int i)
  | str x => exact .base (.str x)
  | lst h r =>
    rcases h with h | ⟨o, its, n, h, hc, _⟩
    · rcases h with h | ⟨o, h⟩
      · exact .base (.lst h)
      · exact .base (.frz h)
    · exact .kList h hc
  | tup h r =>
    rcases h with h | ⟨o, its, n, h, hc, _⟩
    · rcases h with h | ⟨o, h⟩
      · exact .base (.tup h)
      · exact .fTuple h
    · exact .kTuple h hc
section
variable {X : Cx} {σ : L2.St} {G : Hp} {a e : Expr} {es : List Expr} {pos p p2 : Pos} {d : D} {x : Str}
theorem e_isi {y : Str} {T : String} {k : Bool} (hm : X.mg "isinstance" = Option.none) (hy : X.mg y = Option.none) (hv : bootBuiltins y = some (.type T)) (ha : E X a σ G d) (hk : kitB (tyD d) T = some k) (hgy : Gl X y := by rfl) (hg : Gl X "isinstance" := by rfl)
    (he : starEach [a, .Name y p2] X.env = (false, eval a X.env) :: starEach [.Name y p2] X.env := by rfl) (he2 : starEach [.Name y p2] X.env = (false, eval (.Name y p2) X.env) :: starEach [] X.env := by rfl) (hpl : (backTo pos (starEach [.Name y p2] X.env)).any (·.1) = false := by rfl)
    (h1 : y ≠ "__name__" := by decide) (h2 : (y == ("__debug__" : Str)) = false := by decide) : E X (.Call (.Name "isinstance" p) [a, .Name y p2] [] pos) σ G (.bool k) := fun G1 H1 g gh Q q =>
  ⟨_, pe_callB call_isi hg hm (by decide +kernel) (pa_cons pe_w (pa_cons (pe_bltn (v := .ty T) hgy hy hv rfl h1 h2) pa_nil he2) he) (by decide) (by decide) he hpl,
    ha G1 H1 g gh _ fun u G2 H2 n hu => ⟨u, .ty T, .type (tyD d), .type T, k, rfl, .ty T, dp_ty (Dp.mono n.gh hu), kit_ty hk, q _ G2 H2 n (.bl k)⟩⟩
end

/-! ### defs by contract -/
theorem cxUpN {P : Program} {w : World} : StX.CXUp (L2N.CX P w) := by
  rintro outer s H s2 H2 E e s' un kp ho ⟨a, B, H', cls, d, ea, fl, hok, ub, na, os, ag, he⟩
  refine ⟨a, B, H', cls, d, ea, fl, hok, ⟨fun b o q n hb => ub.keep b o (kp b o q) (un.free b o q n (by simp)) hb, fun b o q hb => ub.slot b o (kp b o q) hb, fun b o q n => ub.free b o (kp b o q) (un.free b o q n (by simp)),
    fun b o q hb => ub.there b o (kp b o q) hb, fun b xs q => ub.tups b xs (un.tups b xs q), fun b o xs q => ub.frzs b o xs (un.frzs b o xs q), fun b ps q => ?_⟩, na, os.trans ho, ag, he⟩
  obtain ⟨m1, e1⟩ := un.tbls b ps q
  obtain ⟨m2, e2⟩ := ub.tbls b _ e1
  exact ⟨m1 ++ m2, by rw [e2, Array.append_assoc]⟩
/-- as Fun.okX, the context of what is raised known -/
theorem okXN {P : Program} {w : World} {K : PySem.W.Frag} {mg : Str → Option Value} {base : Heap} {x qual : Str} {st : Stmt} {f : Addr} {fd : FuncData} {N ps : List Str} {k : Nat} {sp : Sp} (F : Fun K x qual st f fd) (S : FnScope N ps (defScope st)) (len : ∀ vs H Q E, sp vs H Q E → vs.length = ps.length)
    (hbody : ∀ (cdv : Value) (A : Around) (outer : List Env) (s : Shared) (H : Hp) (vs : List V) (Q : VK) (E : XK), Room k (A.deeper (envOfC qual (defScope st) s.heap.objs.size f cdv)) → sp vs H Q E →
      ∃ t, PSs (cxOf (L2N.CX P w) P w K mg base N qual (defScope st) f cdv A outer s H E) (defBody st) t ∧ t { nx := fun _ H' => Q .non H', rt := Q } (start N vs) H) : FnOk P w K mg base (L2N.CX P w) (k + 1) f fd ps sp := by
  obtain ⟨oc, od, kV, doc, pm, an, cdv, ct, osl, rfl, lk, hcd⟩ := F.ex
  exact fn_of lk hcd S len fun A outer s H vs Q E hr hsp => hbody cdv A outer s H vs Q E hr hsp
/-- a def without side effects: called with data ds it hands back data d, R ds d -/
def spR (K : PySem.W.Frag) (R : List D → D → Prop) : Sp := fun vs H Q _ => ∃ ds d G, R ds d ∧ Ex G H ∧ DpAll K G vs ds ∧ ∀ v G' H', Nx G H G' H' → Dp K G' v d → Q v H'
structure PFn (P : Program) (w : World) (K : PySem.W.Frag) (mg : Str → Option Value) (base : Heap) (k : Nat) (x : Str) (R : List D → D → Prop) : Prop where
  ex : ∃ f, mg x = some (.ref f) ∧ PySem.W.keepIn K (.ref f) = true ∧ FnR P w K mg base CX0 k f (spR K R)
/-- .. or raises: an error of the module's class of that name -/
def spX (K : PySem.W.Frag) (mg : Str → Option Value) (R : List D → Except Str D → Prop) : Sp := fun vs H Q E => ∃ ds r G, R ds r ∧ Ex G H ∧ DpAll K G vs ds ∧
  (∀ d, r = .ok d → ∀ v G' H', Nx G H G' H' → Dp K G' v d → Q v H') ∧ (∀ n c, r = .error n → mg n = some (.ref c) → ∀ G' H', Nx G H G' H' → E (.ref c) Option.none H')
structure XFn (P : Program) (w : World) (K : PySem.W.Frag) (mg : Str → Option Value) (base : Heap) (k : Nat) (x : Str) (R : List D → Except Str D → Prop) : Prop where
  ex : ∃ f, mg x = some (.ref f) ∧ PySem.W.keepIn K (.ref f) = true ∧ FnR P w K mg base (L2N.CX P w) k f (spX K mg R)
theorem PFn.mono {P : Program} {w : World} {K : PySem.W.Frag} {mg : Str → Option Value} {base : Heap} {j k : Nat} {x : Str} {R : List D → D → Prop} (F : PFn P w K mg base j x R) (h : j ≤ k) : PFn P w K mg base k x R := by
  obtain ⟨f, h1, h2, h4⟩ := F.ex
  exact ⟨f, h1, h2, h4.mono h⟩
theorem XFn.mono {P : Program} {w : World} {K : PySem.W.Frag} {mg : Str → Option Value} {base : Heap} {j k : Nat} {x : Str} {R : List D → Except Str D → Prop} (F : XFn P w K mg base j x R) (h : j ≤ k) : XFn P w K mg base k x R := by
  obtain ⟨f, h1, h2, h4⟩ := F.ex
  exact ⟨f, h1, h2, h4.mono h⟩
theorem PFn.imp {P : Program} {w : World} {K : PySem.W.Frag} {mg : Str → Option Value} {base : Heap} {k : Nat} {x : Str} {R R' : List D → D → Prop} (F : PFn P w K mg base k x R) (h : ∀ ds d, R' ds d → R ds d) : PFn P w K mg base k x R' := by
  obtain ⟨f, h1, h2, h4⟩ := F.ex
  exact ⟨f, h1, h2, h4.imp fun vs H Q E ⟨ds, d, G, r, q⟩ => ⟨ds, d, G, h ds d r, q⟩⟩
theorem FnOk.pos {P : Program} {w : World} {K : PySem.W.Frag} {mg : Str → Option Value} {base : Heap} {CX : CXT} {k : Nat} {f : Addr} {fd : FuncData} {ps : List Str} {sp : Sp} (F : FnOk P w K mg base CX k f fd ps sp) (hb : Binds K fd ps []) : FnR P w K mg base CX k f sp :=
  (FnOk.raw F hb .nil).imp fun vs H Q E h => by rw [List.append_nil]; exact h
/-- a def of the text -/
def Has (K : PySem.W.Frag) (mg : Str → Option Value) (x : Str) (st : Stmt) (ps : List Str) : Prop := ∃ f fd, mg x = some (.ref f) ∧ Fun K x x st f fd ∧ Binds K fd ps []
section
variable {P : Program} {w : World} {K : PySem.W.Frag} {mg : Str → Option Value} {base : Heap}
theorem pfn_of {k : Nat} {x : Str} {st : Stmt} {N ps : List Str} {R : List D → D → Prop} (h : Has K mg x st ps) (S : FnScope N ps (defScope st)) (len : ∀ ds d, R ds d → ds.length = ps.length)
    (body : ∀ (cdv : Value) (A : Around) (outer : List Env) (s : Shared) (f : Addr) (H : Hp) (Q : VK) (E : XK), Room k (A.deeper (envOfC x (defScope st) s.heap.objs.size f cdv)) → ∀ ds d G vs, R ds d → Ex G H → DpAll K G vs ds → (∀ v G' H', Nx G H G' H' → Dp K G' v d → Q v H') →
      wB (cxOf CX0 P w K mg base N x (defScope st) f cdv A outer s H E).nox (defBody st) { nx := fun _ H' => Q .non H', rt := Q } (start N vs) H) : PFn P w K mg base (k + 1) x R := by
  obtain ⟨f, fd, h1, F, hb⟩ := h
  refine ⟨f, h1, F.kp, FnOk.pos (F.ok S (fun vs H Q E ⟨ds, d, G, r, _, hv, _⟩ => by rw [DpAll.len hv]; exact len ds d r) fun cdv A outer s H vs Q E hr ⟨ds, d, G, r, g, hv, q⟩ => ?_) hb⟩
  exact ⟨_, pss_w, body cdv A outer s f H Q E hr ds d G vs r g hv q⟩
theorem xfn_of {k : Nat} {x : Str} {st : Stmt} {N ps : List Str} {R : List D → Except Str D → Prop} (h : Has K mg x st ps) (S : FnScope N ps (defScope st)) (len : ∀ ds d, R ds d → ds.length = ps.length)
    (body : ∀ (cdv : Value) (A : Around) (outer : List Env) (s : Shared) (f : Addr) (H : Hp) (Q : VK) (E : XK), Room k (A.deeper (envOfC x (defScope st) s.heap.objs.size f cdv)) → ∀ ds r G vs, R ds r → Ex G H → DpAll K G vs ds →
      (∀ d, r = .ok d → ∀ v G' H', Nx G H G' H' → Dp K G' v d → Q v H') → (∀ n c, r = .error n → mg n = some (.ref c) → ∀ G' H', Nx G H G' H' → E (.ref c) Option.none H') →
      wB (cxOf (L2N.CX P w) P w K mg base N x (defScope st) f cdv A outer s H E) (defBody st) { nx := fun _ H' => Q .non H', rt := Q } (start N vs) H) : XFn P w K mg base (k + 1) x R := by
  obtain ⟨f, fd, h1, F, hb⟩ := h
  refine ⟨f, h1, F.kp, FnOk.pos (okXN F S (fun vs H Q E ⟨ds, d, G, r, _, hv, _⟩ => by rw [DpAll.len hv]; exact len ds d r) fun cdv A outer s H vs Q E hr ⟨ds, r, G, hR, g, hv, q1, q2⟩ => ?_) hb⟩
  exact ⟨_, pss_w, body cdv A outer s f H Q E hr ds r G vs hR g hv q1 q2⟩
end
section
variable {X : Cx} {σ : L2.St} {G : Hp} {a e : Expr} {es : List Expr} {pos p : Pos} {d : D} {ds : List D} {x : Str} {k : Nat} {ps : List Str}
/-- the callee runs, what it may raise told at the slots -/
theorem run_fnRS {CX : CXT} {f : Addr} {sp : Sp} {Er : L2.St → XK} {pins : List (Addr × Obj)} {H : Hp} {s : Shared} {Q : VK} {us : List Value} {vs : List V} (F : FnR X.prog X.w X.K X.mg X.base CX k f sp) (hr : Room k X.A) (hx : PassesAt CX X σ (Er σ))
    (I : Inv X pins σ H s) (r : Vals vs us) (h : sp vs H Q (Er σ)) : wpAny (model X.prog X.w) X.A (call (.ref f) us) (EP X pins σ Q) X.xe s := by
  refine wpAny_call (codeAny_mono (F X.A X.stack s H us vs Q (Er σ) hr I.env0 r h) fun r s' hq => ?_)
  cases r with
  | error e => exact hx pins H s e s' I hq
  | ok fl =>
    cases fl with
    | ret u => exact I.after hq
    | next => exact False.elim hq
    | brk => exact False.elim hq
    | cont => exact False.elim hq
theorem pe_callR {CX : CXT} {f : Addr} {sp : Sp} {Er : L2.St → XK} {t : TA} (F : FnR X.prog X.w X.K X.mg X.base CX k f sp) (hr : Room k X.A) (hg : Gl X x) (hm : X.mg x = some (.ref f)) (hk : PySem.W.keepIn X.K (.ref f) = true) (hx : ∀ σ, PassesAt CX X σ (Er σ)) (ha : PA X (e :: es) t) (hdb : (x == ("__debug__" : Str)) = false := by decide)
    (he : starEach (e :: es) X.env = (false, eval e X.env) :: starEach es X.env := by rfl) (hpl : (backTo pos (starEach es X.env)).any (·.1) = false := by rfl) : PE X (.Call (.Name x p) (e :: es) [] pos) (tCallS sp Er t) := by
  refine ⟨fun pins s σ H Q I h => ?_⟩
  refine wpAny_Call_Name_kw (ld_glob I hg hm ?_ hdb)
  refine PySem.W.callWith_K (h₀ := X.base) I.ok.mod.kin hk (thn (ha.run pos pins s σ H _ I h) fun us s1 ⟨vs, H1, I1, r, q⟩ => ⟨I1.kIn, ?_⟩) he hpl
  exact run_fnRS F hr (hx σ) I1 r q
theorem passAt0 (σ : L2.St) : PassesAt CX0 X σ E0 := fun _ _ _ _ _ _ h => h.elim
theorem e_call {R : List D → D → Prop} (F : PFn X.prog X.w X.K X.mg X.base k x R) (hr : Room k X.A) (ha : A X (e :: es) σ G ds) (hR : R ds d) (hg : Gl X x := by rfl) (hdb : (x == ("__debug__" : Str)) = false := by decide)
    (he : starEach (e :: es) X.env = (false, eval e X.env) :: starEach es X.env := by rfl) (hpl : (backTo pos (starEach es X.env)).any (·.1) = false := by rfl) : E X (.Call (.Name x p) (e :: es) [] pos) σ G d := fun G1 H1 g gh Q q => by
  obtain ⟨f, hm, hk, F⟩ := F.ex
  exact ⟨_, pe_callR (Er := fun _ => E0) F hr hg hm hk passAt0 pa_w hdb he hpl, ha G1 H1 g gh _ fun us G2 H2 n hu => ⟨ds, d, G2, hR, n.gh, hu, fun v G3 H3 n3 hv => q v G3 H3 (n.trans n3) hv⟩⟩
end

/-! ### a list of one's own, beside what is known -/
structure Lcl (G H : Hp) (l : Addr) (G' H' : Hp) (vs : List V) : Prop where
  g : Ex G G'
  h : Ex H H'
  gl : G' l = Option.none
  gh : Ex G' H'
  fr : ∀ a, G' a ≠ Option.none → G a ≠ Option.none ∨ H a = Option.none
  hl : H' l = some (.lst vs)
  h0 : H l = Option.none
section
variable {G H G' H' G'' H'' : Hp} {l : Addr} {vs ws : List V}
theorem Lcl.start (e : Ex G H) (hl : H l = Option.none) : Lcl G H l G (upd H l (.lst vs)) vs :=
  ⟨Evl.Ex.refl _, Evl.Ex.new hl, Evl.fresh_back e hl, e.trans (Evl.Ex.new hl), fun _ h => .inl h, upd_same, hl⟩
theorem Lcl.step (x : Lcl G H l G' H' vs) (n : Nx G' H' G'' H'') : Lcl G H l G'' H'' vs :=
  ⟨x.g.trans n.g, x.h.trans n.h, (n.beside x.gl x.hl).1, n.gh, fun a q => by
    rcases n.fr a q with z | z
    · exact x.fr a z
    · exact .inr (Evl.fresh_back x.h z), (n.beside x.gl x.hl).2, x.h0⟩
theorem Lcl.put (x : Lcl G H l G' H' vs) : Lcl G H l G' (upd H' l (.lst ws)) ws :=
  ⟨x.g, Evl.Ex.mut x.h x.h0, x.gl, fun a u q => by
    rw [upd_ne (fun z => by rw [z, x.gl] at q; cases q)]
    exact x.gh a u q, x.fr, upd_same, x.h0⟩
theorem Lcl.done (x : Lcl G H l G' H' vs) : Nx G H (upd G' l (.lst vs)) H' :=
  ⟨x.g.trans (Evl.Ex.new x.gl), x.h, fun a u q => by
    by_cases z : a = l
    · subst z; rw [upd_same] at q; rw [← q]; exact x.hl
    · rw [upd_ne z] at q; exact x.gh a u q, fun a q => by
    by_cases z : a = l
    · subst z; exact .inr x.h0
    · rw [upd_ne z] at q; exact x.fr a q⟩
/-- forgotten -/
theorem Lcl.off (x : Lcl G H l G' H' vs) : Nx G H G' H' := ⟨x.g, x.h, x.gh, x.fr⟩
end

/-! ### comprehensions -/
abbrev blkX (X : Cx) (scope : Scope) (s : Shared) (H : Hp) (C : Addr) (cl : List (Str × Addr)) (fp : List Addr) : Cx := X.blk s H scope (compEnvC scope cl C X.env) fp
def wBE (X : Cx) (scope : Scope) (e : Expr) : TE := fun σ H Q => ∀ s H0 C cl fp, wE (blkX X scope s H0 C cl fp) e σ H Q
def wBT (X : Cx) (scope : Scope) (e : Expr) : TT := fun σ H Q => ∀ s H0 C cl fp, wT (blkX X scope s H0 C cl fp) e σ H Q
theorem wipe1 (σ : L2.St) (j : Nat) (v : Option V) : wipe ((wipe σ [j]).set j v) [j] = wipe σ [j] := by
  show ((σ.set j Option.none).set j v).set j Option.none = σ.set j Option.none
  rw [List.set_set, List.set_set]
theorem wipeset (σ : L2.St) (j : Nat) (v : Option V) : (wipe σ [j]).set j v = σ.set j v := by
  show (σ.set j Option.none).set j v = σ.set j v
  rw [List.set_set]
/-- what the kept ones come to -/
def kept (n : Nat) (c : Nat → Bool) (f : Nat → D) : List D := ((List.range n).filter c).map f
theorem kept_zero (c : Nat → Bool) (f : Nat → D) : kept 0 c f = [] := rfl
theorem kept_succ (n : Nat) (c : Nat → Bool) (f : Nat → D) : kept (n + 1) c f = if c n = true then kept n c f ++ [f n] else kept n c f := by
  unfold kept
  rw [List.range_succ, List.filter_append, List.map_append]
  cases h : c n <;> simp [h]
theorem kept_len (n : Nat) (c : Nat → Bool) (f : Nat → D) : (kept n c f).length ≤ n := by
  unfold kept
  rw [List.length_map]
  exact Nat.le_trans (List.length_filter_le _ _) (by rw [List.length_range]; exact Nat.le_refl _)
theorem kept_all (n : Nat) (f : Nat → D) : kept n (fun _ => true) f = (List.range n).map f := by
  unfold kept; rw [List.filter_eq_self.mpr (fun _ _ => rfl)]
section
variable {X : Cx} {σ : L2.St} {G : Hp} {elt iter : Expr} {pos tpos p : Pos} {x : Str} {j : Nat} {scope : Scope}
/-- one turn -/
theorem lc_turn {ifs : List Expr} {tt : TT} {G2 H2 : Hp} {Dl : Addr} {i n : Nat} {c : Nat → Bool} {f : Nat → D} {v : V} {H' : Hp} (hi : i < n) (hn : n ≤ 100000) (hG : Ex G G2)
    (Pi : ∃ G' vs, Lcl G2 H2 Dl G' H' vs ∧ DpAll X.K G' vs (kept i c f)) (hv : ∀ G', Ex G2 G' → True)
    (ht : ∀ G1 H1, Ex G G1 → Ex G1 H1 → ∀ Q : Bool → Hp → Prop, (∀ G2 H2, Nx G1 H1 G2 H2 → Q (c i) H2) → tt (σ.set j (some v)) H1 Q)
    (he : c i = true → ∀ s H0 C cl fp, E (blkX X scope s H0 C cl fp) elt (σ.set j (some v)) G (f i)) :
    tt ((wipe σ [j]).set j (some v)) H' fun b H3 => if b = true then wBE X scope elt ((wipe σ [j]).set j (some v)) H3 fun y H4 => ∃ acc, H4 Dl = some (.lst acc) ∧ acc.length < sizeLine ∧ (∃ G' vs, Lcl G2 H2 Dl G' (upd H4 Dl (.lst (acc ++ [y]))) vs ∧ DpAll X.K G' vs (kept (i + 1) c f))
      else ∃ G' vs, Lcl G2 H2 Dl G' H3 vs ∧ DpAll X.K G' vs (kept (i + 1) c f) := by
  obtain ⟨G', vs, L, dv⟩ := Pi
  rw [wipeset]
  refine ht G' H' (hG.trans L.g) L.gh _ fun G3 H3 n3 => ?_
  have L3 := L.step n3
  rw [kept_succ]
  cases hc : c i with
  | false =>
    refine iteF ⟨G3, vs, L3, ?_⟩
    rw [if_neg Bool.false_ne_true]
    exact DpAll.mono n3.g dv
  | true =>
    refine iteT fun s H0 C cl fp => he hc s H0 C cl fp G3 H3 ((hG.trans L.g).trans n3.g) n3.gh _ fun y G4 H4 n4 hy => ?_
    have L4 := L3.step n4
    refine ⟨vs, L4.hl, ?_, G4, vs ++ [y], L4.put, ?_⟩
    · rw [DpAll.len dv]
      exact Evl.sz_lt (by have := kept_len i c f; omega)
    · rw [if_pos rfl]
      exact DpAll.append (DpAll.mono n4.g (DpAll.mono n3.g dv)) (.cons hy .nil)
/-- [elt for x in range(n)], all kept -/
theorem e_lcR {na : Expr} {n : Nat} {f : Nat → D} (hcalm : X.calm = true) (hN : X.N.Nodup) (hm : X.mg "range" = Option.none) (ha : A X [na] σ G [.int (n : Int)]) (hn : n ≤ 100000) (ok : BlkOk X.N X.env.scope scope [(x, j)])
    (hx : X.N[j]? = some x) (hg : ∀ s H C cl fp, PG (blkX X scope s H C cl fp) (.Name x tpos) (gName j))
    (he : ∀ i, i < n → ∀ s H0 C cl fp, E (blkX X scope s H0 C cl fp) elt (σ.set j (some (.int (i : Int)))) G (f i)) (hgr : Gl X "range" := by rfl) (hse : starEach [na] X.env = [(false, eval na X.env)] := by rfl)
    (hs : ∀ y, foldedSetIterable (.Call (.Name "range" p) [na] [] pos) X.env y = pure y := by intro _; rfl) {lpos : Pos} : E X (.ListComp elt [⟨.Name x tpos, .Call (.Name "range" p) [na] [] pos, [], 0⟩] scope lpos) σ G (.list ((List.range n).map f)) := fun G1 H1 g gh Q q =>
  ⟨_, pe_lc (own := [(x, j)]) (te := wBE X scope elt) hcalm hN (pi_range1 hgr hm pa_w hse) ok hg (fun _ _ _ _ _ => pts_nil) (fun s H C cl fp => ⟨fun pins s' σ' H' Q' I h => (pe_w (X := blkX X scope s H C cl fp)).run pins s' σ' H' Q' I (h s H C cl fp)⟩) hs,
    ha G1 H1 g gh _ fun vs G2 H2 n2 hv => by
      obtain ⟨u, rfl, hu⟩ := all1 hv
      cases hu
      refine ⟨(n : Int), rfl, by omega, by omega, fun Dl hD => ?_⟩
      rw [Int.toNat_natCast]
      refine lc_range (lo := 0) (n := n) (fun i H' => ∃ G' vs, Lcl G2 H2 Dl G' H' vs ∧ DpAll X.K G' vs (kept i (fun _ => true) f)) ⟨G2, [], Lcl.start n2.gh hD, .nil⟩ (fun i H' hi Pi => ?_) fun H' ⟨G', vs, L, dv⟩ => ?_
      · have e0 : (0 : Int) + (i : Int) = (i : Int) := Int.zero_add _
        rw [e0]
        refine ⟨wipe1 σ j _, ?_⟩
        exact lc_turn (σ := σ) (j := j) (G := G) (ifs := []) hi hn (g.trans n2.g) Pi (fun _ _ => trivial) (fun G1 H1 _ gh Q q => q G1 H1 (Nx.refl gh)) (fun _ => he i hi)
      · rw [kept_all] at dv
        exact q _ _ _ (n2.trans L.done) (.lst (Evl.sq_of upd_same) (DpAll.mono (Evl.Ex.new L.gl) dv))⟩
/-- [elt for x in xs], [.. if c]: over a list or a tuple that is known -/
theorem e_lcS {xs : List D} {n : Nat} {dx : D} {ifs : List Expr} {tt : TT} {c : Nat → Bool} {f : Nat → D} (hcalm : X.calm = true) (hN : X.N.Nodup) (ha : E X iter σ G dx) (hdx : dx = .list xs ∨ dx = .tuple xs) (hn : xs.length = n) (hn2 : n ≤ 100000) (ok : BlkOk X.N X.env.scope scope [(x, j)])
    (hg : ∀ s H C cl fp, PG (blkX X scope s H C cl fp) (.Name x tpos) (gName j)) (hpt : ∀ s H C cl fp, PTs (blkX X scope s H C cl fp) ifs tt)
    (ht : ∀ i v d G', xs[i]? = some d → Ex G G' → Dp X.K G' v d → ∀ G1 H1, Ex G' G1 → Ex G1 H1 → ∀ Q : Bool → Hp → Prop, (∀ G2 H2, Nx G1 H1 G2 H2 → Q (c i) H2) → tt (σ.set j (some v)) H1 Q)
    (he : ∀ i v d G', xs[i]? = some d → Ex G G' → Dp X.K G' v d → c i = true → ∀ s H0 C cl fp, E (blkX X scope s H0 C cl fp) elt (σ.set j (some v)) G' (f i))
    (hs : ∀ y, foldedSetIterable iter X.env y = pure y := by intro _; rfl) (hpl : PI X (.Name x tpos) iter (iList X.K (wE X iter))) (hpt2 : PI X (.Name x tpos) iter (iTup X.K (wE X iter))) {lpos : Pos} :
    E X (.ListComp elt [⟨.Name x tpos, iter, ifs, 0⟩] scope lpos) σ G (.list (kept n c f)) := fun G1 H1 g gh Q q => by
  have turn : ∀ (G2 H2 : Hp) (Dl : Addr) (vx : List V) (i : Nat) (v : V) (H' : Hp), Ex G G2 → DpAll X.K G2 vx xs → vx[i]? = some v → (∃ G' vs, Lcl G2 H2 Dl G' H' vs ∧ DpAll X.K G' vs (kept i c f)) →
      tt ((wipe σ [j]).set j (some v)) H' fun b H3 => if b = true then wBE X scope elt ((wipe σ [j]).set j (some v)) H3 fun y H4 => ∃ acc, H4 Dl = some (.lst acc) ∧ acc.length < sizeLine ∧ (∃ G' vs, Lcl G2 H2 Dl G' (upd H4 Dl (.lst (acc ++ [y]))) vs ∧ DpAll X.K G' vs (kept (i + 1) c f))
        else ∃ G' vs, Lcl G2 H2 Dl G' H3 vs ∧ DpAll X.K G' vs (kept (i + 1) c f) := fun G2 H2 Dl vx i v H' hG hv hi Pi => by
    obtain ⟨d, hd, dv⟩ := DpAll.getV hv hi
    have hlt : i < n := by rw [← hn]; exact (List.getElem?_eq_some_iff.mp hd).1
    exact lc_turn (σ := σ) (j := j) (G := G2) (ifs := ifs) hlt hn2 (Evl.Ex.refl _) Pi (fun _ _ => trivial) (ht i v d G2 hd hG dv) (he i v d G2 hd hG dv)
  rcases hdx with rfl | rfl
  · refine ⟨_, pe_lc (own := [(x, j)]) (te := wBE X scope elt) hcalm hN hpl ok hg hpt (fun s H C cl fp => ⟨fun pins s' σ' H' Q' I h => (pe_w (X := blkX X scope s H C cl fp)).run pins s' σ' H' Q' I (h s H C cl fp)⟩) hs, ha G1 H1 g gh _ fun u G2 H2 n2 hu => ?_⟩
    obtain ⟨a, vx, rfl, hl, hv⟩ := Dp.lst_inv hu
    have hlen : vx.length = n := by rw [DpAll.len hv, hn]
    refine ⟨a, rfl, ⟨vx, Evl.ex_l n2.gh hl⟩, fun Dl hD => lc_list (xs := vx) (fun i H' => ∃ G' vs, Lcl G2 H2 Dl G' H' vs ∧ DpAll X.K G' vs (kept i c f)) ⟨G2, [], Lcl.start n2.gh hD, .nil⟩ (fun i H' _ ⟨G', vs, L, _⟩ => Evl.ex_l (L.g.trans L.gh) hl)
      (fun i v H' hi Pi => ⟨wipe1 σ j _, turn G2 H2 Dl vx i v H' (g.trans n2.g) hv hi Pi⟩) fun H' ⟨G', vs, L, dv⟩ => ?_⟩
    rw [hlen] at dv
    exact q _ _ _ (n2.trans L.done) (.lst (Evl.sq_of upd_same) (DpAll.mono (Evl.Ex.new L.gl) dv))
  · refine ⟨_, pe_lc (own := [(x, j)]) (te := wBE X scope elt) hcalm hN hpt2 ok hg hpt (fun s H C cl fp => ⟨fun pins s' σ' H' Q' I h => (pe_w (X := blkX X scope s H C cl fp)).run pins s' σ' H' Q' I (h s H C cl fp)⟩) hs, ha G1 H1 g gh _ fun u G2 H2 n2 hu => ?_⟩
    obtain ⟨a, vx, rfl, hl, hv⟩ := Dp.tup_inv hu
    have hlen : vx.length = n := by rw [DpAll.len hv, hn]
    refine ⟨a, rfl, ⟨vx, Evl.ex_t n2.gh hl⟩, fun Dl hD => lc_tup (xs := vx) (fun i H' => ∃ G' vs, Lcl G2 H2 Dl G' H' vs ∧ DpAll X.K G' vs (kept i c f)) ⟨G2, [], Lcl.start n2.gh hD, .nil⟩ (fun i H' _ ⟨G', vs, L, _⟩ => Evl.ex_t (L.g.trans L.gh) hl)
      (fun i v H' hi Pi => ⟨wipe1 σ j _, turn G2 H2 Dl vx i v H' (g.trans n2.g) hv hi Pi⟩) fun H' ⟨G', vs, L, dv⟩ => ?_⟩
    rw [hlen] at dv
    exact q _ _ _ (n2.trans L.done) (.lst (Evl.sq_of upd_same) (DpAll.mono (Evl.Ex.new L.gl) dv))
end

/-! ### statements -/
section
variable {X : Cx} {σ : L2.St} {G H : Hp} {e c : Expr} {es : List Expr} {a b rest : List Stmt} {pos p pos' : Pos} {d : D} {ds : List D} {x : Str} {Z : Ends} {st : Stmt}
theorem s_nil (h : Z.nx σ H) : wB X [] Z σ H := ⟨_, pss_nil, h⟩
theorem s_cons (h : wS X st { Z with nx := wB X rest Z } σ H) : wB X (st :: rest) Z σ H := ⟨_, pss_cons ps_w pss_w, h⟩
theorem s_ret (h : E X e σ G d) (gh : Ex G H) (q : ∀ v G' H', Nx G H G' H' → Dp X.K G' v d → Z.rt v H') : wB X (.Return (some e) pos :: rest) Z σ H :=
  s_cons ⟨_, ps_ret pe_w, h G H (Evl.Ex.refl _) gh _ q⟩
theorem s_retN (q : Z.rt .non H) : wB X (.Return Option.none pos :: rest) Z σ H := s_cons ⟨_, ps_retN, q⟩
theorem s_expr (h : E X e σ G d) (gh : Ex G H) (q : ∀ G' H', Nx G H G' H' → wB X rest Z σ H') (hs : swapsWith e Option.none pos.line X.env = pure false := by rfl) : wB X (.Expr e pos :: rest) Z σ H :=
  s_cons ⟨_, ps_expr pe_w hs, h G H (Evl.Ex.refl _) gh _ fun _ G' H' n _ => q G' H' n⟩
theorem s_set (i : Nat) (h : E X e σ G d) (gh : Ex G H) (hN : X.N.Nodup) (q : ∀ v G' H', Nx G H G' H' → Dp X.K G' v d → wB X rest Z (σ.set i (some v)) H') (hi : X.N[i]? = some x := by rfl) (hx : L2.Loc X.env.scope x := by first | exact Or.inl rfl | exact Or.inr rfl)
    (hs : swapsWith e (some (.Name x pos')) pos.line X.env = pure false := by rfl) (hf : X.fn x = true ∨ X.env.scope.names.lookup x = some .local := by first | exact .inl rfl | exact .inr rfl | assumption) : wB X (.Assign [.Name x pos'] e pos :: rest) Z σ H :=
  s_cons ⟨_, ps_set hN hi hx pe_w hs hf, h G H (Evl.Ex.refl _) gh _ q⟩
theorem s_if {k : Bool} (h : T X c σ G k) (gh : Ex G H) (h1 : k = true → ∀ G' H', Nx G H G' H' → wB X a { Z with nx := wB X rest Z } σ H') (h2 : k = false → ∀ G' H', Nx G H G' H' → wB X b { Z with nx := wB X rest Z } σ H') : wB X (.If c a b pos :: rest) Z σ H :=
  s_cons ⟨_, ps_if pt_w pss_w pss_w, h G H (Evl.Ex.refl _) gh _ fun G' H' n => by
    cases k with
    | true => exact iteT (h1 rfl G' H' n)
    | false => exact iteF (h2 rfl G' H' n)⟩
/-- an if without else -/
theorem s_when {k : Bool} (h : T X c σ G k) (gh : Ex G H) (h1 : k = true → ∀ G' H', Nx G H G' H' → wB X a { Z with nx := wB X rest Z } σ H') (h2 : k = false → ∀ G' H', Nx G H G' H' → wB X rest Z σ H') : wB X (.If c a [] pos :: rest) Z σ H :=
  s_if h gh h1 fun z G' H' n => s_nil (h2 z G' H' n)
theorem s_while (hp : PassesOwn (model X.prog X.w) X.A X.env X.xe) (W : Nat → L2.St → Hp → Prop) (m0 : Nat) (h0 : W m0 σ H)
    (hs : ∀ m σ H, W m σ H → ∃ k G, Ex G H ∧ T X c σ G k ∧ (k = true → ∀ G' H', Nx G H G' H' → ∃ N : L2.St → Hp → Prop, (∀ σ2 H2, N σ2 H2 → ∃ m', m' < m ∧ W m' σ2 H2) ∧ wB X a { Z with nx := N, ct := N, bk := wB X rest Z } σ H') ∧ (k = false → ∀ G' H', Nx G H G' H' → wB X rest Z σ H')) :
    wB X (.While c a [] pos :: rest) Z σ H :=
  s_cons ⟨_, ps_while hp pt_w pss_w, W, ⟨m0, h0⟩, fun m σ H w => by
    obtain ⟨k, G, gh, h, h1, h2⟩ := hs m σ H w
    refine h G H (Evl.Ex.refl _) gh _ fun G' H' n => ?_
    cases k with
    | true => exact iteT (h1 rfl G' H' n)
    | false => exact iteF (h2 rfl G' H' n)⟩
/-- a, b = e1, e2 -/
theorem s_par (i j : Nat) {y : Str} {e1 e2 : Expr} {d1 d2 : D} {px py pt pt2 : Pos} {kt k2 : _} (hcalm : X.calm = true) (hN : X.N.Nodup) (ha : A X [e1, e2] σ G [d1, d2]) (gh : Ex G H) (q : ∀ u v G' H', Nx G H G' H' → Dp X.K G' u d1 → Dp X.K G' v d2 → wB X rest Z ((σ.set i (some u)).set j (some v)) H')
    (hi : X.N[i]? = some x := by rfl) (hj : X.N[j]? = some y := by rfl) (hij : i ≠ j := by decide) (hx : X.env.scope.names.lookup x = some .local := by rfl) (hy : X.env.scope.names.lookup y = some .local := by rfl)
    (hw : swappedStores [.Tuple [.Name x px, .Name y py] kt pt] (.Tuple [e1, e2] k2 pt2) X.env = pure (some [x, y]) := by rfl)
    (hs : swapsWithSole [.Tuple [.Name x px, .Name y py] kt pt] (.Tuple [e1, e2] k2 pt2) pos.line X.env = pure false := by rfl) : wB X (.Assign [.Tuple [.Name x px, .Name y py] kt pt] (.Tuple [e1, e2] k2 pt2) pos :: rest) Z σ H :=
  s_cons ⟨_, ps_par hcalm hN hi hj hij hx hy pa_w hw hs, ha G H (Evl.Ex.refl _) gh _ fun vs G' H' n hv => by
    obtain ⟨u, v, rfl, h1, h2⟩ := all2 hv
    exact ⟨u, v, rfl, q u v G' H' n h1 h2⟩⟩
/-- the module's error classes -/
structure Er (K : PySem.W.Frag) (mg : Str → Option Value) (x : Str) : Prop where
  ex : ∃ C, mg x = some (.ref C) ∧ PySem.W.excIn K C [.type "ValueError", .type "Exception", .type "BaseException", .type "object"] "ValueError.__new__" = true ∧ PySem.W.keepIn K (.ref C) = true ∧
    PySem.W.subIn K (.ref C) (.type "BaseException") = some true ∧ PySem.W.typeIn K (.ref C) = some (.type "type")
theorem s_raise {W : WX} {m : Str} {j : Nat} {p2 pos2 : Pos} (hcalm : X.calm = true) (er : Er X.K X.mg x) (tk : L2N.Takes X W) (q : ∀ c, X.mg x = some (.ref c) → W (.ref c) Option.none σ H) (hg : Gl X x := by rfl) (hdb : (x == ("__debug__" : Str)) = false := by decide) :
    wB X (.Raise (some (.Call (.Name x p) [.Constant (.str m) j p2] [] pos)) Option.none pos2 :: rest) Z σ H := by
  obtain ⟨C, h1, h2, h3, h4, h5⟩ := er.ex
  exact s_cons ⟨_, L2N.ps_raise hcalm tk (L2N.pmk_own PySem.F.excBase_ValueError h2 h1 h3 (raises_own h4 h5) hg hdb), q C h1⟩
/-- a call of a def that may raise, its value dropped -/
theorem s_callX {W : WX} {R : List D → Except Str D → Prop} {k : Nat} {r : Except Str D} (F : XFn X.prog X.w X.K X.mg X.base k x R) (hr : Room k X.A) (tk : L2N.Takes X W) (ha : A X (e :: es) σ G ds) (hR : R ds r) (gh : Ex G H)
    (ok : ∀ d, r = .ok d → ∀ G' H', Nx G H G' H' → wB X rest Z σ H') (er : ∀ n c, r = .error n → X.mg n = some (.ref c) → ∀ G' H', Nx G H G' H' → W (.ref c) Option.none σ H') (hg : Gl X x := by rfl) (hdb : (x == ("__debug__" : Str)) = false := by decide)
    (he : starEach (e :: es) X.env = (false, eval e X.env) :: starEach es X.env := by rfl) (hpl : (backTo pos (starEach es X.env)).any (·.1) = false := by rfl)
    (hs : swapsWith (.Call (.Name x p) (e :: es) [] pos) Option.none pos'.line X.env = pure false := by rfl) : wB X (.Expr (.Call (.Name x p) (e :: es) [] pos) pos' :: rest) Z σ H := by
  obtain ⟨f, hm, hk, F⟩ := F.ex
  exact s_cons ⟨_, ps_expr (pe_callR (Er := WE W) F hr hg hm hk (L2N.passAt tk) pa_w hdb he hpl) hs, ha G H (Evl.Ex.refl _) gh _ fun us G2 H2 n hu =>
    ⟨ds, r, G2, hR, n.gh, hu, fun d hd v G3 H3 n3 _ => ok d hd G3 H3 (n.trans n3), fun c' c hc hmc G3 H3 n3 => er c' c hc hmc G3 H3 (n.trans n3)⟩⟩
/-- for x in range(n) -/
theorem s_forR (i : Nat) {na : Expr} {n : Nat} {px pr : Pos} (hp : PassesOwn (model X.prog X.w) X.A X.env X.xe) (hcalm : X.calm = true) (hN : X.N.Nodup) (hm : X.mg "range" = Option.none) (ha : A X [na] σ G [.int (n : Int)]) (gh : Ex G H) (hn : n ≤ 2 ^ 60)
    (Pv : Nat → L2.St → Hp → Prop) (h0 : ∀ G' H', Nx G H G' H' → Pv 0 σ H')
    (hs : ∀ k σ' H', k < n → Pv k σ' H' → wB X a { Z with nx := Pv (k + 1), ct := Pv (k + 1), bk := wB X rest Z } (σ'.set i (some (.int (k : Int)))) H') (hd : ∀ σ' H', Pv n σ' H' → wB X rest Z σ' H')
    (hgr : Gl X "range" := by rfl) (hse : starEach [na] X.env = [(false, eval na X.env)] := by rfl) (hi : X.N[i]? = some x := by rfl) (hx : L2.Loc X.env.scope x := by first | exact Or.inl rfl | exact Or.inr rfl) (hf : X.fn x = true ∨ X.env.scope.names.lookup x = some .local := by first | exact .inl rfl | exact .inr rfl | assumption) :
    wB X (.For (.Name x px) (.Call (.Name "range" pr) [na] [] p) a [] pos :: rest) Z σ H :=
  s_cons ⟨_, ps_for hp hcalm (pi_range1 hgr hm pa_w hse) (pg_name hN hi hx hf) pss_w, ha G H (Evl.Ex.refl _) gh _ fun vs G2 H2 n2 hv => by
    obtain ⟨u, rfl, hu⟩ := all1 hv
    cases hu
    have e62 : (n : Int) < 2 ^ 62 := by
      have : (n : Int) ≤ 2 ^ 60 := by exact_mod_cast hn
      omega
    refine ⟨(n : Int), rfl, by omega, e62, ?_⟩
    rw [Int.toNat_natCast]
    refine for_range (lo := 0) (n := n) Pv (h0 G2 H2 n2) (fun k σ' H' hk Pk => ?_) hd
    show wB X a _ (σ'.set i (some (.int (0 + (k : Int))))) H'
    rw [Int.zero_add]
    exact hs k σ' H' hk Pk⟩
end
end DL

/-! M1: ratios as Rat. -/
namespace DL
open PySem L2
/-- a ratio as data -/
def rd (q : Rat) : D := .tuple [.int q.num, .int (q.den : Int)]
def Sz (n : Nat) (q : Rat) : Prop := q.num.natAbs < 2 ^ n ∧ q.den < 2 ^ n
theorem Sz.mono {m n : Nat} {q : Rat} (h : Sz m q) (l : m ≤ n) : Sz n q :=
  ⟨Nat.lt_of_lt_of_le h.1 (Nat.pow_le_pow_right (by decide) l), Nat.lt_of_lt_of_le h.2 (Nat.pow_le_pow_right (by decide) l)⟩
theorem mulOK {i j : Int} {a b : Nat} (ha : i.natAbs < 2 ^ a) (hb : j.natAbs < 2 ^ b) (h : a + b ≤ 999990) : CMulW i j :=
  wide_mul (a := a + 1) (b := b + 1) (Nat.lt_of_lt_of_le ha (Nat.pow_le_pow_right (by decide) (by omega))) (Nat.lt_of_lt_of_le hb (Nat.pow_le_pow_right (by decide) (by omega))) (by omega) (by omega) (by omega)
theorem divOK {i j : Int} {b : Nat} (h : 0 < j) (hb : j.natAbs < 2 ^ b) (h9 : b ≤ 8990) : CDivW i j := wide_div (b := b + 1) h (Nat.lt_of_lt_of_le hb (Nat.pow_le_pow_right (by decide) (by omega))) (by omega) (by omega)
theorem pow_le {a b : Nat} (h : a ≤ b) : 2 ^ a ≤ 2 ^ b := Nat.pow_le_pow_right (by decide) h
theorem lt_pow {n a b : Nat} (h : n < 2 ^ a) (l : a ≤ b) : n < 2 ^ b := Nat.lt_of_lt_of_le h (pow_le l)
theorem mul_lt {i j : Int} {a b : Nat} (ha : i.natAbs < 2 ^ a) (hb : j.natAbs < 2 ^ b) : (i * j).natAbs < 2 ^ (a + b) := wide_lt ha hb
theorem add_lt {i j : Int} {a b c : Nat} (ha : i.natAbs < 2 ^ a) (hb : j.natAbs < 2 ^ b) (h1 : a < c) (h2 : b < c) : (i + j).natAbs < 2 ^ c := by
  have e : 2 ^ c = 2 ^ (c - 1) + 2 ^ (c - 1) := by
    obtain ⟨d, rfl⟩ : ∃ d, c = d + 1 := ⟨c - 1, by omega⟩
    rw [Nat.pow_succ]; simp only [Nat.add_sub_cancel]; omega
  have h3 : 2 ^ a ≤ 2 ^ (c - 1) := pow_le (by omega)
  have h4 : 2 ^ b ≤ 2 ^ (c - 1) := pow_le (by omega)
  have := Int.natAbs_add_le i j
  omega
theorem neg_lt {i : Int} {a : Nat} (ha : i.natAbs < 2 ^ a) : (-i).natAbs < 2 ^ a := by rw [Int.natAbs_neg]; exact ha
/-- what made makes -/
theorem made_num (n e : Int) (he : e ≠ 0) : (if 0 < e then (1 : Int) else -1) * n / ((Nat.gcd n.natAbs e.natAbs : Nat) : Int) = (Rat.divInt n e).num := by
  rw [Rat.num_divInt]
  have h1 : Int.gcd e n = Nat.gcd n.natAbs e.natAbs := Nat.gcd_comm _ _
  rw [h1]
  have h2 : (if 0 < e then (1 : Int) else -1) = e.sign := by
    split
    · rw [Int.sign_eq_one_of_pos (by assumption)]
    · rw [Int.sign_eq_neg_one_of_neg (by omega)]
  rw [h2]
theorem made_den (n e : Int) (he : e ≠ 0) : (if 0 < e then (1 : Int) else -1) * e / ((Nat.gcd n.natAbs e.natAbs : Nat) : Int) = ((Rat.divInt n e).den : Int) := by
  rw [Rat.den_divInt, if_neg he]
  have h1 : Int.gcd e n = Nat.gcd n.natAbs e.natAbs := Nat.gcd_comm _ _
  rw [h1, Int.natCast_ediv]
  have h2 : (if 0 < e then (1 : Int) else -1) * e = (e.natAbs : Int) := by
    split <;> omega
  rw [h2]
theorem rd_made (n e : Int) (he : e ≠ 0) : (PyData.tuple [.int ((if 0 < e then (1 : Int) else -1) * n / ((Nat.gcd n.natAbs e.natAbs : Nat) : Int)), .int ((if 0 < e then (1 : Int) else -1) * e / ((Nat.gcd n.natAbs e.natAbs : Nat) : Int))]) = rd (Rat.divInt n e) := by
  rw [made_num n e he, made_den n e he]; rfl
theorem den_pos' (q : Rat) : (0 : Int) < (q.den : Int) := by have := q.den_pos; omega
theorem self_divInt (q : Rat) : Rat.divInt q.num (q.den : Int) = q := Rat.num_divInt_den q
theorem add_divInt (a b : Rat) : Rat.divInt (a.num * b.den + b.num * a.den) ((a.den : Int) * b.den) = a + b := by
  rw [Rat.add_def', ← Int.natCast_mul, Rat.divInt_ofNat]
theorem add_same (a b : Rat) (h : a.den = b.den) : Rat.divInt (a.num + b.num) (a.den : Int) = a + b := by
  rw [Rat.divInt_ofNat, Rat.mkRat_eq_div]
  conv => rhs; rw [← Rat.num_divInt_den a, ← Rat.num_divInt_den b, ← h]
  rw [Rat.divInt_ofNat, Rat.divInt_ofNat, Rat.mkRat_eq_div, Rat.mkRat_eq_div, Rat.intCast_add, Rat.div_def, Rat.div_def, Rat.div_def, Rat.add_mul]
theorem mul_divInt (a b : Rat) : Rat.divInt (a.num * b.num) ((a.den : Int) * b.den) = a * b := by
  rw [Rat.mul_def', ← Int.natCast_mul, Rat.divInt_ofNat]
theorem div_divInt (a b : Rat) : Rat.divInt (a.num * b.den) ((a.den : Int) * b.num) = a / b := by
  rw [Rat.div_def, Rat.inv_def]
  conv => rhs; lhs; rw [← Rat.num_divInt_den a]
  rw [Rat.divInt_mul_divInt]
theorem rd_int (n : Int) : rd (n : Rat) = .tuple [.int n, .int 1] := rfl
theorem of_den_one {q : Rat} (h : q.den = 1) : q = (q.num : Rat) := by
  apply Rat.ext
  · rw [Rat.num_intCast]
  · rw [Rat.den_intCast, h]
theorem lt_iff' (a b : Rat) : decide (a.num * b.den < b.num * a.den) = decide (a < b) := by
  by_cases h : a < b
  · rw [decide_eq_true h, decide_eq_true ((Rat.lt_iff a b).mp h)]
  · rw [decide_eq_false h, decide_eq_false (fun z => h ((Rat.lt_iff a b).mpr z))]
theorem is_rd_den (q : Rat) : 0 < (q.den : Int) ∧ Nat.gcd q.num.natAbs q.den = 1 := ⟨den_pos' q, q.reduced⟩
/-- a pair that is least is a ratio -/
theorem rd_of {n : Int} {e : Int} (h : 0 < e) (g : Nat.gcd n.natAbs e.natAbs = 1) : PyData.tuple [.int n, .int e] = rd (Rat.divInt n e) := by
  rw [← rd_made n e (by omega), if_pos h, g]
  simp
/-- any data: is it a ratio? which? -/
def isRatio : D → Bool
  | .tuple [.int n, .int e] => decide (0 < e) && decide (Nat.gcd n.natAbs e.natAbs = 1)
  | _ => false
def qOf : D → Rat
  | .tuple [.int n, .int e] => Rat.divInt n e
  | _ => 0
theorem isRatio_rd (q : Rat) : isRatio (rd q) = true := by
  show (decide (0 < (q.den : Int)) && decide (Nat.gcd q.num.natAbs ((q.den : Int)).natAbs = 1)) = true
  rw [Bool.and_eq_true, decide_eq_true_eq, decide_eq_true_eq]
  exact ⟨den_pos' q, q.reduced⟩
theorem qOf_rd (q : Rat) : qOf (rd q) = q := self_divInt q
theorem rd_qOf {d : D} (h : isRatio d = true) : d = rd (qOf d) := by
  unfold isRatio at h
  split at h
  · rename_i n e
    rw [Bool.and_eq_true, decide_eq_true_eq, decide_eq_true_eq] at h
    exact rd_of h.1 h.2
  · cases h
def SzD (n : Nat) (d : D) : Prop := isRatio d = true → Sz n (qOf d)
theorem SzD.rd {n : Nat} {q : Rat} (h : Sz n q) : SzD n (rd q) := fun _ => by rw [qOf_rd]; exact h
theorem SzD.no {n : Nat} {d : D} (h : isRatio d = false) : SzD n d := fun z => by rw [h] at z; cases z
theorem map_range_getD {α : Type} (xs : List D) (g : D → α) : (List.range xs.length).map (fun i => g (xs.getD i .none)) = xs.map g := by
  apply List.ext_getElem
  · simp
  · intro i h1 h2
    simp at h1 h2
    simp [h2]
end DL

namespace K00
open PySem PySem.Spec PyProof.Rows L2 DL
def top (i : Nat) : Stmt := PySem.Challenge.pw_withinwidth_k00_whole_ratios.main.body.getD i (.Pass ⟨0, 0, 0, 0⟩)
abbrev s_is_integer : Stmt := top 8
abbrev N_is_integer : List Str := ["value"]
theorem sc_is_integer : FnScope N_is_integer ["value"] (defScope s_is_integer) := ⟨rfl, rfl, rfl, by decide +kernel, rfl, by decide +kernel, by decide +kernel⟩
abbrev s_is_within : Stmt := top 9
abbrev N_is_within : List Str := ["value", "low", "high"]
theorem sc_is_within : FnScope N_is_within ["value", "low", "high"] (defScope s_is_within) := ⟨rfl, rfl, rfl, by decide +kernel, rfl, by decide +kernel, by decide +kernel⟩
abbrev s_check : Stmt := top 10
abbrev N_check : List Str := ["is_right"]
theorem sc_check : FnScope N_check ["is_right"] (defScope s_check) := ⟨rfl, rfl, rfl, by decide +kernel, rfl, by decide +kernel, by decide +kernel⟩
abbrev s_figures_of : Stmt := top 14
abbrev N_figures_of : List Str := ["number", "found", "left", "part"]
theorem sc_figures_of : FnScope N_figures_of ["number"] (defScope s_figures_of) := ⟨rfl, rfl, rfl, by decide +kernel, rfl, by decide +kernel, by decide +kernel⟩
abbrev s_shared : Stmt := top 19
abbrev N_shared : List Str := ["a", "b"]
theorem sc_shared : FnScope N_shared ["a", "b"] (defScope s_shared) := ⟨rfl, rfl, rfl, by decide +kernel, rfl, by decide +kernel, by decide +kernel⟩
abbrev s_made : Stmt := top 20
abbrev N_made : List Str := ["n", "d", "divisor", "sign"]
theorem sc_made : FnScope N_made ["n", "d"] (defScope s_made) := ⟨rfl, rfl, rfl, by decide +kernel, rfl, by decide +kernel, by decide +kernel⟩
abbrev s_is_ratio : Stmt := top 21
abbrev N_is_ratio : List Str := ["value"]
theorem sc_is_ratio : FnScope N_is_ratio ["value"] (defScope s_is_ratio) := ⟨rfl, rfl, rfl, by decide +kernel, rfl, by decide +kernel, by decide +kernel⟩
abbrev s_ratio : Stmt := top 22
abbrev N_ratio : List Str := ["n", "d"]
theorem sc_ratio : FnScope N_ratio ["n", "d"] (defScope s_ratio) := ⟨rfl, rfl, rfl, by decide +kernel, rfl, by decide +kernel, by decide +kernel⟩
abbrev s_check_ratios : Stmt := top 23
abbrev N_check_ratios : List Str := ["values", "value"]
theorem sc_check_ratios : FnScope N_check_ratios ["values"] (defScope s_check_ratios) := ⟨rfl, rfl, rfl, by decide +kernel, rfl, by decide +kernel, by decide +kernel⟩
abbrev s_add : Stmt := top 24
abbrev N_add : List Str := ["a", "b"]
theorem sc_add : FnScope N_add ["a", "b"] (defScope s_add) := ⟨rfl, rfl, rfl, by decide +kernel, rfl, by decide +kernel, by decide +kernel⟩
abbrev s_less : Stmt := top 25
abbrev N_less : List Str := ["a", "b"]
theorem sc_less : FnScope N_less ["a", "b"] (defScope s_less) := ⟨rfl, rfl, rfl, by decide +kernel, rfl, by decide +kernel, by decide +kernel⟩
abbrev s_product : Stmt := top 26
abbrev N_product : List Str := ["a", "b"]
theorem sc_product : FnScope N_product ["a", "b"] (defScope s_product) := ⟨rfl, rfl, rfl, by decide +kernel, rfl, by decide +kernel, by decide +kernel⟩
abbrev s_share : Stmt := top 27
abbrev N_share : List Str := ["a", "b"]
theorem sc_share : FnScope N_share ["a", "b"] (defScope s_share) := ⟨rfl, rfl, rfl, by decide +kernel, rfl, by decide +kernel, by decide +kernel⟩
abbrev s_is_below : Stmt := top 28
abbrev N_is_below : List Str := ["a", "b"]
theorem sc_is_below : FnScope N_is_below ["a", "b"] (defScope s_is_below) := ⟨rfl, rfl, rfl, by decide +kernel, rfl, by decide +kernel, by decide +kernel⟩
abbrev s_plus : Stmt := top 29
abbrev N_plus : List Str := ["a", "b"]
theorem sc_plus : FnScope N_plus ["a", "b"] (defScope s_plus) := ⟨rfl, rfl, rfl, by decide +kernel, rfl, by decide +kernel, by decide +kernel⟩
abbrev s_minus : Stmt := top 30
abbrev N_minus : List Str := ["a", "b"]
theorem sc_minus : FnScope N_minus ["a", "b"] (defScope s_minus) := ⟨rfl, rfl, rfl, by decide +kernel, rfl, by decide +kernel, by decide +kernel⟩
abbrev s_times : Stmt := top 31
abbrev N_times : List Str := ["a", "b"]
theorem sc_times : FnScope N_times ["a", "b"] (defScope s_times) := ⟨rfl, rfl, rfl, by decide +kernel, rfl, by decide +kernel, by decide +kernel⟩
abbrev s_over : Stmt := top 32
abbrev N_over : List Str := ["a", "b"]
theorem sc_over : FnScope N_over ["a", "b"] (defScope s_over) := ⟨rfl, rfl, rfl, by decide +kernel, rfl, by decide +kernel, by decide +kernel⟩
abbrev s_raised : Stmt := top 33
abbrev N_raised : List Str := ["a", "n", "found"]
theorem sc_raised : FnScope N_raised ["a", "n"] (defScope s_raised) := ⟨rfl, rfl, rfl, by decide +kernel, rfl, by decide +kernel, by decide +kernel⟩
abbrev s_power_by : Stmt := top 34
abbrev N_power_by : List Str := ["a", "n"]
theorem sc_power_by : FnScope N_power_by ["a", "n"] (defScope s_power_by) := ⟨rfl, rfl, rfl, by decide +kernel, rfl, by decide +kernel, by decide +kernel⟩
abbrev s_power : Stmt := top 35
abbrev N_power : List Str := ["a", "n"]
theorem sc_power : FnScope N_power ["a", "n"] (defScope s_power) := ⟨rfl, rfl, rfl, by decide +kernel, rfl, by decide +kernel, by decide +kernel⟩
abbrev s_compare : Stmt := top 36
abbrev N_compare : List Str := ["a", "b"]
theorem sc_compare : FnScope N_compare ["a", "b"] (defScope s_compare) := ⟨rfl, rfl, rfl, by decide +kernel, rfl, by decide +kernel, by decide +kernel⟩
abbrev s_floor_of : Stmt := top 37
abbrev N_floor_of : List Str := ["a"]
theorem sc_floor_of : FnScope N_floor_of ["a"] (defScope s_floor_of) := ⟨rfl, rfl, rfl, by decide +kernel, rfl, by decide +kernel, by decide +kernel⟩
abbrev s_ceiling_of : Stmt := top 38
abbrev N_ceiling_of : List Str := ["a"]
theorem sc_ceiling_of : FnScope N_ceiling_of ["a"] (defScope s_ceiling_of) := ⟨rfl, rfl, rfl, by decide +kernel, rfl, by decide +kernel, by decide +kernel⟩
abbrev s_of_bits : Stmt := top 39
abbrev N_of_bits : List Str := ["n", "k"]
theorem sc_of_bits : FnScope N_of_bits ["n", "k"] (defScope s_of_bits) := ⟨rfl, rfl, rfl, by decide +kernel, rfl, by decide +kernel, by decide +kernel⟩
abbrev s_down_by : Stmt := top 40
abbrev N_down_by : List Str := ["a", "k"]
theorem sc_down_by : FnScope N_down_by ["a", "k"] (defScope s_down_by) := ⟨rfl, rfl, rfl, by decide +kernel, rfl, by decide +kernel, by decide +kernel⟩
abbrev s_up_by : Stmt := top 41
abbrev N_up_by : List Str := ["a", "k"]
theorem sc_up_by : FnScope N_up_by ["a", "k"] (defScope s_up_by) := ⟨rfl, rfl, rfl, by decide +kernel, rfl, by decide +kernel, by decide +kernel⟩
abbrev s_down_to : Stmt := top 42
abbrev N_down_to : List Str := ["a", "k"]
theorem sc_down_to : FnScope N_down_to ["a", "k"] (defScope s_down_to) := ⟨rfl, rfl, rfl, by decide +kernel, rfl, by decide +kernel, by decide +kernel⟩
abbrev s_up_to : Stmt := top 43
abbrev N_up_to : List Str := ["a", "k"]
theorem sc_up_to : FnScope N_up_to ["a", "k"] (defScope s_up_to) := ⟨rfl, rfl, rfl, by decide +kernel, rfl, by decide +kernel, by decide +kernel⟩
abbrev s_halved : Stmt := top 44
abbrev N_halved : List Str := ["k"]
theorem sc_halved : FnScope N_halved ["k"] (defScope s_halved) := ⟨rfl, rfl, rfl, by decide +kernel, rfl, by decide +kernel, by decide +kernel⟩
abbrev s_shown_ratio : Stmt := top 45
abbrev N_shown_ratio : List Str := ["a"]
theorem sc_shown_ratio : FnScope N_shown_ratio ["a"] (defScope s_shown_ratio) := ⟨rfl, rfl, rfl, by decide +kernel, rfl, by decide +kernel, by decide +kernel⟩
abbrev s_decimal_by : Stmt := top 46
abbrev N_decimal_by : List Str := ["a", "k", "whole", "told", "figures", "sign"]
theorem sc_decimal_by : FnScope N_decimal_by ["a", "k"] (defScope s_decimal_by) := ⟨rfl, rfl, rfl, by decide +kernel, rfl, by decide +kernel, by decide +kernel⟩
abbrev s_decimal_of : Stmt := top 47
abbrev N_decimal_of : List Str := ["a", "k"]
theorem sc_decimal_of : FnScope N_decimal_of ["a", "k"] (defScope s_decimal_of) := ⟨rfl, rfl, rfl, by decide +kernel, rfl, by decide +kernel, by decide +kernel⟩
abbrev s_root_under : Stmt := top 48
abbrev N_root_under : List Str := ["n", "degree", "found", "nearer"]
theorem sc_root_under : FnScope N_root_under ["n", "degree"] (defScope s_root_under) := ⟨rfl, rfl, rfl, by decide +kernel, rfl, by decide +kernel, by decide +kernel⟩
abbrev s_least_square : Stmt := top 49
abbrev N_least_square : List Str := ["n"]
theorem sc_least_square : FnScope N_least_square ["n"] (defScope s_least_square) := ⟨rfl, rfl, rfl, by decide +kernel, rfl, by decide +kernel, by decide +kernel⟩
abbrev s__law_draws : Stmt := top 51
abbrev N__law_draws : List Str := ["script", "draws", "cell", "number", "first", "k", "seed"]
theorem sc__law_draws : FnScope N__law_draws ["script"] (defScope s__law_draws) := ⟨rfl, rfl, rfl, by decide +kernel, rfl, by decide +kernel, by decide +kernel⟩
abbrev s__law_same : Stmt := top 52
abbrev N__law_same : List Str := ["actual", "due", "k", "key"]
theorem sc__law_same : FnScope N__law_same ["actual", "due"] (defScope s__law_same) := ⟨rfl, rfl, rfl, by decide +kernel, rfl, by decide +kernel, by decide +kernel⟩
abbrev s__law_take : Stmt := top 53
abbrev N__law_take : List Str := ["draws", "bound"]
theorem sc__law_take : FnScope N__law_take ["draws", "bound"] (defScope s__law_take) := ⟨rfl, rfl, rfl, by decide +kernel, rfl, by decide +kernel, by decide +kernel⟩
abbrev s__law_pick : Stmt := top 54
abbrev N__law_pick : List Str := ["draws", "some"]
theorem sc__law_pick : FnScope N__law_pick ["draws", "some"] (defScope s__law_pick) := ⟨rfl, rfl, rfl, by decide +kernel, rfl, by decide +kernel, by decide +kernel⟩
abbrev s__law_flag : Stmt := top 55
abbrev N__law_flag : List Str := ["error", "kinds", "k"]
theorem sc__law_flag : FnScope N__law_flag ["error"] (defScope s__law_flag) := ⟨rfl, rfl, rfl, by decide +kernel, rfl, by decide +kernel, by decide +kernel⟩
abbrev s__law_r : Stmt := top 56
abbrev N__law_r : List Str := ["n", "d", "a", "b", "turn"]
theorem sc__law_r : FnScope N__law_r ["n", "d"] (defScope s__law_r) := ⟨rfl, rfl, rfl, by decide +kernel, rfl, by decide +kernel, by decide +kernel⟩
abbrev s__law_add : Stmt := top 57
abbrev N__law_add : List Str := ["a", "b"]
theorem sc__law_add : FnScope N__law_add ["a", "b"] (defScope s__law_add) := ⟨rfl, rfl, rfl, by decide +kernel, rfl, by decide +kernel, by decide +kernel⟩
abbrev s__law_sub : Stmt := top 58
abbrev N__law_sub : List Str := ["a", "b"]
theorem sc__law_sub : FnScope N__law_sub ["a", "b"] (defScope s__law_sub) := ⟨rfl, rfl, rfl, by decide +kernel, rfl, by decide +kernel, by decide +kernel⟩
abbrev s__law_mul : Stmt := top 59
abbrev N__law_mul : List Str := ["a", "b"]
theorem sc__law_mul : FnScope N__law_mul ["a", "b"] (defScope s__law_mul) := ⟨rfl, rfl, rfl, by decide +kernel, rfl, by decide +kernel, by decide +kernel⟩
abbrev s__law_less : Stmt := top 60
abbrev N__law_less : List Str := ["a", "b"]
theorem sc__law_less : FnScope N__law_less ["a", "b"] (defScope s__law_less) := ⟨rfl, rfl, rfl, by decide +kernel, rfl, by decide +kernel, by decide +kernel⟩
abbrev s__law_twos : Stmt := top 61
abbrev N__law_twos : List Str := ["many", "found", "k"]
theorem sc__law_twos : FnScope N__law_twos ["many"] (defScope s__law_twos) := ⟨rfl, rfl, rfl, by decide +kernel, rfl, by decide +kernel, by decide +kernel⟩
abbrev s__law_any : Stmt := top 62
abbrev N__law_any : List Str := ["draws"]
theorem sc__law_any : FnScope N__law_any ["draws"] (defScope s__law_any) := ⟨rfl, rfl, rfl, by decide +kernel, rfl, by decide +kernel, by decide +kernel⟩
abbrev s__law_power : Stmt := top 63
abbrev N__law_power : List Str := ["a", "n", "found", "k"]
theorem sc__law_power : FnScope N__law_power ["a", "n"] (defScope s__law_power) := ⟨rfl, rfl, rfl, by decide +kernel, rfl, by decide +kernel, by decide +kernel⟩
abbrev s__law_told : Stmt := top 64
abbrev N__law_told : List Str := ["which", "args", "error"]
theorem sc__law_told : FnScope N__law_told ["which", "args"] (defScope s__law_told) := ⟨rfl, rfl, rfl, by decide +kernel, rfl, by decide +kernel, by decide +kernel⟩
abbrev s__law_decimal : Stmt := top 65
abbrev N__law_decimal : List Str := ["a", "k", "whole", "figures", "rest", "behind", "turn", "is_nothing"]
theorem sc__law_decimal : FnScope N__law_decimal ["a", "k"] (defScope s__law_decimal) := ⟨rfl, rfl, rfl, by decide +kernel, rfl, by decide +kernel, by decide +kernel⟩
abbrev s_law : Stmt := top 66
abbrev N_law : List Str := ["script", "draws", "turn", "a", "b", "n", "k", "due", "got", "low", "high", "text", "up", "whole", "down", "above", "number", "root", "bad", "told", "which", "odd"]
theorem sc_law : FnScope N_law ["script"] (defScope s_law) := ⟨rfl, rfl, rfl, by decide +kernel, rfl, by decide +kernel, by decide +kernel⟩
/-- what the top has written -/
structure Txt (K : PySem.W.Frag) (mg : Str → Option Value) : Prop where
  h_is_integer : Has K mg "is_integer" s_is_integer ["value"]
  h_is_within : Has K mg "is_within" s_is_within ["value", "low", "high"]
  h_check : Has K mg "check" s_check ["is_right"]
  h_figures_of : Has K mg "figures_of" s_figures_of ["number"]
  h_shared : Has K mg "shared" s_shared ["a", "b"]
  h_made : Has K mg "made" s_made ["n", "d"]
  h_is_ratio : Has K mg "is_ratio" s_is_ratio ["value"]
  h_ratio : Has K mg "ratio" s_ratio ["n", "d"]
  h_check_ratios : ∃ f fd, mg "check_ratios" = some (.ref f) ∧ Fun K "check_ratios" "check_ratios" s_check_ratios f fd
  h_add : Has K mg "add" s_add ["a", "b"]
  h_less : Has K mg "less" s_less ["a", "b"]
  h_product : Has K mg "product" s_product ["a", "b"]
  h_share : Has K mg "share" s_share ["a", "b"]
  h_is_below : Has K mg "is_below" s_is_below ["a", "b"]
  h_plus : Has K mg "plus" s_plus ["a", "b"]
  h_minus : Has K mg "minus" s_minus ["a", "b"]
  h_times : Has K mg "times" s_times ["a", "b"]
  h_over : Has K mg "over" s_over ["a", "b"]
  h_raised : Has K mg "raised" s_raised ["a", "n"]
  h_power_by : Has K mg "power_by" s_power_by ["a", "n"]
  h_power : Has K mg "power" s_power ["a", "n"]
  h_compare : Has K mg "compare" s_compare ["a", "b"]
  h_floor_of : Has K mg "floor_of" s_floor_of ["a"]
  h_ceiling_of : Has K mg "ceiling_of" s_ceiling_of ["a"]
  h_of_bits : Has K mg "of_bits" s_of_bits ["n", "k"]
  h_down_by : Has K mg "down_by" s_down_by ["a", "k"]
  h_up_by : Has K mg "up_by" s_up_by ["a", "k"]
  h_down_to : Has K mg "down_to" s_down_to ["a", "k"]
  h_up_to : Has K mg "up_to" s_up_to ["a", "k"]
  h_halved : Has K mg "halved" s_halved ["k"]
  h_shown_ratio : Has K mg "shown_ratio" s_shown_ratio ["a"]
  h_decimal_by : Has K mg "decimal_by" s_decimal_by ["a", "k"]
  h_decimal_of : Has K mg "decimal_of" s_decimal_of ["a", "k"]
  h_root_under : Has K mg "root_under" s_root_under ["n", "degree"]
  h_least_square : Has K mg "least_square" s_least_square ["n"]
  h__law_draws : Has K mg "_law_draws" s__law_draws ["script"]
  h__law_same : Has K mg "_law_same" s__law_same ["actual", "due"]
  h__law_take : Has K mg "_law_take" s__law_take ["draws", "bound"]
  h__law_pick : Has K mg "_law_pick" s__law_pick ["draws", "some"]
  h__law_flag : Has K mg "_law_flag" s__law_flag ["error"]
  h__law_r : Has K mg "_law_r" s__law_r ["n", "d"]
  h__law_add : Has K mg "_law_add" s__law_add ["a", "b"]
  h__law_sub : Has K mg "_law_sub" s__law_sub ["a", "b"]
  h__law_mul : Has K mg "_law_mul" s__law_mul ["a", "b"]
  h__law_less : Has K mg "_law_less" s__law_less ["a", "b"]
  h__law_twos : Has K mg "_law_twos" s__law_twos ["many"]
  h__law_any : Has K mg "_law_any" s__law_any ["draws"]
  h__law_power : Has K mg "_law_power" s__law_power ["a", "n"]
  h__law_told : Has K mg "_law_told" s__law_told ["which", "args"]
  h__law_decimal : Has K mg "_law_decimal" s__law_decimal ["a", "k"]
  h_law : Has K mg "law" s_law ["script"]
  b_abs : mg "abs" = Option.none
  b_all : mg "all" = Option.none
  b_bool : mg "bool" = Option.none
  b_dict : mg "dict" = Option.none
  b_int : mg "int" = Option.none
  b_isinstance : mg "isinstance" = Option.none
  b_len : mg "len" = Option.none
  b_list : mg "list" = Option.none
  b_max : mg "max" = Option.none
  b_range : mg "range" = Option.none
  b_reversed : mg "reversed" = Option.none
  b_str : mg "str" = Option.none
  b_sum : mg "sum" = Option.none
  b_tuple : mg "tuple" = Option.none
  c_LONG_FIGURES : ∃ t, mg "LONG_FIGURES" = some (.int (18) t)
  c_LONG : ∃ t, mg "LONG" = some (.int (1000000000000000000) t)
  c_MOST_BITS : ∃ t, mg "MOST_BITS" = some (.int (20000) t)
  c_MOST_POWER : ∃ t, mg "MOST_POWER" = some (.int (400) t)
  c_MOST_FIGURES : ∃ t, mg "MOST_FIGURES" = some (.int (400) t)
  x_NotRight : Er K mg "NotRight"
  x_NoAnswer : Er K mg "NoAnswer"
end K00

/-! K1: the program's small defs about ratios. -/
namespace K00
open PySem PySem.Spec PyProof.Rows L2 DL
section
variable {P : Program} {w : World} {K : PySem.W.Frag} {mg : Str → Option Value} {base : Heap}

/-! ### what isinstance says of data -/
def isI : D → Bool
  | .int _ => true
  | .bool _ => true
  | _ => false
def isB : D → Bool
  | .bool _ => true
  | _ => false
def isT : D → Bool
  | .tuple _ => true
  | _ => false
def isL : D → Bool
  | .list _ => true
  | _ => false
def isS : D → Bool
  | .str _ => true
  | _ => false
def isDc : D → Bool
  | .dict _ => true
  | _ => false
theorem kit_int : ∀ d : D, kitB (tyD d) "int" = some (isI d)
  | .none => (by decide +kernel : kitB "NoneType" "int" = some false)
  | .bool _ => (by decide +kernel : kitB "bool" "int" = some true)
  | .int _ => (by decide +kernel : kitB "int" "int" = some true)
  | .str _ => (by decide +kernel : kitB "str" "int" = some false)
  | .tuple _ => (by decide +kernel : kitB "tuple" "int" = some false)
  | .list _ => (by decide +kernel : kitB "list" "int" = some false)
  | .dict _ => (by decide +kernel : kitB "dict" "int" = some false)
theorem kit_bool : ∀ d : D, kitB (tyD d) "bool" = some (isB d)
  | .none => (by decide +kernel : kitB "NoneType" "bool" = some false)
  | .bool _ => (by decide +kernel : kitB "bool" "bool" = some true)
  | .int _ => (by decide +kernel : kitB "int" "bool" = some false)
  | .str _ => (by decide +kernel : kitB "str" "bool" = some false)
  | .tuple _ => (by decide +kernel : kitB "tuple" "bool" = some false)
  | .list _ => (by decide +kernel : kitB "list" "bool" = some false)
  | .dict _ => (by decide +kernel : kitB "dict" "bool" = some false)
theorem kit_tuple : ∀ d : D, kitB (tyD d) "tuple" = some (isT d)
  | .none => (by decide +kernel : kitB "NoneType" "tuple" = some false)
  | .bool _ => (by decide +kernel : kitB "bool" "tuple" = some false)
  | .int _ => (by decide +kernel : kitB "int" "tuple" = some false)
  | .str _ => (by decide +kernel : kitB "str" "tuple" = some false)
  | .tuple _ => (by decide +kernel : kitB "tuple" "tuple" = some true)
  | .list _ => (by decide +kernel : kitB "list" "tuple" = some false)
  | .dict _ => (by decide +kernel : kitB "dict" "tuple" = some false)
theorem kit_list : ∀ d : D, kitB (tyD d) "list" = some (isL d)
  | .none => (by decide +kernel : kitB "NoneType" "list" = some false)
  | .bool _ => (by decide +kernel : kitB "bool" "list" = some false)
  | .int _ => (by decide +kernel : kitB "int" "list" = some false)
  | .str _ => (by decide +kernel : kitB "str" "list" = some false)
  | .tuple _ => (by decide +kernel : kitB "tuple" "list" = some false)
  | .list _ => (by decide +kernel : kitB "list" "list" = some true)
  | .dict _ => (by decide +kernel : kitB "dict" "list" = some false)
theorem kit_str : ∀ d : D, kitB (tyD d) "str" = some (isS d)
  | .none => (by decide +kernel : kitB "NoneType" "str" = some false)
  | .bool _ => (by decide +kernel : kitB "bool" "str" = some false)
  | .int _ => (by decide +kernel : kitB "int" "str" = some false)
  | .str _ => (by decide +kernel : kitB "str" "str" = some true)
  | .tuple _ => (by decide +kernel : kitB "tuple" "str" = some false)
  | .list _ => (by decide +kernel : kitB "list" "str" = some false)
  | .dict _ => (by decide +kernel : kitB "dict" "str" = some false)
theorem kit_dict : ∀ d : D, kitB (tyD d) "dict" = some (isDc d)
  | .none => (by decide +kernel : kitB "NoneType" "dict" = some false)
  | .bool _ => (by decide +kernel : kitB "bool" "dict" = some false)
  | .int _ => (by decide +kernel : kitB "int" "dict" = some false)
  | .str _ => (by decide +kernel : kitB "str" "dict" = some false)
  | .tuple _ => (by decide +kernel : kitB "tuple" "dict" = some false)
  | .list _ => (by decide +kernel : kitB "list" "dict" = some false)
  | .dict _ => (by decide +kernel : kitB "dict" "dict" = some true)

/-! ### is_integer, is_within -/
def isInt : D → Bool
  | .int _ => true
  | _ => false
theorem isInt_eq (d : D) : (isI d && !isB d) = isInt d := by cases d <;> rfl
def R_is_integer : List D → D → Prop := fun ds d => ∃ v, ds = [v] ∧ d = .bool (isInt v)
theorem ok_is_integer (T : Txt K mg) : PFn P w K mg base 1 "is_integer" R_is_integer :=
  pfn_of T.h_is_integer sc_is_integer (fun ds d ⟨v, e, _⟩ => by rw [e]; rfl) fun cdv A outer s f H Q _ hr ds d G vs ⟨v, e, ed⟩ g hv q => by
    subst e ed
    obtain ⟨u, rfl, hu⟩ := all1 hv
    rw [← isInt_eq] at q
    exact s_ret (e_and2 (e_isi T.b_isinstance T.b_int (by decide +kernel) (e_var 0 hu) (kit_int v)) fun _ => e_not (e_isi T.b_isinstance T.b_bool (by decide +kernel) (e_var 0 hu) (kit_bool v))) g q
/-- an int in bounds -/
def within (a b : Int) : D → Bool
  | .int i => decide (a ≤ i) && decide (i ≤ b)
  | _ => false
def intOf : D → Int
  | .int i => i
  | _ => 0
theorem within_of {a b : Int} {v : D} (h : within a b v = true) : ∃ i, v = .int i ∧ a ≤ i ∧ i ≤ b := by
  cases v with
  | int i =>
    have h : (decide (a ≤ i) && decide (i ≤ b)) = true := h
    rw [Bool.and_eq_true, decide_eq_true_eq, decide_eq_true_eq] at h
    exact ⟨i, rfl, h.1, h.2⟩
  | _ => cases h
def R_is_within : List D → D → Prop := fun ds d => ∃ v a b, ds = [v, .int a, .int b] ∧ d = .bool (within a b v)
theorem ok_is_within (T : Txt K mg) : PFn P w K mg base 2 "is_within" R_is_within :=
  pfn_of T.h_is_within sc_is_within (fun ds d ⟨v, a, b, e, _⟩ => by rw [e]; rfl) fun cdv A outer s f H Q _ hr ds d G vs ⟨v, a, b, e, ed⟩ g hv q => by
    subst e ed
    obtain ⟨u, x, y, rfl, hu, hx, hy⟩ := all3 hv
    refine s_ret (e_and2 (l := within a b v) (e_call (ok_is_integer T) hr (a_cons (e_var 0 hu) a_nil) ⟨v, rfl, rfl⟩) fun hi => ?_) g ?_
    · cases v <;> first | cases hi | skip
      exact e_chain (f := fun i j => decide (i ≤ j)) (f' := fun i j => decide (i ≤ j)) op_le op_le (e_var 1 hx) (e_var 0 hu) (e_var 2 hy) fun h1 h2 h3 => pe_chain op_le op_le h1 h2 h3
    · intro v' G' H' n hd
      refine q v' G' H' n ?_
      cases v <;> exact hd

/-! ### check -/
def R_check : List D → Except Str D → Prop := fun ds r => ∃ k : Bool, ds = [.bool k] ∧ r = if k then .ok .none else .error "NotRight"
theorem ok_check (T : Txt K mg) : XFn P w K mg base 1 "check" R_check :=
  xfn_of T.h_check sc_check (fun ds d ⟨k, e, _⟩ => by rw [e]; rfl) fun cdv A outer s f H Q _ hr ds r G vs ⟨k, e, er⟩ g hv q1 q2 => by
    subst e
    obtain ⟨u, rfl, hu⟩ := all1 hv
    refine s_when (k := !k) (t_not (t_val (e_var 0 hu))) g (fun hk G' H' n => ?_) fun hk G' H' n => ?_
    · have hk : k = false := by simpa using hk
      subst hk
      exact s_raise rfl T.x_NotRight (L2N.takes_of rfl rfl rfl rfl) fun c hc => q2 "NotRight" c er hc G' H' n
    · have hk : k = true := by simpa using hk
      subst hk
      exact s_nil (q1 .none er .non G' H' n .non)

/-! ### shared, made -/
def R_shared : List D → D → Prop := fun ds d => ∃ a b : Nat, ds = [.int a, .int b] ∧ d = .int (Nat.gcd a b : Nat)
theorem ok_shared (T : Txt K mg) : PFn P w K mg base 1 "shared" R_shared :=
  pfn_of T.h_shared sc_shared (fun ds d ⟨a, b, e, _⟩ => by rw [e]; rfl) fun cdv A outer s f H Q _ hr ds d G vs ⟨a, b, e, ed⟩ g hv q => by
    subst e ed
    obtain ⟨u, x, rfl, hu, hx⟩ := all2 hv
    cases hu; cases hx
    refine s_while .never (fun m σ H1 => ∃ (x y : Nat) (G1 : Hp), m = y ∧ Nat.gcd x y = Nat.gcd a b ∧ σ = [some (.int x), some (.int y)] ∧ Nx G H G1 H1) b ⟨a, b, G, rfl, rfl, rfl, Nx.refl g⟩ ?_
    rintro y σ H1 ⟨x, _, G1, rfl, hg, rfl, n1⟩
    refine ⟨_, G1, n1.gh, t_gt (e_var 1 (.int _)) e_int, fun hk G2 H2 n2 => ?_, fun hk G2 H2 n2 => ?_⟩
    · have hy : 0 < y := by simpa using hk
      refine ⟨fun σ2 H2 => ∃ (x' y' : Nat) (G1 : Hp), y' < y ∧ Nat.gcd x' y' = Nat.gcd a b ∧ σ2 = [some (.int x'), some (.int y')] ∧ Nx G H G1 H2, fun σ2 H2 ⟨x', y', G1, l, h⟩ => ⟨y', l, x', y', G1, rfl, h⟩, ?_⟩
      refine s_par 0 1 rfl sc_shared.nd (a_cons (e_var 1 (.int _)) (a_cons (e_mod (e_var 0 (.int _)) (e_var 1 (.int _)) (by omega)) a_nil)) n2.gh fun u v G3 H3 n3 h1 h2 => s_nil ?_
      cases h1; cases h2
      refine ⟨y, x % y, G3, Nat.mod_lt _ hy, ?_, by rw [Int.natCast_emod]; rfl, (n1.trans n2).trans n3⟩
      rw [← hg, Nat.gcd_comm x y, Nat.gcd_rec y x, Nat.gcd_comm]
    · have hy : y = 0 := by simpa using hk
      subst hy
      refine s_ret (e_var 0 (.int _)) n2.gh fun v G3 H3 n3 hv => q v G3 H3 ((n1.trans n2).trans n3) ?_
      rw [← hg, Nat.gcd_zero_right]; exact hv
def R_made : List D → D → Prop := fun ds d => ∃ n e : Int, ds = [.int n, .int e] ∧ e ≠ 0 ∧ n.natAbs < 2 ^ 100000 ∧ e.natAbs < 2 ^ 8000 ∧ d = rd (Rat.divInt n e)
theorem ok_made (T : Txt K mg) : PFn P w K mg base 2 "made" R_made :=
  pfn_of T.h_made sc_made (fun ds d ⟨a, b, e, _⟩ => by rw [e]; rfl) fun cdv A outer s f H Q _ hr ds d G vs ⟨n, e, eds, he, hn, hd, ed⟩ g hv q => by
    subst eds ed
    obtain ⟨u, x, rfl, hu, hx⟩ := all2 hv
    cases hu; cases hx
    refine s_set 2 (e_call (ok_shared T) hr (a_cons (e_abs T.b_abs (e_var 0 (.int _))) (a_cons (e_abs T.b_abs (e_var 1 (.int _))) a_nil)) ⟨n.natAbs, e.natAbs, rfl, rfl⟩) g sc_made.nd fun v1 G1 H1 n1 h1 => ?_
    cases h1
    refine s_set 3 (d := .int (if 0 < e then 1 else -1)) (e_if (t_gt (e_var 1 (.int _)) e_int) (fun h => (e_is e_int (by rw [if_pos (by simpa using h)]))) fun h => e_is (e_neg e_int) (by rw [if_neg (by simpa using h)])) n1.gh sc_made.nd fun v2 G2 H2 n2 h2 => ?_
    cases h2
    have gp : 0 < ((Nat.gcd n.natAbs e.natAbs : Nat) : Int) := by
      have := Nat.gcd_pos_of_pos_right n.natAbs (show 0 < e.natAbs by omega)
      omega
    have gl : ((Nat.gcd n.natAbs e.natAbs : Nat) : Int).natAbs < 2 ^ 8000 := by
      rw [Int.natAbs_natCast]
      exact Nat.lt_of_le_of_lt (Nat.gcd_le_right _ (by omega)) hd
    have sg : (if 0 < e then (1 : Int) else -1).natAbs < 2 ^ 2 := by split <;> decide
    refine s_ret (e_tup (a_cons (e_div (e_mul (e_var 3 (.int _)) (e_var 0 (.int _)) (mulOK sg hn (by decide))) (e_var 2 (.int _)) (divOK gp gl (by decide))) (a_cons (e_div (e_mul (e_var 3 (.int _)) (e_var 1 (.int _)) (mulOK sg hd (by decide))) (e_var 2 (.int _)) (divOK gp gl (by decide))) a_nil))) n2.gh fun v G3 H3 n3 hv => ?_
    rw [rd_made n e he] at hv
    exact q v G3 H3 ((n1.trans n2).trans n3) hv
end
end K00

/-! K2: is_ratio, check_ratios, and what rests on them. -/
namespace K00
open PySem PySem.Spec PyProof.Rows L2 DL
section
variable {P : Program} {w : World} {K : PySem.W.Frag} {mg : Str → Option Value} {base : Heap}

def R_is_ratio : List D → D → Prop := fun ds d => ∃ v, ds = [v] ∧ d = .bool (isRatio v)
theorem isRatio_short {xs : List D} (h : xs.length ≠ 2) : isRatio (.tuple xs) = false := by
  unfold isRatio
  split
  · rename_i e; cases e; exact absurd rfl h
  · rfl
theorem isRatio_a {a b : D} (h : isInt a = false) : isRatio (.tuple [a, b]) = false := by
  unfold isRatio
  split
  · rename_i e; cases e; cases h
  · rfl
theorem isRatio_b {a b : D} (h : isInt b = false) : isRatio (.tuple [a, b]) = false := by
  unfold isRatio
  split
  · rename_i e; cases e; cases h
  · rfl
theorem isRatio_T {v : D} (h : isT v = false) : isRatio v = false := by cases v <;> first | rfl | cases h
theorem isInt_of {v : D} (h : isInt v = true) : ∃ i, v = .int i := by cases v <;> first | exact ⟨_, rfl⟩ | cases h
theorem isT_of {v : D} (h : isT v = true) : ∃ xs, v = .tuple xs := by cases v <;> first | exact ⟨_, rfl⟩ | cases h
theorem ok_is_ratio (T : Txt K mg) : PFn P w K mg base 2 "is_ratio" R_is_ratio :=
  pfn_of T.h_is_ratio sc_is_ratio (fun ds d ⟨v, e, _⟩ => by rw [e]; rfl) fun cdv A outer s f H Q _ hr ds d G vs ⟨v, e, ed⟩ g hv q => by
    subst e ed
    obtain ⟨u, rfl, hu⟩ := all1 hv
    cases hT : isT v with
    | false =>
      rw [isRatio_T hT] at q
      refine s_when (k := true) (t_of (tw_orT (t_is (t_not (t_val (e_isi T.b_isinstance T.b_tuple (by decide +kernel) (e_var 0 hu) (kit_tuple v)))) (by rw [hT]; rfl)))) g (fun _ G' H' n => ?_) (fun z => nomatch z)
      exact s_ret e_bl n.gh fun v G2 H2 n2 h2 => q v G2 H2 (n.trans n2) h2
    | true =>
      obtain ⟨xs, rfl⟩ := isT_of hT
      by_cases hl : xs.length = 2
      · obtain ⟨a, b, rfl⟩ : ∃ a b, xs = [a, b] := by
          match xs, hl with
          | [a, b], _ => exact ⟨a, b, rfl⟩
        have len2 : (!decide ((([a, b] : List D).length : Int) = 2)) = false := rfl
        cases ha : isInt a with
        | false =>
          rw [isRatio_a ha] at q
          refine s_when (k := true) (t_of (tw_orF (t_is (t_not (t_val (e_isi T.b_isinstance T.b_tuple (by decide +kernel) (e_var 0 hu) (kit_tuple _)))) (by rfl)) (tw_orF (t_is (t_neI (e_len T.b_len (e_var 0 hu) (.inl rfl)) e_int) len2)
            (tw_orT (t_is (t_not (t_val (e_call (ok_is_integer T) hr (a_cons (e_ixT (e_var 0 hu) e_int rfl) a_nil) ⟨_, rfl, rfl⟩))) (by rw [ha]; rfl)))))) g (fun _ G' H' n => ?_) (fun z => nomatch z)
          exact s_ret e_bl n.gh fun v G2 H2 n2 h2 => q v G2 H2 (n.trans n2) h2
        | true =>
          obtain ⟨i, rfl⟩ := isInt_of ha
          cases hb : isInt b with
          | false =>
            rw [isRatio_b hb] at q
            refine s_when (k := true) (t_of (tw_orF (t_is (t_not (t_val (e_isi T.b_isinstance T.b_tuple (by decide +kernel) (e_var 0 hu) (kit_tuple _)))) (by rfl)) (tw_orF (t_is (t_neI (e_len T.b_len (e_var 0 hu) (.inl rfl)) e_int) len2)
              (tw_orF (t_is (t_not (t_val (e_call (ok_is_integer T) hr (a_cons (e_ixT (e_var 0 hu) e_int rfl) a_nil) ⟨_, rfl, rfl⟩))) (by rfl))
              (tw_or1 (t_is (t_not (t_val (e_call (ok_is_integer T) hr (a_cons (e_ixT (e_var 0 hu) e_int rfl) a_nil) ⟨_, rfl, rfl⟩))) (by rw [hb]; rfl))))))) g (fun _ G' H' n => ?_) (fun z => nomatch z)
            exact s_ret e_bl n.gh fun v G2 H2 n2 h2 => q v G2 H2 (n.trans n2) h2
          | true =>
            obtain ⟨j, rfl⟩ := isInt_of hb
            refine s_when (k := false) (t_of (tw_orF (t_is (t_not (t_val (e_isi T.b_isinstance T.b_tuple (by decide +kernel) (e_var 0 hu) (kit_tuple _)))) (by rfl)) (tw_orF (t_is (t_neI (e_len T.b_len (e_var 0 hu) (.inl rfl)) e_int) len2)
              (tw_orF (t_is (t_not (t_val (e_call (ok_is_integer T) hr (a_cons (e_ixT (e_var 0 hu) e_int rfl) a_nil) ⟨_, rfl, rfl⟩))) (by rfl))
              (tw_or1 (t_is (t_not (t_val (e_call (ok_is_integer T) hr (a_cons (e_ixT (e_var 0 hu) e_int rfl) a_nil) ⟨_, rfl, rfl⟩))) (by rfl))))))) g (fun z => nomatch z) (fun _ G' H' n => ?_)
            refine s_ret (d := .bool (decide (0 < j) && decide (Nat.gcd i.natAbs j.natAbs = 1))) (e_and2 (e_gt (e_ixT (e_var 0 (Dp.mono n.g hu)) e_int rfl) e_int) fun h => ?_) n.gh fun v G2 H2 n2 h2 => q v G2 H2 (n.trans n2) h2
            have hj : 0 < j := by simpa using h
            refine e_is (e_eqI (e_call (ok_shared T) (hr.mono (by decide)) (a_cons (e_abs T.b_abs (e_ixT (e_var 0 (Dp.mono n.g hu)) e_int rfl)) (a_cons (e_ixT (e_var 0 (Dp.mono n.g hu)) e_int rfl) a_nil)) ⟨i.natAbs, j.natAbs, by rw [Int.natAbs_of_nonneg (by omega : 0 ≤ j)], rfl⟩) e_int) ?_
            congr 1
            by_cases hg : Nat.gcd i.natAbs j.natAbs = 1
            · rw [decide_eq_true hg, decide_eq_true (by omega)]
            · rw [decide_eq_false hg, decide_eq_false (by omega)]
      · rw [isRatio_short hl] at q
        refine s_when (k := true) (t_of (tw_orF (t_is (t_not (t_val (e_isi T.b_isinstance T.b_tuple (by decide +kernel) (e_var 0 hu) (kit_tuple _)))) (by rfl)) (tw_orT (t_is (t_neI (e_len T.b_len (e_var 0 hu) (.inl rfl)) e_int) (by rw [decide_eq_false (by omega)]; rfl))))) g (fun _ G' H' n => ?_) (fun z => nomatch z)
        exact s_ret e_bl n.gh fun v G2 H2 n2 h2 => q v G2 H2 (n.trans n2) h2

/-! ### check_ratios(*values) -/
def R_check_ratios : List D → Except Str D → Prop := fun ds r => ds.length ≤ 1000 ∧ r = if ds.all isRatio then .ok .none else .error "NotRight"
theorem ok_check_ratios (T : Txt K mg) : XFn P w K mg base 4 "check_ratios" R_check_ratios := by
  obtain ⟨f, fd, hm, F⟩ := T.h_check_ratios
  obtain ⟨oc, od, kV, doc, pm, an, cdv, ct, osl, rfl, lk, hcd⟩ := F.ex
  refine ⟨f, hm, F.kp, FnR.imp (StX.fn_star (ps := []) (pv := "values") (k := 3) (CX := L2N.CX P w) (sp := spX K mg fun ds r => ∃ xs, ds = [.tuple xs] ∧ R_check_ratios xs r) lk hcd sc_check_ratios cxUpN (fun us rest hl => ?_) fun A outer s H vs Q E hr ⟨ds, r, G, ⟨xs, eds, hl, er⟩, g, hv, q1, q2⟩ => ?_)
    fun vs H Q E ⟨ds, r, G, hR, g, hv, q1, q2⟩ => ⟨[], vs, rfl, rfl, by rw [DpAll.len hv]; exact Evl.sz_of (by have := hR.1; omega), fun p hp => ?_⟩⟩
  · match us, hl with
    | [], _ =>
      cases rest with
      | nil => rfl
      | cons r rs => rfl
  · subst eds
    obtain ⟨u, rfl, hu⟩ := all1 hv
    have ed : (xs.map isRatio).all id = xs.all isRatio := by rw [List.all_map]; rfl
    refine ⟨_, pss_w, s_callX (ok_check T) (hr.mono (by decide)) (L2N.takes_of rfl rfl rfl rfl) (a_cons (e_is (e_allB (bs := xs.map isRatio) rfl T.b_all ?_) (by rw [ed])) a_nil) ⟨xs.all isRatio, rfl, rfl⟩ g ?_ ?_⟩
    · refine e_is (e_lcS (scope := _) (x := "value") (j := 1) (xs := xs) (n := xs.length) (tt := tYes) (c := fun _ => true) (f := fun i => .bool (isRatio (xs.getD i .none))) rfl sc_check_ratios.nd (e_var 0 hu) (.inr rfl) rfl (by omega) (blkOk_by (N := N_check_ratios) (sc := defScope s_check_ratios) (by decide +kernel)) (fun _ _ _ _ _ => pg_name (i := 1) sc_check_ratios.nd rfl (Or.inl rfl)) (fun _ _ _ _ _ => pts_nil)
        (fun i v d G' hd gg hv G1 H1 _ gh Q q => q G1 H1 (Nx.refl gh)) (fun i v d G' hd gg hv _ s H0 C cl fp => ?_) (fun _ => rfl) (pi_list pe_w) (pi_tup pe_w)) ?_
      · refine e_call (ok_is_ratio T) (hr.mono (by decide)) (a_cons (e_var 1 hv) a_nil) ⟨d, rfl, ?_⟩
        rw [List.getD_eq_getElem?_getD, hd]; rfl
      · rw [kept_all]
        congr 1
        rw [List.map_map, map_range_getD xs (fun d => PyData.bool (isRatio d))]; rfl
    · intro d hd G' H' n
      refine s_nil (q1 .none ?_ .non G' H' n .non)
      cases h : xs.all isRatio with
      | true => rw [er, h]; rfl
      | false => rw [h] at hd; cases hd
    · intro nm c hc hmc G' H' n
      exact q2 nm c (er.trans hc) hmc G' H' n
  · have nx := Nx.new (o := .tup vs) g hp
    exact ⟨_, r, upd G p (.tup vs), ⟨ds, rfl, hR⟩, nx.gh, .cons (.tup (Evl.st_of upd_same) (DpAll.mono nx.g hv)) .nil, fun d hd v G' H' n => q1 d hd v G' H' (nx.trans n), fun nm c hc hmc G' H' n => q2 nm c hc hmc G' H' (nx.trans n)⟩
end
end K00

/-! K3: sums, products, quotients, powers of ratios. -/
namespace K00
open PySem PySem.Spec PyProof.Rows L2 DL
section
variable {P : Program} {w : World} {K : PySem.W.Frag} {mg : Str → Option Value} {base : Heap}

theorem natI {n : Nat} {m : Nat} (h : n < m) : ((n : Int)).natAbs < m := by rw [Int.natAbs_natCast]; exact h
theorem decNat (a b : Nat) : decide ((a : Int) = (b : Int)) = decide (a = b) := by
  by_cases h : a = b
  · subst h; simp
  · rw [decide_eq_false h, decide_eq_false (by omega)]
def R_add : List D → D → Prop := fun ds d => ∃ a b : Rat, ds = [rd a, rd b] ∧ Sz 3000 a ∧ Sz 3000 b ∧ d = rd (a + b)
theorem ok_add (T : Txt K mg) : PFn P w K mg base 3 "add" R_add :=
  pfn_of T.h_add sc_add (fun ds d ⟨a, b, e, _⟩ => by rw [e]; rfl) fun cdv A outer s f H Q _ hr ds d G vs ⟨a, b, e, za, zb, ed⟩ g hv q => by
    subst e ed
    obtain ⟨u, x, rfl, hu, hx⟩ := all2 hv
    refine s_when (k := decide (a.den = b.den)) (t_is (t_eqI (e_ixT (e_var 0 hu) e_int rfl) (e_ixT (e_var 1 hx) e_int rfl)) (decNat _ _)) g (fun hk G1 H1 n1 => ?_) fun hk G1 H1 n1 => ?_
    · have hk : a.den = b.den := of_decide_eq_true hk
      refine s_ret (d := rd (a + b)) (e_if (k := decide (a.den = 1)) (t_is (t_eqI (e_ixT (e_var 0 (Dp.mono n1.g hu)) e_int rfl) e_int) (decNat a.den 1)) (fun h => ?_) fun h => ?_) n1.gh fun v G2 H2 n2 h2 => q v G2 H2 (n1.trans n2) h2
      · have h : a.den = 1 := of_decide_eq_true h
        refine e_is (e_tup (a_cons (e_add (e_ixT (e_var 0 (Dp.mono n1.g hu)) e_int rfl) (e_ixT (e_var 1 (Dp.mono n1.g hx)) e_int rfl)) (a_cons e_int a_nil))) ?_
        have e1 : a + b = ((a.num + b.num : Int) : Rat) := by
          conv => lhs; rw [of_den_one h, of_den_one (hk.symm.trans h)]
          rw [Rat.intCast_add]
        rw [e1]; rfl
      · refine e_call (ok_made T) hr (a_cons (e_add (e_ixT (e_var 0 (Dp.mono n1.g hu)) e_int rfl) (e_ixT (e_var 1 (Dp.mono n1.g hx)) e_int rfl)) (a_cons (e_ixT (e_var 0 (Dp.mono n1.g hu)) e_int rfl) a_nil))
          ⟨_, _, rfl, by have := den_pos' a; omega, add_lt za.1 zb.1 (by decide) (by decide), natI (lt_pow za.2 (by decide)), by rw [add_same a b hk]⟩
    · refine s_ret (e_call (ok_made T) hr (a_cons (e_add (e_mul (e_ixT (e_var 0 (Dp.mono n1.g hu)) e_int rfl) (e_ixT (e_var 1 (Dp.mono n1.g hx)) e_int rfl) (mulOK za.1 (natI zb.2) (by decide))) (e_mul (e_ixT (e_var 1 (Dp.mono n1.g hx)) e_int rfl) (e_ixT (e_var 0 (Dp.mono n1.g hu)) e_int rfl) (mulOK zb.1 (natI za.2) (by decide))))
          (a_cons (e_mul (e_ixT (e_var 0 (Dp.mono n1.g hu)) e_int rfl) (e_ixT (e_var 1 (Dp.mono n1.g hx)) e_int rfl) (mulOK (natI za.2) (natI zb.2) (by decide))) a_nil))
          ⟨_, _, rfl, ?_, add_lt (mul_lt za.1 (natI zb.2)) (mul_lt zb.1 (natI za.2)) (by decide) (by decide), lt_pow (mul_lt (natI za.2) (natI zb.2)) (by decide), by rw [add_divInt]⟩) n1.gh fun v G2 H2 n2 h2 => q v G2 H2 (n1.trans n2) h2
      exact Int.ne_of_gt (Int.mul_pos (den_pos' a) (den_pos' b))
theorem rd_neg (b : Rat) : PyData.tuple [.int (-b.num), .int (b.den : Int)] = rd (-b) := rfl
theorem Sz.neg {n : Nat} {b : Rat} (h : Sz n b) : Sz n (-b) := ⟨neg_lt h.1, h.2⟩
def R_less : List D → D → Prop := fun ds d => ∃ a b : Rat, ds = [rd a, rd b] ∧ Sz 3000 a ∧ Sz 3000 b ∧ d = rd (a - b)
theorem ok_less (T : Txt K mg) : PFn P w K mg base 4 "less" R_less :=
  pfn_of T.h_less sc_less (fun ds d ⟨a, b, e, _⟩ => by rw [e]; rfl) fun cdv A outer s f H Q _ hr ds d G vs ⟨a, b, e, za, zb, ed⟩ g hv q => by
    subst e ed
    obtain ⟨u, x, rfl, hu, hx⟩ := all2 hv
    exact s_ret (e_call (ok_add T) hr (a_cons (e_var 0 hu) (a_cons (e_is (e_tup (a_cons (e_neg (e_ixT (e_var 1 hx) e_int rfl)) (a_cons (e_ixT (e_var 1 hx) e_int rfl) a_nil))) (rd_neg b)) a_nil)) ⟨a, -b, rfl, za, Sz.neg zb, by rw [Rat.sub_eq_add_neg]⟩) g q
def R_product : List D → D → Prop := fun ds d => ∃ a b : Rat, ds = [rd a, rd b] ∧ Sz 3000 a ∧ Sz 3000 b ∧ d = rd (a * b)
theorem ok_product (T : Txt K mg) : PFn P w K mg base 3 "product" R_product :=
  pfn_of T.h_product sc_product (fun ds d ⟨a, b, e, _⟩ => by rw [e]; rfl) fun cdv A outer s f H Q _ hr ds d G vs ⟨a, b, e, za, zb, ed⟩ g hv q => by
    subst e ed
    obtain ⟨u, x, rfl, hu, hx⟩ := all2 hv
    refine s_ret (d := rd (a * b)) (e_if (k := decide (a.den = 1) && decide (b.den = 1)) (t_and (t_is (t_eqI (e_ixT (e_var 0 hu) e_int rfl) e_int) (decNat a.den 1)) fun _ => t_is (t_eqI (e_ixT (e_var 1 hx) e_int rfl) e_int) (decNat b.den 1)) (fun h => ?_) fun h => ?_) g q
    · rw [Bool.and_eq_true, decide_eq_true_eq, decide_eq_true_eq] at h
      refine e_is (e_tup (a_cons (e_mul (e_ixT (e_var 0 hu) e_int rfl) (e_ixT (e_var 1 hx) e_int rfl) (mulOK za.1 zb.1 (by decide))) (a_cons e_int a_nil))) ?_
      have e1 : a * b = ((a.num * b.num : Int) : Rat) := by
        conv => lhs; rw [of_den_one h.1, of_den_one h.2]
        rw [Rat.intCast_mul]
      rw [e1]; rfl
    · refine e_call (ok_made T) hr (a_cons (e_mul (e_ixT (e_var 0 hu) e_int rfl) (e_ixT (e_var 1 hx) e_int rfl) (mulOK za.1 zb.1 (by decide))) (a_cons (e_mul (e_ixT (e_var 0 hu) e_int rfl) (e_ixT (e_var 1 hx) e_int rfl) (mulOK (natI za.2) (natI zb.2) (by decide))) a_nil))
        ⟨_, _, rfl, Int.ne_of_gt (Int.mul_pos (den_pos' a) (den_pos' b)), lt_pow (mul_lt za.1 zb.1) (by decide), lt_pow (mul_lt (natI za.2) (natI zb.2)) (by decide), by rw [mul_divInt]⟩
theorem num_ne {b : Rat} (h : b ≠ 0) : b.num ≠ 0 := fun z => h (Rat.num_eq_zero.mp z)
def R_share : List D → D → Prop := fun ds d => ∃ a b : Rat, ds = [rd a, rd b] ∧ b ≠ 0 ∧ Sz 3000 a ∧ Sz 3000 b ∧ d = rd (a / b)
theorem ok_share (T : Txt K mg) : PFn P w K mg base 3 "share" R_share :=
  pfn_of T.h_share sc_share (fun ds d ⟨a, b, e, _⟩ => by rw [e]; rfl) fun cdv A outer s f H Q _ hr ds d G vs ⟨a, b, e, hb, za, zb, ed⟩ g hv q => by
    subst e ed
    obtain ⟨u, x, rfl, hu, hx⟩ := all2 hv
    exact s_ret (e_call (ok_made T) hr (a_cons (e_mul (e_ixT (e_var 0 hu) e_int rfl) (e_ixT (e_var 1 hx) e_int rfl) (mulOK za.1 (natI zb.2) (by decide))) (a_cons (e_mul (e_ixT (e_var 0 hu) e_int rfl) (e_ixT (e_var 1 hx) e_int rfl) (mulOK (natI za.2) zb.1 (by decide))) a_nil))
      ⟨_, _, rfl, Int.mul_ne_zero (Int.ne_of_gt (den_pos' a)) (num_ne hb), lt_pow (mul_lt za.1 (natI zb.2)) (by decide), lt_pow (mul_lt (natI za.2) zb.1) (by decide), by rw [div_divInt]⟩) g q
def R_is_below : List D → D → Prop := fun ds d => ∃ a b : Rat, ds = [rd a, rd b] ∧ Sz 3000 a ∧ Sz 3000 b ∧ d = .bool (decide (a < b))
theorem ok_is_below (T : Txt K mg) : PFn P w K mg base 1 "is_below" R_is_below :=
  pfn_of T.h_is_below sc_is_below (fun ds d ⟨a, b, e, _⟩ => by rw [e]; rfl) fun cdv A outer s f H Q _ hr ds d G vs ⟨a, b, e, za, zb, ed⟩ g hv q => by
    subst e ed
    obtain ⟨u, x, rfl, hu, hx⟩ := all2 hv
    rw [← lt_iff'] at q
    exact s_ret (e_lt (e_mul (e_ixT (e_var 0 hu) e_int rfl) (e_ixT (e_var 1 hx) e_int rfl) (mulOK za.1 (natI zb.2) (by decide))) (e_mul (e_ixT (e_var 1 hx) e_int rfl) (e_ixT (e_var 0 hu) e_int rfl) (mulOK zb.1 (natI za.2) (by decide)))) g q

/-! ### powers -/
theorem pow_lt {a : Int} {m n : Nat} (h : a.natAbs < 2 ^ m) (hm : 0 < m) : (a ^ n).natAbs < 2 ^ (m * n + 1) := by
  rw [Int.natAbs_pow]
  refine Nat.lt_of_le_of_lt (Nat.pow_le_pow_left (Nat.le_of_lt h) n) ?_
  rw [← Nat.pow_mul]
  exact Nat.pow_lt_pow_right (by decide) (by omega)
/-- the program's raised: a ^ n, both of bounded size -/
def R_raised : List D → D → Prop := fun ds d => ∃ (a : Int) (n : Nat) (m : Nat), ds = [.int a, .int n] ∧ a.natAbs < 2 ^ m ∧ 0 < m ∧ m * n ≤ 20000 ∧ d = .int (a ^ n)
theorem ok_raised (T : Txt K mg) : PFn P w K mg base 1 "raised" R_raised :=
  pfn_of T.h_raised sc_raised (fun ds d ⟨a, n, m, e, _⟩ => by rw [e]; rfl) fun cdv A outer s f H Q _ hr ds d G vs ⟨a, n, m, e, hm, hm0, hmn, ed⟩ g hv q => by
    subst e ed
    obtain ⟨u, x, rfl, hu, hx⟩ := all2 hv
    cases hu; cases hx
    refine s_set 2 e_int g sc_raised.nd fun v0 G0 H0 n0 h0 => ?_
    cases h0
    -- found * x ^ y = a ^ n; sizes: found below 2 ^ (1 + f), x below 2 ^ l, with f + l * y ≤ m * n + ..
    refine s_while .never (fun k σ H1 => ∃ (x : Int) (y : Nat) (z : Int) (f l : Nat) (G1 : Hp), k = y ∧ z * x ^ y = a ^ n ∧ z.natAbs < 2 ^ (f + 2) ∧ x.natAbs < 2 ^ l ∧ f + l * y ≤ m * n ∧ l ≤ 2 * m + 2 * (m * n) ∧ σ = [some (.int x), some (.int y), some (.int z)] ∧ Nx G H G1 H1) n
      ⟨a, n, 1, 0, m, G0, rfl, by simp, by decide, hm, by omega, by omega, rfl, n0⟩ ?_
    rintro y σ H1 ⟨x, _, z, f', l, G1, rfl, hz, zf, xl, hfl, hl, rfl, n1⟩
    refine ⟨_, G1, n1.gh, t_gt (e_var 1 (.int _)) e_int, fun hk G2 H2 n2 => ?_, fun hk G2 H2 n2 => ?_⟩
    · have hy : 0 < y := by simpa using hk
      have hly : l ≤ l * y := Nat.le_mul_of_pos_right l hy
      have halt : y / 2 < y := Nat.div_lt_self hy (by decide)
      refine ⟨fun σ2 H2 => ∃ (x' : Int) (y' : Nat) (z' : Int) (f l : Nat) (G1 : Hp), y' < y ∧ z' * x' ^ y' = a ^ n ∧ z'.natAbs < 2 ^ (f + 2) ∧ x'.natAbs < 2 ^ l ∧ f + l * y' ≤ m * n ∧ l ≤ 2 * m + 2 * (m * n) ∧ σ2 = [some (.int x'), some (.int y'), some (.int z')] ∧ Nx G H G1 H2,
        fun σ2 H2 ⟨x', y', z', f, l, G1, lt, h⟩ => ⟨y', lt, x', y', z', f, l, G1, rfl, h⟩, ?_⟩
      have body : ∀ (z2 : Int) (f2 : Nat) (G3 H3 : Hp), z2 * (x * x) ^ (y / 2) = a ^ n → z2.natAbs < 2 ^ (f2 + 2) → f2 + (2 * l) * (y / 2) ≤ m * n → Nx G H G3 H3 →
          ∃ (x' : Int) (y' : Nat) (z' : Int) (f l' : Nat), x * x = x' ∧ ((y : Int) / 2 = (y' : Int)) ∧ y' < y ∧ z' = z2 ∧ z' * x' ^ y' = a ^ n ∧ z'.natAbs < 2 ^ (f + 2) ∧ x'.natAbs < 2 ^ l' ∧ f + l' * y' ≤ m * n ∧ l' ≤ 2 * m + 2 * (m * n) := fun z2 f2 G3 H3 h1 h2 h3 h4 =>
        ⟨x * x, y / 2, z2, f2, 2 * l, rfl, by rw [Int.natCast_ediv]; rfl, halt, rfl, h1, h2, by rw [show 2 * l = l + l by omega]; exact mul_lt xl xl, h3, by omega⟩
      have l20 : l ≤ 20000 := by omega
      refine s_when (k := decide (y % 2 = 1)) (t_is (t_eqI (e_mod (e_var 1 (.int _)) e_int (by decide)) e_int) (by rw [← decNat, Int.natCast_emod]; rfl)) n2.gh (fun ho G3 H3 n3 => ?_) fun ho G3 H3 n3 => ?_
      · have ho : y % 2 = 1 := of_decide_eq_true ho
        refine s_set 2 (e_mul (e_var 2 (.int _)) (e_var 0 (.int _)) (mulOK zf xl (by omega))) n3.gh sc_raised.nd fun v4 G4 H4 n4 h4 => s_nil ?_
        cases h4
        have hzz : (z * x) * (x * x) ^ (y / 2) = a ^ n := by
          rw [← hz]
          have e1 : x ^ y = x * (x * x) ^ (y / 2) := by
            have e2 : y = 2 * (y / 2) + 1 := by omega
            conv => lhs; rw [e2]
            rw [Int.pow_succ, Int.pow_mul, Int.mul_comm]
            congr 1
            rw [Int.pow_succ, Int.pow_succ, Int.pow_zero, Int.one_mul]
          rw [e1, Int.mul_assoc]
        have hsum : (f' + l) + (2 * l) * (y / 2) ≤ m * n := by
          have e2 : l * y = l * (2 * (y / 2) + 1) := by congr 1; omega
          rw [Nat.mul_add, Nat.mul_one, ← Nat.mul_assoc, Nat.mul_comm l 2] at e2
          omega
        obtain ⟨x', y', z', f2, l', e1, e2, b1, e3, b2, b3, b4, b5, b6⟩ := body (z * x) (f' + l) G4 H4 hzz (by rw [show f' + l + 2 = (f' + 2) + l by omega]; exact mul_lt zf xl) hsum ((((n1.trans n2).trans n3)).trans n4)
        refine s_par 0 1 rfl sc_raised.nd (a_cons (e_mul (e_var 0 (.int _)) (e_var 0 (.int _)) (mulOK xl xl (by omega))) (a_cons (e_div (e_var 1 (.int _)) e_int (divOK (b := 2) (by decide) (by decide) (by decide))) a_nil)) n4.gh fun u5 v5 G5 H5 n5 h5 h6 => s_nil ?_
        cases h5; cases h6
        refine ⟨x', y', z', f2, l', G5, b1, b2, b3, b4, b5, b6, ?_, ((((n1.trans n2).trans n3)).trans n4).trans n5⟩
        rw [e1, e2, e3]; rfl
      · have ho : y % 2 = 0 := by have := of_decide_eq_false ho; omega
        have hzz : z * (x * x) ^ (y / 2) = a ^ n := by
          rw [← hz]
          congr 1
          have e2 : y = 2 * (y / 2) := by omega
          conv => rhs; rw [e2]
          rw [Int.pow_mul]
          congr 1
          rw [Int.pow_succ, Int.pow_succ, Int.pow_zero, Int.one_mul]
        have hsum : f' + (2 * l) * (y / 2) ≤ m * n := by
          have e2 : l * y = l * (2 * (y / 2)) := by congr 1; omega
          rw [← Nat.mul_assoc, Nat.mul_comm l 2] at e2
          omega
        obtain ⟨x', y', z', f2, l', e1, e2, b1, e3, b2, b3, b4, b5, b6⟩ := body z f' G3 H3 hzz zf hsum ((n1.trans n2).trans n3)
        refine s_par 0 1 rfl sc_raised.nd (a_cons (e_mul (e_var 0 (.int _)) (e_var 0 (.int _)) (mulOK xl xl (by omega))) (a_cons (e_div (e_var 1 (.int _)) e_int (divOK (b := 2) (by decide) (by decide) (by decide))) a_nil)) n3.gh fun u5 v5 G5 H5 n5 h5 h6 => s_nil ?_
        cases h5; cases h6
        refine ⟨x', y', z', f2, l', G5, b1, b2, b3, b4, b5, b6, ?_, ((n1.trans n2).trans n3).trans n5⟩
        rw [e1, e2, e3]; rfl
    · have hy : y = 0 := by simpa using hk
      subst hy
      rw [Int.pow_zero, Int.mul_one] at hz
      refine s_ret (e_var 2 (.int _)) n2.gh fun v G3 H3 n3 hv => q v G3 H3 ((n1.trans n2).trans n3) ?_
      rw [← hz]; exact hv
end
end K00

/-! K4: the program's defs that check. -/
namespace K00
open PySem PySem.Spec PyProof.Rows L2 DL
section
variable {P : Program} {w : World} {K : PySem.W.Frag} {mg : Str → Option Value} {base : Heap}

/-- of two ratios: NotRight if one is none -/
def R_two (f : Rat → Rat → D) : List D → Except Str D → Prop := fun ds r => ∃ x y : D, ds = [x, y] ∧ SzD 3000 x ∧ SzD 3000 y ∧ r = if isRatio x && isRatio y then .ok (f (qOf x) (qOf y)) else .error "NotRight"
theorem all_two {x y : D} : [x, y].all isRatio = (isRatio x && isRatio y) := by simp
theorem all_one {x : D} : [x].all isRatio = isRatio x := by simp
/-- the first line of such a def, and what follows where both are ratios -/
theorem ite_ok {c : Bool} {α : Type} {n : Str} {a b : α} (h : (if c then Except.ok a else Except.error n) = Except.ok b) : c = true ∧ a = b := by
  cases c with
  | true => exact ⟨rfl, by injection h⟩
  | false => cases h
theorem ite_err {c : Bool} {α : Type} {n m : Str} {a : α} (h : (if c then Except.ok a else Except.error n) = (Except.error m : Except Str α)) : c = false ∧ n = m := by
  cases c with
  | true => cases h
  | false => exact ⟨rfl, by injection h⟩
section
variable {X : Cx} {σ : L2.St} {G H : Hp} {rest : List Stmt} {Z : Ends} {W : WX} {pos p pos' : Pos} {e1 e2 : Expr}
theorem s_chk2 {x y : D} (T : Txt X.K X.mg) (hr : Room 4 X.A) (tk : L2N.Takes X W) (h1 : E X e1 σ G x) (h2 : E X e2 σ G y) (gh : Ex G H) (ok : isRatio x = true → isRatio y = true → ∀ G' H', Nx G H G' H' → wB X rest Z σ H')
    (er : (isRatio x && isRatio y) = false → ∀ c, X.mg "NotRight" = some (.ref c) → ∀ G' H', Nx G H G' H' → W (.ref c) Option.none σ H') (hg : Gl X "check_ratios" := by rfl)
    (he : starEach [e1, e2] X.env = (false, eval e1 X.env) :: starEach [e2] X.env := by rfl) (he2 : starEach [e2] X.env = (false, eval e2 X.env) :: starEach [] X.env := by rfl) (hpl : (backTo pos (starEach [e2] X.env)).any (·.1) = false := by rfl)
    (hs : swapsWith (.Call (.Name "check_ratios" p) [e1, e2] [] pos) Option.none pos'.line X.env = pure false := by rfl) : wB X (.Expr (.Call (.Name "check_ratios" p) [e1, e2] [] pos) pos' :: rest) Z σ H := by
  refine s_callX (ok_check_ratios T) hr tk (a_cons h1 (a_cons h2 a_nil he2) he) ⟨by simp, rfl⟩ gh (fun d hd => ?_) (fun n c hn hc => ?_) hg (by decide) he hpl hs
  · rw [all_two] at hd
    have z := (ite_ok hd).1
    rw [Bool.and_eq_true] at z
    exact ok z.1 z.2
  · rw [all_two] at hn
    have z := ite_err hn
    rw [← z.2] at hc
    exact er z.1 c hc
theorem s_chk1 {x : D} (T : Txt X.K X.mg) (hr : Room 4 X.A) (tk : L2N.Takes X W) (h1 : E X e1 σ G x) (gh : Ex G H) (ok : isRatio x = true → ∀ G' H', Nx G H G' H' → wB X rest Z σ H')
    (er : isRatio x = false → ∀ c, X.mg "NotRight" = some (.ref c) → ∀ G' H', Nx G H G' H' → W (.ref c) Option.none σ H') (hg : Gl X "check_ratios" := by rfl)
    (he : starEach [e1] X.env = (false, eval e1 X.env) :: starEach [] X.env := by rfl) (hpl : (backTo pos (starEach [] X.env)).any (·.1) = false := by rfl)
    (hs : swapsWith (.Call (.Name "check_ratios" p) [e1] [] pos) Option.none pos'.line X.env = pure false := by rfl) : wB X (.Expr (.Call (.Name "check_ratios" p) [e1] [] pos) pos' :: rest) Z σ H := by
  refine s_callX (ok_check_ratios T) hr tk (a_cons h1 a_nil he) ⟨by simp, rfl⟩ gh (fun d hd => ?_) (fun n c hn hc => ?_) hg (by decide) he hpl hs
  · rw [all_one] at hd
    exact ok (ite_ok hd).1
  · rw [all_one] at hn
    have z := ite_err hn
    rw [← z.2] at hc
    exact er z.1 c hc
/-- check(test) -/
theorem s_chk {k : Bool} (T : Txt X.K X.mg) (hr : Room 1 X.A) (tk : L2N.Takes X W) (h1 : E X e1 σ G (.bool k)) (gh : Ex G H) (ok : k = true → ∀ G' H', Nx G H G' H' → wB X rest Z σ H')
    (er : k = false → ∀ c, X.mg "NotRight" = some (.ref c) → ∀ G' H', Nx G H G' H' → W (.ref c) Option.none σ H') (hg : Gl X "check" := by rfl)
    (he : starEach [e1] X.env = (false, eval e1 X.env) :: starEach [] X.env := by rfl) (hpl : (backTo pos (starEach [] X.env)).any (·.1) = false := by rfl)
    (hs : swapsWith (.Call (.Name "check" p) [e1] [] pos) Option.none pos'.line X.env = pure false := by rfl) : wB X (.Expr (.Call (.Name "check" p) [e1] [] pos) pos' :: rest) Z σ H := by
  refine s_callX (ok_check T) hr tk (a_cons h1 a_nil he) ⟨k, rfl, rfl⟩ gh (fun d hd => ok (ite_ok hd).1) (fun n c hn hc => ?_) hg (by decide) he hpl hs
  have z := ite_err hn
  rw [← z.2] at hc
  exact er z.1 c hc
end
theorem ok_plus (T : Txt K mg) : XFn P w K mg base 5 "plus" (R_two fun a b => rd (a + b)) :=
  xfn_of T.h_plus sc_plus (fun ds d ⟨a, b, e, _⟩ => by rw [e]; rfl) fun cdv A outer s f H Q _ hr ds r G vs ⟨x, y, e, zx, zy, er⟩ g hv q1 q2 => by
    subst e
    obtain ⟨u, v, rfl, hu, hw⟩ := all2 hv
    refine s_chk2 T (hr.mono (by decide)) (L2N.takes_of rfl rfl rfl rfl) (e_var 0 hu) (e_var 1 hw) g (fun h1 h2 G1 H1 n1 => ?_) fun h c hc G1 H1 n1 => q2 "NotRight" c (by rw [er, h]; rfl) hc G1 H1 n1
    refine s_ret (e_call (ok_add T) (hr.mono (by decide)) (a_cons (e_is (e_var 0 (Dp.mono n1.g hu)) (rd_qOf h1)) (a_cons (e_is (e_var 1 (Dp.mono n1.g hw)) (rd_qOf h2)) a_nil)) ⟨_, _, rfl, zx h1, zy h2, rfl⟩) n1.gh fun v2 G2 H2 n2 h => q1 _ (by rw [er, h1, h2]; rfl) v2 G2 H2 (n1.trans n2) h
theorem ok_minus (T : Txt K mg) : XFn P w K mg base 5 "minus" (R_two fun a b => rd (a - b)) :=
  xfn_of T.h_minus sc_minus (fun ds d ⟨a, b, e, _⟩ => by rw [e]; rfl) fun cdv A outer s f H Q _ hr ds r G vs ⟨x, y, e, zx, zy, er⟩ g hv q1 q2 => by
    subst e
    obtain ⟨u, v, rfl, hu, hw⟩ := all2 hv
    refine s_chk2 T (hr.mono (by decide)) (L2N.takes_of rfl rfl rfl rfl) (e_var 0 hu) (e_var 1 hw) g (fun h1 h2 G1 H1 n1 => ?_) fun h c hc G1 H1 n1 => q2 "NotRight" c (by rw [er, h]; rfl) hc G1 H1 n1
    refine s_ret (e_call (ok_less T) (hr.mono (by decide)) (a_cons (e_is (e_var 0 (Dp.mono n1.g hu)) (rd_qOf h1)) (a_cons (e_is (e_var 1 (Dp.mono n1.g hw)) (rd_qOf h2)) a_nil)) ⟨_, _, rfl, zx h1, zy h2, rfl⟩) n1.gh fun v2 G2 H2 n2 h => q1 _ (by rw [er, h1, h2]; rfl) v2 G2 H2 (n1.trans n2) h
theorem ok_times (T : Txt K mg) : XFn P w K mg base 5 "times" (R_two fun a b => rd (a * b)) :=
  xfn_of T.h_times sc_times (fun ds d ⟨a, b, e, _⟩ => by rw [e]; rfl) fun cdv A outer s f H Q _ hr ds r G vs ⟨x, y, e, zx, zy, er⟩ g hv q1 q2 => by
    subst e
    obtain ⟨u, v, rfl, hu, hw⟩ := all2 hv
    refine s_chk2 T (hr.mono (by decide)) (L2N.takes_of rfl rfl rfl rfl) (e_var 0 hu) (e_var 1 hw) g (fun h1 h2 G1 H1 n1 => ?_) fun h c hc G1 H1 n1 => q2 "NotRight" c (by rw [er, h]; rfl) hc G1 H1 n1
    refine s_ret (e_call (ok_product T) (hr.mono (by decide)) (a_cons (e_is (e_var 0 (Dp.mono n1.g hu)) (rd_qOf h1)) (a_cons (e_is (e_var 1 (Dp.mono n1.g hw)) (rd_qOf h2)) a_nil)) ⟨_, _, rfl, zx h1, zy h2, rfl⟩) n1.gh fun v2 G2 H2 n2 h => q1 _ (by rw [er, h1, h2]; rfl) v2 G2 H2 (n1.trans n2) h
def R_over : List D → Except Str D → Prop := fun ds r => ∃ x y : D, ds = [x, y] ∧ SzD 3000 x ∧ SzD 3000 y ∧ r = if isRatio x && isRatio y then (if qOf y = 0 then .error "NoAnswer" else .ok (rd (qOf x / qOf y))) else .error "NotRight"
theorem ok_over (T : Txt K mg) : XFn P w K mg base 5 "over" R_over :=
  xfn_of T.h_over sc_over (fun ds d ⟨a, b, e, _⟩ => by rw [e]; rfl) fun cdv A outer s f H Q _ hr ds r G vs ⟨x, y, e, zx, zy, er⟩ g hv q1 q2 => by
    subst e
    obtain ⟨u, v, rfl, hu, hw⟩ := all2 hv
    refine s_chk2 T (hr.mono (by decide)) (L2N.takes_of rfl rfl rfl rfl) (e_var 0 hu) (e_var 1 hw) g (fun h1 h2 G1 H1 n1 => ?_) fun h c hc G1 H1 n1 => q2 "NotRight" c (by rw [er, h]; rfl) hc G1 H1 n1
    rw [h1, h2] at er
    have e2 := rd_qOf h2
    rw [e2] at hw
    refine s_when (k := decide ((qOf y).num = 0)) (t_eqI (e_ixT (e_var 1 (Dp.mono n1.g hw)) e_int rfl) e_int) n1.gh (fun h G2 H2 n2 => ?_) fun h G2 H2 n2 => ?_
    · have h0 : qOf y = 0 := Rat.num_eq_zero.mp (of_decide_eq_true h)
      exact s_raise rfl T.x_NoAnswer (L2N.takes_of rfl rfl rfl rfl) fun c hc => q2 "NoAnswer" c (by rw [er, if_pos (show (true && true) = true from rfl), if_pos h0]) hc G2 H2 (n1.trans n2)
    · have h0 : qOf y ≠ 0 := fun z => (of_decide_eq_false h) (Rat.num_eq_zero.mpr z)
      refine s_ret (e_call (ok_share T) (hr.mono (by decide)) (a_cons (e_is (e_var 0 (Dp.mono n2.g (Dp.mono n1.g hu))) (rd_qOf h1)) (a_cons (e_var 1 (Dp.mono n2.g (Dp.mono n1.g hw))) a_nil)) ⟨_, _, rfl, h0, zx h1, zy h2, rfl⟩) n2.gh fun v2 G3 H3 n3 h => q1 _ (by rw [er, if_pos (show (true && true) = true from rfl), if_neg h0]) v2 G3 H3 ((n1.trans n2).trans n3) h
def R_ratio : List D → Except Str D → Prop := fun ds r => ∃ x y : D, ds = [x, y] ∧ (match x, y with
  | .int n, .int e => n.natAbs < 2 ^ 8000 ∧ e.natAbs < 2 ^ 8000 ∧ r = if e = 0 then .error "NotRight" else .ok (rd (Rat.divInt n e))
  | _, _ => r = .error "NotRight")
theorem ok_ratio (T : Txt K mg) : XFn P w K mg base 3 "ratio" R_ratio :=
  xfn_of T.h_ratio sc_ratio (fun ds d ⟨a, b, e, _⟩ => by rw [e]; rfl) fun cdv A outer s f H Q _ hr ds r G vs ⟨x, y, e, er⟩ g hv q1 q2 => by
    subst e
    obtain ⟨u, v, rfl, hu, hw⟩ := all2 hv
    have I1 := ok_is_integer (P := P) (w := w) (base := base) T
    cases hx : isInt x with
    | false =>
      have er : r = .error "NotRight" := by cases x <;> first | exact er | cases hx
      exact s_chk (k := false && false) T (hr.mono (by decide)) (L2N.takes_of rfl rfl rfl rfl) (e_and (k := false) (e_is (e_call I1 (hr.mono (by decide)) (a_cons (e_var 0 hu) a_nil) ⟨x, rfl, rfl⟩) (by rw [hx])) (fun z => nomatch z)) g (fun z => nomatch z) fun _ c hc G1 H1 n1 => q2 "NotRight" c er hc G1 H1 n1
    | true =>
      obtain ⟨n, rfl⟩ := isInt_of hx
      cases hy : isInt y with
      | false =>
        have er : r = .error "NotRight" := by cases y <;> first | exact er | cases hy
        exact s_chk (k := true && (false && false)) T (hr.mono (by decide)) (L2N.takes_of rfl rfl rfl rfl) (e_and (k := true) (e_call I1 (hr.mono (by decide)) (a_cons (e_var 0 hu) a_nil) ⟨_, rfl, rfl⟩) fun _ => e_and (k := false) (e_is (e_call I1 (hr.mono (by decide)) (a_cons (e_var 1 hw) a_nil) ⟨y, rfl, rfl⟩) (by rw [hy])) (fun z => nomatch z)) g (fun z => nomatch z) fun _ c hc G1 H1 n1 => q2 "NotRight" c er hc G1 H1 n1
      | true =>
        obtain ⟨e, rfl⟩ := isInt_of hy
        obtain ⟨zn, ze, er⟩ := er
        refine s_chk (k := true && (true && !decide (e = 0))) T (hr.mono (by decide)) (L2N.takes_of rfl rfl rfl rfl) (e_and (k := true) (e_call I1 (hr.mono (by decide)) (a_cons (e_var 0 hu) a_nil) ⟨_, rfl, rfl⟩) fun _ => e_and (k := true) (e_call I1 (hr.mono (by decide)) (a_cons (e_var 1 hw) a_nil) ⟨_, rfl, rfl⟩) fun _ => e_one (e_neI (e_var 1 hw) e_int)) g (fun h G1 H1 n1 => ?_) fun h c hc G1 H1 n1 => ?_
        · have he : e ≠ 0 := by simpa using h
          exact s_ret (e_call (ok_made T) (hr.mono (by decide)) (a_cons (e_var 0 (Dp.mono n1.g hu)) (a_cons (e_var 1 (Dp.mono n1.g hw)) a_nil)) ⟨n, e, rfl, he, lt_pow zn (by decide), ze, rfl⟩) n1.gh fun v2 G2 H2 n2 h => q1 _ (by rw [er, if_neg he]) v2 G2 H2 (n1.trans n2) h
        · have he : e = 0 := by simpa using h
          exact q2 "NotRight" c (by rw [er, if_pos he]) hc G1 H1 n1
def R_compare : List D → Except Str D → Prop := R_two fun a b => .int ((if b < a then 1 else 0) - (if a < b then 1 else 0))
theorem ok_compare (T : Txt K mg) : XFn P w K mg base 5 "compare" R_compare :=
  xfn_of T.h_compare sc_compare (fun ds d ⟨a, b, e, _⟩ => by rw [e]; rfl) fun cdv A outer s f H Q _ hr ds r G vs ⟨x, y, e, zx, zy, er⟩ g hv q1 q2 => by
    subst e
    obtain ⟨u, v, rfl, hu, hw⟩ := all2 hv
    refine s_chk2 T (hr.mono (by decide)) (L2N.takes_of rfl rfl rfl rfl) (e_var 0 hu) (e_var 1 hw) g (fun h1 h2 G1 H1 n1 => ?_) fun h c hc G1 H1 n1 => q2 "NotRight" c (by rw [er, h]; rfl) hc G1 H1 n1
    refine s_ret (e_sub (e_intB T.b_int (e_call (ok_is_below T) (hr.mono (by decide)) (a_cons (e_is (e_var 1 (Dp.mono n1.g hw)) (rd_qOf h2)) (a_cons (e_is (e_var 0 (Dp.mono n1.g hu)) (rd_qOf h1)) a_nil)) ⟨_, _, rfl, zy h2, zx h1, rfl⟩))
      (e_intB T.b_int (e_call (ok_is_below T) (hr.mono (by decide)) (a_cons (e_is (e_var 0 (Dp.mono n1.g hu)) (rd_qOf h1)) (a_cons (e_is (e_var 1 (Dp.mono n1.g hw)) (rd_qOf h2)) a_nil)) ⟨_, _, rfl, zx h1, zy h2, rfl⟩))) n1.gh fun v2 G2 H2 n2 h => q1 _ (by rw [er, h1, h2]; rfl) v2 G2 H2 (n1.trans n2) ?_
    simp only [decide_eq_true_eq] at h
    exact h
/-- of one ratio -/
def R_one (f : Rat → D) : List D → Except Str D → Prop := fun ds r => ∃ x : D, ds = [x] ∧ SzD 3000 x ∧ r = if isRatio x then .ok (f (qOf x)) else .error "NotRight"
theorem ok_floor_of (T : Txt K mg) : XFn P w K mg base 5 "floor_of" (R_one fun a => .int (a.num / a.den)) :=
  xfn_of T.h_floor_of sc_floor_of (fun ds d ⟨a, e, _⟩ => by rw [e]; rfl) fun cdv A outer s f H Q _ hr ds r G vs ⟨x, e, zx, er⟩ g hv q1 q2 => by
    subst e
    obtain ⟨u, rfl, hu⟩ := all1 hv
    refine s_chk1 T (hr.mono (by decide)) (L2N.takes_of rfl rfl rfl rfl) (e_var 0 hu) g (fun h1 G1 H1 n1 => ?_) fun h c hc G1 H1 n1 => q2 "NotRight" c (by rw [er, h]; rfl) hc G1 H1 n1
    rw [rd_qOf h1] at hu
    have z := zx h1
    exact s_ret (e_div (e_ixT (e_var 0 (Dp.mono n1.g hu)) e_int rfl) (e_ixT (e_var 0 (Dp.mono n1.g hu)) e_int rfl) (divOK (den_pos' _) (natI z.2) (by decide))) n1.gh fun v2 G2 H2 n2 h => q1 _ (by rw [er, h1]; rfl) v2 G2 H2 (n1.trans n2) h
theorem ok_ceiling_of (T : Txt K mg) : XFn P w K mg base 5 "ceiling_of" (R_one fun a => .int (-(-a.num / a.den))) :=
  xfn_of T.h_ceiling_of sc_ceiling_of (fun ds d ⟨a, e, _⟩ => by rw [e]; rfl) fun cdv A outer s f H Q _ hr ds r G vs ⟨x, e, zx, er⟩ g hv q1 q2 => by
    subst e
    obtain ⟨u, rfl, hu⟩ := all1 hv
    refine s_chk1 T (hr.mono (by decide)) (L2N.takes_of rfl rfl rfl rfl) (e_var 0 hu) g (fun h1 G1 H1 n1 => ?_) fun h c hc G1 H1 n1 => q2 "NotRight" c (by rw [er, h]; rfl) hc G1 H1 n1
    rw [rd_qOf h1] at hu
    have z := zx h1
    exact s_ret (e_neg (e_div (e_neg (e_ixT (e_var 0 (Dp.mono n1.g hu)) e_int rfl)) (e_ixT (e_var 0 (Dp.mono n1.g hu)) e_int rfl) (divOK (den_pos' _) (natI z.2) (by decide)))) n1.gh fun v2 G2 H2 n2 h => q1 _ (by rw [er, h1]; rfl) v2 G2 H2 (n1.trans n2) h
end
end K00

/-! K5: powers, multiples of twos, least squares. -/
namespace K00
open PySem PySem.Spec PyProof.Rows L2 DL
section
variable {P : Program} {w : World} {K : PySem.W.Frag} {mg : Str → Option Value} {base : Heap}

def pw (a : Rat) (n : Int) : Rat := if 0 ≤ n then a ^ n.natAbs else (a ^ n.natAbs)⁻¹
theorem rd_pow (a : Rat) (n : Nat) : PyData.tuple [.int (a.num ^ n), .int ((a.den : Int) ^ n)] = rd (a ^ n) := by
  unfold rd; rw [Rat.num_pow, Rat.den_pow, Int.natCast_pow]
def R_power_by : List D → D → Prop := fun ds d => ∃ (a : Rat) (n : Int) (m : Nat), ds = [rd a, .int n] ∧ (n < 0 → a ≠ 0) ∧ Sz m a ∧ 0 < m ∧ m * n.natAbs ≤ 7000 ∧ d = rd (pw a n)
theorem ok_power_by (T : Txt K mg) : PFn P w K mg base 3 "power_by" R_power_by :=
  pfn_of T.h_power_by sc_power_by (fun ds d ⟨a, n, m, e, _⟩ => by rw [e]; rfl) fun cdv A outer s f H Q _ hr ds d G vs ⟨a, n, m, e, h0, za, hm, hmn, ed⟩ g hv q => by
    subst e ed
    obtain ⟨u, x, rfl, hu, hx⟩ := all2 hv
    refine s_ret (d := rd (pw a n)) (e_if (t_ge (e_var 1 hx) e_int) (fun h => ?_) fun h => ?_) g q
    · have h : 0 ≤ n := of_decide_eq_true h
      have en : n = (n.natAbs : Int) := by omega
      have hx : Dp K G x (.int (n.natAbs : Int)) := by rw [← en]; exact hx
      refine e_is (e_tup (a_cons (e_call (ok_raised T) (hr.mono (by decide)) (a_cons (e_ixT (e_var 0 hu) e_int rfl) (a_cons (e_var 1 hx) a_nil)) ⟨_, _, m, rfl, za.1, hm, by omega, rfl⟩)
        (a_cons (e_call (ok_raised T) (hr.mono (by decide)) (a_cons (e_ixT (e_var 0 hu) e_int rfl) (a_cons (e_var 1 hx) a_nil)) ⟨_, _, m, rfl, natI za.2, hm, by omega, rfl⟩) a_nil))) ?_
      unfold pw; rw [if_pos h]; exact rd_pow a n.natAbs
    · have h : ¬ 0 ≤ n := of_decide_eq_false h
      have en : -n = (n.natAbs : Int) := by omega
      have ha := h0 (by omega)
      have e1 : ∀ {p q : Pos} {X : Cx} {σ : L2.St}, True := fun {_ _ _ _} => trivial
      refine e_call (ok_made T) (hr.mono (by decide)) (a_cons (e_call (ok_raised T) (hr.mono (by decide)) (a_cons (e_ixT (e_var 0 hu) e_int rfl) (a_cons (e_is (e_neg (e_var 1 hx)) (by rw [en])) a_nil)) ⟨_, _, m, rfl, natI za.2, hm, by omega, rfl⟩)
        (a_cons (e_call (ok_raised T) (hr.mono (by decide)) (a_cons (e_ixT (e_var 0 hu) e_int rfl) (a_cons (e_is (e_neg (e_var 1 hx)) (by rw [en])) a_nil)) ⟨_, _, m, rfl, za.1, hm, by omega, rfl⟩) a_nil))
        ⟨_, _, rfl, Int.pow_ne_zero (num_ne ha), lt_pow (pow_lt (natI za.2) hm) (by omega), lt_pow (pow_lt za.1 hm) (by omega), ?_⟩
      unfold pw; rw [if_neg h, Rat.inv_def, Rat.num_pow, Rat.den_pow, Int.natCast_pow]
def R_power : List D → Except Str D → Prop := fun ds r => ∃ x y : D, ds = [x, y] ∧ (isRatio x = true → ∀ n, y = .int n → -400 ≤ n → n ≤ 400 → ∃ m, Sz m (qOf x) ∧ 0 < m ∧ m * n.natAbs ≤ 7000) ∧
  r = if isRatio x then (if within (-400) 400 y then (if qOf x = 0 ∧ intOf y < 0 then .error "NoAnswer" else .ok (rd (pw (qOf x) (intOf y)))) else .error "NotRight") else .error "NotRight"
theorem e_globI' {X : Cx} {σ : L2.St} {G : Hp} {x : Str} {i : Int} {pos : Pos} (h : ∃ t, X.mg x = some (.int i t)) (hg : Gl X x := by rfl) (h1 : (x == ("__debug__" : Str)) = false := by decide) : E X (.Name x pos) σ G (.int i) := by
  obtain ⟨t, h⟩ := h
  exact e_globI h ⟨t, rfl⟩ hg h1
theorem ok_power (T : Txt K mg) : XFn P w K mg base 5 "power" R_power :=
  xfn_of T.h_power sc_power (fun ds d ⟨a, b, e, _⟩ => by rw [e]; rfl) fun cdv A outer s f H Q _ hr ds r G vs ⟨x, y, e, zx, er⟩ g hv q1 q2 => by
    subst e
    obtain ⟨u, v, rfl, hu, hw⟩ := all2 hv
    refine s_chk1 T (hr.mono (by decide)) (L2N.takes_of rfl rfl rfl rfl) (e_var 0 hu) g (fun h1 G1 H1 n1 => ?_) fun h c hc G1 H1 n1 => q2 "NotRight" c (by rw [er, h]; rfl) hc G1 H1 n1
    rw [h1, if_pos rfl] at er
    refine s_chk (k := within (-400) 400 y) T (hr.mono (by decide)) (L2N.takes_of rfl rfl rfl rfl) (e_call (ok_is_within T) (hr.mono (by decide)) (a_cons (e_var 1 (Dp.mono n1.g hw)) (a_cons (e_neg (e_globI' T.c_MOST_POWER)) (a_cons (e_globI' T.c_MOST_POWER) a_nil))) ⟨y, _, _, rfl, rfl⟩) n1.gh (fun h2 G2 H2 n2 => ?_) fun h c hc G2 H2 n2 => q2 "NotRight" c (by rw [er, h]; rfl) hc G2 H2 (n1.trans n2)
    obtain ⟨n, rfl, hl, hh⟩ := within_of h2
    obtain ⟨m, zm, hm, hmn⟩ := zx h1 n rfl hl hh
    rw [h2, if_pos rfl] at er
    have er : r = if qOf x = 0 ∧ n < 0 then .error "NoAnswer" else .ok (rd (pw (qOf x) n)) := er
    have hu2 := Dp.mono n2.g (Dp.mono n1.g hu)
    have hw2 := Dp.mono n2.g (Dp.mono n1.g hw)
    rw [rd_qOf h1] at hu2
    refine s_when (k := decide ((qOf x).num = 0) && decide (n < 0)) (t_and (t_eqI (e_ixT (e_var 0 hu2) e_int rfl) e_int) fun _ => t_lt (e_var 1 hw2) e_int) n2.gh (fun h G3 H3 n3 => ?_) fun h G3 H3 n3 => ?_
    · rw [Bool.and_eq_true, decide_eq_true_eq, decide_eq_true_eq] at h
      exact s_raise rfl T.x_NoAnswer (L2N.takes_of rfl rfl rfl rfl) fun c hc => q2 "NoAnswer" c (by rw [er, if_pos ⟨Rat.num_eq_zero.mp h.1, h.2⟩]) hc G3 H3 ((n1.trans n2).trans n3)
    · have h : ¬ (qOf x = 0 ∧ n < 0) := fun z => by
        rw [decide_eq_true (Rat.num_eq_zero.mpr z.1), decide_eq_true z.2] at h
        cases h
      refine s_ret (e_call (ok_power_by T) (hr.mono (by decide)) (a_cons (e_var 0 (Dp.mono n3.g hu2)) (a_cons (e_var 1 (Dp.mono n3.g hw2)) a_nil)) ⟨qOf x, n, m, rfl, fun z z2 => h ⟨z2, z⟩, zm, hm, hmn, rfl⟩) n3.gh fun v2 G4 H4 n4 h4 => q1 _ (by rw [er, if_neg h]) v2 G4 H4 (((n1.trans n2).trans n3).trans n4) h4

/-! ### multiples of twos -/
theorem two_pos (k : Nat) : (0 : Int) < 2 ^ k := Int.pow_pos (by decide)
theorem odd_gcd {n : Int} (k : Nat) (h : n % 2 = 1) : Nat.gcd n.natAbs ((2 : Int) ^ k).natAbs = 1 := by
  rw [Int.natAbs_pow]
  show Nat.Coprime n.natAbs (2 ^ k)
  refine Nat.Coprime.pow_right k ?_
  show Nat.gcd n.natAbs 2 = 1
  have h2 : n.natAbs % 2 = 1 := by omega
  rw [Nat.gcd_comm, Nat.gcd_rec, h2]; rfl
def R_of_bits : List D → D → Prop := fun ds d => ∃ (n : Int) (k : Nat), ds = [.int n, .int k] ∧ k ≤ 20000 ∧ d = rd (Rat.divInt n (2 ^ k))
theorem ok_of_bits (T : Txt K mg) : PFn P w K mg base 1 "of_bits" R_of_bits :=
  pfn_of T.h_of_bits sc_of_bits (fun ds d ⟨a, n, e, _⟩ => by rw [e]; rfl) fun cdv A outer s f H Q _ hr ds d G vs ⟨n, k, e, hk, ed⟩ g hv q => by
    subst e ed
    obtain ⟨u, x, rfl, hu, hx⟩ := all2 hv
    cases hu; cases hx
    refine s_while .never (fun j σ H1 => ∃ (x : Int) (y : Nat) (G1 : Hp), j = y ∧ y ≤ 20000 ∧ Rat.divInt x (2 ^ y) = Rat.divInt n (2 ^ k) ∧ σ = [some (.int x), some (.int y)] ∧ Nx G H G1 H1) k ⟨n, k, G, rfl, hk, rfl, rfl, Nx.refl g⟩ ?_
    rintro y σ H1 ⟨x, _, G1, rfl, hy, hq, rfl, n1⟩
    refine ⟨decide (0 < y) && decide (x % 2 = 0), G1, n1.gh, t_and (t_is (t_gt (e_var 1 (.int _)) e_int) (by by_cases h : 0 < y <;> simp [h])) fun _ => t_eqI (e_mod (e_var 0 (.int _)) e_int (by decide)) e_int, fun h G2 H2 n2 => ?_, fun h G2 H2 n2 => ?_⟩
    · rw [Bool.and_eq_true, decide_eq_true_eq, decide_eq_true_eq] at h
      obtain ⟨y', rfl⟩ : ∃ y', y = y' + 1 := ⟨y - 1, by omega⟩
      refine ⟨fun σ2 H2 => ∃ (x2 : Int) (y2 : Nat) (G1 : Hp), y2 < y' + 1 ∧ y2 ≤ 20000 ∧ Rat.divInt x2 (2 ^ y2) = Rat.divInt n (2 ^ k) ∧ σ2 = [some (.int x2), some (.int y2)] ∧ Nx G H G1 H2, fun σ2 H2 ⟨x2, y2, G1, l, h⟩ => ⟨y2, l, x2, y2, G1, rfl, h⟩, ?_⟩
      refine s_par 0 1 rfl sc_of_bits.nd (a_cons (e_div (e_var 0 (.int _)) e_int (divOK (b := 2) (by decide) (by decide) (by decide))) (a_cons (e_sub (e_var 1 (.int _)) e_int) a_nil)) n2.gh fun u v G3 H3 n3 h1 h2 => s_nil ?_
      cases h1; cases h2
      refine ⟨x / 2, y', G3, Nat.lt_succ_self _, by omega, ?_, by rw [show ((y' + 1 : Nat) : Int) - 1 = (y' : Int) by omega]; rfl, (n1.trans n2).trans n3⟩
      rw [← hq]
      have e1 : x = 2 * (x / 2) := by omega
      conv => rhs; rw [e1, Int.pow_succ, Int.mul_comm (2 ^ y') 2]
      rw [Rat.divInt_mul_left (by decide)]
    · refine s_ret (e_tup (a_cons (e_var 0 (.int _)) (a_cons (e_shl e_int (e_var 1 (.int _)) (shl_ok (n := 1) (by decide) (by omega))) a_nil))) n2.gh fun v G3 H3 n3 hv => q v G3 H3 ((n1.trans n2).trans n3) ?_
      rw [Int.one_mul, Int.toNat_natCast] at hv
      rw [← hq]
      have e1 : PyData.tuple [.int x, .int (2 ^ y)] = rd (Rat.divInt x (2 ^ y)) := by
        refine rd_of (two_pos y) ?_
        by_cases h0 : 0 < y
        · refine odd_gcd y ?_
          rw [decide_eq_true h0, Bool.true_and, decide_eq_false_iff_not] at h
          omega
        · have : y = 0 := by omega
          subst this
          rw [Int.pow_zero]; exact Nat.gcd_one_right _
      rw [← e1]; exact hv
def dn (a : Rat) (k : Nat) : Rat := Rat.divInt (a.num * 2 ^ k / a.den) (2 ^ k)
def upq (a : Rat) (k : Nat) : Rat := Rat.divInt (-(-a.num * 2 ^ k / a.den)) (2 ^ k)
def R_dby (f : Rat → Nat → Rat) : List D → D → Prop := fun ds d => ∃ (a : Rat) (k : Nat), ds = [rd a, .int k] ∧ k ≤ 20000 ∧ Sz 3000 a ∧ d = rd (f a k)
theorem ok_down_by (T : Txt K mg) : PFn P w K mg base 2 "down_by" (R_dby dn) :=
  pfn_of T.h_down_by sc_down_by (fun ds d ⟨a, n, e, _⟩ => by rw [e]; rfl) fun cdv A outer s f H Q _ hr ds d G vs ⟨a, k, e, hk, za, ed⟩ g hv q => by
    subst e ed
    obtain ⟨u, x, rfl, hu, hx⟩ := all2 hv
    refine s_ret (e_call (ok_of_bits T) hr (a_cons (e_div (e_shl (e_ixT (e_var 0 hu) e_int rfl) (e_var 1 hx) (shl_ok za.1 (by omega))) (e_ixT (e_var 0 hu) e_int rfl) (divOK (den_pos' a) (natI za.2) (by decide))) (a_cons (e_var 1 hx) a_nil)) ⟨_, k, rfl, hk, rfl⟩) g ?_
    rw [Int.toNat_natCast]; exact q
theorem ok_up_by (T : Txt K mg) : PFn P w K mg base 2 "up_by" (R_dby upq) :=
  pfn_of T.h_up_by sc_up_by (fun ds d ⟨a, n, e, _⟩ => by rw [e]; rfl) fun cdv A outer s f H Q _ hr ds d G vs ⟨a, k, e, hk, za, ed⟩ g hv q => by
    subst e ed
    obtain ⟨u, x, rfl, hu, hx⟩ := all2 hv
    refine s_ret (e_call (ok_of_bits T) hr (a_cons (e_neg (e_div (e_shl (e_neg (e_ixT (e_var 0 hu) e_int rfl)) (e_var 1 hx) (shl_ok (neg_lt za.1) (by omega))) (e_ixT (e_var 0 hu) e_int rfl) (divOK (den_pos' a) (natI za.2) (by decide)))) (a_cons (e_var 1 hx) a_nil)) ⟨_, k, rfl, hk, rfl⟩) g ?_
    rw [Int.toNat_natCast]; exact q
def R_dto (f : Rat → Nat → Rat) : List D → Except Str D → Prop := fun ds r => ∃ x y : D, ds = [x, y] ∧ SzD 3000 x ∧
  r = if isRatio x && within 0 20000 y then .ok (rd (f (qOf x) (intOf y).toNat)) else .error "NotRight"
theorem ok_down_to (T : Txt K mg) : XFn P w K mg base 5 "down_to" (R_dto dn) :=
  xfn_of T.h_down_to sc_down_to (fun ds d ⟨a, b, e, _⟩ => by rw [e]; rfl) fun cdv A outer s f H Q _ hr ds r G vs ⟨x, y, e, zx, er⟩ g hv q1 q2 => by
    subst e
    obtain ⟨u, v, rfl, hu, hw⟩ := all2 hv
    refine s_chk1 T (hr.mono (by decide)) (L2N.takes_of rfl rfl rfl rfl) (e_var 0 hu) g (fun h1 G1 H1 n1 => ?_) fun h c hc G1 H1 n1 => q2 "NotRight" c (by rw [er, h]; rfl) hc G1 H1 n1
    refine s_chk (k := within 0 20000 y) T (hr.mono (by decide)) (L2N.takes_of rfl rfl rfl rfl) (e_call (ok_is_within T) (hr.mono (by decide)) (a_cons (e_var 1 (Dp.mono n1.g hw)) (a_cons e_int (a_cons (e_globI' T.c_MOST_BITS) a_nil))) ⟨y, _, _, rfl, rfl⟩) n1.gh (fun h2 G2 H2 n2 => ?_) fun h c hc G2 H2 n2 => q2 "NotRight" c (by rw [er, h, h1]; rfl) hc G2 H2 (n1.trans n2)
    obtain ⟨k, rfl, hl, hh⟩ := within_of h2
    have hu2 := Dp.mono n2.g (Dp.mono n1.g hu)
    have hw2 := Dp.mono n2.g (Dp.mono n1.g hw)
    rw [rd_qOf h1] at hu2
    rw [show (PyData.int k) = .int ((k.toNat : Nat) : Int) by rw [Int.toNat_of_nonneg hl]] at hw2
    exact s_ret (e_call (ok_down_by T) (hr.mono (by decide)) (a_cons (e_var 0 hu2) (a_cons (e_var 1 hw2) a_nil)) ⟨qOf x, k.toNat, rfl, by omega, zx h1, rfl⟩) n2.gh fun v2 G3 H3 n3 h3 => q1 _ (by rw [er, h1, h2]; rfl) v2 G3 H3 ((n1.trans n2).trans n3) h3
theorem ok_up_to (T : Txt K mg) : XFn P w K mg base 5 "up_to" (R_dto upq) :=
  xfn_of T.h_up_to sc_up_to (fun ds d ⟨a, b, e, _⟩ => by rw [e]; rfl) fun cdv A outer s f H Q _ hr ds r G vs ⟨x, y, e, zx, er⟩ g hv q1 q2 => by
    subst e
    obtain ⟨u, v, rfl, hu, hw⟩ := all2 hv
    refine s_chk1 T (hr.mono (by decide)) (L2N.takes_of rfl rfl rfl rfl) (e_var 0 hu) g (fun h1 G1 H1 n1 => ?_) fun h c hc G1 H1 n1 => q2 "NotRight" c (by rw [er, h]; rfl) hc G1 H1 n1
    refine s_chk (k := within 0 20000 y) T (hr.mono (by decide)) (L2N.takes_of rfl rfl rfl rfl) (e_call (ok_is_within T) (hr.mono (by decide)) (a_cons (e_var 1 (Dp.mono n1.g hw)) (a_cons e_int (a_cons (e_globI' T.c_MOST_BITS) a_nil))) ⟨y, _, _, rfl, rfl⟩) n1.gh (fun h2 G2 H2 n2 => ?_) fun h c hc G2 H2 n2 => q2 "NotRight" c (by rw [er, h, h1]; rfl) hc G2 H2 (n1.trans n2)
    obtain ⟨k, rfl, hl, hh⟩ := within_of h2
    have hu2 := Dp.mono n2.g (Dp.mono n1.g hu)
    have hw2 := Dp.mono n2.g (Dp.mono n1.g hw)
    rw [rd_qOf h1] at hu2
    rw [show (PyData.int k) = .int ((k.toNat : Nat) : Int) by rw [Int.toNat_of_nonneg hl]] at hw2
    exact s_ret (e_call (ok_up_by T) (hr.mono (by decide)) (a_cons (e_var 0 hu2) (a_cons (e_var 1 hw2) a_nil)) ⟨qOf x, k.toNat, rfl, by omega, zx h1, rfl⟩) n2.gh fun v2 G3 H3 n3 h3 => q1 _ (by rw [er, h1, h2]; rfl) v2 G3 H3 ((n1.trans n2).trans n3) h3
def R_halved : List D → Except Str D → Prop := fun ds r => ∃ y : D, ds = [y] ∧ r = if within 0 20000 y then .ok (.tuple [.int 1, .int (2 ^ (intOf y).toNat)]) else .error "NotRight"
theorem ok_halved (T : Txt K mg) : XFn P w K mg base 4 "halved" R_halved :=
  xfn_of T.h_halved sc_halved (fun ds d ⟨b, e, _⟩ => by rw [e]; rfl) fun cdv A outer s f H Q _ hr ds r G vs ⟨y, e, er⟩ g hv q1 q2 => by
    subst e
    obtain ⟨v, rfl, hw⟩ := all1 hv
    refine s_chk (k := within 0 20000 y) T (hr.mono (by decide)) (L2N.takes_of rfl rfl rfl rfl) (e_call (ok_is_within T) (hr.mono (by decide)) (a_cons (e_var 0 hw) (a_cons e_int (a_cons (e_globI' T.c_MOST_BITS) a_nil))) ⟨y, _, _, rfl, rfl⟩) g (fun h2 G2 H2 n2 => ?_) fun h c hc G2 H2 n2 => q2 "NotRight" c (by rw [er, h]; rfl) hc G2 H2 n2
    obtain ⟨k, rfl, hl, hh⟩ := within_of h2
    have hw2 := Dp.mono n2.g hw
    rw [show (PyData.int k) = .int ((k.toNat : Nat) : Int) by rw [Int.toNat_of_nonneg hl]] at hw2
    refine s_ret (e_tup (a_cons e_int (a_cons (e_shl e_int (e_var 0 hw2) (shl_ok (n := 1) (by decide) (by omega))) a_nil))) n2.gh fun v2 G3 H3 n3 h3 => q1 _ (by rw [er, h2]; rfl) v2 G3 H3 (n2.trans n3) ?_
    rw [Int.one_mul, Int.toNat_natCast] at h3
    exact h3

/-! ### least squares -/
theorem sqrt_step {n x s : Nat} (hx : 0 < x) (h : s * s ≤ n) : s ≤ (x + n / x) / 2 := by
  have h1 : 2 * s ≤ x + n / x := by
    by_cases hs : 2 * s ≤ x
    · exact Nat.le_trans hs (Nat.le_add_right _ _)
    · obtain ⟨t, ht⟩ : ∃ t, 2 * s = x + t := ⟨2 * s - x, by omega⟩
      have h2 : t * x ≤ n := by
        refine Nat.le_trans ?_ h
        -- t * x ≤ s * s where t + x = 2 s
        have e : (t : Int) = 2 * s - x := by omega
        have h3 : (t : Int) * x ≤ s * s := by
          rw [e]
          have h4 : (0 : Int) ≤ ((s : Int) - x) * ((s : Int) - x) := by
            rcases Int.le_total 0 ((s : Int) - x) with q | q
            · exact Int.mul_nonneg q q
            · exact Int.mul_nonneg_of_nonpos_of_nonpos q q
          grind
        exact_mod_cast h3
      have h3 : t ≤ n / x := (Nat.le_div_iff_mul_le hx).mpr h2
      omega
  omega
theorem sqrt_uniq {n s t : Nat} (h1 : s * s ≤ n) (h2 : n < (s + 1) * (s + 1)) (h3 : t * t ≤ n) (h4 : n < (t + 1) * (t + 1)) : s = t := by
  rcases Nat.lt_trichotomy s t with h | h | h
  · have := Nat.mul_le_mul (show s + 1 ≤ t by omega) (show s + 1 ≤ t by omega); omega
  · exact h
  · have := Nat.mul_le_mul (show t + 1 ≤ s by omega) (show t + 1 ≤ s by omega); omega
theorem sqrt_done {n x : Nat} (hx : 0 < x) (h : x ≤ (x + n / x) / 2) : x * x ≤ n := by
  have h1 : x ≤ n / x := by omega
  exact (Nat.le_div_iff_mul_le hx).mp h1
theorem sqrt_ex (n : Nat) : ∃ s, s * s ≤ n ∧ n < (s + 1) * (s + 1) := by
  induction n with
  | zero => exact ⟨0, by decide, by decide⟩
  | succ n ih =>
    obtain ⟨s, h1, h2⟩ := ih
    by_cases h : (s + 1) * (s + 1) ≤ n + 1
    · refine ⟨s + 1, h, ?_⟩
      have : (s + 1 + 1) * (s + 1 + 1) = (s + 1) * (s + 1) + 2 * (s + 1) + 1 := by grind
      omega
    · exact ⟨s, by omega, by omega⟩
theorem intBits_up {n : Nat} : n < 2 ^ Builtin.Int.intBits (n : Int) := by
  unfold Builtin.Int.intBits
  split
  · rename_i h
    have : n = 0 := by simpa using h
    subst this; decide
  · rw [Int.natAbs_natCast]
    exact Nat.lt_log2_self
theorem first_big {n b : Nat} (h : n < 2 ^ b) {s : Nat} (hs : s * s ≤ n) : s < 2 ^ ((b + 1) / 2) := by
  refine Nat.lt_of_not_le fun q => ?_
  have h1 := Nat.mul_le_mul q q
  rw [← Nat.pow_add] at h1
  have h2 : 2 ^ b ≤ 2 ^ ((b + 1) / 2 + (b + 1) / 2) := pow_le (by omega)
  omega
def R_root_under : List D → D → Prop := fun ds d => ∃ n s : Nat, ds = [.int n, .int 2] ∧ n < 2 ^ 4000 ∧ s * s ≤ n ∧ n < (s + 1) * (s + 1) ∧ d = .int s
theorem e_bits {X : Cx} {o : Expr} {σ : L2.St} {G : Hp} {i : Int} {apos pos : Pos} (h : E X o σ G (.int i)) (hbase : attributeBase o "bit_length" X.env (eval o X.env) = eval o X.env := by rfl) (hline : (apos.endLine == pos.line) = true := by rfl) :
    E X (.Call (.Attribute o "bit_length" apos) [] [] pos) σ G (.int (Builtin.Int.intBits i : Nat)) := fun G1 H1 g gh Q q =>
  ⟨_, pe_bits pe_w hbase hline, h G1 H1 g gh _ fun v G2 H2 n hv => by
    cases hv
    exact ⟨i, rfl, q _ G2 H2 n (.int _)⟩⟩
theorem ok_root_under (T : Txt K mg) : PFn P w K mg base 2 "root_under" R_root_under :=
  pfn_of T.h_root_under sc_root_under (fun ds d ⟨a, n, e, _⟩ => by rw [e]; rfl) fun cdv A outer s f H Q _ hr ds d G vs ⟨n, z, e, hn, h1, h2, ed⟩ g hv q => by
    subst e ed
    obtain ⟨u, x, rfl, hu, hx⟩ := all2 hv
    cases hu; cases hx
    refine s_when (k := decide (n = 0)) (t_is (t_eqI (e_var 0 (.int _)) e_int) (decNat n 0)) g (fun h G1 H1 n1 => ?_) fun h G1 H1 n1 => ?_
    · have h : n = 0 := of_decide_eq_true h
      subst h
      have hz : z = 0 := sqrt_uniq h1 h2 (by decide) (by decide)
      subst hz
      exact s_ret e_int n1.gh fun v G2 H2 n2 h2 => q v G2 H2 (n1.trans n2) h2
    · have h : n ≠ 0 := of_decide_eq_false h
      obtain ⟨b, hb⟩ : ∃ b, b = Builtin.Int.intBits (n : Int) := ⟨_, rfl⟩
      have nb : n < 2 ^ b := by rw [hb]; exact intBits_up
      have b4 : b ≤ 4000 := by rw [hb]; exact PyProof.Rows.intBits_le (natI hn)
      have e1 : -(-(b : Int) / 2) = (((b + 1) / 2 : Nat) : Int) := by omega
      refine s_set 2 (d := .int ((2 ^ ((b + 1) / 2) : Nat) : Int)) (e_is (e_shl e_int (e_neg (e_div (e_neg (e_bits (e_var 0 (.int _)))) (e_var 1 (.int _)) (divOK (b := 2) (by decide) (by decide) (by decide)))) (by rw [← hb, e1]; exact shl_ok (n := 1) (by decide) (by omega))) (by rw [← hb, e1, Int.one_mul, Int.toNat_natCast, Int.natCast_pow]; rfl)) n1.gh sc_root_under.nd fun v2 G2 H2 n2 h3 => ?_
      cases h3
      refine s_while .never (fun k σ H1 => ∃ (x : Nat) (o : Option V) (G1 : Hp), k = x ∧ 0 < x ∧ z ≤ x ∧ x < 2 ^ 4002 ∧ σ = [some (.int n), some (.int 2), some (.int x), o] ∧ Nx G H G1 H1) (2 ^ ((b + 1) / 2)) ⟨2 ^ ((b + 1) / 2), Option.none, G2, rfl, Nat.pow_pos (by decide), Nat.le_of_lt (first_big nb h1), Nat.pow_lt_pow_right (by decide) (by omega), rfl, n1.trans n2⟩ ?_
      rintro x σ H3 ⟨_, o, G3, rfl, hx0, hzx, hxl, rfl, n3⟩
      refine ⟨true, G3, n3.gh, t_val e_bl, fun _ G4 H4 n4 => ?_, fun z => nomatch z⟩
      refine ⟨fun σ2 H2 => ∃ (x' : Nat) (o : Option V) (G1 : Hp), x' < x ∧ 0 < x' ∧ z ≤ x' ∧ x' < 2 ^ 4002 ∧ σ2 = [some (.int n), some (.int 2), some (.int x'), o] ∧ Nx G H G1 H2, fun σ2 H2 ⟨x', o, G1, l, h⟩ => ⟨x', l, x', o, G1, rfl, h⟩, ?_⟩
      have e2 : ((2 - 1 : Int) * x + n / (x : Int) ^ 1) / 2 = (((x + n / x) / 2 : Nat) : Int) := by
        rw [Int.pow_succ, Int.pow_zero, Int.one_mul]
        show (1 * (x : Int) + (n : Int) / x) / 2 = _
        rw [Int.one_mul]
        push_cast
        rfl
      refine s_set 3 (d := .int (((x + n / x) / 2 : Nat) : Int)) (e_is (e_div (e_add (e_mul (e_sub (e_var 1 (.int _)) e_int) (e_var 2 (.int _)) (mulOK (a := 2) (by decide) (natI hxl) (by decide))) (e_div (e_var 0 (.int _)) (e_call (ok_raised T) (hr.mono (by decide)) (a_cons (e_var 2 (.int _)) (a_cons (e_is (e_sub (e_var 1 (.int _)) e_int) (show PyData.int (2 - 1) = .int ((1 : Nat) : Int) from rfl)) a_nil)) ⟨x, 1, 4002, rfl, natI hxl, by decide, by decide, rfl⟩)
        (by rw [Int.pow_succ, Int.pow_zero, Int.one_mul]; exact divOK (by omega) (natI hxl) (by decide)))) (e_var 1 (.int _)) (divOK (b := 2) (by decide) (by decide) (by decide))) (by rw [← e2])) n4.gh sc_root_under.nd fun v5 G5 H5 n5 h5 => ?_
      cases h5
      have hstep := sqrt_step hx0 h1
      refine s_when (k := decide (x ≤ (x + n / x) / 2)) (t_is (t_ge (e_var 3 (.int _)) (e_var 2 (.int _))) (by
        by_cases hc : x ≤ (x + n / x) / 2
        · rw [decide_eq_true hc]; exact decide_eq_true (Int.ofNat_le.mpr hc)
        · rw [decide_eq_false hc]; exact decide_eq_false (fun w => hc (Int.ofNat_le.mp w)))) n5.gh (fun hc G6 H6 n6 => ?_) fun hc G6 H6 n6 => ?_
      · have hc := of_decide_eq_true hc
        have hd := sqrt_done hx0 hc
        have ex : z = x := by
          refine sqrt_uniq h1 h2 hd ?_
          have := Nat.mul_le_mul (show z + 1 ≤ x + 1 by omega) (show z + 1 ≤ x + 1 by omega)
          omega
        subst ex
        exact s_ret (e_var 2 (.int _)) n6.gh fun v7 G7 H7 n7 h7 => q v7 G7 H7 ((((n3.trans n4).trans n5).trans n6).trans n7) h7
      · have hc := of_decide_eq_false hc
        refine s_set 2 (e_var 3 (.int _)) n6.gh sc_root_under.nd fun v7 G7 H7 n7 h7 => s_nil ?_
        cases h7
        have hz0 : 0 < z := by
          refine Nat.pos_of_ne_zero fun w => ?_
          subst w; omega
        exact ⟨(x + n / x) / 2, _, G7, by omega, by omega, hstep, by omega, rfl, (((n3.trans n4).trans n5).trans n6).trans n7⟩
def R_least_square : List D → Except Str D → Prop := fun ds r => ∃ x : D, ds = [x] ∧ (match x with
  | .int n => if n < 0 then r = .error "NotRight" else n.natAbs < 2 ^ 4000 ∧ ∃ s : Nat, s * s ≤ n.natAbs ∧ n.natAbs < (s + 1) * (s + 1) ∧ r = .ok (.int s)
  | _ => r = .error "NotRight")
theorem ok_least_square (T : Txt K mg) : XFn P w K mg base 4 "least_square" R_least_square :=
  xfn_of T.h_least_square sc_least_square (fun ds d ⟨b, e, _⟩ => by rw [e]; rfl) fun cdv A outer s f H Q _ hr ds r G vs ⟨x, e, er⟩ g hv q1 q2 => by
    subst e
    obtain ⟨v, rfl, hw⟩ := all1 hv
    have I1 := ok_is_integer (P := P) (w := w) (base := base) T
    cases hx : isInt x with
    | false =>
      have er : r = .error "NotRight" := by cases x <;> first | exact er | cases hx
      exact s_chk (k := false && false) T (hr.mono (by decide)) (L2N.takes_of rfl rfl rfl rfl) (e_and (k := false) (e_is (e_call I1 (hr.mono (by decide)) (a_cons (e_var 0 hw) a_nil) ⟨x, rfl, rfl⟩) (by rw [hx])) (fun z => nomatch z)) g (fun z => nomatch z) fun _ c hc G1 H1 n1 => q2 "NotRight" c er hc G1 H1 n1
    | true =>
      obtain ⟨n, rfl⟩ := isInt_of hx
      have er : if n < 0 then r = .error "NotRight" else n.natAbs < 2 ^ 4000 ∧ ∃ s : Nat, s * s ≤ n.natAbs ∧ n.natAbs < (s + 1) * (s + 1) ∧ r = .ok (.int s) := er
      refine s_chk (k := true && decide (0 ≤ n)) T (hr.mono (by decide)) (L2N.takes_of rfl rfl rfl rfl) (e_and (k := true) (e_call I1 (hr.mono (by decide)) (a_cons (e_var 0 hw) a_nil) ⟨_, rfl, rfl⟩) fun _ => e_one (e_ge (e_var 0 hw) e_int)) g (fun h G1 H1 n1 => ?_) fun h c hc G1 H1 n1 => ?_
      · have h0 : 0 ≤ n := by simpa using h
        rw [if_neg (by omega)] at er
        obtain ⟨hl, s', h1, h2, er⟩ := er
        refine s_ret (e_call (ok_root_under T) (hr.mono (by decide)) (a_cons (e_is (e_var 0 (Dp.mono n1.g hw)) (show PyData.int n = .int (n.natAbs : Int) by rw [Int.natAbs_of_nonneg h0])) (a_cons e_int a_nil)) ⟨n.natAbs, s', rfl, hl, h1, h2, rfl⟩) n1.gh fun v2 G2 H2 n2 h => q1 _ er v2 G2 H2 (n1.trans n2) h
      · have h0 : n < 0 := by simpa using h
        rw [if_pos h0] at er
        exact q2 "NotRight" c er hc G1 H1 n1
end
end K00

/-! M2: figures as lists of codes. -/
namespace DL
open PySem L2 SX
/-- the figures of a number -/
def dig (n : Nat) : List Nat := (Nat.toDigits 10 n).map Char.toNat
/-- just k figures -/
def pad : Nat → Nat → List Nat
  | 0, _ => []
  | k + 1, n => pad k (n / 10) ++ [48 + n % 10]
theorem pad_len : ∀ (k n : Nat), (pad k n).length = k
  | 0, _ => rfl
  | k + 1, n => by show (pad k (n / 10) ++ [48 + n % 10]).length = k + 1; rw [List.length_append, pad_len k]; rfl
theorem digitChar_code {d : Nat} (h : d < 10) : (Nat.digitChar d).toNat = 48 + d := by
  match d, h with
  | 0, _ => rfl
  | 1, _ => rfl
  | 2, _ => rfl
  | 3, _ => rfl
  | 4, _ => rfl
  | 5, _ => rfl
  | 6, _ => rfl
  | 7, _ => rfl
  | 8, _ => rfl
  | 9, _ => rfl
theorem dig_lt {n : Nat} (h : n < 10) : dig n = [48 + n] := by
  unfold dig; rw [Nat.toDigits_of_lt_base h]
  show [(Nat.digitChar n).toNat] = _
  rw [digitChar_code h]
theorem dig_step {n : Nat} (h : 10 ≤ n) : dig n = dig (n / 10) ++ [48 + n % 10] := by
  unfold dig
  rw [Nat.toDigits_of_base_le (by decide) h, List.map_append]
  show _ ++ [(Nat.digitChar (n % 10)).toNat] = _
  rw [digitChar_code (Nat.mod_lt n (by decide))]
theorem dig_pos (n : Nat) : 0 < (dig n).length := by unfold dig; rw [List.length_map]; exact Nat.length_toDigits_pos
theorem dig_len_le {n k : Nat} (hk : 0 < k) : (dig n).length ≤ k ↔ n < 10 ^ k := by unfold dig; rw [List.length_map]; exact Nat.length_toDigits_le_iff (by decide) hk
theorem dig_split {q : Nat} (hq : 0 < q) : ∀ {k r : Nat}, r < 10 ^ k → dig (q * 10 ^ k + r) = dig q ++ pad k r
  | 0, r, h => by
    have : r = 0 := by simpa using h
    subst this
    show dig (q * 1 + 0) = dig q ++ []
    simp
  | k + 1, r, h => by
    have e : q * 10 ^ (k + 1) + r = 10 * (q * 10 ^ k + r / 10) + r % 10 := by
      have e1 : q * 10 ^ (k + 1) = 10 * (q * 10 ^ k) := by rw [Nat.pow_succ]; grind
      omega
    have hp : 0 < 10 ^ k := Nat.pow_pos (by decide)
    have hq1 : 1 ≤ q * 10 ^ k := Nat.mul_pos hq hp
    have h10 : 10 ≤ q * 10 ^ (k + 1) + r := by omega
    rw [dig_step h10, e]
    have e2 : (10 * (q * 10 ^ k + r / 10) + r % 10) / 10 = q * 10 ^ k + r / 10 := by omega
    have e3 : (10 * (q * 10 ^ k + r / 10) + r % 10) % 10 = r % 10 := by omega
    rw [e2, e3, dig_split hq (k := k) (r := r / 10) (by rw [Nat.pow_succ] at h; omega), List.append_assoc]
    rfl
theorem rep_succ (n : Nat) : List.replicate (n + 1) 48 = 48 :: List.replicate n 48 := rfl
/-- figures with noughts ahead -/
theorem pad_dig : ∀ {k n : Nat}, 0 < k → n < 10 ^ k → pad k n = List.replicate (k - (dig n).length) 48 ++ dig n
  | 1, n, _, h => by
    have h : n < 10 := by simpa using h
    show [] ++ [48 + n % 10] = _
    rw [dig_lt h, Nat.mod_eq_of_lt h]
    rfl
  | k + 2, n, _, h => by
    show pad (k + 1) (n / 10) ++ [48 + n % 10] = _
    have h2 : n / 10 < 10 ^ (k + 1) := by rw [Nat.pow_succ] at h; omega
    rw [pad_dig (Nat.succ_pos k) h2]
    by_cases hn : n < 10
    · have e : n / 10 = 0 := by omega
      rw [e, dig_lt (show 0 < 10 by decide), dig_lt hn, Nat.mod_eq_of_lt hn]
      show List.replicate (k + 1 - 1) 48 ++ [48] ++ [48 + n] = List.replicate (k + 2 - 1) 48 ++ [48 + n]
      rw [show k + 1 - 1 = k by omega, show k + 2 - 1 = k + 1 by omega, List.replicate_succ']
    · rw [dig_step (show 10 ≤ n by omega), List.length_append, List.length_singleton, List.append_assoc]
      rw [show k + 2 - ((dig (n / 10)).length + 1) = k + 1 - (dig (n / 10)).length by omega]
theorem pad_split : ∀ {b : Nat} (a : Nat) (x : Nat) {y : Nat}, y < 10 ^ b → pad (a + b) (x * 10 ^ b + y) = pad a x ++ pad b y
  | 0, a, x, y, h => by
    have : y = 0 := by simpa using h
    subst this
    show pad a (x * 1 + 0) = pad a x ++ []
    simp
  | b + 1, a, x, y, h => by
    show pad (a + b) ((x * 10 ^ (b + 1) + y) / 10) ++ [48 + (x * 10 ^ (b + 1) + y) % 10] = pad a x ++ (pad b (y / 10) ++ [48 + y % 10])
    have e1 : x * 10 ^ (b + 1) = 10 * (x * 10 ^ b) := by rw [Nat.pow_succ]; grind
    have e2 : (x * 10 ^ (b + 1) + y) / 10 = x * 10 ^ b + y / 10 := by omega
    have e3 : (x * 10 ^ (b + 1) + y) % 10 = y % 10 := by omega
    rw [e2, e3, pad_split a x (y := y / 10) (by rw [Nat.pow_succ] at h; omega), List.append_assoc]
theorem str_nat (n : Nat) : (Str.ofString (toString (n : Int))) = S (dig n) := by
  rw [Str.ofString_eq_toList]
  show (⟨((toString n).toList.map Char.toNat).toArray⟩ : Str) = _
  rw [show (toString n) = n.repr from rfl, Nat.toList_repr]
  rfl
theorem str_neg (n : Nat) (h : 0 < n) : (Str.ofString (toString (-(n : Int)))) = S (45 :: dig n) := by
  rw [Str.ofString_eq_toList]
  obtain ⟨m, rfl⟩ : ∃ m, n = m + 1 := ⟨n - 1, by omega⟩
  show (⟨((toString (Int.negSucc m)).toList.map Char.toNat).toArray⟩ : Str) = _
  rw [show (toString (Int.negSucc m)) = "-" ++ (m + 1).repr from rfl, String.toList_append, Nat.toList_repr]
  rfl
/-- how an int is written -/
def digI (i : Int) : List Nat := if i < 0 then 45 :: dig i.natAbs else dig i.natAbs
theorem str_int (i : Int) : (Str.ofString (toString i)) = S (digI i) := by
  unfold digI
  by_cases h : i < 0
  · rw [if_pos h]
    have e : i = -(i.natAbs : Int) := by omega
    conv => lhs; rw [e]
    exact str_neg _ (by omega)
  · rw [if_neg h]
    have e : i = (i.natAbs : Int) := by omega
    conv => lhs; rw [e]
    exact str_nat _
theorem log_small {i : Int} (h : i.natAbs < 2 ^ 1000) : i.natAbs.log2 < 1920 := by
  by_cases h0 : i.natAbs = 0
  · rw [h0]; decide
  · exact Nat.lt_of_lt_of_le ((Nat.log2_lt h0).mpr h) (by decide)
end DL

/-! D3: texts, slices, a list of one's own by name. -/
namespace DL
open PySem PySem.Spec PyProof.Rows L2 SX
section
variable {X : Cx} {σ : L2.St} {G H : Hp} {a b c e : Expr} {es : List Expr} {pos p p2 : Pos} {d : D} {ds : List D} {x : Str} {i j : Int}

/-- '..' * n -/
def rMulS : R2 := fun x y H Q => ∃ s n, x = .str s ∧ y = .int n ∧ MulOk s n ∧ Q (.str (Txt.mul s n)) H
theorem op_mulS : OpR X (binaryOp .Mult) rMulS := by
  intro pins s σ H x y v u Q I rx ry h
  obtain ⟨z, n, rfl, rfl, hc, q⟩ := h
  obtain ⟨t, rfl⟩ := rx
  obtain ⟨k, rfl⟩ := ry
  exact SB.mul hc fun t' k => ⟨.str (Txt.mul z n), H, I.tok k, ⟨t', rfl⟩, q⟩
theorem mul_rep (l : List Nat) (n : Int) : Txt.mul (S l) n = S (List.replicate n.toNat l).flatten := by
  unfold Txt.mul
  by_cases h1 : n < 1
  · rw [if_pos h1, show n.toNat = 0 by omega]; rfl
  · rw [if_neg h1]
    by_cases h2 : (n == 1 || (S l).length == 0) = true
    · rw [if_pos h2]
      rw [Bool.or_eq_true, beq_iff_eq, beq_iff_eq] at h2
      rcases h2 with h2 | h2
      · subst h2; show S l = S (List.replicate 1 l).flatten; simp
      · rw [S_len] at h2
        have : l = [] := List.eq_nil_of_length_eq_zero h2
        subst this
        simp
    · rw [if_neg h2]
      refine TL.ext_tl ?_
      show ((List.replicate n.toNat l.toArray).foldl (· ++ ·) #[]).toList = (List.replicate n.toNat l).flatten
      generalize n.toNat = m
      have key : ∀ (m : Nat) (acc : Array Nat), ((List.replicate m l.toArray).foldl (· ++ ·) acc).toList = acc.toList ++ (List.replicate m l).flatten := by
        intro m
        induction m with
        | zero => intro acc; simp
        | succ m ih => intro acc; rw [List.replicate_succ, List.foldl_cons, ih, List.replicate_succ, List.flatten_cons]; simp
      rw [key]; simp
theorem mulS_ok {l : List Nat} {n : Int} (hl : l.length ≤ 1) (h1 : -(2 ^ 40) ≤ n) (h2 : n ≤ 1000000) : MulOk (S l) n := by
  have hl' : (S l).length ≤ 1 := by rw [S_len]; exact hl
  refine ⟨?_, fun h _ => ?_, fun h _ => ?_⟩
  · have g1 : decide (n < -(2 ^ 63 : Int)) = false := decide_eq_false (by omega)
    have g2 : decide (n ≥ 2 ^ 63) = false := decide_eq_false (by omega)
    rw [g1, g2]; rfl
  · have : (1 : Int) ≤ (2 ^ 63 - 1) / n := (Int.le_ediv_iff_mul_le (by omega)).mpr (by omega)
    omega
  · unfold Builtin.Str.tooLong
    refine decide_eq_false ?_
    have : (S l).length * n.toNat ≤ 1 * n.toNat := Nat.mul_le_mul_right _ hl'
    have hz : (1000000 : Nat) ≤ sizeLine := by decide
    omega
theorem e_mulS {l : List Nat} {n : Int} (ha : E X a σ G (.str (S l))) (hb : E X b σ G (.int n)) (hl : l.length ≤ 1 := by decide) (h1 : -(2 ^ 40) ≤ n) (h2 : n ≤ 1000000) : E X (.BinOp a .Mult b pos) σ G (.str (S (List.replicate n.toNat l).flatten)) :=
  e_op op_mulS ha hb fun u v G1 H1 _ gh hu hv Q k => by
    cases hu; cases hv
    refine ⟨S l, n, rfl, rfl, mulS_ok hl h1 h2, k _ G1 H1 (Nx.refl gh) ?_⟩
    rw [mul_rep]; exact .str _
theorem e_catS {l m : List Nat} (ha : E X a σ G (.str (S l))) (hb : E X b σ G (.str (S m))) (hc : l.length + m.length ≤ 1000000) : E X (.BinOp a .Add b pos) σ G (.str (S (l ++ m))) :=
  e_is (e_addS ha hb (by rw [S_len, S_len]; exact Nat.le_trans hc (by decide))) (by rw [S_cat])
/-- sep.join(a list) -/
theorem e_join {l : List Nat} {ys : List (List Nat)} {apos : Pos} (ha : E X a σ G (.str (S l))) (hb : E X b σ G (.list (ys.map fun y => .str (S y)))) (hz : (ys.map (·.length)).sum + ys.length * l.length ≤ 16777216)
    (hs : starEach [b] X.env = [(false, eval b X.env)] := by rfl) (hbase : attributeBase a "join" X.env (eval a X.env) = eval a X.env := by rfl) (hline : (apos.endLine == pos.line) = true := by rfl) :
    E X (.Call (.Attribute a "join" apos) [b] [] pos) σ G (.str (S (TL.joinL l ys))) := fun G1 H1 g gh Q q =>
  ⟨_, pe_join pe_w pe_w hs hbase hline, ha G1 H1 g gh _ fun u G2 H2 n hu => ⟨⟨_, Dp.str_inv hu⟩, hb G2 H2 (g.trans n.g) n.gh _ fun v G3 H3 n2 hv => by
    obtain ⟨pp, xs, rfl, hl, hx⟩ := Dp.lst_inv hv
    have e1 : (ys.map fun y => PyData.str (S y)) = (ys.map S).map PyData.str := by rw [List.map_map]; rfl
    rw [e1] at hx
    rw [DpAll.strs_inv hx] at hl
    refine ⟨S l, pp, ys.map S, Dp.str_inv hu, rfl, .inl (Evl.ex_l n2.gh hl), ?_, ?_⟩
    · rw [lens, List.length_map, S_len]; exact hz
    · rw [join_S]; exact q _ G3 H3 (n.trans n2) (.str _)⟩⟩
/-- x[::-1] of a list -/
theorem e_revL {k : Nat} {p1 p2 p3 : Pos} (ha : E X a σ G (.list ds)) (hz : ds.length ≤ 100000) : E X (.Subscript a (.Slice none none (some (.UnaryOp .USub (.Constant (.int 1) k p1) p2)) p3) pos) σ G (.list ds.reverse) := fun G1 H1 g gh Q q =>
  ⟨_, pe_revL pe_w, ha G1 H1 g gh _ fun u G2 H2 n hu => by
    obtain ⟨pp, xs, rfl, hl, hx⟩ := Dp.lst_inv hu
    exact ⟨pp, xs, rfl, Evl.ex_l n.gh hl, fun r hr => q _ _ _ (n.trans (Nx.new n.gh hr)) (.lst (Evl.sq_of upd_same) (DpAll.mono (Evl.Ex.new (Evl.fresh_back n.gh hr)) (DpAll.rev hx)))⟩⟩
/-- x[:e], x[e:] of a text, e an int -/
theorem e_slHi {l : List Nat} (ha : E X a σ G (.str (S l))) (hb : E X b σ G (.int i)) (hz : l.length ≤ 1000000) : E X (.Subscript a (.Slice none (some b) none p2) pos) σ G (.str (cutS (S l) none (some i))) := fun G1 H1 g gh Q q =>
  ⟨_, pe_slice sl_str pe_w po_none (po_some pe_w), ha G1 H1 g gh _ fun u G2 H2 n hu => hb G2 H2 (g.trans n.g) n.gh _ fun v G3 H3 n2 hv =>
    ⟨i, Dp.int_inv hv, S l, Dp.str_inv hu, by rw [S_len]; exact Nat.le_trans hz (by decide), q _ G3 H3 (n.trans n2) (.str _)⟩⟩
theorem e_slLo {l : List Nat} (ha : E X a σ G (.str (S l))) (hb : E X b σ G (.int i)) (hz : l.length ≤ 1000000) : E X (.Subscript a (.Slice (some b) none none p2) pos) σ G (.str (cutS (S l) (some i) none)) := fun G1 H1 g gh Q q =>
  ⟨_, pe_slice sl_str pe_w (po_some pe_w) po_none, ha G1 H1 g gh _ fun u G2 H2 n hu => hb G2 H2 (g.trans n.g) n.gh _ fun v G3 H3 n2 hv =>
    ⟨i, Dp.int_inv hv, S l, Dp.str_inv hu, by rw [S_len]; exact Nat.le_trans hz (by decide), q _ G3 H3 (n.trans n2) (.str _)⟩⟩
theorem cut_hi {l : List Nat} {k : Nat} (hk : 0 < k) (h : k ≤ l.length) : cutS (S l) none (some (-(k : Int))) = S (l.take (l.length - k)) := by
  unfold cutS
  rw [S_len]
  show S ((l.drop (HT.sIx l.length 0 none)).take (HT.sIx l.length l.length (some (-(k : Int))) - HT.sIx l.length 0 none)) = _
  have e1 : HT.sIx l.length l.length (some (-(k : Int))) = l.length - k := by
    show (if (-(k : Int)) < 0 then ((-(k : Int)) + (l.length : Int)).toNat else _) = _
    rw [if_pos (by omega)]; omega
  rw [e1]; rfl
theorem cut_lo {l : List Nat} {k : Nat} (hk : 0 < k) (h : k ≤ l.length) : cutS (S l) (some (-(k : Int))) none = S (l.drop (l.length - k)) := by
  unfold cutS
  rw [S_len]
  show S ((l.drop (HT.sIx l.length 0 (some (-(k : Int))))).take (HT.sIx l.length l.length none - HT.sIx l.length 0 (some (-(k : Int))))) = _
  have e1 : HT.sIx l.length 0 (some (-(k : Int))) = l.length - k := by
    show (if (-(k : Int)) < 0 then ((-(k : Int)) + (l.length : Int)).toNat else _) = _
    rw [if_pos (by omega)]; omega
  rw [e1]
  show S ((l.drop (l.length - k)).take (l.length - (l.length - k))) = _
  rw [List.take_of_length_le (by rw [List.length_drop]; omega)]
/-- f'{a}.{b}' -/
theorem e_f3 {l m n : List Nat} {j : Nat} {q1 q2 q3 : Pos} (ha : E X a σ G (.str (S l))) (hb : E X b σ G (.str (S n))) (hz : l.length + m.length + n.length ≤ 1000000) :
    E X (.JoinedStr [.FormattedValue a (-1) none q1, .Constant (.str (S m)) j q2, .FormattedValue b (-1) none q3] pos) σ G (.str (S (l ++ m ++ n))) := fun G1 H1 g gh Q q => by
  have z : (1000000 : Nat) ≤ sizeLine := by decide
  have e0 : Str.empty ++ S l = S l := by show S [] ++ S l = S l; rw [S_cat]; rfl
  refine ⟨_, pe_joined (.cons (pe_fmt pe_w) (.cons pe_str (.cons (pe_fmt pe_w) .nil))), ha G1 H1 g gh _ fun u G2 H2 n2 hu => .inl ⟨S l, Dp.str_inv hu, by rw [S_len]; omega, S l, rfl, ?_⟩⟩
  rw [e0]
  refine ⟨by rw [S_len]; omega, S m, rfl, ?_⟩
  rw [S_cat]
  refine ⟨by rw [S_len, List.length_append]; omega, hb G2 H2 (g.trans n2.g) n2.gh _ fun v G3 H3 n3 hv => .inl ⟨S n, Dp.str_inv hv, by rw [S_len]; omega, S n, rfl, ?_⟩⟩
  rw [S_cat]
  exact ⟨by rw [S_len, List.length_append, List.length_append]; omega, q _ G3 H3 (n2.trans n3) (.str _)⟩
theorem e_lenL {l : List Nat} (hm : X.mg "len" = Option.none) (ha : E X a σ G (.str (S l))) (hz : l.length ≤ 1000000) (hg : Gl X "len" := by rfl) (he : starEach [a] X.env = (false, eval a X.env) :: starEach [] X.env := by rfl) (hpl : (backTo pos (starEach [] X.env)).any (·.1) = false := by rfl) :
    E X (.Call (.Name "len" p) [a] [] pos) σ G (.int (l.length : Int)) :=
  e_is (e_lenS hm ha (by rw [S_len]; exact Nat.le_trans hz (by decide)) hg he hpl) (by rw [S_len])
/-- text == text -/
theorem e_eqS {l m : List Nat} (ha : E X a σ G (.str (S l))) (hb : E X b σ G (.str (S m))) : E X (.Compare a [.Eq] [b] pos) σ G (.bool (decide (l = m))) :=
  e_is (e_eq ha hb rfl rfl rfl) (by
    show PyData.bool (decide (V.str (S l) = V.str (S m))) = _
    by_cases h : l = m
    · subst h; simp
    · have : ¬ V.str (S l) = V.str (S m) := fun z => h (S_inj (V.str.inj z))
      rw [decide_eq_false h, decide_eq_false this])
/-- is, of truth values -/
theorem t_isB {k l : Bool} (ha : E X a σ G (.bool k)) (hb : E X b σ G (.bool l)) (hm : behindInMarks .Is b = false := by rfl) : T X (.Compare a [.Is] [b] pos) σ G (decide (k = l)) :=
  t_cmp op_isBl hm ha hb fun u v G1 H1 _ _ hu hv Q q => ⟨k, l, Dp.bl_inv hu, Dp.bl_inv hv, q⟩
theorem t_notB {k l : Bool} (ha : E X a σ G (.bool k)) (hb : E X b σ G (.bool l)) (hm : behindInMarks .IsNot b = false := by rfl) : T X (.Compare a [.IsNot] [b] pos) σ G (!decide (k = l)) :=
  t_cmp op_notBl hm ha hb fun u v G1 H1 _ _ hu hv Q q => ⟨k, l, Dp.bl_inv hu, Dp.bl_inv hv, q⟩
end
end DL

/-! D4: strike-out of a sign, a list of one's own by name, list(reversed(..)). -/
namespace DL
open PySem PySem.Spec PyProof.Rows L2 SX
section
variable {X : Cx} {σ : L2.St} {G H : Hp} {a b c e o : Expr} {es : List Expr} {pos p p0 p1 p2 pc pc2 : Pos} {d : D} {ds : List D} {x : Str} {i j : Int} {ta tb to : TE} {m : Str} {n n2 : Nat}

/-! ### x == '0' and y.replace('0', '') == '' -/
def tEqS (m : Str) (ta : TE) : TE := fun σ H Q => ta σ H fun x H1 => ∃ l, x = .str l ∧ Q (.bl (decide (V.str l = V.str m))) H1
theorem pet_eqC (ho : PET X o to) : PET X (.Compare o [.Eq] [.Constant (.str m) n pc] p1) (tEqS m to) := by
  intro pins s σ H Q h0 I h
  refine wpAny_Compare1 (thn (ho pins s σ H _ h0 I h) fun v s1 ⟨x, H1, I1, r1, l, e1, q1⟩ => ?_) (nomark _)
  subst e1
  obtain ⟨t, rfl⟩ := r1
  refine Calls.Constant_str ?_
  exact op_eq pins { s1 with toks := s1.toks + 1 } σ H1 (.str l) (.str m) _ _ Q (I1.tok _) ⟨t, rfl⟩ ⟨s1.toks, rfl⟩ ⟨rfl, q1⟩
theorem pe_andS (ha : PE X a ta) (hb : PET X b tb) : PE X (.BoolOp .And [.Compare a [.Eq] [.Constant (.str m) n pc] p1, b] p0) (tAndV (tEqS m ta) tb) := by
  refine ⟨fun pins s σ H Q I h => ?_⟩
  refine BoolOp_and (wpAny_Compare1 (thn (ha.run pins s σ H _ I h) fun v s1 ⟨x, H1, I1, r1, l, e1, q1⟩ => ?_) (nomark _))
  subst e1
  obtain ⟨t, rfl⟩ := r1
  refine Calls.Constant_str ?_
  refine wpAny_mono (PySem.wpAny_toks (op_eq pins { s1 with toks := s1.toks + 1 } σ H1 (.str l) (.str m) _ _ (fun x H1 => ∃ c, x = V.bl c ∧ if c = true then tb σ H1 Q else Q (V.bl false) H1) (I1.tok _) ⟨t, rfl⟩ ⟨s1.toks, rfl⟩ ⟨rfl, q1⟩)) (fun w s2 q => ?_) fun _ _ x => x.2
  obtain ⟨hk, z, H2, I2, r2, c, rfl, q⟩ := q
  cases r2
  have hk : 1 ≤ s2.toks := Nat.le_trans (Nat.le_add_left 1 s1.toks) hk
  refine wpAny_truthy_bool ?_
  cases hc : c with
  | true => rw [hc] at q; exact BoolOp_one (hb pins s2 σ H2 Q hk I2 q)
  | false => rw [hc] at q; exact ⟨.bl false, H2, I2, rfl, q⟩
theorem strike_S (l : List Nat) (c : Nat) : Txt.replace (S l) (S [c]) (S []) = S (l.filter (· != c)) := TL.ext_tl (replace_strikes (S l) c)
theorem e_nothing {l m : List Nat} {c : Nat} {apos pos c0 c1 pc pc2 : Pos} {j0 j1 : Nat} (ha : E X a σ G (.str (S l))) (ho : E X o σ G (.str (S m))) (hz : m.length ≤ 100000) (hyz : ((S [c] : Str) == (S [] : Str)) = false := by decide)
    (hst : starEach [.Constant (.str (S [c])) j0 c0, .Constant (.str (S [])) j1 c1] X.env = [(false, eval (.Constant (.str (S [c])) j0 c0) X.env), (false, eval (.Constant (.str (S [])) j1 c1) X.env)] := by rfl)
    (hbase : attributeBase o "replace" X.env (eval o X.env) = eval o X.env := by rfl) (hline : (apos.endLine == pos.line) = true := by rfl) :
    E X (.BoolOp .And [.Compare a [.Eq] [.Constant (.str (S [c])) n pc] p1, .Compare (.Call (.Attribute o "replace" apos) [.Constant (.str (S [c])) j0 c0, .Constant (.str (S [])) j1 c1] [] pos) [.Eq] [.Constant (.str (S [])) n2 pc2] p2] p0) σ G (.bool (decide (l = [c]) && decide (m.filter (· != c) = []))) := fun G1 H1 g gh Q q =>
  ⟨_, pe_andS pe_w (pet_eqC (CwR.pet_replC (X := X) pe_w hyz hst hbase hline)), ha G1 H1 g gh _ fun u G2 H2 n hu => by
    have eqS : ∀ x y : List Nat, decide (V.str (S x) = V.str (S y)) = decide (x = y) := fun x y => by
      by_cases h : x = y
      · subst h; simp
      · have : ¬ V.str (S x) = V.str (S y) := fun z => h (S_inj (V.str.inj z))
        rw [decide_eq_false h, decide_eq_false this]
    refine ⟨S l, Dp.str_inv hu, decide (l = [c]), by rw [eqS], ?_⟩
    by_cases hl : l = [c]
    · rw [decide_eq_true hl]
      refine iteT (ho G2 H2 (g.trans n.g) n.gh _ fun v G3 H3 n2 hv => ⟨S m, Dp.str_inv hv, ?_, _, rfl, ?_⟩)
      · rw [S_len, S_len]; simp; omega
      · rw [strike_S, eqS]
        rw [decide_eq_true hl] at q
        exact q _ G3 H3 (n.trans n2) (.bl _)
    · rw [decide_eq_false hl]
      refine iteF ?_
      rw [decide_eq_false hl] at q
      exact q _ G2 H2 n (.bl _)⟩

/-! ### a list of one's own, by name -/
/-- x, y = [], e -/
theorem s_parL (i j : Nat) {y : Str} {e2 : Expr} {d2 : D} {rest : List Stmt} {Z : Ends} {px py pt pt2 pl : Pos} {kt k2 : _} (hcalm : X.calm = true) (hN : X.N.Nodup) (ha : E X e2 σ G d2) (gh : Ex G H) (q : ∀ l v G' H', Lcl G H l G' H' [] → Dp X.K G' v d2 → wB X rest Z ((σ.set i (some (.ref l))).set j (some v)) H')
    (hi : X.N[i]? = some x := by rfl) (hj : X.N[j]? = some y := by rfl) (hij : i ≠ j := by decide) (hx : X.env.scope.names.lookup x = some .local := by rfl) (hy : X.env.scope.names.lookup y = some .local := by rfl)
    (hw : swappedStores [.Tuple [.Name x px, .Name y py] kt pt] (.Tuple [.List [] pl, e2] k2 pt2) X.env = pure (some [x, y]) := by rfl)
    (hs : swapsWithSole [.Tuple [.Name x px, .Name y py] kt pt] (.Tuple [.List [] pl, e2] k2 pt2) pos.line X.env = pure false := by rfl)
    (hs1 : starEach [.List [] pl, e2] X.env = (false, eval (.List [] pl) X.env) :: starEach [e2] X.env := by rfl) (hs2 : starEach [e2] X.env = (false, eval e2 X.env) :: starEach [] X.env := by rfl) :
    wB X (.Assign [.Tuple [.Name x px, .Name y py] kt pt] (.Tuple [.List [] pl, e2] k2 pt2) pos :: rest) Z σ H :=
  s_cons ⟨_, ps_par hcalm hN hi hj hij hx hy (pa_cons (pe_lst pa_nil) (pa_cons pe_w pa_nil hs2) hs1) hw hs, ⟨Nat.zero_le _, fun l hl => ha G (upd H l (.lst [])) (Evl.Ex.refl _) (gh.trans (Evl.Ex.new hl)) _ fun v G' H' n hv =>
    ⟨.ref l, v, rfl, q l v G' H' ((Lcl.start gh hl).step n) hv⟩⟩⟩
/-- x = [] -/
theorem s_setL (i : Nat) {rest : List Stmt} {Z : Ends} {pos' pl : Pos} (gh : Ex G H) (hN : X.N.Nodup) (q : ∀ l H', Lcl G H l G H' [] → wB X rest Z (σ.set i (some (.ref l))) H') (hi : X.N[i]? = some x := by rfl) (hx : L2.Loc X.env.scope x := by first | exact Or.inl rfl | exact Or.inr rfl)
    (hs : swapsWith (.List [] pl) (some (.Name x pos')) pos.line X.env = pure false := by rfl) (hf : X.fn x = true ∨ X.env.scope.names.lookup x = some .local := by first | exact .inl rfl | exact .inr rfl | assumption) : wB X (.Assign [.Name x pos'] (.List [] pl) pos :: rest) Z σ H :=
  s_cons ⟨_, ps_set hN hi hx (pe_lst pa_nil) hs hf, ⟨Nat.zero_le _, fun l hl => q l (upd H l (.lst [])) (Lcl.start gh hl)⟩⟩
/-- x.append(e) -/
theorem s_app (i : Nat) {l : Addr} {G0 H0 : Hp} {vs : List V} {rest : List Stmt} {Z : Ends} {pe apos pos' : Pos} (L : Lcl G0 H0 l G H vs) (hσ : σ[i]? = some (some (.ref l))) (ha : E X e σ G d) (hz : vs.length ≤ 90000)
    (q : ∀ v G' H', Ex G G' → Lcl G0 H0 l G' H' (vs ++ [v]) → Dp X.K G' v d → wB X rest Z σ H')
    (hN : X.N[i]? = some x := by rfl) (hv : Vis X.env.scope x := by first | exact Or.inl rfl | exact Or.inr (Or.inl rfl) | exact Or.inr (Or.inr rfl)) (h1 : (x == ("__debug__" : Str)) = false := by decide) (h2 : (x == ("__classdict__" : Str)) = false := by decide)
    (hs : swapsWith (.Call (.Attribute (.Name x pe) "append" apos) [e] [] pos') Option.none pos.line X.env = pure false := by rfl)
    (hbase : attributeBase (.Name x pe) "append" X.env (eval (.Name x pe) X.env) = eval (.Name x pe) X.env := by rfl)
    (hfew : ((backTo pos' (starEach [e] X.env)).all (fun x => !x.1) && (backToKw pos' (keywordEach [] X.env)).all (fun x => x.1.isSome)
      && decide (([e] : List Expr).length + ([] : List Keyword).length + (if ([] : List Keyword).isEmpty then 0 else 1) < 30)) = true := by rfl)
    (hline : (apos.endLine == pos'.line) = true := by rfl) (hst : starEach [e] X.env = (false, eval e X.env) :: starEach [] X.env := by rfl) (hplain : (backTo pos' (starEach [] X.env)).any (·.1) = false := by rfl) :
    wB X (.Expr (.Call (.Attribute (.Name x pe) "append" apos) [e] [] pos') pos :: rest) Z σ H :=
  s_cons ⟨_, ps_expr (pe_bm PySem.F.plainAttrs_list PySem.F.slot_list_append PySem.F.type_list_append mt_append (pe_var hN hv h1 h2) (pa_cons pe_w pa_nil hst) hbase hfew hline hst hplain) hs,
    ⟨.ref l, hσ, .inl ⟨rfl, vs, .inl (.inl L.hl)⟩, ha G H (Evl.Ex.refl _) L.gh _ fun v G' H' n hv' =>
      ⟨l, vs, v, rfl, rfl, (L.step n).hl, Evl.sz_lt (by omega), q v G' _ n.g (L.step n).put hv'⟩⟩⟩
/-- x //= e -/
theorem s_idiv (i : Nat) {rest : List Stmt} {Z : Ends} {k j : Int} {pos' : Pos} (hσ : σ[i]? = some (some (.int k))) (ha : E X e σ G (.int j)) (gh : Ex G H) (hc : CDivW k j) (hN : X.N.Nodup)
    (q : ∀ G' H', Nx G H G' H' → wB X rest Z (σ.set i (some (.int (k / j)))) H') (hi : X.N[i]? = some x := by rfl) (hx : L2.Loc X.env.scope x := by first | exact Or.inl rfl | exact Or.inr rfl)
    (hf : X.fn x = true ∨ X.env.scope.names.lookup x = some .local := by first | exact .inl rfl | exact .inr rfl | assumption) : wB X (.AugAssign (.Name x pos') .FloorDiv e pos :: rest) Z σ H :=
  s_cons ⟨_, ps_aug hN hi hx pe_w (iop_fdivW (X := X)) hf, ⟨.int k, hσ, ha G H (Evl.Ex.refl _) gh _ fun v G' H' n hv => ⟨k, j, rfl, Dp.int_inv hv, hc, q G' H' n⟩⟩⟩
end
end DL

/-! D5: list(reversed(x)); x + y, x * n of lists. -/
namespace DL
open PySem PySem.Spec PyProof.Rows L2 SX RT
section
variable {prog : Program} {w : World} {A : Around} {E : Value → Shared → Prop} {s : Shared}
/-- list(it), it = reversed(list) -/
theorem call_list_rev {it l : Addr} {items : Array Value} {Q : Value → Shared → Prop} (hh : A.handled = none) (hit : s.heap.IsRevIter it l ((items.size : Int) - 1)) (hl : s.heap.IsList l items) (hne : l ≠ it) (hn : items.size ≤ sizeLine)
    (hQ : ∀ (h' : Heap) (tk : Nat) (acc : Array Value) (c' : Nat), (∀ b o, b ≠ it → s.heap.get? b = some o → h'.get? b = some o) → h'.get? s.heap.objs.size = some { cls := .type "list", dict := none, data := .seq acc c', slots := #[] } →
      ItemsOf (fun i v => items[items.size - 1 - i]? = some v) acc items.size → Q (.ref s.heap.objs.size) { s with heap := h', toks := tk }) :
    wpAny (model prog w) A (call (.type "list") [.ref it]) Q E s := by
  have W := (Walks.listRev (prog := prog) (w := w) (A := A.in1.in1) hh it l hne items).toS
  obtain ⟨oi, hoi, _⟩ := id hit
  obtain ⟨ol, hol, _⟩ := id hl
  have hSi : s.heap.objs.size ≠ it := Nat.ne_of_gt (Heap.lt_size hoi)
  have hSl : s.heap.objs.size ≠ l := Nat.ne_of_gt (Heap.lt_size hol)
  have hSf : s.heap.objs.size ∉ [it, l] := by simp only [List.mem_cons, List.not_mem_nil, or_false, not_or]; exact ⟨hSi, hSl⟩
  refine callType_codes (Q₁ := fun obj s₁ => obj = .ref s.heap.objs.size ∧ s₁ = { s with heap := s.heap.push { cls := .type "list", data := .seq #[] } }) PySem.F.called_list (PySem.F.typeCall_list_1 _) PySem.F.entry_list_init
    (code_list_new _ ⟨rfl, rfl⟩) fun obj s₁ h₁ => ?_
  obtain ⟨rfl, rfl⟩ := h₁
  have hS : (s.heap.push { cls := .type "list", data := .seq #[] }).get? s.heap.objs.size = some { cls := .type "list", data := .seq #[] } := Heap.get?_push_size _ rfl
  refine ⟨⟨_, hS, rfl⟩, PySem.F.args_list_init_2 _ _, ?_⟩
  show wpAny _ A.in1.in1 (do let old ← Builtin.List.listItems (.ref s.heap.objs.size); Builtin.List.listUpdate (.ref s.heap.objs.size) (fun _ => #[]); letGo old.toList.reverse; Builtin.List.listExtendWith (.ref s.heap.objs.size) (.ref it) .none) _ _ _
  refine wpAny_bind ?_
  unfold Builtin.List.listItems
  refine wpAny_bind (wpAny_seqItems hS rfl (wpAny_pure ?_))
  show wpAny _ A.in1.in1 (updateSeq s.heap.objs.size (fun _ => #[]) >>= fun _ => letGo (#[] : Array Value).toList.reverse >>= fun _ => Builtin.List.listExtendWith (.ref s.heap.objs.size) (.ref it) .none) _ _ _
  refine wpAny_bind (wpAny_updateSeq hS rfl ?_)
  have hS₂ := Heap.get?_update_self (Obj.mapSeq (fun _ => (#[] : Array Value))) hS rfl
  have oth : ∀ b o, s.heap.get? b = some o → ((s.heap.push { cls := .type "list", data := .seq #[] }).update s.heap.objs.size (Obj.mapSeq (fun _ => (#[] : Array Value)))).get? b = some o :=
    fun b o e => (Heap.get?_update_other _ _ (Nat.ne_of_gt (Heap.lt_size e))).trans (Heap.get?_push_of_some _ e)
  refine wpAny_bind (wpAny_letGo ?_)
  have hit1 : ((s.heap.push { cls := .type "list", data := .seq #[] }).update s.heap.objs.size (Obj.mapSeq (fun _ => (#[] : Array Value)))).IsRevIter it l ((items.size : Int) - 1) := hit.at fun o e => oth _ _ e
  have hl1 : ((s.heap.push { cls := .type "list", data := .seq #[] }).update s.heap.objs.size (Obj.mapSeq (fun _ => (#[] : Array Value)))).IsList l items := hl.at fun o e => oth _ _ e
  have hT : ({ s with heap := (s.heap.push { cls := .type "list", data := .seq #[] }).update s.heap.objs.size (Obj.mapSeq (fun _ => (#[] : Array Value))) } : Shared).TypeIs (.ref it) "list_reverseiterator" :=
    Heap.IsRevIter.typeIs (s := { s with heap := (s.heap.push { cls := .type "list", data := .seq #[] }).update s.heap.objs.size (Obj.mapSeq (fun _ => (#[] : Array Value))) }) hit1
  have h1 : Builtin.List.listSameRef (.ref s.heap.objs.size) (.ref it) = false := by simp [Builtin.List.listSameRef, hSi]
  unfold Builtin.List.listExtendWith
  refine wpAny_bind (wpAny_typeOf hT ?_)
  rw [if_neg (by rw [h1]; decide)]
  refine wpAny_bind (wpAny_pyIter_revIter (s := { s with heap := (s.heap.push { cls := .type "list", data := .seq #[] }).update s.heap.objs.size (Obj.mapSeq (fun _ => (#[] : Array Value))) }) hit1 ?_)
  refine wpAny_bind (wpAny_holding ?_)
  unfold Builtin.List.listLengthHint
  refine wpAny_bind (wpAny_specialOf hT nolen_lri ?_)
  show wpAny _ _ (specialOf (Value.ref it) (Str.ofString "__length_hint__") >>= _) _ _ _
  refine wpAny_bind (wpAny_specialOf hT hint_lri ?_)
  generalize hid : ("list_reverseiterator.__length_hint__" : String) = id0
  wp_delta
  rw [show splitId id0 = some ("list_reverseiterator", "__length_hint__") from by subst hid; decide +kernel]
  subst hid
  refine wpAny_bind (wpAny_isInstance (b := true) hT (by rw [isSubtype_type]; kernel_rfl) ?_)
  refine wpAny_pure ?_
  rw [if_neg (by decide)]
  have e0 : ((items.size : Nat) : Int) - 1 - ((0 : Nat) : Int) = (items.size : Int) - 1 := by omega
  refine wpAny_pure ⟨plainId_quiet F.plain_extend_loop _, codeAny_extend_loopS W hn _ hSf _ items.size 0 _ _ _ rfl (Nat.zero_le _) ⟨Nat.zero_le _, by rw [e0]; exact hit1, hl1⟩ hS₂ (ItemsOf.nil _) fun s' acc' c' hm hS' hacc => ?_⟩
  rw [Moved.eq_with hm]
  refine ⟨rfl, hQ s'.heap s'.toks acc' c' (fun b o hb e => hm.heap b o (fun hmem => ?_) (oth b o e)) hS' hacc⟩
  rcases List.mem_cons.mp hmem with e' | hmem
  · exact absurd (Heap.lt_size e) (by rw [e']; exact Nat.lt_irrefl _)
  · exact hb (List.mem_singleton.mp hmem)
end
def tListRev (K : PySem.W.Frag) (te : TE) : TE := fun σ H Q => te σ H fun v H1 => ∃ (a : Addr) (xs : List V), v = .ref a ∧ SqL K H1 a xs ∧ ∀ q, H1 q = none → Q (.ref q) (upd H1 q (.lst xs.reverse))
section
variable {X : Cx}
theorem pe_listRev {e : Expr} {te : TE} {p p2 pos pos2 : Pos} (hc : X.calm = true) (hg : Gl X "list") (hm : X.mg "list" = none) (hg2 : Gl X "reversed") (hm2 : X.mg "reversed" = none) (he : PE X e te)
    (hs : starEach [e] X.env = (false, eval e X.env) :: starEach [] X.env := by rfl)
    (hs2 : starEach [.Call (.Name "reversed" p2) [e] [] pos2] X.env = (false, eval (.Call (.Name "reversed" p2) [e] [] pos2) X.env) :: starEach [] X.env := by rfl) :
    PE X (.Call (.Name "list" p) [.Call (.Name "reversed" p2) [e] [] pos2] [] pos) (tListRev X.K te) := by
  refine ⟨fun pins s σ H Q I h => ?_⟩
  refine Call_ (ld_blt I hg hm boot_list (PyProof.Rows.callWith_type1 (args_cons (Call_ (ld_blt I hg2 hm2 PyProof.Rows.boot_reversed (PyProof.Rows.callWith_type1 (args_cons (thn (he.run pins s σ H _ I h) fun u s1 ⟨v, H1, I1, r1, q1⟩ => args_nil ?_) hs) hs rfl))) hs2) hs2 rfl))
  obtain ⟨a, xs, ev, hq, q⟩ := q1
  subst ev
  obtain rfl : u = Value.ref a := r1
  obtain ⟨its, rv, p', hz⟩ := I1.list hq
  refine call_reversed_list p'.isList (args_nil ?_)
  have hl := p'.isList
  obtain ⟨ol, hol, _⟩ := id hl
  have hne : a ≠ s1.heap.objs.size := Nat.ne_of_lt (Heap.lt_size hol)
  have hn : its.toArray.size ≤ sizeLine := by rw [List.size_toArray, ← rv.length]; exact hz
  refine call_list_rev (s := { s1 with heap := s1.heap.push (revObj a ((its.toArray.size : Int) - 1)) }) (I1.ok.hd hc) ⟨_, Heap.get?_push_size _ rfl, rfl, rfl⟩ (hl.push _) hne hn fun h' tk acc c' hk hS hi => ?_
  have k1 : ∀ b u, s1.heap.get? b = some u → h'.get? b = some u := fun b u e => hk b u (Nat.ne_of_lt (Heap.lt_size e)) (Heap.get?_push_of_some _ e)
  have hle : s1.heap.objs.size ≤ (s1.heap.push (revObj a ((its.toArray.size : Int) - 1))).objs.size := by
    show s1.heap.objs.size ≤ (s1.heap.objs.push _).size
    rw [Array.size_push]; omega
  refine ⟨.ref _, upd H1 _ (.lst xs.reverse), I1.laid (t' := tk) k1 hle (show ObjOk X.prog X.w _ _ _ (.lst xs.reverse) from ⟨by rw [List.length_reverse]; exact hz, acc.toList, c', vals_rev rv hi, ?_⟩), rfl, q _ (I1.hok.fresh hle)⟩
  rw [Array.toArray_toList]
  exact hS
end
section
variable {X : Cx} {σ : L2.St} {G H : Hp} {a b c e o : Expr} {pos p p0 p1 p2 : Pos} {ds es : List D} {n : Int}
/-- list + list -/
def rCatS (K : PySem.W.Frag) : R2 := fun x y H Q => ∃ l b xs zs, x = .ref l ∧ y = .ref b ∧ SqL K H l xs ∧ SqL K H b zs ∧ xs.length + zs.length ≤ sizeLine ∧ ∀ p, H p = none → Q (.ref p) (upd H p (.lst (xs ++ zs)))
theorem op_catS : OpR X (binaryOp .Add) (rCatS X.K) := by
  intro pins s σ H x y v u Q I rx ry h
  obtain ⟨l, b, xs, zs, rfl, rfl, hl, hb, hz, q⟩ := h
  cases rx
  cases ry
  obtain ⟨its, r1, p1, _⟩ := I.list hl
  obtain ⟨its2, r2, p2, _⟩ := I.list hb
  obtain ⟨⟨cls, dd, data, sl⟩, ho, hc, n, hd⟩ := p1.isList
  obtain ⟨⟨cls2, dd2, data2, sl2⟩, ho2, hc2, n2, hd2⟩ := p2.isList
  simp only at hc hd hc2 hd2
  subst hc hd hc2 hd2
  have e : its.toArray ++ its2.toArray = (its ++ its2).toArray := by simp
  refine concat_meets ⟨_, ho, rfl⟩ ⟨_, ho2, rfl⟩ noFill_list_add seq_list_add PySem.F.slot_list_add PySem.F.entry_list_add (PySem.F.args_list_add_2 _ _) (list_addW l b its.toArray its2.toArray n n2 dd dd2 sl sl2 (by rw [List.size_toArray, List.size_toArray, ← r1.length, ← r2.length]; exact hz)) ⟨ho, ho2, ?_⟩
  rw [e]
  exact ⟨.ref _, _, I.lnew (t' := s.toks) (r1.append r2) (by rw [List.length_append]; omega), rfl, q _ I.fresh⟩
theorem e_catL (ha : E X a σ G (.list ds)) (hb : E X b σ G (.list es)) (hz : ds.length + es.length ≤ 90000) : E X (.BinOp a .Add b pos) σ G (.list (ds ++ es)) :=
  e_op op_catS ha hb fun u v G1 H1 _ gh hu hv Q k => by
    obtain ⟨l, xs, rfl, hl, hx⟩ := Dp.lst_inv hu
    obtain ⟨m, ys, rfl, hm, hy⟩ := Dp.lst_inv hv
    refine ⟨l, m, xs, ys, rfl, rfl, Evl.ex_l gh hl, Evl.ex_l gh hm, by rw [DpAll.len hx, DpAll.len hy]; exact Evl.sz_of (by omega), fun r hr => k _ _ _ (Nx.new gh hr) (.lst (Evl.sq_of upd_same) ?_)⟩
    exact DpAll.append (DpAll.mono (Evl.Ex.new (Evl.fresh_back gh hr)) hx) (DpAll.mono (Evl.Ex.new (Evl.fresh_back gh hr)) hy)
theorem dp_rep {K : PySem.W.Frag} {H : Hp} {vs : List V} {ds : List D} (h : DpAll K H vs ds) : ∀ n : Nat, DpAll K H (List.replicate n vs).flatten (List.replicate n ds).flatten
  | 0 => .nil
  | n + 1 => by
    rw [List.replicate_succ, List.replicate_succ, List.flatten_cons, List.flatten_cons]
    exact DpAll.append h (dp_rep h n)
/-- [..] * n -/
theorem e_repL {ns : List Expr} (ha : A X ns σ G ds) (hb : E X b σ G (.int n)) (hn : n ≤ 1000) (hn0 : 0 ≤ n) (hd : ds.length ≤ 10) : E X (.BinOp (.List ns p) .Mult b pos) σ G (.list (List.replicate n.toNat ds).flatten) := fun G1 H1 g gh Q q =>
  ⟨_, pe_op op_rep (pe_lst pa_w) pe_w, ha G1 H1 g gh _ fun vs G2 H2 n2 hv => ⟨by rw [DpAll.len hv]; exact Evl.sz_of (by omega), fun r hr => by
    have nn := Nx.new (o := .lst vs) n2.gh hr
    refine hb _ _ ((g.trans n2.g).trans nn.g) nn.gh _ fun v G3 H3 n3 hw => ⟨r, n, vs, rfl, Dp.int_inv hw, n3.h _ _ upd_same, by omega, by omega, ?_, fun t ht => ?_⟩
    · rw [DpAll.len hv]
      have : ds.length * n.toNat ≤ 10 * 1000 := Nat.mul_le_mul hd (by omega)
      exact Evl.sz_of (by omega)
    · refine q _ _ _ (((n2.trans nn).trans n3).trans (Nx.new n3.gh ht)) (.lst (Evl.sq_of upd_same) ?_)
      exact DpAll.mono (Evl.Ex.new (Evl.fresh_back n3.gh ht)) (dp_rep (DpAll.mono n3.g (DpAll.mono nn.g hv)) _)⟩⟩
end
end DL

/-! D6: written texts by their codes. -/
namespace DL
open PySem PySem.Spec PyProof.Rows L2 SX
section
variable {X : Cx} {σ : L2.St} {G H : Hp} {a b c e o : Expr} {pos p p0 p1 p2 : Pos} {ds es : List D} {n n2 : Nat}
theorem e_strC {s : Str} (l : List Nat) (h : s = S l := by decide +kernel) : E X (.Constant (.str s) n pos) σ G (.str (S l)) := e_is e_str (by rw [h])
theorem e_strN {i : Int} (hm : X.mg "str" = Option.none) (ha : E X a σ G (.int i)) (hz : i.natAbs < 2 ^ 1000) (hg : Gl X "str" := by rfl) (he : starEach [a] X.env = (false, eval a X.env) :: starEach [] X.env := by rfl) (hpl : (backTo pos (starEach [] X.env)).any (·.1) = false := by rfl) :
    E X (.Call (.Name "str" p) [a] [] pos) σ G (.str (S (digI i))) := e_is (e_strI hm ha (log_small hz) hg he hpl) (by rw [str_int])
theorem e_f3' {sm : Str} {l m k : List Nat} {j : Nat} {q1 q2 q3 : Pos} (ha : E X a σ G (.str (S l))) (hb : E X b σ G (.str (S k))) (hz : l.length + m.length + k.length ≤ 1000000) (hm : sm = S m := by decide +kernel) :
    E X (.JoinedStr [.FormattedValue a (-1) none q1, .Constant (.str sm) j q2, .FormattedValue b (-1) none q3] pos) σ G (.str (S (l ++ m ++ k))) := by
  subst hm; exact e_f3 ha hb hz
theorem e_nothing' {s0 s1 s2 s3 : Str} {l m : List Nat} {c : Nat} {apos pos c0 c1 pc pc2 : Pos} {j0 j1 : Nat} (ha : E X a σ G (.str (S l))) (ho : E X o σ G (.str (S m))) (hz : m.length ≤ 100000) (hyz : ((S [c] : Str) == (S [] : Str)) = false := by decide)
    (h0 : s0 = S [c] := by decide +kernel) (h1 : s1 = S [c] := by decide +kernel) (h2 : s2 = S [] := by decide +kernel) (h3 : s3 = S [] := by decide +kernel)
    (hst : starEach [.Constant (.str s1) j0 c0, .Constant (.str s2) j1 c1] X.env = [(false, eval (.Constant (.str s1) j0 c0) X.env), (false, eval (.Constant (.str s2) j1 c1) X.env)] := by rfl)
    (hbase : attributeBase o "replace" X.env (eval o X.env) = eval o X.env := by rfl) (hline : (apos.endLine == pos.line) = true := by rfl) :
    E X (.BoolOp .And [.Compare a [.Eq] [.Constant (.str s0) n pc] p1, .Compare (.Call (.Attribute o "replace" apos) [.Constant (.str s1) j0 c0, .Constant (.str s2) j1 c1] [] pos) [.Eq] [.Constant (.str s3) n2 pc2] p2] p0) σ G (.bool (decide (l = [c]) && decide (m.filter (· != c) = []))) := by
  subst h0 h1 h2 h3
  exact e_nothing ha ho hz hyz hst hbase hline
end
theorem joinL0 : ∀ ys : List (List Nat), TL.joinL [] ys = ys.flatten
  | [] => rfl
  | [p] => by show p = [p].flatten; simp
  | p :: q :: r => by
    show p ++ ([] ++ TL.joinL [] (q :: r)) = (p :: q :: r).flatten
    rw [joinL0 (q :: r), List.nil_append]; rfl
theorem sum_len (ys : List (List Nat)) (k : Nat) (h : ∀ y ∈ ys, y.length = k) : (ys.map (·.length)).sum = k * ys.length := by
  induction ys with
  | nil => simp
  | cons y ys ih =>
    rw [List.map_cons, List.sum_cons, ih (fun z hz => h z (List.mem_cons_of_mem _ hz)), h y (List.mem_cons_self ..), List.length_cons, Nat.mul_succ]; omega
end DL

/-! K6: numbers as texts. -/
namespace K00
open PySem PySem.Spec PyProof.Rows L2 DL SX
section
variable {P : Program} {w : World} {K : PySem.W.Frag} {mg : Str → Option Value} {base : Heap}
theorem dig_big {N left r k : Nat} (h : N = left * 10 ^ k + r) (h0 : 0 < left) (hN : N < 2 ^ 90000) : k < 30000 := by
  refine Nat.lt_of_not_le fun q => ?_
  have h1 : 10 ^ k ≤ N := by
    rw [h]
    exact Nat.le_trans (Nat.le_mul_of_pos_left _ h0) (Nat.le_add_right _ _)
  have h2 : (2 ^ 3) ^ k ≤ 10 ^ k := Nat.pow_le_pow_left (by decide) k
  rw [← Nat.pow_mul] at h2
  have h3 : 2 ^ 90000 ≤ 2 ^ (3 * k) := pow_le (by omega)
  omega
/-- figures of what is left, and the parts behind -/
def FigInv (N left : Nat) (fs : List (List Nat)) : Prop := (∀ y ∈ fs, y.length = 18) ∧ (0 < left ∨ fs = []) ∧ ∃ r, r < 10 ^ (18 * fs.length) ∧ N = left * 10 ^ (18 * fs.length) + r ∧ fs.reverse.flatten = pad (18 * fs.length) r
theorem fig_start (N : Nat) : FigInv N N [] := ⟨fun _ h => (List.not_mem_nil h).elim, .inr rfl, 0, Nat.one_pos, by simp, rfl⟩
theorem fig_step {N left : Nat} {fs : List (List Nat)} (h : FigInv N left fs) (hl : 10 ^ 18 ≤ left) : FigInv N (left / 10 ^ 18) (fs ++ [pad 18 (left % 10 ^ 18)]) := by
  obtain ⟨h1, _, r, h2, h3, h4⟩ := h
  have e0 : 18 * (fs ++ [pad 18 (left % 10 ^ 18)]).length = 18 + 18 * fs.length := by rw [List.length_append]; simp; omega
  have hp : left % 10 ^ 18 < 10 ^ 18 := Nat.mod_lt _ (by decide)
  refine ⟨fun y hy => ?_, .inl (Nat.div_pos hl (by decide)), left % 10 ^ 18 * 10 ^ (18 * fs.length) + r, ?_, ?_, ?_⟩
  · rcases List.mem_append.mp hy with q | q
    · exact h1 y q
    · rw [List.mem_singleton.mp q, pad_len]
  · rw [e0, Nat.pow_add]
    have : left % 10 ^ 18 * 10 ^ (18 * fs.length) + r < (left % 10 ^ 18 + 1) * 10 ^ (18 * fs.length) := by rw [Nat.add_mul]; omega
    exact Nat.lt_of_lt_of_le this (Nat.mul_le_mul_right _ hp)
  · rw [e0, Nat.pow_add, ← Nat.mul_assoc, ← Nat.add_assoc, ← Nat.add_mul, Nat.div_add_mod']
    exact h3
  · rw [e0, List.reverse_append, List.flatten_append, h4, pad_split 18 _ h2]
    simp
theorem fig_end {N left : Nat} {fs : List (List Nat)} (h : FigInv N left fs) : dig left ++ fs.reverse.flatten = dig N := by
  obtain ⟨_, h0, r, h2, h3, h4⟩ := h
  rcases h0 with h0 | h0
  · rw [h4, h3, dig_split h0 h2]
  · subst h0
    simp at h2 h3
    subst h2 h3
    simp
theorem fig_part (n : Nat) : List.replicate (18 - (dig (n % 10 ^ 18)).length) 48 ++ dig (n % 10 ^ 18) = pad 18 (n % 10 ^ 18) := (pad_dig (by decide) (Nat.mod_lt _ (by decide))).symm
theorem rep_one (n c : Nat) : (List.replicate n [c]).flatten = List.replicate n c := by
  induction n with
  | zero => rfl
  | succ n ih => rw [List.replicate_succ, List.flatten_cons, ih]; rfl
theorem digI_nat (n : Nat) : digI (n : Int) = dig n := by
  unfold digI
  rw [if_neg (by omega), Int.natAbs_natCast]
theorem digI_sign (n : Int) : List.replicate (if decide (n < 0) = true then (1 : Int) else 0).toNat 45 ++ dig n.natAbs = digI n := by
  unfold digI
  by_cases h : n < 0
  · rw [if_pos (decide_eq_true h), if_pos h]; rfl
  · rw [if_neg (by simpa using h), if_neg h]; rfl
theorem dig_len20 {n : Nat} (h : n < 10 ^ 18) : (dig n).length ≤ 18 := (dig_len_le (by decide)).mpr h
theorem dig_len_gen {n k : Nat} (h : n < 2 ^ (3 * k)) (hk : 0 < k) : (dig n).length ≤ k := by
  refine (dig_len_le hk).mpr (Nat.lt_of_lt_of_le h ?_)
  rw [Nat.pow_mul]
  exact Nat.pow_le_pow_left (by decide) k
theorem digI_len_gen {n : Int} {k : Nat} (h : n.natAbs < 2 ^ (3 * k)) (hk : 0 < k) : (digI n).length ≤ k + 1 := by
  have := dig_len_gen h hk
  unfold digI
  split
  · rw [List.length_cons]; omega
  · omega
def R_figures : List D → D → Prop := fun ds d => ∃ n : Int, ds = [.int n] ∧ n.natAbs < 2 ^ 90000 ∧ d = .str (S (digI n))
theorem ok_figures_of (T : Txt K mg) : PFn P w K mg base 1 "figures_of" R_figures :=
  pfn_of T.h_figures_of sc_figures_of (fun ds d ⟨n, e, _⟩ => by rw [e]; rfl) fun cdv A outer s f H Q _ hr ds d G vs ⟨n, e, hn, ed⟩ g hv q => by
    subst e ed
    obtain ⟨u, rfl, hu⟩ := all1 hv
    cases hu
    refine s_parL 1 2 rfl sc_figures_of.nd (e_abs T.b_abs (e_var 0 (.int _))) g fun l v G1 H1 L hv => ?_
    cases hv
    refine s_while .never (fun m σ H' => ∃ (left : Nat) (fs : List (List Nat)) (vs : List V) (o : Option V) (G' : Hp), m = left ∧ FigInv n.natAbs left fs ∧ σ = [some (.int n), some (.ref l), some (.int left), o] ∧ Lcl G H l G' H' vs ∧ DpAll K G' vs (fs.map fun y => .str (S y))) n.natAbs ⟨n.natAbs, [], [], Option.none, G1, rfl, fig_start _, rfl, L, .nil⟩ ?_
    rintro left σ H2 ⟨_, fs, vs, o, G2, rfl, I, rfl, L2, dv⟩
    have i0 := I.2.1
    obtain ⟨r, i1, i2, i3⟩ := I.2.2
    have lfs : 18 * fs.length < 30000 := by
      rcases i0 with h | h
      · exact dig_big i2 h hn
      · rw [h]; decide
    refine ⟨decide (10 ^ 18 ≤ left), G2, L2.gh, t_is (t_ge (e_var 2 (.int _)) (e_globI' T.c_LONG)) (by
      by_cases hc : 10 ^ 18 ≤ left
      · rw [decide_eq_true hc]; exact decide_eq_true (by omega)
      · rw [decide_eq_false hc]; exact decide_eq_false (by omega)), fun hk G3 H3 n3 => ?_, fun hk G3 H3 n3 => ?_⟩
    · have hl : 10 ^ 18 ≤ left := of_decide_eq_true hk
      refine ⟨fun σ2 H2 => ∃ (left' : Nat) (fs : List (List Nat)) (vs : List V) (o : Option V) (G' : Hp), left' < left ∧ FigInv n.natAbs left' fs ∧ σ2 = [some (.int n), some (.ref l), some (.int left'), o] ∧ Lcl G H l G' H2 vs ∧ DpAll K G' vs (fs.map fun y => .str (S y)), fun σ2 H2 ⟨x, fs, vs, o, G1, h, h2⟩ => ⟨x, h, x, fs, vs, o, G1, rfl, h2⟩, ?_⟩
      have L3 := L2.step n3
      have dv3 := DpAll.mono n3.g dv
      refine s_set 3 (d := .str (S (dig (left % 10 ^ 18)))) (e_is (e_strN T.b_str (e_mod (e_var 2 (.int _)) (e_globI' T.c_LONG) (by decide)) ?_) ?_) L3.gh sc_figures_of.nd fun v4 G4 H4 n4 h4 => ?_
      · have : ((left : Int) % 1000000000000000000).natAbs < 2 ^ 60 := by omega
        exact lt_pow this (by decide)
      · rw [show ((left : Int) % 1000000000000000000) = ((left % 10 ^ 18 : Nat) : Int) by omega, digI_nat]
      cases h4
      have L4 := L3.step n4
      have dv4 := DpAll.mono n4.g dv3
      have len18 := dig_len20 (Nat.mod_lt left (show 0 < 10 ^ 18 by decide))
      refine s_app 1 (d := .str (S (pad 18 (left % 10 ^ 18)))) L4 rfl (e_is (e_catS (e_mulS (e_strC [48]) (e_sub (e_globI' T.c_LONG_FIGURES) (e_lenL T.b_len (e_var 3 (.str _)) (by omega))) (by decide) (by omega) (by omega)) (e_var 3 (.str _)) ?_) ?_) (by rw [DpAll.len dv4, List.length_map]; omega) fun v5 G5 H5 n5 L5 h5 => ?_
      · rw [rep_one, List.length_replicate]; omega
      · rw [rep_one, show (18 - ((dig (left % 10 ^ 18)).length : Int)).toNat = 18 - (dig (left % 10 ^ 18)).length by omega, fig_part]
      refine s_idiv 2 rfl (e_globI' T.c_LONG) L5.gh (divOK (b := 60) (by decide) (by decide) (by decide)) sc_figures_of.nd fun G6 H6 n6 => s_nil ?_
      refine ⟨left / 10 ^ 18, fs ++ [pad 18 (left % 10 ^ 18)], _, some (.str (S (dig (left % 10 ^ 18)))), G6, Nat.div_lt_self (by omega) (by decide), fig_step I hl, ?_, L5.step n6, ?_⟩
      · show [some (V.int n), some (.ref l), some (.int ((left : Int) / 1000000000000000000)), _] = _
        rw [show ((left : Int) / 1000000000000000000) = ((left / 10 ^ 18 : Nat) : Int) by omega]
      · rw [List.map_append]
        exact DpAll.append (DpAll.mono n6.g (DpAll.mono n5 dv4)) (.cons (Dp.mono n6.g h5) .nil)
    · have hl : left < 10 ^ 18 := by have := of_decide_eq_false hk; omega
      have L3 := L2.step n3
      have dv3 := DpAll.mono n3.g dv
      have nd := L3.done
      have hli : Dp K (upd G3 l (.lst vs)) (.ref l) (.list (fs.map fun y => .str (S y))) := .lst (Evl.sq_of upd_same) (DpAll.mono (Evl.Ex.new L3.gl) dv3)
      have len18 := dig_len20 hl
      refine s_ret (d := .str (S (digI n))) (e_is (e_catS (e_catS (e_mulS (e_strC [45]) (e_intB T.b_int (e_lt (e_var 0 (.int _)) e_int)) (by decide) (by split <;> decide) (by split <;> decide)) (e_strN T.b_str (e_var 2 (.int left)) ?_) ?_)
        (e_join (ys := fs.reverse) (e_strC []) (e_is (e_revL (e_var 1 hli) (by rw [List.length_map]; omega)) ?_) ?_) ?_) ?_) nd.gh fun v7 G7 H7 n7 h7 => q v7 G7 H7 (nd.trans n7) h7
      · exact lt_pow (b := 1000) (a := 60) (by rw [Int.natAbs_natCast]; omega) (by decide)
      · rw [rep_one, List.length_replicate, digI_nat]; split <;> simp <;> omega
      · rw [List.map_reverse]
      · rw [sum_len _ 18 (fun y hy => I.1 y (List.mem_reverse.mp hy)), List.length_reverse]; simp; omega
      · rw [List.length_append, rep_one, List.length_replicate, digI_nat, joinL0, i3.trans rfl, pad_len]; split <;> simp <;> omega
      · rw [rep_one, digI_nat, joinL0, List.append_assoc, fig_end I, digI_sign]

/-! ### ratios as texts -/
def showT (a : Rat) : List Nat := if a.den = 1 then digI a.num else digI a.num ++ [47] ++ dig a.den
theorem digI_len {n : Int} (h : n.natAbs < 2 ^ 30000) : (digI n).length ≤ 10001 := digI_len_gen (k := 10000) h (by decide)
theorem dig_len {n : Nat} (h : n < 2 ^ 30000) : (dig n).length ≤ 10000 := dig_len_gen (k := 10000) h (by decide)
def R_shown : List D → Except Str D → Prop := fun ds r => ∃ x, ds = [x] ∧ SzD 3000 x ∧ r = if isRatio x then .ok (.str (S (showT (qOf x)))) else .error "NotRight"
theorem decN (a b : Nat) : decide ((a : Int) = (b : Int)) = decide (a = b) := by
  by_cases h : a = b
  · rw [decide_eq_true h]; exact decide_eq_true (by omega)
  · rw [decide_eq_false h]; exact decide_eq_false (by omega)
theorem ok_shown_ratio (T : Txt K mg) : XFn P w K mg base 5 "shown_ratio" R_shown :=
  xfn_of T.h_shown_ratio sc_shown_ratio (fun ds d ⟨a, e, _⟩ => by rw [e]; rfl) fun cdv A outer s f H Q _ hr ds r G vs ⟨x, e, zx, er⟩ g hv q1 q2 => by
    subst e
    obtain ⟨u, rfl, hu⟩ := all1 hv
    refine s_chk1 T (hr.mono (by decide)) (L2N.takes_of rfl rfl rfl rfl) (e_var 0 hu) g (fun h1 G1 H1 n1 => ?_) fun h c hc G1 H1 n1 => q2 "NotRight" c (by rw [er, h]; rfl) hc G1 H1 n1
    have hu1 := Dp.mono n1.g hu
    rw [rd_qOf h1] at hu1
    have z := zx h1
    have z1 : (qOf x).num.natAbs < 2 ^ 90000 := lt_pow z.1 (by decide)
    have z2 : (((qOf x).den : Nat) : Int).natAbs < 2 ^ 90000 := by rw [Int.natAbs_natCast]; exact lt_pow z.2 (by decide)
    have l1 := digI_len (lt_pow z.1 (show 3000 ≤ 30000 by decide))
    have l2 := dig_len (lt_pow z.2 (show 3000 ≤ 30000 by decide))
    refine s_ret (d := .str (S (showT (qOf x)))) (e_if (t_is (t_eqI (e_ixT (e_var 0 hu1) e_int rfl) e_int) (decN _ 1)) (fun hk => ?_) fun hk => ?_) n1.gh fun v2 G2 H2 n2 h2 => q1 _ (by rw [er, h1]; rfl) v2 G2 H2 (n1.trans n2) h2
    · refine e_is (e_call (ok_figures_of T) (hr.mono (by decide)) (a_cons (e_ixT (e_var 0 hu1) e_int rfl) a_nil) ⟨_, rfl, z1, rfl⟩) ?_
      unfold showT
      rw [if_pos (of_decide_eq_true hk)]
    · refine e_is (e_catS (e_catS (e_call (ok_figures_of T) (hr.mono (by decide)) (a_cons (e_ixT (e_var 0 hu1) e_int rfl) a_nil) ⟨_, rfl, z1, rfl⟩) (e_strC [47]) ?_) (e_call (ok_figures_of T) (hr.mono (by decide)) (a_cons (e_ixT (e_var 0 hu1) e_int rfl) a_nil) ⟨_, rfl, z2, rfl⟩) ?_) ?_
      · simp; omega
      · rw [digI_nat]; simp; omega
      · unfold showT
        rw [if_neg (of_decide_eq_false hk), digI_nat]

/-! ### decimals -/
def decW (a : Rat) (k : Nat) : Nat := a.num.natAbs * 10 ^ k / a.den
def decF (a : Rat) (k : Nat) : List Nat := List.replicate (k + 1 - (dig (decW a k)).length) 48 ++ dig (decW a k)
def decT (a : Rat) (k : Nat) : List Nat :=
  (if a.num < 0 ∧ 0 < decW a k then [45] else []) ++ (if k = 0 then decF a k else (decF a k).take ((decF a k).length - k) ++ [46] ++ (decF a k).drop ((decF a k).length - k))
theorem decF_len (a : Rat) (k : Nat) : k + 1 ≤ (decF a k).length := by
  unfold decF; rw [List.length_append, List.length_replicate]; omega
theorem decW_lt {a : Rat} {k : Nat} (z : Sz 3000 a) (hk : k ≤ 400) : decW a k < 2 ^ 4600 := by
  refine Nat.lt_of_le_of_lt (Nat.div_le_self _ _) ?_
  have h1 : (10 : Nat) ^ k ≤ 2 ^ 1600 := Nat.le_trans (Nat.pow_le_pow_left (show 10 ≤ 2 ^ 4 by decide) k) (by rw [← Nat.pow_mul]; exact pow_le (by omega))
  have h2 : a.num.natAbs * 10 ^ k < 2 ^ 3000 * 2 ^ 1600 := Nat.lt_of_lt_of_le (Nat.mul_lt_mul_of_pos_right z.1 (Nat.pow_pos (by decide))) (Nat.mul_le_mul_left _ h1)
  rwa [← Nat.pow_add] at h2
theorem decF_le {a : Rat} {k : Nat} (z : Sz 3000 a) (hk : k ≤ 400) : (decF a k).length ≤ 10401 := by
  have := dig_len (lt_pow (decW_lt z hk) (show 4600 ≤ 30000 by decide))
  unfold decF; rw [List.length_append, List.length_replicate]; omega
def R_decimal_by : List D → D → Prop := fun ds d => ∃ (a : Rat) (k : Nat), ds = [rd a, .int k] ∧ k ≤ 400 ∧ Sz 3000 a ∧ d = .str (S (decT a k))
theorem ok_decimal_by (T : Txt K mg) : PFn P w K mg base 2 "decimal_by" R_decimal_by :=
  pfn_of T.h_decimal_by sc_decimal_by (fun ds d ⟨a, n, e, _⟩ => by rw [e]; rfl) fun cdv A outer s f H Q _ hr ds d G vs ⟨a, k, e, hk, za, ed⟩ g hv q => by
    subst e ed
    obtain ⟨u, x, rfl, hu, hx⟩ := all2 hv
    have wl := decW_lt za hk
    have fl := decF_le za hk
    have fk := decF_len a k
    have tl := dig_len (lt_pow wl (show 4600 ≤ 30000 by decide))
    have za1 : (a.num.natAbs : Int).natAbs < 2 ^ 3000 := by rw [Int.natAbs_natCast]; exact za.1
    have z10 : ((10 : Int) ^ k).natAbs < 2 ^ 1601 := by
      rw [Int.natAbs_pow]
      refine Nat.lt_of_le_of_lt (Nat.pow_le_pow_left (show (10 : Int).natAbs ≤ 2 ^ 4 by decide) k) ?_
      rw [← Nat.pow_mul]
      exact Nat.pow_lt_pow_right (by decide) (by omega)
    refine s_set 2 (d := .int (decW a k : Nat)) (e_is (e_div (e_mul (e_abs T.b_abs (e_ixT (e_var 0 hu) e_int rfl)) (e_call (ok_raised T) (hr.mono (by decide)) (a_cons e_int (a_cons (e_var 1 hx) a_nil)) ⟨10, k, 4, rfl, by decide, by decide, by omega, rfl⟩) (mulOK za1 z10 (by decide))) (e_ixT (e_var 0 hu) e_int rfl) (divOK (den_pos' a) (natI za.2) (by decide))) ?_) g sc_decimal_by.nd fun v2 G2 H2 n2 h2 => ?_
    · unfold decW
      push_cast
      rfl
    cases h2
    refine s_set 3 (e_is (e_call (ok_figures_of T) hr (a_cons (e_var 2 (.int _)) a_nil) ⟨_, rfl, by rw [Int.natAbs_natCast]; exact lt_pow wl (by decide), rfl⟩) (by rw [digI_nat])) n2.gh sc_decimal_by.nd fun v3 G3 H3 n3 h3 => ?_
    cases h3
    have hx3 := Dp.mono n3.g (Dp.mono n2.g hx)
    refine s_set 4 (d := .str (S (decF a k))) (e_is (e_catS (e_mulS (e_strC [48]) (e_max2 rfl T.b_max e_int (e_sub (e_add (e_var 1 hx3) e_int) (e_lenL T.b_len (e_var 3 (.str _)) (by omega)))) (by decide) (by omega) (by omega)) (e_var 3 (.str _)) ?_) ?_) n3.gh sc_decimal_by.nd fun v4 G4 H4 n4 h4 => ?_
    · rw [rep_one, List.length_replicate]; omega
    · rw [rep_one, show (max (0 : Int) ((k : Int) + 1 - ((dig (decW a k)).length : Int))).toNat = k + 1 - (dig (decW a k)).length by omega]; rfl
    cases h4
    have hu4 := Dp.mono n4.g (Dp.mono n3.g (Dp.mono n2.g hu))
    refine s_set 5 (d := .str (S (if a.num < 0 ∧ 0 < decW a k then [45] else []))) (e_if (t_and (t_lt (e_ixT (e_var 0 hu4) e_int rfl) e_int) fun _ => t_gt (e_var 2 (.int _)) e_int) (fun h => ?_) fun h => ?_) n4.gh sc_decimal_by.nd fun v5 G5 H5 n5 h5 => ?_
    · have h : a.num < 0 ∧ 0 < decW a k := by simpa using h
      rw [if_pos h]; exact e_strC [45]
    · have h : ¬(a.num < 0 ∧ 0 < decW a k) := by simpa using h
      rw [if_neg h]; exact e_strC []
    cases h5
    have hx5 := Dp.mono n5.g (Dp.mono n4.g hx3)
    have sl : (if a.num < 0 ∧ 0 < decW a k then [45] else []).length ≤ 1 := by split <;> decide
    refine s_ret (d := .str (S (decT a k))) (e_is (e_catS (m := if k = 0 then decF a k else (decF a k).take ((decF a k).length - k) ++ [46] ++ (decF a k).drop ((decF a k).length - k)) (e_var 5 (.str _)) (e_if (t_is (t_eqI (e_var 1 hx5) e_int) (decN k 0)) (fun h => ?_) fun h => ?_) ?_) rfl) n5.gh fun v6 G6 H6 n6 h6 => q v6 G6 H6 ((((n2.trans n3).trans n4).trans n5).trans n6) h6
    · rw [if_pos (of_decide_eq_true h)]; exact e_var 4 (.str _)
    · have h := of_decide_eq_false h
      rw [if_neg h]
      refine e_f3' (e_is (e_slHi (e_var 4 (.str _)) (e_neg (e_var 1 hx5)) (by omega)) (by rw [cut_hi (by omega) (by omega)])) (e_is (e_slLo (e_var 4 (.str _)) (e_neg (e_var 1 hx5)) (by omega)) (by rw [cut_lo (by omega) (by omega)])) (by simp; omega)
    · have bl : (if k = 0 then decF a k else (decF a k).take ((decF a k).length - k) ++ [46] ++ (decF a k).drop ((decF a k).length - k)).length ≤ 10402 := by
        by_cases h : k = 0
        · rw [if_pos h]; omega
        · rw [if_neg h, List.length_append, List.length_append, List.length_take, List.length_drop, List.length_singleton]; omega
      exact Nat.le_trans (Nat.add_le_add sl bl) (by decide)
def R_decimal_of : List D → Except Str D → Prop := fun ds r => ∃ x y : D, ds = [x, y] ∧ SzD 3000 x ∧ r = if isRatio x && within 0 400 y then .ok (.str (S (decT (qOf x) (intOf y).toNat))) else .error "NotRight"
theorem ok_decimal_of (T : Txt K mg) : XFn P w K mg base 5 "decimal_of" R_decimal_of :=
  xfn_of T.h_decimal_of sc_decimal_of (fun ds d ⟨a, b, e, _⟩ => by rw [e]; rfl) fun cdv A outer s f H Q _ hr ds r G vs ⟨x, y, e, zx, er⟩ g hv q1 q2 => by
    subst e
    obtain ⟨u, v, rfl, hu, hw⟩ := all2 hv
    refine s_chk1 T (hr.mono (by decide)) (L2N.takes_of rfl rfl rfl rfl) (e_var 0 hu) g (fun h1 G1 H1 n1 => ?_) fun h c hc G1 H1 n1 => q2 "NotRight" c (by rw [er, h]; rfl) hc G1 H1 n1
    refine s_chk (k := within 0 400 y) T (hr.mono (by decide)) (L2N.takes_of rfl rfl rfl rfl) (e_call (ok_is_within T) (hr.mono (by decide)) (a_cons (e_var 1 (Dp.mono n1.g hw)) (a_cons e_int (a_cons (e_globI' T.c_MOST_FIGURES) a_nil))) ⟨y, _, _, rfl, rfl⟩) n1.gh (fun h2 G2 H2 n2 => ?_) fun h c hc G2 H2 n2 => q2 "NotRight" c (by rw [er, h, h1]; rfl) hc G2 H2 (n1.trans n2)
    obtain ⟨k, rfl, hl, hh⟩ := within_of h2
    have hu2 := Dp.mono n2.g (Dp.mono n1.g hu)
    have hw2 := Dp.mono n2.g (Dp.mono n1.g hw)
    rw [rd_qOf h1] at hu2
    rw [show (PyData.int k) = .int ((k.toNat : Nat) : Int) by rw [Int.toNat_of_nonneg hl]] at hw2
    exact s_ret (e_call (ok_decimal_by T) (hr.mono (by decide)) (a_cons (e_var 0 hu2) (a_cons (e_var 1 hw2) a_nil)) ⟨qOf x, k.toNat, rfl, by omega, zx h1, rfl⟩) n2.gh fun v2 G3 H3 n3 h3 => q1 _ (by rw [er, h1, h2]; rfl) v2 G3 H3 ((n1.trans n2).trans n3) h3
end
end K00

/-! K7: the law's arithmetic. -/
namespace DL
open PySem PySem.Spec PyProof.Rows L2
section
variable {X : Cx} {σ : L2.St} {H : Hp} {rest : List Stmt} {Z : Ends} {pos : Pos}
theorem s_break (h : Z.bk σ H) : wB X (.Break pos :: rest) Z σ H := s_cons ⟨_, ps_break, h⟩
end
end DL
namespace K00
open PySem PySem.Spec PyProof.Rows L2 DL SX
section
variable {P : Program} {w : World} {K : PySem.W.Frag} {mg : Str → Option Value} {base : Heap}
/-- how far Euclid has come behind i turns -/
def EuI (A B i x y : Nat) : Prop := Nat.gcd x y = Nat.gcd A B ∧ x * y * 2 ^ (i - 1) ≤ A * B ∧ (0 < i → y ≤ x) ∧ (i = 0 → x = A ∧ y = B)
theorem eu_step {A B i x y : Nat} (h : EuI A B i x y) (hy : 0 < y) : EuI A B (i + 1) y (x % y) := by
  obtain ⟨h1, h2, h3, h4⟩ := h
  refine ⟨by rw [← h1, Nat.gcd_comm x y, Nat.gcd_rec y x, Nat.gcd_comm], ?_, fun _ => Nat.le_of_lt (Nat.mod_lt _ hy), fun z => by omega⟩
  by_cases hi : i = 0
  · obtain ⟨rfl, rfl⟩ := h4 hi
    subst hi
    show y * (x % y) * 2 ^ 0 ≤ x * y
    rw [Nat.pow_zero, Nat.mul_one, Nat.mul_comm x y]
    exact Nat.mul_le_mul_left _ (Nat.mod_le _ _)
  · have hxy := h3 (Nat.pos_of_ne_zero hi)
    have hm : 2 * (x % y) ≤ x := by
      have e := Nat.div_add_mod x y
      have h5 : 1 ≤ x / y := Nat.div_pos hxy hy
      have h6 : y * 1 ≤ y * (x / y) := Nat.mul_le_mul_left _ h5
      have h7 := Nat.mod_lt x hy
      omega
    have e : i + 1 - 1 = (i - 1) + 1 := by omega
    rw [e, Nat.pow_succ]
    refine Nat.le_trans ?_ h2
    have : y * (x % y) * (2 ^ (i - 1) * 2) = y * (2 * (x % y)) * 2 ^ (i - 1) := by grind
    rw [this, Nat.mul_comm x y]
    exact Nat.mul_le_mul_right _ (Nat.mul_le_mul_left _ hm)
theorem eu_end {A B x y : Nat} (h : EuI A B 400000 x y) (hA : A < 2 ^ 100000) (hB : B < 2 ^ 100000) : y = 0 := by
  obtain ⟨_, h2, h3, _⟩ := h
  have hyx := h3 (by decide)
  refine Nat.eq_zero_of_not_pos fun hy => ?_
  have h5 : 1 ≤ x * y := Nat.mul_pos (by omega) hy
  have h6 : 2 ^ 399999 ≤ x * y * 2 ^ (400000 - 1) := Nat.le_mul_of_pos_left _ h5
  have h7 : A * B < 2 ^ 100000 * 2 ^ 100000 := Nat.mul_lt_mul_of_le_of_lt (Nat.le_of_lt hA) hB (Nat.pow_pos (by decide))
  rw [← Nat.pow_add] at h7
  have h8 : 2 ^ (100000 + 100000) ≤ 2 ^ 399999 := pow_le (by decide)
  omega
def R_law_r : List D → D → Prop := R_made
theorem sgn_div {n e : Int} {g : Nat} (hg : ((g : Nat) : Int) ∣ n) : 0 - n / (g : Int) = -1 * n / (g : Int) := by
  rw [Int.zero_sub, Int.neg_mul, Int.one_mul, Int.neg_ediv_of_dvd hg]
theorem ok__law_r (T : Txt K mg) : PFn P w K mg base 1 "_law_r" R_law_r :=
  pfn_of T.h__law_r sc__law_r (fun ds d ⟨a, b, e, _⟩ => by rw [e]; rfl) fun cdv A outer s f H Q xk hr ds d G vs ⟨n, e, eds, he, hn, hd, ed⟩ g hv q => by
    subst eds ed
    obtain ⟨u, x, rfl, hu, hx⟩ := all2 hv
    cases hu; cases hx
    refine s_par 2 3 rfl sc__law_r.nd (a_cons (e_abs T.b_abs (e_var 0 (.int _))) (a_cons (e_abs T.b_abs (e_var 1 (.int _))) a_nil)) g fun u v G1 H1 n1 h1 h2 => ?_
    cases h1; cases h2
    have gp : 0 < ((Nat.gcd n.natAbs e.natAbs : Nat) : Int) := by
      have := Nat.gcd_pos_of_pos_right n.natAbs (show 0 < e.natAbs by omega)
      omega
    have gl : ((Nat.gcd n.natAbs e.natAbs : Nat) : Int).natAbs < 2 ^ 8000 := by
      rw [Int.natAbs_natCast]
      exact Nat.lt_of_le_of_lt (Nat.gcd_le_right _ (by omega)) hd
    have dv1 : ((Nat.gcd n.natAbs e.natAbs : Nat) : Int) ∣ n := Int.gcd_dvd_left ..
    have dv2 : ((Nat.gcd n.natAbs e.natAbs : Nat) : Int) ∣ e := Int.gcd_dvd_right ..
    have fin : ∀ (σ : L2.St) (H' : Hp), (∃ o G', σ = [some (.int n), some (.int e), some (.int (Nat.gcd n.natAbs e.natAbs : Nat)), some (.int 0), o] ∧ Nx G H G' H') →
        wB (cxOf CX0 P w K mg base N__law_r "_law_r" (defScope s__law_r) f cdv A outer s H xk).nox (defBody s__law_r |>.drop 2) { nx := fun _ H' => Q .non H', rt := Q } σ H' := fun σ H' ⟨o, G', eσ, n'⟩ => by
      subst eσ
      refine s_ret (d := rd (Rat.divInt n e)) (e_if (t_gt (e_var 1 (.int _)) e_int) (fun h => e_is (e_tup (a_cons (e_div (e_var 0 (.int _)) (e_var 2 (.int _)) (divOK gp gl (by decide))) (a_cons (e_div (e_var 1 (.int _)) (e_var 2 (.int _)) (divOK gp gl (by decide))) a_nil))) ?_)
        fun h => e_is (e_tup (a_cons (e_sub e_int (e_div (e_var 0 (.int _)) (e_var 2 (.int _)) (divOK gp gl (by decide)))) (a_cons (e_sub e_int (e_div (e_var 1 (.int _)) (e_var 2 (.int _)) (divOK gp gl (by decide)))) a_nil))) ?_) n'.gh fun v G3 H3 n3 hv => q v G3 H3 (n'.trans n3) hv
      · rw [← rd_made n e he, if_pos (by simpa using h), Int.one_mul, Int.one_mul]
      · have h : ¬ 0 < e := by simpa using h
        rw [← rd_made n e he, if_neg h, sgn_div dv1, sgn_div dv2] <;> exact 0
    refine s_forR 4 (n := 400000) .never rfl sc__law_r.nd T.b_range (a_cons e_int a_nil) n1.gh (by decide) (fun i σ H' => ∃ (x y : Nat) (o : Option V) (G' : Hp), EuI n.natAbs e.natAbs i x y ∧ σ = [some (.int n), some (.int e), some (.int x), some (.int y), o] ∧ Nx G H G' H')
      (fun G2 H2 n2 => ⟨n.natAbs, e.natAbs, Option.none, G2, ⟨rfl, by simp, fun h => absurd h (by decide), fun _ => ⟨rfl, rfl⟩⟩, rfl, n1.trans n2⟩) (fun i σ H2 hi ⟨x, y, o, G2, I, eσ, n2⟩ => ?_) fun σ H2 ⟨x, y, o, G2, I, eσ, n2⟩ => ?_
    · subst eσ
      refine s_when (k := decide (y = 0)) (t_is (t_eqI (e_var 3 (.int _)) e_int) (decN y 0)) n2.gh (fun hk G3 H3 n3 => ?_) fun hk G3 H3 n3 => ?_
      · have hk := of_decide_eq_true hk
        subst hk
        refine s_break (fin _ _ ⟨some (.int (i : Int)), G3, ?_, n2.trans n3⟩)
        have := I.1
        rw [Nat.gcd_zero_right] at this
        rw [this]; rfl
      · have hk := of_decide_eq_false hk
        refine s_par 2 3 rfl sc__law_r.nd (a_cons (e_var 3 (.int _)) (a_cons (e_mod (e_intI T.b_int (e_var 2 (.int _))) (e_var 3 (.int _)) (by omega)) a_nil)) n3.gh fun u v G4 H4 n4 h1 h2 => s_nil ?_
        cases h1; cases h2
        exact ⟨y, x % y, some (.int (i : Int)), G4, eu_step I (Nat.pos_of_ne_zero hk), by rw [Int.natCast_emod]; rfl, (n2.trans n3).trans n4⟩
    · subst eσ
      have hy := eu_end I (Nat.lt_of_lt_of_le hn (pow_le (by decide))) (lt_pow hd (by decide))
      subst hy
      refine fin _ _ ⟨o, G2, ?_, n2⟩
      have := I.1
      rw [Nat.gcd_zero_right] at this
      rw [this]; rfl

def R_bin (n : Nat) (f : Rat → Rat → Rat) : List D → D → Prop := fun ds d => ∃ a b : Rat, ds = [rd a, rd b] ∧ Sz n a ∧ Sz n b ∧ d = rd (f a b)
theorem ok__law_add (T : Txt K mg) : PFn P w K mg base 2 "_law_add" (R_bin 3000 (· + ·)) :=
  pfn_of T.h__law_add sc__law_add (fun ds d ⟨a, b, e, _⟩ => by rw [e]; rfl) fun cdv A outer s f H Q xk hr ds d G vs ⟨a, b, e, za, zb, ed⟩ g hv q => by
    subst e ed
    obtain ⟨u, x, rfl, hu, hx⟩ := all2 hv
    have hd : ((a.den : Int) * b.den).natAbs < 2 ^ 6000 := mul_lt (natI za.2) (natI zb.2)
    have h1 := mul_lt za.1 (natI zb.2)
    have h2 := mul_lt zb.1 (natI za.2)
    exact s_ret (e_is (e_call (ok__law_r T) hr (a_cons (e_add (e_mul (e_ixT (e_var 0 hu) e_int rfl) (e_ixT (e_var 1 hx) e_int rfl) (mulOK za.1 (natI zb.2) (by decide))) (e_mul (e_ixT (e_var 1 hx) e_int rfl) (e_ixT (e_var 0 hu) e_int rfl) (mulOK zb.1 (natI za.2) (by decide)))) (a_cons (e_mul (e_ixT (e_var 0 hu) e_int rfl) (e_ixT (e_var 1 hx) e_int rfl) (mulOK (natI za.2) (natI zb.2) (by decide))) a_nil))
      ⟨_, _, rfl, Int.ne_of_gt (Int.mul_pos (den_pos' a) (den_pos' b)), add_lt h1 h2 (by decide) (by decide), lt_pow hd (by decide), rfl⟩) (by rw [add_divInt])) g q
theorem sub_divInt (a b : Rat) : Rat.divInt (a.num * b.den - b.num * a.den) ((a.den : Int) * b.den) = a - b := by
  rw [Rat.sub_eq_add_neg, ← add_divInt, Rat.neg_num, Rat.neg_den, Int.neg_mul, Int.sub_eq_add_neg]
theorem ok__law_sub (T : Txt K mg) : PFn P w K mg base 2 "_law_sub" (R_bin 3000 (· - ·)) :=
  pfn_of T.h__law_sub sc__law_sub (fun ds d ⟨a, b, e, _⟩ => by rw [e]; rfl) fun cdv A outer s f H Q xk hr ds d G vs ⟨a, b, e, za, zb, ed⟩ g hv q => by
    subst e ed
    obtain ⟨u, x, rfl, hu, hx⟩ := all2 hv
    have hd : ((a.den : Int) * b.den).natAbs < 2 ^ 6000 := mul_lt (natI za.2) (natI zb.2)
    have h1 := mul_lt za.1 (natI zb.2)
    have h2 := mul_lt zb.1 (natI za.2)
    exact s_ret (e_is (e_call (ok__law_r T) hr (a_cons (e_sub (e_mul (e_ixT (e_var 0 hu) e_int rfl) (e_ixT (e_var 1 hx) e_int rfl) (mulOK za.1 (natI zb.2) (by decide))) (e_mul (e_ixT (e_var 1 hx) e_int rfl) (e_ixT (e_var 0 hu) e_int rfl) (mulOK zb.1 (natI za.2) (by decide)))) (a_cons (e_mul (e_ixT (e_var 0 hu) e_int rfl) (e_ixT (e_var 1 hx) e_int rfl) (mulOK (natI za.2) (natI zb.2) (by decide))) a_nil))
      ⟨_, _, rfl, Int.ne_of_gt (Int.mul_pos (den_pos' a) (den_pos' b)), by rw [Int.sub_eq_add_neg]; exact add_lt h1 (neg_lt h2) (by decide) (by decide), lt_pow hd (by decide), rfl⟩) (by rw [sub_divInt])) g q
theorem ok__law_mul (T : Txt K mg) : PFn P w K mg base 2 "_law_mul" (R_bin 3000 (· * ·)) :=
  pfn_of T.h__law_mul sc__law_mul (fun ds d ⟨a, b, e, _⟩ => by rw [e]; rfl) fun cdv A outer s f H Q xk hr ds d G vs ⟨a, b, e, za, zb, ed⟩ g hv q => by
    subst e ed
    obtain ⟨u, x, rfl, hu, hx⟩ := all2 hv
    have hd : ((a.den : Int) * b.den).natAbs < 2 ^ 6000 := mul_lt (natI za.2) (natI zb.2)
    have h1 := mul_lt za.1 zb.1
    exact s_ret (e_is (e_call (ok__law_r T) hr (a_cons (e_mul (e_ixT (e_var 0 hu) e_int rfl) (e_ixT (e_var 1 hx) e_int rfl) (mulOK za.1 zb.1 (by decide))) (a_cons (e_mul (e_ixT (e_var 0 hu) e_int rfl) (e_ixT (e_var 1 hx) e_int rfl) (mulOK (natI za.2) (natI zb.2) (by decide))) a_nil))
      ⟨_, _, rfl, Int.ne_of_gt (Int.mul_pos (den_pos' a) (den_pos' b)), lt_pow h1 (by decide), lt_pow hd (by decide), rfl⟩) (by rw [mul_divInt])) g q
def R_law_less : List D → D → Prop := fun ds d => ∃ a b : Rat, ds = [rd a, rd b] ∧ Sz 3000 a ∧ Sz 3000 b ∧ d = .bool (decide (a < b))
theorem ok__law_less (T : Txt K mg) : PFn P w K mg base 1 "_law_less" R_law_less :=
  pfn_of T.h__law_less sc__law_less (fun ds d ⟨a, b, e, _⟩ => by rw [e]; rfl) fun cdv A outer s f H Q xk hr ds d G vs ⟨a, b, e, za, zb, ed⟩ g hv q => by
    subst e ed
    obtain ⟨u, x, rfl, hu, hx⟩ := all2 hv
    exact s_ret (e_is (e_lt (e_mul (e_ixT (e_var 0 hu) e_int rfl) (e_ixT (e_var 1 hx) e_int rfl) (mulOK za.1 (natI zb.2) (by decide))) (e_mul (e_ixT (e_var 1 hx) e_int rfl) (e_ixT (e_var 0 hu) e_int rfl) (mulOK zb.1 (natI za.2) (by decide)))) (by rw [lt_iff'])) g q
/-- 2 ** many -/
def R_law_twos : List D → D → Prop := fun ds d => ∃ k : Nat, ds = [.int k] ∧ k ≤ 1000 ∧ d = .int ((2 ^ k : Nat) : Int)
theorem ok__law_twos (T : Txt K mg) : PFn P w K mg base 1 "_law_twos" R_law_twos :=
  pfn_of T.h__law_twos sc__law_twos (fun ds d ⟨a, e, _⟩ => by rw [e]; rfl) fun cdv A outer s f H Q xk hr ds d G vs ⟨n, e, hn, ed⟩ g hv q => by
    subst e ed
    obtain ⟨u, rfl, hu⟩ := all1 hv
    cases hu
    refine s_set 1 e_int g sc__law_twos.nd fun v1 G1 H1 n1 h1 => ?_
    cases h1
    refine s_forR 2 (n := n) .never rfl sc__law_twos.nd T.b_range (a_cons (e_var 0 (.int _)) a_nil) n1.gh (Nat.le_trans hn (by decide)) (fun i σ H' => ∃ (o : Option V) (G' : Hp), σ = [some (.int n), some (.int ((2 ^ i : Nat) : Int)), o] ∧ Nx G H G' H')
      (fun G2 H2 n2 => ⟨Option.none, G2, rfl, n1.trans n2⟩) (fun i σ H2 hi ⟨o, G2, eσ, n2⟩ => ?_) fun σ H2 ⟨o, G2, eσ, n2⟩ => ?_
    · subst eσ
      refine s_set 1 (d := .int ((2 ^ (i + 1) : Nat) : Int)) (e_is (e_mul (e_var 1 (.int _)) e_int (mulOK (a := 1001) (b := 2) (by rw [Int.natAbs_natCast]; exact Nat.pow_lt_pow_right (by decide) (by omega)) (by decide) (by decide))) (by rw [Nat.pow_succ]; rfl)) n2.gh sc__law_twos.nd fun v3 G3 H3 n3 h3 => s_nil ?_
      cases h3
      exact ⟨some (.int (i : Int)), G3, rfl, n2.trans n3⟩
    · subst eσ
      exact s_ret (e_var 1 (.int _)) n2.gh fun v G3 H3 n3 hv => q v G3 H3 (n2.trans n3) hv
def R_law_power : List D → D → Prop := fun ds d => ∃ (a : Rat) (k : Nat) (m : Nat), ds = [rd a, .int k] ∧ 0 < m ∧ Sz m a ∧ m * k ≤ 2000 ∧ m ≤ 2000 ∧ d = rd (a ^ k)
theorem sz_one {m : Nat} (h : 0 < m) : Sz m 1 := ⟨Nat.one_lt_two_pow (by omega), Nat.one_lt_two_pow (by omega)⟩
theorem sz_pow {a : Rat} {m k : Nat} (z : Sz m a) (h : 0 < k) : Sz (m * k) (a ^ k) := by
  refine ⟨?_, ?_⟩
  · rw [Rat.num_pow, Int.natAbs_pow, Nat.pow_mul]
    exact Nat.pow_lt_pow_left z.1 (by omega)
  · rw [Rat.den_pow, Nat.pow_mul]
    exact Nat.pow_lt_pow_left z.2 (by omega)
theorem sz_pow' {a : Rat} {m k : Nat} (z : Sz m a) (h : m * k ≤ 2000) : Sz 3000 (a ^ k) := by
  by_cases hk : k = 0
  · subst hk; rw [Rat.pow_zero]; exact sz_one (by decide)
  · exact (sz_pow z (Nat.pos_of_ne_zero hk)).mono (by omega)
theorem ok__law_power (T : Txt K mg) : PFn P w K mg base 3 "_law_power" R_law_power :=
  pfn_of T.h__law_power sc__law_power (fun ds d ⟨a, b, _, e, _⟩ => by rw [e]; rfl) fun cdv A outer s f H Q xk hr ds d G vs ⟨a, n, m, e, hm, za, hk, hm2, ed⟩ g hv q => by
    subst e ed
    obtain ⟨u, x, rfl, hu, hx⟩ := all2 hv
    cases hx
    have hn : n ≤ 2000 := Nat.le_trans (Nat.le_mul_of_pos_left _ hm) hk
    refine s_set 2 (d := rd 1) (e_tup (a_cons e_int (a_cons e_int a_nil))) g sc__law_power.nd fun v1 G1 H1 n1 h1 => ?_
    refine s_forR 3 (n := n) .never rfl sc__law_power.nd T.b_range (a_cons (e_var 1 (.int _)) a_nil) n1.gh (Nat.le_trans hn (by decide)) (fun i σ H' => ∃ (v : V) (o : Option V) (G' : Hp), σ = [some u, some (.int n), some v, o] ∧ Nx G H G' H' ∧ Dp K G' v (rd (a ^ i)))
      (fun G2 H2 n2 => ⟨v1, Option.none, G2, rfl, n1.trans n2, Dp.mono n2.g (by rw [Rat.pow_zero]; exact h1)⟩) (fun i σ H2 hi ⟨v, o, G2, eσ, n2, dv⟩ => ?_) fun σ H2 ⟨v, o, G2, eσ, n2, dv⟩ => ?_
    · subst eσ
      refine s_set 2 (d := rd (a ^ (i + 1))) (e_is (e_call (ok__law_mul T) hr (a_cons (e_var 2 dv) (a_cons (e_var 0 (Dp.mono n2.g hu)) a_nil)) ⟨a ^ i, a, rfl, sz_pow' za (Nat.le_trans (Nat.mul_le_mul_left _ (Nat.le_of_lt hi)) hk), za.mono (by omega), rfl⟩) (by rw [Rat.pow_succ])) n2.gh sc__law_power.nd fun v3 G3 H3 n3 h3 => s_nil ?_
      exact ⟨v3, some (.int (i : Int)), G3, rfl, n2.trans n3, h3⟩
    · subst eσ
      exact s_ret (e_var 2 dv) n2.gh fun v G3 H3 n3 hv => q v G3 H3 (n2.trans n3) hv
end
end K00

/-! K8: the law's decimals. -/
namespace K00
open PySem PySem.Spec PyProof.Rows L2 DL SX
def lawQ (a : Rat) : Nat := a.num.natAbs / a.den
def lawR (a : Rat) (k : Nat) : Nat := a.num.natAbs % a.den * 10 ^ k / a.den
def decL (a : Rat) (k : Nat) : List Nat :=
  (if a.num < 0 ∧ ¬ (dig (lawQ a) = [48] ∧ (pad k (lawR a k)).filter (· != 48) = []) then [45] else []) ++ dig (lawQ a) ++ [46] ++ pad k (lawR a k)
theorem lawR_lt (a : Rat) (k : Nat) : lawR a k < 10 ^ k := by
  unfold lawR
  have hd := a.den_pos
  refine (Nat.div_lt_iff_lt_mul hd).mpr ?_
  rw [Nat.mul_comm]
  exact Nat.mul_lt_mul_of_pos_left (Nat.mod_lt _ hd) (Nat.pow_pos (by decide))
theorem decW_eq (a : Rat) (k : Nat) : decW a k = lawQ a * 10 ^ k + lawR a k := by
  unfold decW lawQ lawR
  have hd := a.den_pos
  have e := Nat.div_add_mod a.num.natAbs a.den
  have e2 : a.num.natAbs * 10 ^ k = a.num.natAbs % a.den * 10 ^ k + a.den * (a.num.natAbs / a.den * 10 ^ k) := by
    conv => lhs; rw [← e]
    rw [Nat.add_mul, Nat.mul_assoc, Nat.add_comm]
  rw [e2, Nat.add_mul_div_left _ _ hd, Nat.add_comm]
theorem dig_zero (n : Nat) : dig n = [48] ↔ n = 0 := by
  constructor
  · intro h
    have h1 : (dig n).length ≤ 1 := by rw [h]; decide
    have h2 : n < 10 := by have := (dig_len_le (k := 1) (by decide)).mp h1; simpa using this
    rw [dig_lt h2] at h
    have := List.cons.inj h
    omega
  · intro h; subst h; exact dig_lt (by decide)
theorem pad_zero : ∀ {k n : Nat}, n < 10 ^ k → ((pad k n).filter (· != 48) = [] ↔ n = 0)
  | 0, n, h => by
    have : n = 0 := by simpa using h
    subst this; simp [pad]
  | k + 1, n, h => by
    have h2 : n / 10 < 10 ^ k := by rw [Nat.pow_succ] at h; omega
    show ((pad k (n / 10) ++ [48 + n % 10]).filter (· != 48) = [] ↔ n = 0)
    rw [List.filter_append, List.append_eq_nil_iff, pad_zero h2]
    have h3 : ([48 + n % 10].filter (· != 48) = [] ↔ n % 10 = 0) := by
      by_cases hm : n % 10 = 0
      · rw [hm]; simp
      · have : (48 + n % 10 != 48) = true := by simpa using hm
        rw [List.filter_cons_of_pos (p := (· != 48)) this]
        simp [hm]
    rw [h3]
    omega
/-- the two decimals are one -/
theorem dec_same (a : Rat) {k : Nat} (hk : 0 < k) : decT a k = decL a k := by
  have hr := lawR_lt a k
  have hW := decW_eq a k
  have hF : decF a k = dig (lawQ a) ++ pad k (lawR a k) := by
    unfold decF
    rw [hW]
    by_cases hq : lawQ a = 0
    · rw [hq, Nat.zero_mul, Nat.zero_add]
      have hr2 : lawR a k < 10 ^ (k + 1) := Nat.lt_of_lt_of_le hr (Nat.pow_le_pow_right (by decide) (by omega))
      rw [← pad_dig (Nat.succ_pos k) hr2, dig_lt (show 0 < 10 by decide)]
      have := pad_split (b := k) 1 0 hr
      rw [Nat.zero_mul, Nat.zero_add, Nat.add_comm 1 k] at this
      rw [this]; rfl
    · have hq : 0 < lawQ a := Nat.pos_of_ne_zero hq
      rw [dig_split hq hr]
      have h1 := dig_pos (lawQ a)
      rw [List.length_append, pad_len, show k + 1 - ((dig (lawQ a)).length + k) = 0 by omega]
      rfl
  unfold decT decL
  rw [if_neg (show ¬ k = 0 by omega), hF, List.length_append, pad_len, Nat.add_sub_cancel, List.take_left, List.drop_left]
  have hs : (a.num < 0 ∧ 0 < decW a k) ↔ (a.num < 0 ∧ ¬ (dig (lawQ a) = [48] ∧ (pad k (lawR a k)).filter (· != 48) = [])) := by
    rw [dig_zero, pad_zero hr, hW]
    have hp : 0 < 10 ^ k := Nat.pow_pos (by decide)
    constructor
    · rintro ⟨h1, h2⟩
      refine ⟨h1, fun ⟨z1, z2⟩ => ?_⟩
      rw [z1, z2] at h2
      simp at h2
    · rintro ⟨h1, h2⟩
      refine ⟨h1, ?_⟩
      by_cases hq : lawQ a = 0
      · have : lawR a k ≠ 0 := fun z => h2 ⟨hq, z⟩
        omega
      · have := Nat.mul_pos (Nat.pos_of_ne_zero hq) hp
        omega
  have hif : (if a.num < 0 ∧ 0 < decW a k then [45] else []) = (if a.num < 0 ∧ ¬ (dig (lawQ a) = [48] ∧ (pad k (lawR a k)).filter (· != 48) = []) then [45] else ([] : List Nat)) := by
    by_cases hc : a.num < 0 ∧ 0 < decW a k
    · rw [if_pos hc, if_pos (hs.mp hc)]
    · rw [if_neg hc, if_neg (fun z => hc (hs.mpr z))]
  rw [hif, List.append_assoc, List.append_assoc, List.append_assoc]
theorem t_three {P A B : Prop} [Decidable P] [Decidable A] [Decidable B] : (decide P && !(decide A && decide B)) = decide (P ∧ ¬ (A ∧ B)) := by
  by_cases hP : P <;> by_cases hA : A <;> by_cases hB : B <;> simp [hP, hA, hB]
theorem ten_parts (c q : Nat) (h : c < 10) : (c + q * 10) / 10 = q ∧ (c + q * 10) % 10 = c := by omega
theorem beh_step (R d t : Nat) (hd : 0 < d) (hR : R < d) : pad (t + 1) (R * 10 ^ (t + 1) / d) = pad t (R * 10 ^ t / d) ++ dig (R * 10 ^ t % d * 10 / d) ∧ R * 10 ^ (t + 1) % d = R * 10 ^ t % d * 10 % d ∧ R * 10 ^ t % d * 10 / d < 10 := by
  have e := Nat.div_add_mod (R * 10 ^ t) d
  have hm := Nat.mod_lt (R * 10 ^ t) hd
  have e1 : R * 10 ^ (t + 1) = R * 10 ^ t % d * 10 + d * (R * 10 ^ t / d * 10) := by
    rw [Nat.pow_succ, ← Nat.mul_assoc]
    conv => lhs; rw [← e]
    rw [Nat.add_mul, Nat.mul_assoc, Nat.add_comm]
  have h10 : R * 10 ^ t % d * 10 / d < 10 := (Nat.div_lt_iff_lt_mul hd).mpr (by omega)
  have e2 : R * 10 ^ (t + 1) / d = R * 10 ^ t % d * 10 / d + R * 10 ^ t / d * 10 := by rw [e1, Nat.add_mul_div_left _ _ hd]
  refine ⟨?_, by rw [e1, Nat.add_mul_mod_self_left], h10⟩
  show pad t (R * 10 ^ (t + 1) / d / 10) ++ [48 + R * 10 ^ (t + 1) / d % 10] = _
  rw [e2, dig_lt h10, (ten_parts _ _ h10).1, (ten_parts _ _ h10).2]
section
variable {P : Program} {w : World} {K : PySem.W.Frag} {mg : Str → Option Value} {base : Heap}
def R_law_decimal : List D → D → Prop := fun ds d => ∃ (a : Rat) (k : Nat), ds = [rd a, .int k] ∧ Sz 900 a ∧ k ≤ 1000 ∧ d = .str (S (decL a k))
theorem ok__law_decimal (T : Txt K mg) : PFn P w K mg base 1 "_law_decimal" R_law_decimal :=
  pfn_of T.h__law_decimal sc__law_decimal (fun ds d ⟨a, b, e, _⟩ => by rw [e]; rfl) fun cdv A outer s f H Q xk hr ds d G vs ⟨a, k, e, za, hk, ed⟩ g hv q => by
    subst e ed
    obtain ⟨u, x, rfl, hu, hx⟩ := all2 hv
    cases hx
    have hd := a.den_pos
    have dI := den_pos' a
    have qsz : (lawQ a) < 2 ^ 900 := Nat.lt_of_le_of_lt (Nat.div_le_self _ _) za.1
    have qlen := dig_len (lt_pow qsz (show 900 ≤ 30000 by decide))
    refine s_set 2 (e_abs T.b_abs (e_ixT (e_var 0 hu) e_int rfl)) g sc__law_decimal.nd fun v2 G2 H2 n2 h2 => ?_
    cases h2
    have hu2 := Dp.mono n2.g hu
    refine s_par 3 4 rfl sc__law_decimal.nd (d1 := .str (S (dig (lawQ a)))) (d2 := .int ((a.num.natAbs % a.den : Nat) : Int)) (a_cons (e_is (e_strN T.b_str (e_div (e_var 2 (.int _)) (e_ixT (e_var 0 hu2) e_int rfl) (divOK dI (natI za.2) (by decide))) ?_) ?_) (a_cons (e_is (e_mod (e_intI T.b_int (e_var 2 (.int _))) (e_ixT (e_var 0 hu2) e_int rfl) dI) ?_) a_nil)) n2.gh fun u3 v3 G3 H3 n3 h3 h4 => ?_
    · rw [← Int.natCast_ediv, Int.natAbs_natCast]; exact lt_pow qsz (by decide)
    · rw [← Int.natCast_ediv, digI_nat]; rfl
    · rw [← Int.natCast_emod]
    cases h3; cases h4
    refine s_set 5 (e_strC []) n3.gh sc__law_decimal.nd fun v4 G4 H4 n4 h4 => ?_
    cases h4
    have hu4 := Dp.mono n4.g (Dp.mono n3.g hu2)
    refine s_forR 6 (n := k) .never rfl sc__law_decimal.nd T.b_range (a_cons (e_var 1 (.int _)) a_nil) n4.gh (Nat.le_trans hk (by decide)) (fun i σ H' => ∃ (o : Option V) (G' : Hp), σ = [some u, some (.int k), some (.int (a.num.natAbs : Nat)), some (.str (S (dig (lawQ a)))), some (.int ((a.num.natAbs % a.den * 10 ^ i % a.den : Nat) : Int)), some (.str (S (pad i (lawR a i)))), o, Option.none] ∧ Nx G H G' H' ∧ Ex G4 G')
      (fun G5 H5 n5 => ⟨Option.none, G5, by
        rw [Nat.pow_zero, Nat.mul_one, Nat.mod_mod]; rfl, ((n2.trans n3).trans n4).trans n5, n5.g⟩) (fun i σ H5 hi ⟨o, G5, eσ, n5, g5⟩ => ?_) fun σ H5 ⟨o, G5, eσ, n5, g5⟩ => ?_
    · subst eσ
      have B := beh_step (a.num.natAbs % a.den) a.den i hd (Nat.mod_lt _ hd)
      have hm := Nat.mod_lt (a.num.natAbs % a.den * 10 ^ i) hd
      have hml := Nat.lt_trans hm za.2
      have hu5 := Dp.mono g5 hu4
      refine s_set 4 (d := .int ((a.num.natAbs % a.den * 10 ^ i % a.den * 10 : Nat) : Int)) (e_is (e_mul (e_var 4 (.int _)) e_int (mulOK (a := 900) (b := 4) (by rw [Int.natAbs_natCast]; exact hml) (by decide) (by decide))) (by rw [Int.natCast_mul]; rfl)) n5.gh sc__law_decimal.nd fun v6 G6 H6 n6 h6 => ?_
      cases h6
      have hu6 := Dp.mono n6.g hu5
      refine s_par 5 4 rfl sc__law_decimal.nd (d1 := .str (S (pad (i + 1) (lawR a (i + 1))))) (d2 := .int ((a.num.natAbs % a.den * 10 ^ (i + 1) % a.den : Nat) : Int)) (a_cons (e_is (e_catS (e_var 5 (.str _)) (e_strN T.b_str (e_div (e_var 4 (.int _)) (e_ixT (e_var 0 hu6) e_int rfl) (divOK dI (natI za.2) (by decide))) ?_) ?_) ?_)
        (a_cons (e_is (e_mod (e_intI T.b_int (e_var 4 (.int _))) (e_ixT (e_var 0 hu6) e_int rfl) dI) ?_) a_nil)) n6.gh fun u7 v7 G7 H7 n7 h7 h8 => s_nil ?_
      · rw [← Int.natCast_ediv, Int.natAbs_natCast]; exact lt_pow (a := 4) (Nat.lt_of_lt_of_le B.2.2 (by decide)) (by decide)
      · rw [← Int.natCast_ediv, digI_nat, pad_len, dig_lt B.2.2]; simp; omega
      · rw [← Int.natCast_ediv, digI_nat]
        show _ = PyData.str (S (pad (i + 1) (a.num.natAbs % a.den * 10 ^ (i + 1) / a.den)))
        rw [B.1]; rfl
      · rw [← Int.natCast_emod, B.2.1]
      · cases h7; cases h8
        exact ⟨some (.int (i : Int)), G7, rfl, (n5.trans n6).trans n7, (g5.trans n6.g).trans n7.g⟩
    · subst eσ
      have hu5 := Dp.mono g5 hu4
      have sl : (if a.num < 0 ∧ ¬ (dig (lawQ a) = [48] ∧ (pad k (lawR a k)).filter (· != 48) = []) then [45] else []).length ≤ 1 := by split <;> decide
      refine s_set 7 (e_nothing' (c := 48) (e_var 3 (.str _)) (e_var 5 (.str _)) (by rw [pad_len]; omega)) n5.gh sc__law_decimal.nd fun v6 G6 H6 n6 h6 => ?_
      cases h6
      have hu6 := Dp.mono n6.g hu5
      refine s_ret (e_catS (e_catS (e_catS (l := if a.num < 0 ∧ ¬ (dig (lawQ a) = [48] ∧ (pad k (lawR a k)).filter (· != 48) = []) then [45] else []) (e_if (t_is (t_and (t_lt (e_ixT (e_var 0 hu6) e_int rfl) e_int) fun _ => t_not (t_val (e_var 7 (.bl _)))) t_three) (fun h => ?_) fun h => ?_) (e_var 3 (.str _)) ?_) (e_strC [46]) ?_) (e_var 5 (.str _)) ?_) n6.gh fun v7 G7 H7 n7 h7 => q v7 G7 H7 ((n5.trans n6).trans n7) h7
      · rw [if_pos (of_decide_eq_true h)]; exact e_strC [45]
      · rw [if_neg (of_decide_eq_false h)]; exact e_strC []
      · omega
      · rw [List.length_append]; simp only [List.length_singleton]; omega
      · rw [List.length_append, List.length_append, pad_len]; simp only [List.length_singleton]; omega
end
end K00

/-! D7: a list of ints that is taken from (the draws), beside what is known. -/
namespace DL
open PySem PySem.Spec PyProof.Rows L2 SX
/-- the draws stand at l, beside G -/
structure MO (G H : Hp) (l : Addr) : Prop where
  gh : Ex G H
  gl : G l = Option.none
  hl : ∃ ns : List Int, H l = some (.lst (ns.map V.int))
theorem MO.step {G H G' H' : Hp} {l : Addr} (m : MO G H l) (n : Nx G H G' H') : MO G' H' l := by
  obtain ⟨ns, h⟩ := m.hl
  exact ⟨n.gh, (n.beside m.gl h).1, ns, (n.beside m.gl h).2⟩
theorem MO.put {G H : Hp} {l : Addr} (m : MO G H l) (ns : List Int) : MO G (upd H l (.lst (ns.map V.int))) l :=
  ⟨fun a u q => by
    rw [upd_ne (fun z => by rw [z, m.gl] at q; cases q)]
    exact m.gh a u q, m.gl, ns, upd_same⟩
theorem MO.new {G H : Hp} {l p : Addr} {o : HO} (m : MO G H l) (hp : H p = Option.none) : MO (upd G p o) (upd H p o) l := m.step (Nx.new m.gh hp)
/-- e comes to some d of R; the draws may be taken from -/
def EM (X : Cx) (e : Expr) (σ : L2.St) (G : Hp) (l : Addr) (R : D → Prop) : Prop :=
  ∀ G1 H1, Ex G G1 → MO G1 H1 l → ∀ Q : VK, (∀ v d G2 H2, R d → Ex G1 G2 → MO G2 H2 l → Dp X.K G2 v d → Q v H2) → wE X e σ H1 Q
def AM (X : Cx) (es : List Expr) (σ : L2.St) (G : Hp) (l : Addr) (R : List D → Prop) : Prop :=
  ∀ G1 H1, Ex G G1 → MO G1 H1 l → ∀ Q : List V → Hp → Prop, (∀ vs ds G2 H2, R ds → Ex G1 G2 → MO G2 H2 l → DpAll X.K G2 vs ds → Q vs H2) → wA X es σ H1 Q
def intP (P : Int → Prop) : D → Prop := fun d => ∃ i, d = .int i ∧ P i
section
variable {X : Cx} {σ : L2.St} {G : Hp} {l : Addr} {a b e : Expr} {es : List Expr} {pos p p2 : Pos} {d : D} {ds : List D} {R : D → Prop} {Rs : List D → Prop} {i j : Int} {x : Str}
theorem em_of (h : E X e σ G d) : EM X e σ G l (· = d) := fun G1 H1 g m Q q => h G1 H1 g m.gh Q fun v G2 H2 n hv => q v d G2 H2 rfl n.g (m.step n) hv
theorem em_imp {R' : D → Prop} (h : EM X e σ G l R) (i : ∀ d, R d → R' d) : EM X e σ G l R' := fun G1 H1 g m Q q => h G1 H1 g m Q fun v d G2 H2 r => q v d G2 H2 (i d r)
theorem am_nil : AM X [] σ G l (· = []) := fun G1 H1 _ m Q q => ⟨_, pa_nil, q [] [] G1 H1 rfl (Evl.Ex.refl _) m .nil⟩
theorem am_cons (h : EM X e σ G l R) (hr : AM X es σ G l Rs) (hs : starEach (e :: es) X.env = (false, eval e X.env) :: starEach es X.env := by rfl) : AM X (e :: es) σ G l (fun ds => ∃ d r, ds = d :: r ∧ R d ∧ Rs r) := fun G1 H1 g m Q q =>
  ⟨_, pa_cons pe_w pa_w hs, h G1 H1 g m _ fun u d G2 H2 r1 g2 m2 hu => hr G2 H2 (g.trans g2) m2 _ fun vs ds G3 H3 r2 g3 m3 hv => q _ _ G3 H3 ⟨d, ds, rfl, r1, r2⟩ (g2.trans g3) m3 (.cons (Dp.mono g3 hu) hv)⟩
theorem am_of (h : A X es σ G ds) : AM X es σ G l (· = ds) := fun G1 H1 g m Q q => h G1 H1 g m.gh Q fun v G2 H2 n hv => q v ds G2 H2 rfl n.g (m.step n) hv
theorem am_imp {R' : List D → Prop} (h : AM X es σ G l Rs) (i : ∀ d, Rs d → R' d) : AM X es σ G l R' := fun G1 H1 g m Q q => h G1 H1 g m Q fun v d G2 H2 r => q v d G2 H2 (i d r)
theorem em_tup {n : Nat} (h : AM X es σ G l Rs) (hl : ∀ ds, Rs ds → ds.length ≤ 1000) : EM X (.Tuple es n pos) σ G l (fun d => ∃ ds, d = .tuple ds ∧ Rs ds) := fun G1 H1 g m Q q =>
  ⟨_, pe_tup pa_w, h G1 H1 g m _ fun vs ds G2 H2 r g2 m2 hv => ⟨by rw [DpAll.len hv]; exact Evl.sz_of (by have := hl ds r; omega), fun p hp =>
    q _ _ _ _ ⟨ds, rfl, r⟩ (g2.trans (Nx.new m2.gh hp).g) (m2.new hp) (.tup (Evl.st_of upd_same) (DpAll.mono (Nx.new m2.gh hp).g hv))⟩⟩
theorem em_lst (h : AM X es σ G l Rs) (hl : ∀ ds, Rs ds → ds.length ≤ 1000) : EM X (.List es pos) σ G l (fun d => ∃ ds, d = .list ds ∧ Rs ds) := fun G1 H1 g m Q q =>
  ⟨_, pe_lst pa_w, h G1 H1 g m _ fun vs ds G2 H2 r g2 m2 hv => ⟨by rw [DpAll.len hv]; exact Evl.sz_of (by have := hl ds r; omega), fun p hp =>
    q _ _ _ _ ⟨ds, rfl, r⟩ (g2.trans (Nx.new m2.gh hp).g) (m2.new hp) (.lst (Evl.sq_of upd_same) (DpAll.mono (Nx.new m2.gh hp).g hv))⟩⟩
theorem em_opI0 {op : Operator} {f : Int → Int → Int} {P P2 P3 : Int → Prop} (ho : OpR X (binaryOp op) (rI0 fun i j => .int (f i j))) (ha : EM X a σ G l (intP P)) (hb : EM X b σ G l (intP P2)) (h : ∀ i j, P i → P2 j → P3 (f i j)) : EM X (.BinOp a op b pos) σ G l (intP P3) := fun G1 H1 g m Q q =>
  ⟨_, pe_op ho pe_w pe_w, ha G1 H1 g m _ fun u d G2 H2 r1 g2 m2 hu => hb G2 H2 (g.trans g2) m2 _ fun v d2 G3 H3 r2 g3 m3 hv => by
    obtain ⟨i, rfl, r1⟩ := r1
    obtain ⟨j, rfl, r2⟩ := r2
    cases hu; cases hv
    exact ⟨i, j, rfl, rfl, q _ _ G3 H3 ⟨_, rfl, h i j r1 r2⟩ (g2.trans g3) m3 (.int _)⟩⟩
theorem em_add {P P2 P3 : Int → Prop} (ha : EM X a σ G l (intP P)) (hb : EM X b σ G l (intP P2)) (h : ∀ i j, P i → P2 j → P3 (i + j)) : EM X (.BinOp a .Add b pos) σ G l (intP P3) := em_opI0 op_add ha hb h
theorem em_sub {P P2 P3 : Int → Prop} (ha : EM X a σ G l (intP P)) (hb : EM X b σ G l (intP P2)) (h : ∀ i j, P i → P2 j → P3 (i - j)) : EM X (.BinOp a .Sub b pos) σ G l (intP P3) := em_opI0 op_sub ha hb h
theorem em_int {n : Nat} : EM X (.Constant (.int i) n pos) σ G l (intP (· = i)) := em_imp (em_of e_int) fun d h => ⟨i, h, rfl⟩
theorem em_ixL (ha : E X a σ G (.list ds)) (hb : EM X b σ G l (intP fun i => ∃ d, atI ds i = some d ∧ R d)) (hs : PlainIx b := by exact fun _ _ => rfl) : EM X (.Subscript a b pos) σ G l R := fun G1 H1 g m Q q =>
  ⟨_, pe_ix ix_list pe_w pe_w hs, ha G1 H1 g m.gh _ fun u G2 H2 n hu => hb G2 H2 (g.trans n.g) (m.step n) _ fun v d' G3 H3 r g3 m3 hv => by
    obtain ⟨i, rfl, d, hd, r⟩ := r
    cases hv
    obtain ⟨p, xs, rfl, ht, hx⟩ := Dp.lst_inv (Dp.mono g3 hu)
    obtain ⟨v, e1, e2⟩ := DpAll.at hx hd
    exact ⟨p, xs, i, v, rfl, rfl, Evl.ex_l m3.gh ht, e1, q v d G3 H3 r (n.g.trans g3) m3 e2⟩⟩
end

/-! ### defs that take from the draws -/
def spM (K : PySem.W.Frag) (Pre : List D → Prop) (R : List D → D → Prop) : Sp := fun us H Q _ => ∃ l vs ds G, us = .ref l :: vs ∧ Pre ds ∧ MO G H l ∧ DpAll K G vs ds ∧ ∀ v d G' H', R ds d → Ex G G' → MO G' H' l → Dp K G' v d → Q v H'
structure MFn (P : Program) (w : World) (K : PySem.W.Frag) (mg : Str → Option Value) (base : Heap) (k : Nat) (x : Str) (Pre : List D → Prop) (R : List D → D → Prop) : Prop where
  ex : ∃ f, mg x = some (.ref f) ∧ PySem.W.keepIn K (.ref f) = true ∧ FnR P w K mg base CX0 k f (spM K Pre R)
section
variable {P : Program} {w : World} {K : PySem.W.Frag} {mg : Str → Option Value} {base : Heap}
theorem mfn_of {k : Nat} {x : Str} {st : Stmt} {N ps : List Str} {Pre : List D → Prop} {R : List D → D → Prop} (h : Has K mg x st ps) (S : FnScope N ps (defScope st)) (len : ∀ ds, Pre ds → ds.length + 1 = ps.length)
    (body : ∀ (cdv : Value) (A : Around) (outer : List Env) (s : Shared) (f : Addr) (H : Hp) (Q : VK) (E : XK), Room k (A.deeper (envOfC x (defScope st) s.heap.objs.size f cdv)) → ∀ l ds G vs, Pre ds → MO G H l → DpAll K G vs ds → (∀ v d G' H', R ds d → Ex G G' → MO G' H' l → Dp K G' v d → Q v H') →
      wB (cxOf CX0 P w K mg base N x (defScope st) f cdv A outer s H E).nox (defBody st) { nx := fun _ H' => Q .non H', rt := Q } (start N (.ref l :: vs)) H) : MFn P w K mg base (k + 1) x Pre R := by
  obtain ⟨f, fd, h1, F, hb⟩ := h
  refine ⟨f, h1, F.kp, FnOk.pos (F.ok S (fun vs H Q E ⟨l, vs', ds, G, e, r, _, hv, _⟩ => by rw [e, List.length_cons, DpAll.len hv]; exact len ds r) fun cdv A outer s H vs Q E hr ⟨l, vs', ds, G, e, r, m, hv, q⟩ => ?_) hb⟩
  subst e
  exact ⟨_, pss_w, body cdv A outer s f H Q E hr l ds G vs' r m hv q⟩
end
section
variable {X : Cx} {σ : L2.St} {G H : Hp} {l : Addr} {a b e : Expr} {es : List Expr} {pos p p1 p2 : Pos} {d : D} {ds : List D} {R : D → Prop} {Rs : List D → Prop} {i j : Int} {x y : Str} {k : Nat}
theorem em_call (n : Nat) {Pre : List D → Prop} {Rf : List D → D → Prop} (F : MFn X.prog X.w X.K X.mg X.base k x Pre Rf) (hr : Room k X.A) (ha : AM X es σ G l Rs) (hP : ∀ ds, Rs ds → Pre ds) (hR : ∀ ds d, Rs ds → Rf ds d → R d) (hσ : σ[n]? = some (some (.ref l)) := by rfl) (hN : X.N[n]? = some y := by rfl)
    (hv : Vis X.env.scope y := by first | exact Or.inl rfl | exact Or.inr (Or.inl rfl) | exact Or.inr (Or.inr rfl)) (h1 : (y == ("__debug__" : Str)) = false := by decide) (h2 : (y == ("__classdict__" : Str)) = false := by decide)
    (hg : Gl X x := by rfl) (hdb : (x == ("__debug__" : Str)) = false := by decide)
    (he : starEach (.Name y p1 :: es) X.env = (false, eval (.Name y p1) X.env) :: starEach es X.env := by rfl) (hpl : (backTo pos (starEach es X.env)).any (·.1) = false := by rfl) : EM X (.Call (.Name x p) (.Name y p1 :: es) [] pos) σ G l R := fun G1 H1 g m Q q => by
  obtain ⟨f, hm, hk, F⟩ := F.ex
  exact ⟨_, pe_callR (Er := fun _ => E0) F hr hg hm hk passAt0 (pa_cons (pe_var hN hv h1 h2) pa_w he) hdb he hpl, .ref l, hσ, ha G1 H1 g m _ fun vs ds G2 H2 r g2 m2 hv =>
    ⟨l, vs, ds, G2, rfl, hP ds r, m2, hv, fun v d G3 H3 r3 g3 m3 hd => q v d G3 H3 (hR ds d r r3) (g2.trans g3) m3 hd⟩⟩
/-- a def without side effects, its arguments drawn -/
theorem em_callP {Rf : List D → D → Prop} (F : PFn X.prog X.w X.K X.mg X.base k x Rf) (hr : Room k X.A) (ha : AM X (e :: es) σ G l Rs) (hR : ∀ ds, Rs ds → ∃ d, Rf ds d ∧ R d) (hg : Gl X x := by rfl) (hdb : (x == ("__debug__" : Str)) = false := by decide)
    (he : starEach (e :: es) X.env = (false, eval e X.env) :: starEach es X.env := by rfl) (hpl : (backTo pos (starEach es X.env)).any (·.1) = false := by rfl) : EM X (.Call (.Name x p) (e :: es) [] pos) σ G l R := fun G1 H1 g m Q q => by
  obtain ⟨f, hm, hk, F⟩ := F.ex
  exact ⟨_, pe_callR (Er := fun _ => E0) F hr hg hm hk passAt0 pa_w hdb he hpl, ha G1 H1 g m _ fun us ds G2 H2 r g2 m2 hu => by
    obtain ⟨d, h1, h2⟩ := hR ds r
    exact ⟨ds, d, G2, h1, m2.gh, hu, fun v G3 H3 n3 hv => q v d G3 H3 h2 (g2.trans n3.g) (m2.step n3) hv⟩⟩
/-! statements -/
variable {rest : List Stmt} {Z : Ends}
theorem sm_ret (h : EM X e σ G l R) (m : MO G H l) (q : ∀ v d G' H', R d → Ex G G' → MO G' H' l → Dp X.K G' v d → Z.rt v H') : wB X (.Return (some e) pos :: rest) Z σ H :=
  s_cons ⟨_, ps_ret pe_w, h G H (Evl.Ex.refl _) m _ fun v d G' H' r g m' hv => q v d G' H' r g m' hv⟩
theorem sm_set (i : Nat) {pos' : Pos} (h : EM X e σ G l R) (m : MO G H l) (hN : X.N.Nodup) (q : ∀ v d G' H', R d → Ex G G' → MO G' H' l → Dp X.K G' v d → wB X rest Z (σ.set i (some v)) H') (hi : X.N[i]? = some x := by rfl) (hx : L2.Loc X.env.scope x := by first | exact Or.inl rfl | exact Or.inr rfl)
    (hs : swapsWith e (some (.Name x pos')) pos.line X.env = pure false := by rfl) (hf : X.fn x = true ∨ X.env.scope.names.lookup x = some .local := by first | exact .inl rfl | exact .inr rfl | assumption) : wB X (.Assign [.Name x pos'] e pos :: rest) Z σ H :=
  s_cons ⟨_, ps_set hN hi hx pe_w hs hf, h G H (Evl.Ex.refl _) m _ fun v d G' H' r g m' hv => q v d G' H' r g m' hv⟩
/-- return int(draws.pop()) % bound -/
theorem sm_popmod (n n2 : Nat) {y z : Str} {ns : List Int} {bd : Int} {apos p3 p4 p5 p6 : Pos} (hm : X.mg "int" = Option.none) (m : MO G H l) (hl : H l = some (.lst (ns.map V.int))) (hne : ns ≠ []) (hb : 0 < bd) (q : ∀ i H', 0 ≤ i → i < bd → MO G H' l → Z.rt (.int i) H')
    (hσ : σ[n]? = some (some (.ref l)) := by rfl) (hN : X.N[n]? = some y := by rfl) (hv : Vis X.env.scope y := by first | exact Or.inl rfl | exact Or.inr (Or.inl rfl) | exact Or.inr (Or.inr rfl)) (h1 : (y == ("__debug__" : Str)) = false := by decide) (h2 : (y == ("__classdict__" : Str)) = false := by decide)
    (hσ2 : σ[n2]? = some (some (.int bd)) := by rfl) (hN2 : X.N[n2]? = some z := by rfl) (hv2 : Vis X.env.scope z := by first | exact Or.inl rfl | exact Or.inr (Or.inl rfl) | exact Or.inr (Or.inr rfl)) (h12 : (z == ("__debug__" : Str)) = false := by decide) (h22 : (z == ("__classdict__" : Str)) = false := by decide)
    (hg : Gl X "int" := by rfl)
    (hbase : attributeBase (.Name y p1) "pop" X.env (eval (.Name y p1) X.env) = eval (.Name y p1) X.env := by rfl) (hline : (apos.endLine == p2.line) = true := by rfl)
    (he : starEach [.Call (.Attribute (.Name y p1) "pop" apos) [] [] p2] X.env = (false, eval (.Call (.Attribute (.Name y p1) "pop" apos) [] [] p2) X.env) :: starEach [] X.env := by rfl) (hpl : (backTo p3 (starEach [] X.env)).any (·.1) = false := by rfl) :
    wB X (.Return (some (.BinOp (.Call (.Name "int" p4) [.Call (.Attribute (.Name y p1) "pop" apos) [] [] p2] [] p3) .Mod (.Name z p5) p6)) pos :: rest) Z σ H := by
  have hlast : (ns.map V.int)[(ns.map V.int).length - 1]? = some (.int (ns.getLast hne)) := by
    rw [List.length_map, List.getElem?_map, ← List.getLast?_eq_getElem?, List.getLast?_eq_some_getLast hne]; rfl
  refine s_cons ⟨_, ps_ret (pe_op op_mod (pe_callTy call_int1 hg hm (by decide +kernel) (pa_cons (pe_bm0 PySem.F.plainAttrs_list PySem.F.slot_list_pop PySem.F.type_list_pop mt_pop (pe_var hN hv h1 h2) hbase hline) pa_nil he) (by decide) (by decide) he hpl) (pe_var hN2 hv2 h12 h22)),
    .ref l, hσ, .inl ⟨rfl, _, .inl (.inl hl)⟩, l, ns.map V.int, _, rfl, rfl, hl, hlast, ?_⟩
  refine .inl ⟨ns.getLast hne, rfl, .int bd, hσ2, ns.getLast hne, bd, rfl, rfl, hb, ?_⟩
  have hm2 := m.put ns.dropLast
  rw [List.map_dropLast] at hm2
  exact q _ _ (Int.emod_nonneg _ (by omega)) (Int.emod_lt_of_pos _ hb) hm2
end
end DL

/-! K9: taking from the draws. -/
namespace K00
open PySem PySem.Spec PyProof.Rows L2 DL SX
section
variable {P : Program} {w : World} {K : PySem.W.Frag} {mg : Str → Option Value} {base : Heap}
def Pre_take : List D → Prop := fun ds => ∃ b : Int, ds = [.int b] ∧ 0 < b
def Post_take : List D → D → Prop := fun ds d => ∃ b i : Int, ds = [.int b] ∧ d = .int i ∧ 0 ≤ i ∧ i < b
theorem ok__law_take (T : Txt K mg) : MFn P w K mg base 1 "_law_take" Pre_take Post_take :=
  mfn_of T.h__law_take sc__law_take (fun ds ⟨b, e, _⟩ => by rw [e]; rfl) fun cdv A outer s f H Q xk hr l ds G vs ⟨b, e, hb⟩ m hv q => by
    subst e
    obtain ⟨u, rfl, hu⟩ := all1 hv
    cases hu
    obtain ⟨ns, hl⟩ := m.hl
    -- len(draws) == 0: the list itself is looked at
    have hgl : Ex G (upd G l (.lst (ns.map V.int))) := Evl.Ex.new m.gl
    have hgH : Ex (upd G l (.lst (ns.map V.int))) H := fun a u q => by
      by_cases z : a = l
      · subst z; rw [upd_same] at q; rw [← q]; exact hl
      · rw [upd_ne z] at q; exact m.gh a u q
    have hd : Dp K (upd G l (.lst (ns.map V.int))) (.ref l) (.list (ns.map PyData.int)) := .lst (Evl.sq_of upd_same) DpAll.ints
    have back : ∀ G' H', Nx (upd G l (.lst (ns.map V.int))) H G' H' → MO G H' l ∧ H' l = some (.lst (ns.map V.int)) := fun G' H' n => by
      have h1 : H' l = some (.lst (ns.map V.int)) := n.gh _ _ (n.g _ _ upd_same)
      exact ⟨⟨(hgl.trans n.g).trans n.gh, m.gl, ns, h1⟩, h1⟩
    refine s_when (k := decide (ns = [])) (t_is (t_eqI (e_len T.b_len (e_var 0 hd) (.inr rfl)) e_int) ?_) hgH (fun hk G' H' n => ?_) fun hk G' H' n => ?_
    · rw [List.length_map]
      cases ns with
      | nil => rfl
      | cons x r => exact (decide_eq_false (by rw [List.length_cons]; omega)).trans (decide_eq_false (fun z => nomatch z)).symm
    · obtain ⟨m', h'⟩ := back G' H' n
      exact sm_ret (em_of e_int) m' fun v d G2 H2 r g2 m2 hv => q v d G2 H2 ⟨b, 0, rfl, r, Int.le_refl _, hb⟩ g2 m2 hv
    · obtain ⟨m', h'⟩ := back G' H' n
      exact sm_popmod 0 1 T.b_int m' h' (of_decide_eq_false hk) hb fun i H2 h1 h2 m2 => q _ (.int i) G H2 ⟨b, i, rfl, rfl, h1, h2⟩ (Evl.Ex.refl _) m2 (.int i)
def Pre_pick : List D → Prop := fun ds => ∃ xs : List D, ds = [.list xs] ∧ xs ≠ []
def Post_pick : List D → D → Prop := fun ds d => ∃ xs : List D, ds = [.list xs] ∧ d ∈ xs
theorem ok__law_pick (T : Txt K mg) : MFn P w K mg base 2 "_law_pick" Pre_pick Post_pick :=
  mfn_of T.h__law_pick sc__law_pick (fun ds ⟨b, e, _⟩ => by rw [e]; rfl) fun cdv A outer s f H Q xk hr l ds G vs ⟨xs, e, hne⟩ m hv q => by
    subst e
    obtain ⟨u, rfl, hu⟩ := all1 hv
    have hlen : 0 < xs.length := List.length_pos_iff.mpr hne
    refine sm_ret (R := fun d => d ∈ xs) (em_ixL (e_var 1 hu) (em_call 0 (ok__law_take T) hr (am_of (a_cons (e_len T.b_len (e_var 1 hu) (.inr rfl)) a_nil)) (fun ds e => ⟨_, e, by omega⟩) (fun ds d e ⟨b, i, e1, e2, h1, h2⟩ => ?_))) m fun v d G2 H2 r g2 m2 hv => q v d G2 H2 ⟨xs, rfl, r⟩ g2 m2 hv
    subst e
    cases e1
    obtain ⟨j, rfl⟩ := Int.eq_ofNat_of_zero_le h1
    have hj : j < xs.length := by omega
    refine ⟨(j : Int), e2, xs[j], ?_, List.getElem_mem hj⟩
    unfold atI ixN
    rw [if_pos (by omega), if_pos (by omega)]
    show xs[((j : Nat) : Int).toNat]? = some xs[j]
    rw [Int.toNat_natCast, List.getElem?_eq_getElem hj]
/-- a drawn ratio -/
def Post_any : List D → D → Prop := fun _ d => ∃ q : Rat, d = rd q ∧ Sz 17 q
theorem sz_divInt {n e : Int} {k : Nat} (he : 0 < e) (h1 : n.natAbs < 2 ^ k) (h2 : e.natAbs < 2 ^ k) : Sz k (Rat.divInt n e) := by
  refine ⟨?_, ?_⟩
  · rw [Rat.num_divInt, Int.sign_eq_one_of_pos he, Int.one_mul]
    refine Nat.lt_of_le_of_lt ?_ h1
    exact Int.natAbs_ediv_le_natAbs _ _
  · rw [Rat.den_divInt, if_neg (by omega)]
    exact Nat.lt_of_le_of_lt (Nat.div_le_self _ _) h2
theorem ok__law_any (T : Txt K mg) : MFn P w K mg base 3 "_law_any" (· = []) Post_any :=
  mfn_of T.h__law_any sc__law_any (fun ds e => by rw [e]; rfl) fun cdv A outer s f H Q xk hr l ds G vs e m hv q => by
    subst e
    cases hv
    refine sm_ret (R := fun d => ∃ q : Rat, d = rd q ∧ Sz 17 q) (em_callP (ok__law_r T) (hr.mono (by decide)) (am_cons (R := intP fun i => i.natAbs < 2 ^ 17)
      (em_add (P := fun i => i.natAbs < 100000) (P2 := fun i => i.natAbs < 10) (em_call 0 (ok__law_pick T) hr (am_of (a_cons (e_lst (a_cons e_int (a_cons e_int (a_cons (e_neg e_int) (a_cons e_int (a_cons (e_neg e_int) (a_cons e_int (a_cons (e_neg e_int) (a_cons e_int a_nil)))))))) ) a_nil)) (fun ds e => ⟨_, e, by simp⟩) (fun ds d e ⟨xs, e1, hx⟩ => ?_))
        (em_call 0 (ok__law_take T) (hr.mono (by decide)) (am_of (a_cons e_int a_nil)) (fun ds e => ⟨_, e, by decide⟩) (fun ds d e ⟨b, i, e1, e2, h1, h2⟩ => ?_)) (fun i j h1 h2 => ?_))
      (am_cons (R := intP fun i => 0 < i ∧ i.natAbs < 2 ^ 17) (em_call 0 (ok__law_pick T) hr (am_of (a_cons (e_lst (a_cons e_int (a_cons e_int (a_cons e_int (a_cons e_int (a_cons e_int (a_cons e_int (a_cons e_int a_nil))))))) ) a_nil)) (fun ds e => ⟨_, e, by simp⟩) (fun ds d e ⟨xs, e1, hx⟩ => ?_)) am_nil)) (fun ds ⟨d1, r1, e1, ⟨i, ei, hi⟩, d2, r2, e2, ⟨j, ej, hj0, hj⟩, e3⟩ => ?_)) m fun v d G2 H2 r g2 m2 hv => q v d G2 H2 r g2 m2 hv
    · subst e
      cases e1
      simp at hx
      rcases hx with rfl | rfl | rfl | rfl | rfl | rfl | rfl | rfl <;> exact ⟨_, rfl, by decide⟩
    · subst e
      cases e1
      exact ⟨i, e2, by omega⟩
    · have : (2 : Nat) ^ 17 = 131072 := by decide
      omega
    · subst e
      cases e1
      simp at hx
      rcases hx with rfl | rfl | rfl | rfl | rfl | rfl | rfl <;> exact ⟨_, rfl, by decide, by decide⟩
    · subst e1 e2 e3 ei ej
      exact ⟨_, ⟨i, j, rfl, by omega, lt_pow hi (by decide), lt_pow hj (by decide), rfl⟩, _, rfl, sz_divInt hj0 hi hj⟩
end
end K00

/-! D8: loops over a known list; appending ints to a list of one's own. -/
namespace DL
open PySem PySem.Spec PyProof.Rows L2 SX
section
variable {X : Cx} {σ : L2.St} {G H : Hp} {l : Addr} {a b e : Expr} {es : List Expr} {pos p p1 p2 : Pos} {d : D} {ds : List D} {i j : Int} {x y : Str} {k : Nat} {rest body : List Stmt} {Z : Ends}
/-- weaker ends -/
theorem wB_weak {st : List Stmt} {Z0 : Ends} (h : wB X st Z0 σ H) (h1 : ∀ σ H, Z0.nx σ H → Z.nx σ H) (h2 : ∀ v H, Z0.rt v H → Z.rt v H) (h3 : ∀ σ H, Z0.bk σ H → Z.bk σ H) (h4 : ∀ σ H, Z0.ct σ H → Z.ct σ H) : wB X st Z σ H := by
  obtain ⟨t, ht, q⟩ := h
  refine ⟨fun Z σ H => ∃ Z0 : Ends, t Z0 σ H ∧ (∀ σ H, Z0.nx σ H → Z.nx σ H) ∧ (∀ v H, Z0.rt v H → Z.rt v H) ∧ (∀ σ H, Z0.bk σ H → Z.bk σ H) ∧ (∀ σ H, Z0.ct σ H → Z.ct σ H), ⟨fun pins s σ H D I ⟨Z0, q, g1, g2, g3, g4⟩ => ?_⟩, Z0, q, h1, h2, h3, h4⟩
  refine thn (ht.run pins s σ H Z0 I q) fun f s' r => ?_
  cases f with
  | next => obtain ⟨σ', H', I', z⟩ := r; exact ⟨σ', H', I', g1 _ _ z⟩
  | brk => obtain ⟨σ', H', I', z⟩ := r; exact ⟨σ', H', I', g3 _ _ z⟩
  | cont => obtain ⟨σ', H', I', z⟩ := r; exact ⟨σ', H', I', g4 _ _ z⟩
  | ret u => obtain ⟨v, σ', H', I', z1, z2⟩ := r; exact ⟨v, σ', H', I', z1, g2 _ _ z2⟩
/-- an if without else, behind which Post holds -/
theorem s_whenP {c : Expr} {k : Bool} (Post : L2.St → Hp → Prop) (h : T X c σ G k) (gh : Ex G H) (h1 : k = true → ∀ G' H', Nx G H G' H' → wB X body { Z with nx := Post } σ H') (h2 : k = false → ∀ G' H', Nx G H G' H' → Post σ H') (h3 : ∀ σ H, Post σ H → wB X rest Z σ H) : wB X (.If c body [] pos :: rest) Z σ H :=
  s_when h gh (fun z G' H' n => wB_weak (h1 z G' H' n) (fun σ H p => h3 σ H p) (fun _ _ z => z) (fun _ _ z => z) fun _ _ z => z) fun z G' H' n => h3 σ H' (h2 z G' H' n)
/-- a product one of whose factors is small -/
theorem e_mulS64 (ha : E X a σ G (.int i)) (hb : E X b σ G (.int j)) (h1 : -(2 ^ 64) < j) (h2 : j < 2 ^ 64) : E X (.BinOp a .Mult b pos) σ G (.int (i * j)) := e_opI op_mul ha hb (.inr ⟨h1, h2⟩) rfl
theorem e_pow (ha : E X a σ G (.int i)) (hb : E X b σ G (.int j)) (hc : CPow i j) : E X (.BinOp a .Pow b pos) σ G (.int (i ^ j.toNat)) := e_opI op_pow ha hb hc rfl
/-- for x in xs, a list that is known -/
theorem s_forL (i : Nat) {xs : List D} {px : Pos} (hp : PassesOwn (model X.prog X.w) X.A X.env X.xe) (hcalm : X.calm = true) (hN : X.N.Nodup) (ha : E X e σ G (.list xs)) (gh : Ex G H)
    (hk : ∀ G1 H1 vx, Nx G H G1 H1 → DpAll X.K G1 vx xs → ∃ Pv : Nat → L2.St → Hp → Prop, Pv 0 σ H1 ∧ (∀ k σ' H', Pv k σ' H' → Ex G1 H') ∧
      (∀ k v d σ' H', xs[k]? = some d → Dp X.K G1 v d → Pv k σ' H' → wB X body { Z with nx := Pv (k + 1), ct := Pv (k + 1), bk := wB X rest Z } (σ'.set i (some v)) H') ∧ (∀ σ' H', Pv xs.length σ' H' → wB X rest Z σ' H'))
    (hpl : PI X (.Name x px) e (iList X.K (wE X e))) (hs0 : ∀ y, foldedSetIterable e X.env y = pure y := by intro _; rfl) (hi : X.N[i]? = some x := by rfl) (hx : L2.Loc X.env.scope x := by first | exact Or.inl rfl | exact Or.inr rfl) (hf : X.fn x = true ∨ X.env.scope.names.lookup x = some .local := by first | exact .inl rfl | exact .inr rfl | assumption) :
    wB X (.For (.Name x px) e body [] pos :: rest) Z σ H :=
  s_cons ⟨_, ps_for hp hcalm hpl (pg_name hN hi hx hf) pss_w hs0, ha G H (Evl.Ex.refl _) gh _ fun u G1 H1 n hu => by
    obtain ⟨a, vx, rfl, hl, hv⟩ := Dp.lst_inv hu
    obtain ⟨Pv, h0, hG, hs, hd⟩ := hk G1 H1 vx n hv
    refine ⟨a, rfl, ⟨vx, Evl.ex_l n.gh hl⟩, for_list (xs := vx) Pv h0 (fun k σ' H' _ Pk => Evl.ex_l (hG k σ' H' Pk) hl) (fun k v σ' H' hk' Pk => ?_) fun σ' H' Pk => hd σ' H' (by rw [← DpAll.len hv]; exact Pk)⟩
    obtain ⟨d, hd', dv⟩ := DpAll.getV hv hk'
    exact hs k v d σ' H' hd' dv Pk⟩
/-- an own list of ints, n at the most -/
structure MB (G H : Hp) (l : Addr) (n : Nat) : Prop where
  gh : Ex G H
  gl : G l = Option.none
  hl : ∃ ns : List Int, H l = some (.lst (ns.map V.int)) ∧ ns.length ≤ n
theorem MB.mo {n : Nat} (m : MB G H l n) : MO G H l := ⟨m.gh, m.gl, let ⟨ns, h, _⟩ := m.hl; ⟨ns, h⟩⟩
theorem MB.step {n : Nat} {G' H' : Hp} (m : MB G H l n) (z : Nx G H G' H') : MB G' H' l n := by
  obtain ⟨ns, h, hn⟩ := m.hl
  exact ⟨z.gh, (z.beside m.gl h).1, ns, (z.beside m.gl h).2, hn⟩
theorem MB.up {m n : Nat} (z : MB G H l m) (h : m ≤ n) : MB G H l n := ⟨z.gh, z.gl, let ⟨ns, h1, h2⟩ := z.hl; ⟨ns, h1, Nat.le_trans h2 h⟩⟩
/-- x = [] -/
theorem sb_new (i : Nat) {pos' pl : Pos} (gh : Ex G H) (hN : X.N.Nodup) (q : ∀ l H', MB G H' l 0 → wB X rest Z (σ.set i (some (.ref l))) H') (hi : X.N[i]? = some x := by rfl) (hx : L2.Loc X.env.scope x := by first | exact Or.inl rfl | exact Or.inr rfl)
    (hs : swapsWith (.List [] pl) (some (.Name x pos')) pos.line X.env = pure false := by rfl) (hf : X.fn x = true ∨ X.env.scope.names.lookup x = some .local := by first | exact .inl rfl | exact .inr rfl | assumption) : wB X (.Assign [.Name x pos'] (.List [] pl) pos :: rest) Z σ H :=
  s_setL i gh hN (fun l H' L => q l H' ⟨L.gh, L.gl, [], L.hl, Nat.le_refl _⟩) hi hx hs hf
/-- x.append(e), e an int -/
theorem sb_app (i : Nat) {n : Nat} {j : Int} {pe apos pos' : Pos} (m : MB G H l n) (hσ : σ[i]? = some (some (.ref l))) (ha : E X e σ G (.int j)) (hz : n ≤ 90000)
    (q : ∀ G' H', Ex G G' → MB G' H' l (n + 1) → wB X rest Z σ H')
    (hN : X.N[i]? = some x := by rfl) (hv : Vis X.env.scope x := by first | exact Or.inl rfl | exact Or.inr (Or.inl rfl) | exact Or.inr (Or.inr rfl)) (h1 : (x == ("__debug__" : Str)) = false := by decide) (h2 : (x == ("__classdict__" : Str)) = false := by decide)
    (hs : swapsWith (.Call (.Attribute (.Name x pe) "append" apos) [e] [] pos') Option.none pos.line X.env = pure false := by rfl)
    (hbase : attributeBase (.Name x pe) "append" X.env (eval (.Name x pe) X.env) = eval (.Name x pe) X.env := by rfl)
    (hfew : ((backTo pos' (starEach [e] X.env)).all (fun x => !x.1) && (backToKw pos' (keywordEach [] X.env)).all (fun x => x.1.isSome)
      && decide (([e] : List Expr).length + ([] : List Keyword).length + (if ([] : List Keyword).isEmpty then 0 else 1) < 30)) = true := by rfl)
    (hline : (apos.endLine == pos'.line) = true := by rfl) (hst : starEach [e] X.env = (false, eval e X.env) :: starEach [] X.env := by rfl) (hplain : (backTo pos' (starEach [] X.env)).any (·.1) = false := by rfl) :
    wB X (.Expr (.Call (.Attribute (.Name x pe) "append" apos) [e] [] pos') pos :: rest) Z σ H := by
  obtain ⟨ns, hl, hn⟩ := m.hl
  refine s_cons ⟨_, ps_expr (pe_bm PySem.F.plainAttrs_list PySem.F.slot_list_append PySem.F.type_list_append mt_append (pe_var hN hv h1 h2) (pa_cons pe_w pa_nil hst) hbase hfew hline hst hplain) hs,
    ⟨.ref l, hσ, .inl ⟨rfl, _, .inl (.inl hl)⟩, ha G H (Evl.Ex.refl _) m.gh _ fun v G' H' n' hv' => ?_⟩⟩
  have hl' := (n'.beside m.gl hl)
  cases hv'
  refine ⟨l, ns.map V.int, .int j, rfl, rfl, hl'.2, by rw [List.length_map]; exact Evl.sz_lt (by omega), q G' _ n'.g ?_⟩
  have e : ns.map V.int ++ [V.int j] = (ns ++ [j]).map V.int := by rw [List.map_append]; rfl
  rw [e]
  exact ⟨fun a u q => by
    rw [upd_ne (fun z => by rw [z, hl'.1] at q; cases q)]
    exact n'.gh a u q, hl'.1, ns ++ [j], upd_same, by rw [List.length_append, List.length_singleton]; omega⟩
/-- return list(reversed(x)), x the own list -/
theorem sb_retRev (i : Nat) {n : Nat} {p3 p4 pos2 : Pos} (hcalm : X.calm = true) (m : MB G H l n) (hσ : σ[i]? = some (some (.ref l))) (hm : X.mg "list" = Option.none) (hm2 : X.mg "reversed" = Option.none) (q : ∀ l' H', MO G H' l' → Z.rt (.ref l') H')
    (hN : X.N[i]? = some x := by rfl) (hv : Vis X.env.scope x := by first | exact Or.inl rfl | exact Or.inr (Or.inl rfl) | exact Or.inr (Or.inr rfl)) (h1 : (x == ("__debug__" : Str)) = false := by decide) (h2 : (x == ("__classdict__" : Str)) = false := by decide)
    (hg : Gl X "list" := by rfl) (hg2 : Gl X "reversed" := by rfl)
    (hs : starEach [.Name x p3] X.env = (false, eval (.Name x p3) X.env) :: starEach [] X.env := by rfl)
    (hs2 : starEach [.Call (.Name "reversed" p2) [.Name x p3] [] pos2] X.env = (false, eval (.Call (.Name "reversed" p2) [.Name x p3] [] pos2) X.env) :: starEach [] X.env := by rfl) :
    wB X (.Return (some (.Call (.Name "list" p) [.Call (.Name "reversed" p2) [.Name x p3] [] pos2] [] p4)) pos :: rest) Z σ H := by
  obtain ⟨ns, hl, hn⟩ := m.hl
  refine s_cons ⟨_, ps_ret (pe_listRev hcalm hg hm hg2 hm2 (pe_var hN hv h1 h2) hs hs2), .ref l, hσ, l, ns.map V.int, rfl, .inl (.inl hl), fun r hr => q r _ ?_⟩
  rw [← List.map_reverse]
  exact ⟨m.gh.trans (Evl.Ex.new hr), Evl.fresh_back m.gh hr, _, upd_same⟩
end
end DL

/-! K10: the draws are made. -/
namespace K00
open PySem PySem.Spec PyProof.Rows L2 DL SX
section
variable {P : Program} {w : World} {K : PySem.W.Frag} {mg : Str → Option Value} {base : Heap}
theorem at0 (d : D) (ds : List D) : atI (d :: ds) 0 = some d := by
  unfold atI ixN
  rw [if_pos (Int.le_refl 0), if_pos (by rw [List.length_cons]; omega)]
  rfl
def spD (K : PySem.W.Frag) : Sp := fun us H Q _ => ∃ (u : V) (ns : List Int) (G : Hp), us = [u] ∧ ns.length ≤ 1000 ∧ Ex G H ∧ Dp K G u (.list (ns.map PyData.int)) ∧ ∀ l G' H', Ex G G' → MO G' H' l → Q (.ref l) H'
theorem ok__law_draws (T : Txt K mg) : ∃ f, mg "_law_draws" = some (.ref f) ∧ PySem.W.keepIn K (.ref f) = true ∧ FnR P w K mg base CX0 1 f (spD K) := by
  obtain ⟨f, fd, h1, F, hb⟩ := T.h__law_draws
  refine ⟨f, h1, F.kp, FnOk.pos (F.ok sc__law_draws (fun vs H Q E ⟨u, ns, G, e, _⟩ => by rw [e]; rfl) fun cdv A outer s H vs Q xk hr ⟨u, ns, G, e, hn, g, hu, q⟩ => ?_) hb⟩
  subst e
  refine ⟨_, pss_w, ?_⟩
  show wB (cxOf CX0 P w K mg base N__law_draws "_law_draws" (defScope s__law_draws) f cdv A outer s H xk).nox (defBody s__law_draws) _ [some u, Option.none, Option.none, Option.none, Option.none, Option.none, Option.none] H
  refine sb_new 1 g sc__law_draws.nd fun l H1 m1 => ?_
  refine s_forL 2 .never rfl sc__law_draws.nd (e_var 0 hu) m1.gh (fun G2 H2 vx n2 dvx => ⟨fun i σ H' => ∃ (a b c e : Option V) (G' : Hp), σ = [some u, some (.ref l), a, b, c, e, Option.none] ∧ Ex G2 G' ∧ MB G' H' l (62 * i), ⟨Option.none, Option.none, Option.none, Option.none, G2, rfl, Evl.Ex.refl _, m1.step n2⟩, fun k σ' H' ⟨a, b, c, e, G', _, g', m'⟩ => g'.trans m'.gh, fun k v d σ H3 hd dv ⟨a, b, c, e, G3, eσ, g3, m3⟩ => ?_, fun σ H3 ⟨a, b, c, e, G3, eσ, g3, m3⟩ => ?_⟩) (pi_list pe_w)
  · subst eσ
    have hk : k < ns.length := by
      have := (List.getElem?_eq_some_iff.mp hd).1
      rwa [List.length_map] at this
    obtain ⟨z, rfl⟩ : ∃ z : Int, d = .int z := by
      rw [List.getElem?_map] at hd
      cases hq : ns[k]? with
      | none => rw [hq] at hd; cases hd
      | some z => rw [hq] at hd; exact ⟨z, (Option.some.inj hd).symm⟩
    cases dv
    refine s_set 3 (e_abs T.b_abs (e_var 2 (.int _))) m3.gh sc__law_draws.nd fun v4 G4 H4 n4 h4 => ?_
    cases h4
    have m4 := m3.step n4
    refine s_whenP (fun σ H' => ∃ (nb : Int) (c e : Option V) (G' : Hp), 0 ≤ nb ∧ σ = [some u, some (.ref l), some (.int z), some (.int nb), c, e, Option.none] ∧ Ex G2 G' ∧ MB G' H' l (62 * k + 2)) (t_lt (e_var 3 (.int _)) (e_pow e_int e_int ⟨by decide, by decide, by decide⟩)) m4.gh (fun h5 G5 H5 n5 => ?_) (fun h5 G5 H5 n5 => ?_) fun σ H5 ⟨nb, c', e', G5, h0, eσ, g5, m5⟩ => ?_
    · have m5 := m4.step n5
      refine s_set 4 (e_mod (e_intI T.b_int (e_add (e_mulS64 (e_var 3 (.int _)) e_int (by decide) (by decide)) e_int)) e_int (by decide)) m5.gh sc__law_draws.nd fun v6 G6 H6 n6 h6 => ?_
      cases h6
      have m6 := m5.step n6
      refine sb_app 1 m6 rfl (e_mod (e_intI T.b_int (e_add (e_mulS64 (e_var 4 (.int _)) e_int (by decide) (by decide)) (e_var 3 (.int _)))) e_int (by decide)) (by omega) fun G7 H7 g7 m7 => ?_
      refine sb_app 1 m7 rfl (e_mod (e_intI T.b_int (e_add (e_var 4 (.int _)) (e_div (e_var 3 (.int _)) e_int (divOK (b := 4) (by decide) (by decide) (by decide))))) e_int (by decide)) (by omega) fun G8 H8 g8 m8 => ?_
      refine s_set 3 e_int m8.gh sc__law_draws.nd fun v9 G9 H9 n9 h9 => s_nil ?_
      cases h9
      exact ⟨0, _, e, G9, Int.le_refl _, rfl, ((((g3.trans n4.g).trans n5.g).trans n6.g).trans g7).trans (g8.trans n9.g), m8.step n9⟩
    · exact ⟨(z.natAbs : Int), c, e, G5, Int.natCast_nonneg _, rfl, ((g3.trans n4.g).trans n5.g), (m4.step n5).up (by omega)⟩
    · subst eσ
      refine s_forR 5 (n := 60) .never rfl sc__law_draws.nd T.b_range (a_cons e_int a_nil) m5.gh (by decide) (fun j σ H' => ∃ (nb : Int) (e : Option V) (G' : Hp), 0 ≤ nb ∧ σ = [some u, some (.ref l), some (.int z), some (.int nb), c', e, Option.none] ∧ Ex G2 G' ∧ MB G' H' l (62 * k + 2 + j)) (fun G6 H6 n6 => ⟨nb, e', G6, h0, rfl, g5.trans n6.g, m5.step n6⟩) (fun j σ H6 hj ⟨nb, e'', G6, h0, eσ, g6, m6⟩ => ?_) fun σ H6 ⟨nb, e'', G6, h0, eσ, g6, m6⟩ => ?_
      · subst eσ
        refine s_when (t_gt (e_var 3 (.int _)) e_int) m6.gh (fun h7 G7 H7 n7 => ?_) fun h7 G7 H7 n7 => s_nil ⟨nb, _, G7, h0, rfl, g6.trans n7.g, (m6.step n7).up (by omega)⟩
        refine sb_app 1 (m6.step n7) rfl (e_mod (e_intI T.b_int (e_var 3 (.int _))) e_int (by decide)) (by omega) fun G8 H8 g8 m8 => ?_
        refine s_set 3 (e_div (e_var 3 (.int _)) e_int (divOK (b := 12) (by decide) (by decide) (by decide))) m8.gh sc__law_draws.nd fun v9 G9 H9 n9 h9 => s_nil (s_nil ?_)
        cases h9
        exact ⟨_, _, G9, Int.ediv_nonneg h0 (by decide), rfl, ((g6.trans n7.g).trans g8).trans n9.g, m8.step n9⟩
      · subst eσ
        exact s_nil ⟨_, _, _, _, G6, rfl, g6, m6.up (by omega)⟩
  · subst eσ
    rw [List.length_map] at m3
    have hu3 := Dp.mono (n2.g.trans g3) hu
    refine s_set 6 e_int m3.gh sc__law_draws.nd fun v4 G4 H4 n4 h4 => ?_
    cases h4
    have m4 := m3.step n4
    have hu4 := Dp.mono n4.g hu3
    refine s_whenP (fun σ H' => ∃ (sd : Int) (G' : Hp), σ = [some u, some (.ref l), a, b, c, e, some (.int sd)] ∧ MB G' H' l (62 * ns.length) ∧ Ex G G') (t_gt (e_len T.b_len (e_var 0 hu4) (.inr rfl)) e_int) m4.gh (fun h5 G5 H5 n5 => ?_) (fun h5 G5 H5 n5 => ⟨1, G5, rfl, m4.step n5, ((n2.g.trans g3).trans n4.g).trans n5.g⟩) fun σ H5 ⟨sd, G5, eσ, m5, g5⟩ => ?_
    · have hlen : 0 < (ns.map PyData.int).length := by
        have := of_decide_eq_true h5
        omega
      obtain ⟨y, ys, ey⟩ : ∃ y ys, ns = y :: ys := by
        cases ns with
        | nil => exact absurd hlen (by decide)
        | cons y ys => exact ⟨y, ys, rfl⟩
      refine s_set 6 (e_add e_int (e_abs T.b_abs (e_ixL (i := 0) (d := .int y) (e_var 0 (Dp.mono n5.g hu4)) e_int (by rw [ey]; exact at0 _ _)))) (m4.step n5).gh sc__law_draws.nd fun v6 G6 H6 n6 h6 => s_nil ?_
      cases h6
      exact ⟨_, G6, rfl, (m4.step n5).step n6, (((n2.g.trans g3).trans n4.g).trans n5.g).trans n6.g⟩
    · subst eσ
      refine s_forR 5 (n := 3000) .never rfl sc__law_draws.nd T.b_range (a_cons e_int a_nil) m5.gh (by decide) (fun j σ H' => ∃ (sd : Int) (e : Option V) (G' : Hp), σ = [some u, some (.ref l), a, b, c, e, some (.int sd)] ∧ MB G' H' l (62 * ns.length + j) ∧ Ex G G') (fun G6 H6 n6 => ⟨sd, e, G6, rfl, m5.step n6, g5.trans n6.g⟩) (fun j σ H6 hj ⟨sd, e', G6, eσ, m6, g6⟩ => ?_) fun σ H6 ⟨sd, e', G6, eσ, m6, g6⟩ => ?_
      · subst eσ
        refine s_set 6 (e_mod (e_intI T.b_int (e_add (e_mulS64 (e_var 6 (.int _)) e_int (by decide) (by decide)) e_int)) e_int (by decide)) m6.gh sc__law_draws.nd fun v7 G7 H7 n7 h7 => ?_
        cases h7
        refine sb_app 1 (m6.step n7) rfl (e_div (e_var 6 (.int _)) e_int (divOK (b := 4) (by decide) (by decide) (by decide))) (by omega) fun G8 H8 g8 m8 => s_nil ?_
        exact ⟨_, _, G8, rfl, m8.up (by omega), (g6.trans n7.g).trans g8⟩
      · subst eσ
        exact sb_retRev 1 rfl m6 rfl T.b_list T.b_reversed fun l' H' m' => q l' G6 H' g6 m'
end
end K00

/-! K11: deep sameness. -/
namespace K00
open PySem PySem.Spec PyProof.Rows L2 DL SX
mutual
/-- due, actual -/
def sameD : D → D → Bool
  | .none, a => isN a
  | .bool b, .bool c => decide (c = b)
  | .int i, .int j => decide (j = i)
  | .str s, .str t => decide (t = s)
  | .tuple ds, .tuple es => sameAll ds es
  | .list ds, .list es => sameAll ds es
  | _, _ => false
def sameAll : List D → List D → Bool
  | [], [] => true
  | d :: ds, e :: es => sameD d e && sameAll ds es
  | _, _ => false
end
/-- no dict, no deeper than n -/
def Fl : Nat → D → Prop
  | _, .dict _ => False
  | 0, .tuple _ => False
  | 0, .list _ => False
  | n + 1, .tuple ds => ds.length ≤ 1000 ∧ ∀ x ∈ ds, Fl n x
  | n + 1, .list ds => ds.length ≤ 1000 ∧ ∀ x ∈ ds, Fl n x
  | _, _ => True
theorem sameAll_len : ∀ {ds es : List D}, sameAll ds es = true → es.length = ds.length
  | [], [], _ => rfl
  | _ :: _, _ :: _, h => by
    rw [sameAll, Bool.and_eq_true] at h
    rw [List.length_cons, List.length_cons, sameAll_len h.2]
  | [], _ :: _, h => by simp [sameAll] at h
  | _ :: _, [], h => by simp [sameAll] at h
theorem sameAll_at : ∀ {ds es : List D} {i : Nat} {d e : D}, sameAll ds es = true → ds[i]? = some d → es[i]? = some e → sameD d e = true
  | d :: ds, e :: es, 0, _, _, h, h1, h2 => by
    rw [sameAll, Bool.and_eq_true] at h
    simp at h1 h2
    subst h1 h2
    exact h.1
  | d :: ds, e :: es, i + 1, _, _, h, h1, h2 => by
    rw [sameAll, Bool.and_eq_true] at h
    exact sameAll_at h.2 (by simpa using h1) (by simpa using h2)
  | [], _, _, _, _, _, h1, _ => by simp at h1
  | _ :: _, [], _, _, _, _, _, h2 => by simp at h2
theorem sameAll_of : ∀ {ds es : List D}, es.length = ds.length → (∀ (i : Nat) (d e : D), ds[i]? = some d → es[i]? = some e → sameD d e = true) → sameAll ds es = true
  | [], [], _, _ => by rw [sameAll]
  | d :: ds, e :: es, hl, h => by
    rw [sameAll, Bool.and_eq_true]
    refine ⟨h 0 d e rfl rfl, sameAll_of (by simpa using hl) fun i d e h1 h2 => h (i + 1) d e (by simpa using h1) (by simpa using h2)⟩
  | [], _ :: _, hl, _ => by simp at hl
  | _ :: _, [], hl, _ => by simp at hl
theorem same_refl : ∀ {n : Nat} {d : D}, Fl n d → sameD d d = true
  | n, .none, _ => by rw [sameD]; rfl
  | n, .bool b, _ => by rw [sameD]; exact decide_eq_true rfl
  | n, .int i, _ => by rw [sameD]; exact decide_eq_true rfl
  | n, .str s, _ => by rw [sameD]; exact decide_eq_true rfl
  | n + 1, .tuple ds, h => by
    rw [sameD]
    exact sameAll_of rfl fun i d e h1 h2 => by
      rw [h1] at h2; cases h2
      exact same_refl (n := n) (h.2 d (List.mem_of_getElem? h1))
  | n + 1, .list ds, h => by
    rw [sameD]
    exact sameAll_of rfl fun i d e h1 h2 => by
      rw [h1] at h2; cases h2
      exact same_refl (n := n) (h.2 d (List.mem_of_getElem? h1))
  | n, .dict _, h => by cases n <;> exact h.elim
  | 0, .tuple _, h => h.elim
  | 0, .list _, h => h.elim
theorem kinds_ne {due a : D} (h2 : (isT due || isL due) = true) (h3 : ((!decide (isT due = isT a)) || (!decide (isL due = isL a))) = true) : sameD due a = false := by
  cases due <;> cases a <;> simp_all [isT, isL, sameD]
theorem kinds_eq {due a : D} (h2 : (isT due || isL due) = true) (h3 : ((!decide (isT due = isT a)) || (!decide (isL due = isL a))) = false) : ∃ ds es, ((due = .tuple ds ∧ a = .tuple es) ∨ (due = .list ds ∧ a = .list es)) := by
  cases due <;> cases a <;> simp_all [isT, isL]
theorem scal_B {due a : D} (hn : isN due = false) (h2 : (isT due || isL due) = false) (hB : (!decide (isB due = isB a)) = true) : sameD due a = false := by
  cases due <;> cases a <;> simp_all [isT, isL, isB, isN, sameD]
theorem scal_IS {due a : D} (hn : isN due = false) (h2 : (isT due || isL due) = false) (hB : (!decide (isB due = isB a)) = false) (h3 : ((!decide (isI due = isI a)) || (!decide (isS due = isS a))) = true) : sameD due a = false := by
  cases due <;> cases a <;> simp_all [isT, isL, isB, isI, isS, isN, sameD]
theorem scal_eq {n : Nat} {due a : D} (hf : Fl n due) (hn : isN due = false) (h2 : (isT due || isL due) = false) (hB : (!decide (isB due = isB a)) = false) (h3 : ((!decide (isI due = isI a)) || (!decide (isS due = isS a))) = false) :
    isSc a = true ∧ isSc due = true ∧ scal (vOf a) (vOf due) = true ∧ decide (vOf a = vOf due) = sameD due a := by
  cases due <;> cases a <;> simp_all [isT, isL, isB, isI, isS, isN, sameD, isSc, vOf, scal]
  all_goals first | (cases n <;> exact hf.elim) | skip
theorem seq_same {due a : D} {ds es : List D} (h : (due = .tuple ds ∧ a = .tuple es) ∨ (due = .list ds ∧ a = .list es)) : sameD due a = sameAll ds es := by
  rcases h with ⟨rfl, rfl⟩ | ⟨rfl, rfl⟩ <;> rw [sameD]
theorem seq_fl {n : Nat} {due a : D} {ds es : List D} (h : (due = .tuple ds ∧ a = .tuple es) ∨ (due = .list ds ∧ a = .list es)) (hf : Fl n due) : ∃ m, n = m + 1 ∧ ds.length ≤ 1000 ∧ ∀ x ∈ ds, Fl m x := by
  cases n with
  | zero => rcases h with ⟨rfl, rfl⟩ | ⟨rfl, rfl⟩ <;> exact hf.elim
  | succ m => exact ⟨m, rfl, by rcases h with ⟨rfl, rfl⟩ | ⟨rfl, rfl⟩ <;> exact hf⟩
theorem fl_nodict {n : Nat} {d : D} (hf : Fl n d) : isDc d = false := by
  cases d <;> first | rfl | (cases n <;> exact hf.elim)
theorem atN {ds : List D} {k : Nat} {d : D} (h : ds[k]? = some d) : atI ds (k : Int) = some d := by
  have hk := (List.getElem?_eq_some_iff.mp h).1
  unfold atI ixN
  rw [if_pos (by omega), if_pos (by omega)]
  show ds[((k : Nat) : Int).toNat]? = some d
  rw [Int.toNat_natCast]; exact h
section
variable {X : Cx} {σ : L2.St} {G : Hp} {a b : Expr} {pos : Pos} {da d : D} {ds : List D} {i : Int}
theorem e_ixS (ha : E X a σ G da) (hd : da = .tuple ds ∨ da = .list ds) (hb : E X b σ G (.int i)) (h : atI ds i = some d) (hs : PlainIx b := by exact fun _ _ => rfl) : E X (.Subscript a b pos) σ G d := by
  rcases hd with rfl | rfl
  · exact e_ixT ha hb h hs
  · exact e_ixL ha hb h hs
theorem decB (a b : Bool) : decide (V.bl a = V.bl b) = decide (a = b) := by cases a <;> cases b <;> rfl
theorem t_neB {k l : Bool} (ha : E X a σ G (.bool k)) (hb : E X b σ G (.bool l)) : T X (.Compare a [.NotEq] [b] pos) σ G (!decide (k = l)) := t_is (t_ne ha hb rfl rfl rfl) (by rw [show vOf (.bool k) = V.bl k from rfl, show vOf (.bool l) = V.bl l from rfl, decB])
end
section
variable {P : Program} {w : World} {K : PySem.W.Frag} {mg : Str → Option Value} {base : Heap}
def R_same (n : Nat) : List D → D → Prop := fun ds d => ∃ a due, ds = [a, due] ∧ Fl n due ∧ d = .bool (sameD due a)
theorem ok__law_same (T : Txt K mg) : ∀ n : Nat, PFn P w K mg base (n + 1) "_law_same" (R_same n)
  | n => by
    refine pfn_of T.h__law_same sc__law_same (fun ds d ⟨a, b, e, _⟩ => by rw [e]; rfl) fun cdv A outer s f H Q xk hr ds d G vs ⟨a, due, e, hf, ed⟩ g hv q => ?_
    subst e ed
    obtain ⟨u, x, rfl, hu, hx⟩ := all2 hv
    refine s_when (t_isN (e_var 1 hx)) g (fun h G1 H1 n1 => ?_) fun h G1 H1 n1 => ?_
    · have hd : due = .none := by cases due <;> first | rfl | cases h
      subst hd
      rw [sameD] at q
      exact s_ret (e_isN (e_var 0 (Dp.mono n1.g hu))) n1.gh fun v G2 H2 n2 h2 => q v G2 H2 (n1.trans n2) h2
    · have hu1 := Dp.mono n1.g hu
      have hx1 := Dp.mono n1.g hx
      refine s_when (k := isT due || isL due) (t_or (t_val (e_isi T.b_isinstance T.b_tuple (by decide +kernel) (e_var 1 hx1) (kit_tuple _))) fun _ => t_val (e_isi T.b_isinstance T.b_list (by decide +kernel) (e_var 1 hx1) (kit_list _))) n1.gh (fun h2 G2 H2 n2 => ?_) fun h2 G2 H2 n2 => ?_
      · have hu2 := Dp.mono n2.g hu1
        have hx2 := Dp.mono n2.g hx1
        refine s_when (k := (!decide (isT due = isT a)) || (!decide (isL due = isL a))) (t_or (t_neB (e_isi T.b_isinstance T.b_tuple (by decide +kernel) (e_var 1 hx2) (kit_tuple _)) (e_isi T.b_isinstance T.b_tuple (by decide +kernel) (e_var 0 hu2) (kit_tuple _)))
          fun _ => t_neB (e_isi T.b_isinstance T.b_list (by decide +kernel) (e_var 1 hx2) (kit_list _)) (e_isi T.b_isinstance T.b_list (by decide +kernel) (e_var 0 hu2) (kit_list _))) n2.gh (fun h3 G3 H3 n3 => ?_) fun h3 G3 H3 n3 => ?_
        · have e0 := kinds_ne h2 h3
          rw [e0] at q
          exact s_ret e_bl n3.gh fun v G4 H4 n4 h4 => q v G4 H4 (((n1.trans n2).trans n3).trans n4) h4
        · obtain ⟨ds, es, hk⟩ := kinds_eq h2 h3
          have hkd : due = .tuple ds ∨ due = .list ds := hk.imp (·.1) (·.1)
          have hka : a = .tuple es ∨ a = .list es := hk.imp (·.2) (·.2)
          obtain ⟨m, rfl, hbig, hfl⟩ := seq_fl hk hf
          rw [seq_same hk] at q
          have hu3 := Dp.mono n3.g hu2
          have hx3 := Dp.mono n3.g hx2
          refine s_when (t_neI (e_len T.b_len (e_var 0 hu3) hka) (e_len T.b_len (e_var 1 hx3) hkd)) n3.gh (fun h4 G4 H4 n4 => ?_) fun h4 G4 H4 n4 => ?_
          · have e0 : sameAll ds es = false := by
              cases hs : sameAll ds es with
              | false => rfl
              | true =>
                have := sameAll_len hs
                rw [this] at h4
                simp at h4
            rw [e0] at q
            exact s_ret e_bl n4.gh fun v G5 H5 n5 h5 => q v G5 H5 ((((n1.trans n2).trans n3).trans n4).trans n5) h5
          · have hlen : es.length = ds.length := by
              have : decide ((es.length : Int) = (ds.length : Int)) = true := by simpa using h4
              have := of_decide_eq_true this
              omega
            have hu4 := Dp.mono n4.g hu3
            have hx4 := Dp.mono n4.g hx3
            have N4 := ((n1.trans n2).trans n3).trans n4
            refine s_forR 2 (n := ds.length) .never rfl sc__law_same.nd T.b_range (a_cons (e_len T.b_len (e_var 1 hx4) hkd) a_nil) n4.gh (Nat.le_trans hbig (by decide)) (fun i σ H' => ∃ (o : Option V) (G' : Hp), σ = [some u, some x, o, Option.none] ∧ Ex G4 G' ∧ Nx G H G' H' ∧ ∀ j d e, j < i → ds[j]? = some d → es[j]? = some e → sameD d e = true)
              (fun G5 H5 n5 => ⟨Option.none, G5, rfl, n5.g, N4.trans n5, fun j d e z => absurd z (Nat.not_lt_zero _)⟩) (fun i σ H5 hi ⟨o, G5, eσ, g5, n5, hall⟩ => ?_) fun σ H5 ⟨o, G5, eσ, g5, n5, hall⟩ => ?_
            · subst eσ
              have e1 : ds[i]? = some ds[i] := List.getElem?_eq_getElem hi
              have e2 : es[i]? = some es[i] := List.getElem?_eq_getElem (by omega)
              refine s_when (t_not (t_val (e_call (ok__law_same T m) hr (a_cons (e_ixS (e_var 0 (Dp.mono g5 hu4)) hka (e_var 2 (.int _)) (atN e2)) (a_cons (e_ixS (e_var 1 (Dp.mono g5 hx4)) hkd (e_var 2 (.int _)) (atN e1)) a_nil)) ⟨_, _, rfl, hfl _ (List.getElem_mem hi), rfl⟩))) n5.gh (fun h6 G6 H6 n6 => ?_) fun h6 G6 H6 n6 => s_nil ?_
              · have h6 : sameD ds[i] es[i] = false := by simpa using h6
                have e0 : sameAll ds es = false := by
                  cases hs : sameAll ds es with
                  | false => rfl
                  | true => rw [sameAll_at hs e1 e2] at h6; cases h6
                rw [e0] at q
                exact s_ret e_bl n6.gh fun v G7 H7 n7 h7 => q v G7 H7 ((n5.trans n6).trans n7) h7
              · have h6 : sameD ds[i] es[i] = true := by simpa using h6
                refine ⟨some (.int (i : Int)), G6, rfl, g5.trans n6.g, n5.trans n6, fun j d e hj f1 f2 => ?_⟩
                by_cases hji : j = i
                · subst hji
                  rw [e1] at f1; rw [e2] at f2
                  cases f1; cases f2
                  exact h6
                · exact hall j d e (by omega) f1 f2
            · subst eσ
              have e0 : sameAll ds es = true := sameAll_of hlen fun j d e f1 f2 => hall j d e (List.getElem?_eq_some_iff.mp f1).1 f1 f2
              rw [e0] at q
              exact s_ret e_bl n5.gh fun v G6 H6 n6 h6 => q v G6 H6 (n5.trans n6) h6
      · refine s_when (k := false) (t_is (t_val (e_isi T.b_isinstance T.b_dict (by decide +kernel) (e_var 1 (Dp.mono n2.g hx1)) (kit_dict _))) (fl_nodict hf)) n2.gh (fun z => nomatch z) fun _ G3 H3 n3 => ?_
        have hu3 := Dp.mono n3.g (Dp.mono n2.g hu1)
        have hx3 := Dp.mono n3.g (Dp.mono n2.g hx1)
        refine s_when (t_neB (e_isi T.b_isinstance T.b_bool (by decide +kernel) (e_var 1 hx3) (kit_bool _)) (e_isi T.b_isinstance T.b_bool (by decide +kernel) (e_var 0 hu3) (kit_bool _))) n3.gh (fun h4 G4 H4 n4 => ?_) fun h4 G4 H4 n4 => ?_
        · rw [scal_B h h2 h4] at q
          exact s_ret e_bl n4.gh fun v G5 H5 n5 h5 => q v G5 H5 ((((n1.trans n2).trans n3).trans n4).trans n5) h5
        · have hu4 := Dp.mono n4.g hu3
          have hx4 := Dp.mono n4.g hx3
          refine s_when (t_or (t_neB (e_isi T.b_isinstance T.b_int (by decide +kernel) (e_var 1 hx4) (kit_int _)) (e_isi T.b_isinstance T.b_int (by decide +kernel) (e_var 0 hu4) (kit_int _)))
            fun _ => t_neB (e_isi T.b_isinstance T.b_str (by decide +kernel) (e_var 1 hx4) (kit_str _)) (e_isi T.b_isinstance T.b_str (by decide +kernel) (e_var 0 hu4) (kit_str _))) n4.gh (fun h5 G5 H5 n5 => ?_) fun h5 G5 H5 n5 => ?_
          · rw [scal_IS h h2 h4 h5] at q
            exact s_ret e_bl n5.gh fun v G6 H6 n6 h6 => q v G6 H6 (((((n1.trans n2).trans n3).trans n4).trans n5).trans n6) h6
          · obtain ⟨s1, s2, s3, s4⟩ := scal_eq hf h h2 h4 h5
            exact s_ret (e_is (e_eq (e_var 0 (Dp.mono n5.g hu4)) (e_var 1 (Dp.mono n5.g hx4)) s1 s2 s3) (by rw [s4])) n5.gh fun v G6 H6 n6 h6 => q v G6 H6 (((((n1.trans n2).trans n3).trans n4).trans n5).trans n6) h6
end
end K00

/-! D9: sums and comprehensions while an exception is handled. -/
namespace DL
open PySem PySem.Spec PyProof.Rows L2 L2H HotX
section
variable {prog : Program} {w : World} {A : Around} {E : Value → Shared → Prop} {s : Shared}
theorem list_end_hot {it l x1 : Addr} {i : Nat} {items : Array Value} {Q : Option Value → Shared → Prop} (hot : HotAt A x1 s.heap) (hne : x1 ≠ it)
    (hit : s.heap.IsListIter it l i) (hl : s.heap.IsList l items) (hx : items[i]? = none)
    (hQ : ∀ h', Heap.ExtBut it s.heap h' → Q none { s with heap := h' }) : wpAny (model prog w) A (pyNext (.ref it)) Q E s := by
  obtain ⟨o, ho, hc, hd⟩ := id hit
  obtain ⟨ol, hol, _, nl, hdl⟩ := hl
  obtain ⟨hh, o1, vs1, h1, d1, c1⟩ := hot
  unfold pyNext
  refine wpAny_bind (wpAny_attempt (wpAny_callSpecial?_slot (name := Str.ofString "__next__") hit.typeIs slot_listiter_next
    (wpAny_call_entry slot_listiter_next hit.typeIs entry_listiter_next ?_ (args_listiter_next _))))
  show wpAny _ _ (field (.ref it) 0 >>= _) _ _ s
  refine wpAny_bind (wpAny_field ho hd (x := .ref l) rfl ?_)
  show wpAny _ _ (if (Value.ref l == Value.none) = true then _ else _) _ _ s
  rw [if_neg (show ¬ ((Value.ref l == Value.none) = true) from Bool.false_ne_true)]
  show wpAny _ _ (field (.ref it) 1 >>= _) _ _ s
  refine wpAny_bind (wpAny_field ho hd (x := .int i 0) rfl ?_)
  show wpAny _ _ (seqItems? (.ref l) >>= _) _ _ s
  refine wpAny_bind (wpAny_seqItems hol hdl ?_)
  simp only [Int.toNat_natCast, hx]
  refine wpAny_bind (wpAny_rule (wpAny_bind (wpAny_setField ho hd (by simp) ?_)))
  show wpAny _ _ (newExc (.type "StopIteration") [] >>= _) _ _ _
  refine wpAny_bind ?_
  simp only [newExc, newTuple]
  refine wpAny_bind (wpAny_newObj_type ?_ (by size_fits))
  refine wpAny_bind (m := firstArgMember _ _) (wpAny_of_eq (a := Value.none) (by first | rfl | (simp only [firstArgMember]; rfl)) ?_)
  refine wpAny_newObj_type ?_ (by size_fits)
  have k1 := (Heap.get?_update_other s.heap (Obj.mapFields (·.setIfInBounds 0 Value.none)) (Ne.symm hne)).trans h1
  refine raiseNew_hot ⟨hh, o1, vs1, Heap.get?_push_of_some _ (Heap.get?_push_of_some _ k1), d1, c1⟩ (Nat.ne_of_lt (Heap.lt_size (Heap.get?_push_of_some _ k1))) (Heap.get?_push_size _ rfl) rfl (by first | (simp; done) | (simp; omega) | (simp only [Array.size_append]; simp; omega)) ?_
  refine wpAny_bind (wpAny_isInstance (T := "StopIteration") (b := true) ⟨_, Heap.get?_update_self _ (Heap.get?_push_size _ rfl) rfl, rfl⟩ isSubtype_stop ?_)
  refine wpAny_pure (hQ _ fun b o hb e => ?_)
  have kb := (Heap.get?_update_other s.heap (Obj.mapFields (·.setIfInBounds 0 Value.none)) (Ne.symm hb)).trans e
  rw [Heap.get?_update_other _ _ (Nat.ne_of_gt (Heap.lt_size (Heap.get?_push_of_some _ kb)))]
  exact Heap.get?_push_of_some _ (Heap.get?_push_of_some _ kb)
/-- a list walked while an exception is handled -/
theorem walks_listH (x1 : Addr) (o1 : Obj) (vs1 : Array Value) (hh : A.handled = some (.ref x1)) (d1 : o1.data = .fields vs1) (c1 : vs1[2]? = some .none) (I ax : Addr) (hne : ax ≠ I) (hx : x1 ≠ I) (items : Array Value) :
    Walks prog w A I [I, ax, x1] [I] items.size (fun i v => items[i]? = some v) (fun i h => h.IsListIter I ax i ∧ h.IsList ax items ∧ h.get? x1 = some o1) where
  sub := fun b hb => by simp at hb; simp [hb]
  frame := fun _ _ _ st hk => ⟨st.1.at fun o e => hk I (by simp) o e, st.2.1.at fun o e => hk ax (by simp) o e, hk x1 (by simp) _ st.2.2⟩
  item := fun i s Q E hi st hQ => by
    refine wpAny_pyNext_list_item st.1 st.2.1 (x := items[i]) (by simp [hi]) fun h' hit' hs' => ?_
    exact hQ _ h' s.toks (by simp [hi]) ⟨hit', st.2.1.extBut hs'.extBut hne, hs'.extBut _ _ hx st.2.2⟩ fun b o hb e => hs'.extBut b o (fun h => hb (by simp [h])) e
  done := fun s Q E st hQ => list_end_hot ⟨hh, o1, vs1, st.2.2, d1, c1⟩ hx st.1 st.2.1 (by simp) fun h' he' => hQ h' s.toks fun b o hb e => he' b o (fun h => hb (by simp [h])) e
  self := fun _ _ _ _ st hQ => wpAny_pyIter_listiter st.1 hQ
end
section
variable {X : Cx}
theorem cr_sumH (hc : HotC X) : CallR X (.builtin "sum") (rSum X.K) := by
  intro pins s σ H vs us Q I r h
  obtain ⟨a, ns, rfl, hs, q⟩ := h
  obtain ⟨its, rv, hl, _⟩ := I.list hs
  rw [Vals.ref1 r]
  obtain ⟨p, ⟨hh, v1, e1, c1⟩, hp⟩ := hc
  have P1 := (I.pin p (List.mem_append_left _ hp)).1
  obtain ⟨xs, e⟩ := rv.ints.allInts.items
  have hn : numsOf (intItems xs).toList = ns := by rw [← e]; exact rv.ints.numsOf
  rw [nums_intItems] at hn
  have hl := hl.isList
  rw [e] at hl
  refine call_sum_walkG (iter_intList hl fun s₂ e st hfp hlI => ?_)
  subst e
  have hlt := Heap.lt_size P1
  refine ⟨_, [s.heap.objs.size, a, p.1], _, _, _, _, numAt xs, rfl, walks_listH (A := X.A.in1) p.1 p.2 v1 hh e1 c1 _ a hlI (Nat.ne_of_lt hlt) (intItems xs), ⟨st.1, st.2, Heap.get?_push_of_some _ P1⟩, fun b hb => ?_, (fun _ _ => intItems_at), fun h' tk t' hk => ?_⟩
  · rcases List.mem_cons.mp hb with z | hb
    · exact hfp b (by simp [z])
    · rcases List.mem_cons.mp hb with z | hb
      · exact hfp b (by simp [z])
      · rw [List.mem_singleton.mp hb]
        show p.1 < (s.heap.push _).objs.size
        rw [Heap.size_push]; exact Nat.lt_succ_of_lt hlt
  · have hk' := old_kept hk
    refine ⟨.int ns.sum, H, I.kept hk', ⟨t', ?_⟩, q⟩
    rw [preSum_eq, List.take_of_length_le (by simp [intItems]), hn]
end
/-! ### a comprehension there: the handled exception stays pinned in the block -/
section
variable {X : Cx}
theorem pe_lcH {elt tg iter : Expr} {ifs : List Expr} {scope : Scope} {own : List (Str × Nat)} {pos : Pos} {wi : TI} {g : TG} {tt : TT} {te : TE} (hc : HotC X) (hN : X.N.Nodup) (hi : PIH X tg iter wi) (ok : BlkOk X.N X.env.scope scope own)
    (hg : ∀ (s : Shared) (H : Hp) (C : Addr) (cl : List (Str × Addr)) (fp : List Addr), PG (X.blk s H scope (compEnvC scope cl C X.env) fp) tg g) (ht : ∀ (s : Shared) (H : Hp) (C : Addr) (cl : List (Str × Addr)) (fp : List Addr), PTs (X.blk s H scope (compEnvC scope cl C X.env) fp) ifs tt)
    (he : ∀ (s : Shared) (H : Hp) (C : Addr) (cl : List (Str × Addr)) (fp : List Addr), PE (X.blk s H scope (compEnvC scope cl C X.env) fp) elt te) (hs : ∀ x, foldedSetIterable iter X.env x = pure x := by intro _; rfl) :
    PE X (.ListComp elt [⟨tg, iter, ifs, 0⟩] scope pos) (tLc wi g tt te (own.map (·.2))) := by
  refine ⟨fun pins s σ H Q I h => ?_⟩
  rw [eval_ListComp]
  obtain ⟨p, hot, hp⟩ := hc
  have hfree : ∀ y ∈ scope.names, y.2 = .free → ∃ c, X.env.cells.lookup y.1 = some c := fun y hy e => (ok.free y hy e).elim (fun k => I.ok.has _ (.inl k)) fun k => I.ok.has _ (.inr k)
  refine wpAny_comprehension_free (use := Option.none) rfl hs (closure_ok hfree) ok.kind (fun y hy e => by rw [ok.uniq y hy, e])
    (thn (hi.run pins s σ H _ I h) fun xv s1 hx => thn hx fun itv s2 h2 => ?_)
  obtain ⟨it, fp, tn, J, H2, e, I2, T, st2, f2, q⟩ := h2
  subst e
  refine wpAny_newObj_type (newEnv_comp ?_) (by show 0 ≤ sizeLine; decide)
  generalize hD : s2.heap.objs.size = D
  have hDn : H2 D = Option.none := I2.hok.fresh (Nat.le_of_eq hD)
  obtain ⟨W, ⟨m0, w0⟩, turn⟩ := q D hDn
  generalize hs3 : ({ s2 with heap := s2.heap.push { cls := .type "list", data := .seq ([] : List Value).toArray } } : Shared) = s3
  have h3 : s3.heap = s2.heap.push { cls := .type "list", data := .seq ([] : List Value).toArray } := by rw [← hs3]
  have I3 : Inv X pins σ (upd H2 D (.lst [])) s3 := by
    rw [← hs3]
    refine I2.laid (t' := s2.toks) (fun b o e => Heap.get?_push_of_some _ e) (Nat.le_of_eq hD) ⟨Nat.zero_le _, [], 0, .nil, ?_⟩
    rw [← hD]
    exact Heap.get?_push_size _ rfl
  have f3 : ∀ b ∈ fp, FpOk X pins (upd H2 D (.lst [])) b ∧ b < s3.heap.objs.size := fun b hb => by
    obtain ⟨o, e, _⟩ := T.obj _ _ st2 b hb
    have hlt := Heap.lt_size e
    refine ⟨⟨?_, (f2 b hb).2⟩, by rw [h3, Heap.size_push]; exact Nat.lt_succ_of_lt hlt⟩
    rw [upd_ne (by rw [← hD]; exact Nat.ne_of_lt hlt)]
    exact (f2 b hb).1
  have st3 : tn 0 s3.heap := T.keep _ _ _ st2 fun b _ o e => by rw [h3]; exact Heap.get?_push_of_some _ e
  have I4 := block_start I3 ok hN f3
  have P3 := I3.pin p (List.mem_append_left _ hp)
  have pg := hg s3 (upd H2 D (.lst [])) s3.heap.objs.size (cellsFrom (s3.heap.objs.size + 1) scope.names (cloFrom X.env.cells scope.names [])) fp
  have pt := ht s3 (upd H2 D (.lst [])) s3.heap.objs.size (cellsFrom (s3.heap.objs.size + 1) scope.names (cloFrom X.env.cells scope.names [])) fp
  have pe := he s3 (upd H2 D (.lst [])) s3.heap.objs.size (cellsFrom (s3.heap.objs.size + 1) scope.names (cloFrom X.env.cells scope.names [])) fp
  show codeAny _ _ (.compStart (.ListComp elt [⟨tg, iter, ifs, 0⟩] scope pos) 0 (.ref it) (.ref D) (compEnvC scope (cellsFrom (s3.heap.objs.size + 1) scope.names (cloFrom X.env.cells scope.names [])) s3.heap.objs.size X.env)) (compPost (model X.prog X.w) X.A X.xe Option.none (EP X pins σ Q) (.ref D) s3.heap.objs.size) { s3 with heap := pushCells (s3.heap.push { cls := .type "dict", data := .dict #[] }) scope.names }
  have nfp : ∀ b ∈ fp, (upd H2 D (.lst [])) b = Option.none := fun b hb => (f3 b hb).1.1
  have pnL : p.1 ≠ s3.heap.objs.size := Nat.ne_of_lt (Heap.lt_size P3.1)
  generalize hce : compEnvC scope (cellsFrom (s3.heap.objs.size + 1) scope.names (cloFrom X.env.cells scope.names [])) s3.heap.objs.size X.env = ce at I4 pg pt pe ⊢
  have cL : ce.locals = s3.heap.objs.size := by subst hce; rfl
  generalize hH3 : upd H2 D (.lst []) = H3 at I3 I4 pg pt pe w0 nfp f3 P3
  have st4 : tn 0 (pushCells (s3.heap.push { cls := .type "dict", data := .dict #[] }) scope.names) := T.keep _ _ _ st3 fun b _ o e => pushCells_keeps _ _ _ _ (Heap.get?_push_of_some _ e)
  have P4 : (pushCells (s3.heap.push { cls := .type "dict", data := .dict #[] }) scope.names).get? p.1 = some p.2 := pushCells_keeps _ _ _ _ (Heap.get?_push_of_some _ P3.1)
  -- the block's context, the exception pinned
  have hsub : ∀ b ∈ frs X.stack, b ∈ X.env.locals :: X.fs := I3.stkSub
  have I4p : L2.Inv (X.blk s3 H3 scope ce fp) [p] (wipe σ (own.map (·.2))) H3 { s3 with heap := pushCells (s3.heap.push { cls := .type "dict", data := .dict #[] }) scope.names } := I4.pins_of fun q hq => by
    rw [List.mem_singleton.mp hq]
    refine ⟨P4, P3.2.1, fun z => pnL (z.trans cL), fun z => ?_, P3.2.2.2.2⟩
    rcases List.mem_cons.mp (hsub p.1 z) with z | z
    · exact P3.2.2.1 z
    · exact P3.2.2.2.1 z
  generalize hs4 : ({ s3 with heap := pushCells (s3.heap.push { cls := .type "dict", data := .dict #[] }) scope.names } : Shared) = s4 at I4p ⊢
  have st4 : tn 0 s4.heap := by rw [← hs4]; exact st4
  have hotB : HotC ((X.blk s3 H3 scope ce fp).tr ((X.blk s3 H3 scope ce fp).pn ++ [p]) (fun _ _ => False)) := ⟨p, hot, List.mem_append_right _ (List.mem_singleton.mpr rfl)⟩
  have stat : ∀ {σ' : L2.St} {H' : Hp} {s' : Shared}, L2.Inv (X.blk s3 H3 scope ce fp) [p] σ' H' s' → (∀ b ∈ fp, H' b = Option.none) → ∀ b ∈ fp, FpOk (X.blk s3 H3 scope ce fp) [p] H' b := fun {σ' H' s'} I' hn b hb =>
    ⟨hn b hb, (I'.ok.exf b hb).1, I'.ok.exfs b hb, .inl hb, fun x c e => (I'.ok.exf b hb).2 x c e, fun q hq => by
      rcases List.mem_append.mp hq with z | z
      · exact absurd z (List.not_mem_nil)
      · rw [List.mem_singleton.mp z]
        exact (f3 b hb).1.2.2.2.2.2 p (List.mem_append_left _ hp)⟩
  have statT : ∀ {H' : Hp} {b : Addr}, FpOk (X.blk s3 H3 scope ce fp) [p] H' b → FpOk ((X.blk s3 H3 scope ce fp).tr ((X.blk s3 H3 scope ce fp).pn ++ [p]) (fun _ _ => False)) [] H' b := fun {H' b} z =>
    ⟨z.1, z.2.1, z.2.2.1, z.2.2.2.1, z.2.2.2.2.1, fun q hq => z.2.2.2.2.2 q (by rw [List.append_nil] at hq; exact hq)⟩
  have loop : codeAny (model X.prog X.w) X.A (.compLoop (.ListComp elt [⟨tg, iter, ifs, 0⟩] scope pos) 0 (.ref it) (.ref D) ce) (compPost (model X.prog X.w) X.A X.xe Option.none (EP X pins σ Q) (.ref D) s3.heap.objs.size) s4 := by
    refine compLoop_any (fun n s' => ∃ i H', L2.Inv (X.blk s3 H3 scope ce fp) [p] (wipe σ (own.map (·.2))) H' s' ∧ tn i s'.heap ∧ (∀ b ∈ fp, H' b = Option.none) ∧ W i n H') ?_ m0 ⟨0, H3, I4p, st4, nfp, w0⟩
    rintro n s5 ⟨i, H5, I5, st5, n5, w5⟩
    rcases turn i n H5 w5 with ⟨stop, qq⟩ | ⟨go, Nx, hNx, step⟩
    · have td := T.done ((X.blk s3 H3 scope ce fp).tr ((X.blk s3 H3 scope ce fp).pn ++ [p]) (fun _ _ => False)) rfl rfl rfl hotB i [] s5 _ H5 (fun _ _ => False) (I5.toTry _) (fun b hb => statT (stat I5 n5 b hb)) st5 stop
      refine thnF td fun r s6 ⟨hr, I6⟩ => ?_
      subst hr
      have I6 := I6.ofTry I5.ok
      have I7 : L2.Inv X pins σ H5 s6 := I3.call' (ch := fp) I6.os I6.base I6.hok I6.bare fun b hb => ⟨(f3 b hb).1.2.2.2.1, (f3 b hb).1.2.1, (f3 b hb).1.2.2.2.2.1, (f3 b hb).1.2.2.2.2.2⟩
      have nC : H5 s3.heap.objs.size = Option.none := by
        have z : H5 ce.locals = Option.none := I6.free
        rw [cL] at z
        exact z
      obtain ⟨m, hn, _⟩ := I6.loc
      have hn : s6.heap.Ns ce.locals m := hn
      rw [cL] at hn
      obtain ⟨f0, f1, f2', f3', f4, f5⟩ := I3.fpOk (H' := H5) (Nat.le_refl _) nC
      exact ⟨m, hn, fun h'' sb => ⟨.ref D, H5, I7.turned (t' := s6.toks) (fun b o hb e => (sb.2 b hb).trans e) f0 f1 f3' f4 f5, rfl, qq⟩⟩
    · have ti := T.item ((X.blk s3 H3 scope ce fp).tr ((X.blk s3 H3 scope ce fp).pn ++ [p]) (fun _ _ => False)) rfl rfl rfl hotB i [] s5 _ H5 (fun _ _ => False) (I5.toTry _) (fun b hb => statT (stat I5 n5 b hb)) st5 go
      refine thnF ti fun r s6 ⟨u, hr, h6⟩ => ?_
      subst hr
      refine thnF h6 fun _ s7 ⟨x, H7, I7, r7, y7, st7, n7⟩ => ?_
      have I7 := I7.ofTry I5.ok
      have I7' := I7.pinned (stat I7 n7) (T.obj _ _ st7)
      refine thnF (pg.run _ s7 _ H7 x u _ I7' r7 (step x H7 y7)) fun _ s8 ⟨σ8, H8, I8, hw8, q8⟩ => ?_
      refine thnF (pt.run _ s8 σ8 H8 _ I8 q8) fun b s9 ⟨H9, I9, q9⟩ => ?_
      have fin : ∀ {s' : Shared} {H' : Hp}, L2.Inv (X.blk s3 H3 scope ce fp) ([p] ++ pinsAt fp s7.heap) σ8 H' s' → Nx H' → ∃ m, m < n ∧ ∃ i H', L2.Inv (X.blk s3 H3 scope ce fp) [p] (wipe σ (own.map (·.2))) H' s' ∧ tn i s'.heap ∧ (∀ b ∈ fp, H' b = Option.none) ∧ W i m H' := fun {s' H'} I' nx => by
        obtain ⟨m', hm, w'⟩ := hNx H' nx
        have pin' : ∀ b ∈ fp, ∀ o, s7.heap.get? b = some o → s'.heap.get? b = some o ∧ H' b = Option.none := fun b hb o e =>
          let z := I'.pin (b, o) (List.mem_append_right _ (List.mem_append_right _ (mem_pinsAt hb e)))
          ⟨z.1, z.2.1⟩
        have hl : (wipe σ (own.map (·.2))).length = σ8.length := by rw [← hw8, wipe_length]
        refine ⟨m', hm, i + 1, H', (I'.unpinned (pins := [p])).weak hl (fun j v e => ?_), T.keep _ _ _ st7 fun b hb o e => (pin' b hb o e).1, fun b hb => ?_, w'⟩
        · rw [← hw8] at e
          exact (wipe_some e).1
        · obtain ⟨o, e, _⟩ := T.obj _ _ st7 b hb
          exact (pin' b hb o e).2
      cases b with
      | false =>
        simp only [Bool.false_eq_true, if_false] at q9 ⊢
        exact fin I9 q9
      | true =>
        simp only [if_true] at q9 ⊢
        refine thnF (pe.run _ s9 σ8 H9 _ I9 q9) fun z s10 ⟨yv, H10, I10, r10, acc, hD10, hz10, nx⟩ => ?_
        exact app_ok (X := X.blk s3 H3 scope ce fp) I10 hD10 hz10 r10 fun s11 I11 => fin I11 nx
  exact codeAny_compStart_list loop (T.self X.A 0 _ _ _ st4 loop)
end
end DL

/-! D10: a def called in an except suite with the caught error; isinstance of it; a call of a listed def; try .. except .. as. -/
namespace DL
open PySem PySem.Spec PyProof.Rows L2 L2H HotX SX
/-- a def called while p's exception is handled; what it is asked may speak of p -/
structure FnP (P : Program) (w : World) (K : PySem.W.Frag) (mg : Str → Option Value) (base : Heap) (CX : CXT) (k : Nat) (f : Addr) (fd : FuncData) (ps : List Str) (sp : Addr × Obj → Sp) : Prop where
  len : ∀ p vs H Q E, sp p vs H Q E → vs.length = ps.length
  run : ∀ (A : Around) (outer : List Env) (s : Shared) (H : Hp) (args : Args) (us : List Value) (vs : List V) (Q : VK) (E : XK) (p : Addr × Obj), RoomH k A → Hot1 A p → PinOk outer H s p → Env0 P w K mg base A outer s H → BindsTo s fd args (ps.zip us) → Vals vs us → sp p vs H Q E →
    codeAny (model P w) A (.call (.ref f) args) (CR CX outer P w H s Q E) s
theorem fnP_of {P : Program} {w : World} {K : PySem.W.Frag} {mg : Str → Option Value} {base : Heap} {k : Nat} {f : Addr} {x qual : Str} {st : Stmt} {fd : FuncData} {N ps : List Str} {sp : Addr × Obj → Sp} (F : Fun K x qual st f fd) (S : FnScope N ps (defScope st))
    (len : ∀ p vs H Q E, sp p vs H Q E → vs.length = ps.length)
    (hbody : ∀ (cdv : Value) (A : Around) (outer : List Env) (s : Shared) (H : Hp) (vs : List V) (Q : VK) (E : XK) (p : Addr × Obj), Hot1 A p → RoomH k (A.deeper (envOfC qual (defScope st) s.heap.objs.size f cdv)) → sp p vs H Q E →
      wB (cxH CX0 P w K mg base N qual (defScope st) f cdv A outer s H E p) (defBody st) { nx := fun _ H' => Q .non H', rt := Q } (start N vs) H) : FnP P w K mg base CX0 (k + 1) f fd ps sp := by
  obtain ⟨oc, od, kV, doc, pm, an, cdv, ct, osl, rfl, lk, hcd⟩ := F.ex
  refine ⟨len, fun A outer s H args us vs Q E p hr hot hpin e0 hb r hsp => ?_⟩
  have hl := len p _ _ _ _ hsp
  have KX : K.In s.heap := e0.mod.kin.keeps fun b o e => (e0.bs b o e).1
  have lim : s.heap.NoLimit := e0.mod.nolimit.keeps fun b o e => (e0.bs b o e).1
  have hkind : ∀ y ∈ ps.zip us, (defScope st).names.lookup y.1 = some .local ∨ ((defScope st).names.lookup y.1 = some .cell ∧ ((cellsFrom (s.heap.objs.size + 1) (defScope st).names []).lookup y.1).isSome = true) := fun ⟨n, v⟩ hy =>
    (S.par n (List.of_mem_zip hy).1).imp id fun q => ⟨q, PySem.W.cellsFrom_some _ _ _ (.inl q)⟩
  refine codeAny_call_function hr.depth (KX _ _ lk) rfl S.co S.gen rfl (PySem.W.codeRec_of KX hcd) (hb _ _ _ _ ?_)
  refine wpAny_newFunctionEnv_cells S.kind hkind fun env he s1 x => ?_
  subst he
  refine ⟨lim.keeps x.toInCall.keep, codeAny_func ?_⟩
  obtain ⟨t, ht, hq⟩ := hbody cdv A outer s H vs Q E p hot (hr.deeper _) hsp
  have I : L2.Inv (cxH CX0 P w K mg base N qual (defScope st) f cdv A outer s H E p) [] (L2.start N vs) H s1 := inv_startH S hpin e0 hl r x
  refine wpAny_mono (ht.run [] s1 (L2.start N vs) H _ I hq) (fun fl s' hs => ?_) fun e s' hs => hs
  have fin : ∀ {σ' : L2.St} {H' : Hp} {v : V} {u : Value}, L2.Inv (cxH CX0 P w K mg base N qual (defScope st) f cdv A outer s H E p) [] σ' H' s' → RelV v u → Q v H' → CE outer P w H s Q u s' :=
    fun {σ' H' v u} J rv q => ⟨v, H', J.os, J.bare, J.base, J.hok, rv, q⟩
  cases fl with
  | ret u => obtain ⟨v, σ', H', J, rv, q⟩ := hs; exact fin J rv q
  | next => obtain ⟨σ', H', J, q⟩ := hs; exact fin (v := V.non) (u := Value.none) J rfl q
  | brk => obtain ⟨_, _, _, q⟩ := hs; exact False.elim q
  | cont => obtain ⟨_, _, _, q⟩ := hs; exact False.elim q
section
variable {X : Cx} {k : Nat} {f : Addr} {fd : FuncData} {ps : List Str} {sp : Addr × Obj → Sp} {x : Str} {q pos : Pos} {e : Expr} {es : List Expr} {t : TA}
theorem pe_callP {p : Addr × Obj} (F : FnP X.prog X.w X.K X.mg X.base CX0 k f fd ps sp) (hr : RoomH k X.A) (hot : Hot1 X.A p) (hp : p ∈ X.pn) (hg : Gl X x) (hm : X.mg x = some (.ref f)) (hk : PySem.W.keepIn X.K (.ref f) = true) (hb : Binds X.K fd ps [])
    (ha : PA X (e :: es) t) (hdb : (x == ("__debug__" : Str)) = false := by decide) (he : starEach (e :: es) X.env = (false, eval e X.env) :: starEach es X.env := by rfl) (hpl : (backTo pos (starEach es X.env)).any (·.1) = false := by rfl) :
    PE X (.Call (.Name x q) (e :: es) [] pos) (tCallS (sp p) (fun _ => E0) t) := by
  refine ⟨fun pins s σ H Q I h => ?_⟩
  refine wpAny_Call_Name_kw (ld_glob I hg hm ?_ hdb)
  refine PySem.W.callWith_K (h₀ := X.base) I.ok.mod.kin hk (thn (ha.run pos pins s σ H _ I h) fun us s1 ⟨vs, H1, I1, r, h⟩ => ⟨I1.kIn, ?_⟩) he hpl
  have hl : us.length = ps.length := by rw [← r.length]; exact F.len _ _ _ _ _ h
  have b := hb s1 us I1.kIn (by rw [List.append_nil]; exact hl)
  rw [List.append_nil] at b
  have P1 := I1.pin p (List.mem_append_left _ hp)
  have hpin : PinOk X.stack H1 s1 p := ⟨P1.1, P1.2.1, fun hm => (List.mem_cons.mp (I1.stkSub p.1 hm)).elim P1.2.2.1 P1.2.2.2.1, P1.2.2.2.2⟩
  refine wpAny_call (codeAny_mono (F.run X.A X.stack s1 H1 ⟨us, []⟩ us vs Q E0 p hr hot hpin I1.env0 b r h) fun r s' hq => ?_)
  cases r with
  | error e => exact (show False from hq).elim
  | ok fl =>
    cases fl with
    | ret u => exact I1.after hq
    | next => exact False.elim hq
    | brk => exact False.elim hq
    | cont => exact False.elim hq
/-- isinstance(e, C), e the exception that stands pinned -/
theorem call_isP {a D : Addr} {oe : Obj} (hp : (a, oe) ∈ X.pn) (C : ExcC X.K D) (hz : Zc (.ref D) Option.none oe) (hf : ∃ vs, oe.data = .fields vs) : CallR X (.builtin "isinstance") (rIsE X.K D a) := by
  intro pins s σ H xs us Q I r h
  obtain ⟨c, cv, b, rfl, hcv, e, q⟩ := h
  cases r with
  | cons rx rr =>
    cases rr with
    | cons rt rr =>
      cases rr
      cases rx
      have ec := hcv _ rt
      subst ec
      obtain ⟨hget, _⟩ := I.pin (a, oe) (List.mem_append_left _ hp)
      obtain ⟨vs, hv⟩ := hf
      have J : PySem.W.InstAt s.heap a oe D Option.none := by
        obtain ⟨oc, od, oda, osl⟩ := oe
        obtain ⟨h1, h2⟩ := hz
        dsimp only at h1 h2 hv
        subst h1 h2 hv
        exact ⟨hget, rfl, rfl, trivial⟩
      exact PySem.W.kia_one (PySem.W.handS_kitx_exc C.hg C.hk C.hs C.hd C.ha C.hn C.ht C.hm) I.kIn J e (fun z => nomatch z) fun tk => ⟨.bl b, H, I.kept (t' := tk) fun _ _ z => z, rfl, q⟩
theorem e_isP (n : Nat) {G : Hp} {σ : L2.St} {a D c : Addr} {oe : Obj} {y z : Str} {b : Bool} {p p1 p2 : Pos} (hp : (a, oe) ∈ X.pn) (C : ExcC X.K D) (hz : Zc (.ref D) Option.none oe) (hf : ∃ vs, oe.data = .fields vs) (hm : X.mg "isinstance" = Option.none) (hy : X.mg y = some (.ref c)) (hk : PySem.W.kitOne X.K (.ref D) (.ref c) = some b)
    (hσ : σ[n]? = some (some (.ref a)) := by rfl) (hN : X.N[n]? = some z := by rfl) (hv : Vis X.env.scope z := by first | exact Or.inl rfl | exact Or.inr (Or.inl rfl) | exact Or.inr (Or.inr rfl)) (h1 : (z == ("__debug__" : Str)) = false := by decide) (h2 : (z == ("__classdict__" : Str)) = false := by decide)
    (hgy : Gl X y := by rfl) (hg : Gl X "isinstance" := by rfl) (hdy : (y == ("__debug__" : Str)) = false := by decide)
    (he : starEach [.Name z p1, .Name y p2] X.env = (false, eval (.Name z p1) X.env) :: starEach [.Name y p2] X.env := by rfl) (he2 : starEach [.Name y p2] X.env = (false, eval (.Name y p2) X.env) :: starEach [] X.env := by rfl) (hpl : (backTo pos (starEach [.Name y p2] X.env)).any (·.1) = false := by rfl) :
    E X (.Call (.Name "isinstance" p) [.Name z p1, .Name y p2] [] pos) σ G (.bool b) := fun G1 H1 g gh Q q =>
  ⟨_, pe_callB (call_isP hp C hz hf) hg hm (by decide +kernel) (pa_cons (pe_var hN hv h1 h2) (pa_cons (pe_glob (v := .ref c) hgy hy rfl hdy) pa_nil he2) he) (by decide) (by decide) he hpl,
    .ref a, hσ, .ref c, .ref c, b, rfl, fun u r => by cases r; rfl, hk, q _ G1 H1 (Nx.refl gh) (.bl b)⟩
/-- sum of ints, there -/
theorem e_sumH {σ : L2.St} {G : Hp} {a : Expr} {p : Pos} {ns : List Int} (hot : HotC X) (hm : X.mg "sum" = Option.none) (ha : E X a σ G (.list (ns.map PyData.int))) (hg : Gl X "sum" := by rfl) (he : starEach [a] X.env = (false, eval a X.env) :: starEach [] X.env := by rfl) (hpl : (backTo pos (starEach [] X.env)).any (·.1) = false := by rfl) :
    E X (.Call (.Name "sum" p) [a] [] pos) σ G (.int ns.sum) :=
  e_callB (cr_sumH hot) hm (by decide +kernel) (a_cons ha a_nil he) (fun us G1 H1 _ gh hu Q q => by
    obtain ⟨u, rfl, h⟩ := all1 hu
    obtain ⟨l, xs, rfl, hl, hx⟩ := Dp.lst_inv h
    rw [DpAll.ints_inv hx] at hl
    exact ⟨l, ns, rfl, Evl.ex_l gh hl, q _ G1 H1 (Nx.refl gh) (.int _)⟩) hg (by decide) (by decide) he hpl
/-- [elt for x in range(n)], there -/
theorem e_lcRH {σ : L2.St} {G : Hp} {elt : Expr} {tpos p : Pos} {x : Str} {j : Nat} {scope : Scope} {na : Expr} {n : Nat} {f : Nat → D} (hot : HotC X) (hN : X.N.Nodup) (hm : X.mg "range" = Option.none) (ha : A X [na] σ G [.int (n : Int)]) (hn : n ≤ 100000) (ok : BlkOk X.N X.env.scope scope [(x, j)])
    (hg : ∀ s H C cl fp, PG (blkX X scope s H C cl fp) (.Name x tpos) (gName j))
    (he : ∀ i, i < n → ∀ s H0 C cl fp, E (blkX X scope s H0 C cl fp) elt (σ.set j (some (.int (i : Int)))) G (f i)) (hgr : Gl X "range" := by rfl) (hse : starEach [na] X.env = [(false, eval na X.env)] := by rfl)
    (hs : ∀ y, foldedSetIterable (.Call (.Name "range" p) [na] [] pos) X.env y = pure y := by intro _; rfl) {lpos : Pos} : E X (.ListComp elt [⟨.Name x tpos, .Call (.Name "range" p) [na] [] pos, [], 0⟩] scope lpos) σ G (.list ((List.range n).map f)) := fun G1 H1 g gh Q q =>
  ⟨_, pe_lcH (own := [(x, j)]) (te := wBE X scope elt) hot hN (pi_range1H hgr hm pa_w hse) ok hg (fun _ _ _ _ _ => pts_nil) (fun s H C cl fp => ⟨fun pins s' σ' H' Q' I h => (pe_w (X := blkX X scope s H C cl fp)).run pins s' σ' H' Q' I (h s H C cl fp)⟩) hs,
    ha G1 H1 g gh _ fun vs G2 H2 n2 hv => by
      obtain ⟨u, rfl, hu⟩ := all1 hv
      cases hu
      refine ⟨(n : Int), rfl, by omega, by omega, fun Dl hD => ?_⟩
      rw [Int.toNat_natCast]
      refine lc_range (lo := 0) (n := n) (fun i H' => ∃ G' vs, Lcl G2 H2 Dl G' H' vs ∧ DpAll X.K G' vs (kept i (fun _ => true) f)) ⟨G2, [], Lcl.start n2.gh hD, .nil⟩ (fun i H' hi Pi => ?_) fun H' ⟨G', vs, L, dv⟩ => ?_
      · have e0 : (0 : Int) + (i : Int) = (i : Int) := Int.zero_add _
        rw [e0]
        refine ⟨wipe1 σ j _, ?_⟩
        exact lc_turn (σ := σ) (j := j) (G := G) (ifs := []) hi hn (g.trans n2.g) Pi (fun _ _ => trivial) (fun G1 H1 _ gh Q q => q G1 H1 (Nx.refl gh)) (fun _ => he i hi)
      · rw [kept_all] at dv
        exact q _ _ _ (n2.trans L.done) (.lst (Evl.sq_of upd_same) (DpAll.mono (Evl.Ex.new L.gl) dv))⟩
end
end DL

/-! D11: return [f, g, ..][i](a, ..); try: .. except C as e: return h(e). -/
namespace DL
open PySem PySem.Spec PyProof.Rows L2 L2H HotX SX
/-- names of the module's defs -/
inductive GN (X : Cx) : List Expr → List (Str × Addr) → Prop
  | nil : GN X [] []
  | cons {x : Str} {f : Addr} {p : Pos} {es : List Expr} {l : List (Str × Addr)} (hm : X.mg x = some (.ref f)) (hg : Gl X x) (hdb : (x == ("__debug__" : Str)) = false) (hs : starEach (.Name x p :: es) X.env = (false, eval (.Name x p) X.env) :: starEach es X.env) (r : GN X es l) : GN X (.Name x p :: es) ((x, f) :: l)
theorem gn_cons {X : Cx} {x : Str} {p : Pos} {es : List Expr} {l : List (Str × Addr)} {k : Nat} {R : List D → Except Str D → Prop} (F : XFn X.prog X.w X.K X.mg X.base k x R) (r : GN X es l) (hg : Gl X x := by rfl) (hdb : (x == ("__debug__" : Str)) = false := by decide)
    (hs : starEach (.Name x p :: es) X.env = (false, eval (.Name x p) X.env) :: starEach es X.env := by rfl) : ∃ f, GN X (.Name x p :: es) ((x, f) :: l) := by
  obtain ⟨f, hm, _⟩ := F.ex
  exact ⟨f, .cons hm hg hdb hs r⟩
theorem pa_names {X : Cx} {es : List Expr} {l : List (Str × Addr)} (h : GN X es l) : PA X es (fun σ H Q => Q (l.map fun z => V.ref z.2) H) := by
  induction h with
  | nil => exact pa_nil
  | cons hm hg hdb hs r ih =>
    have := pa_cons (pe_glob (v := .ref _) hg hm rfl hdb) ih hs
    exact this
section
variable {X : Cx} {σ : L2.St} {G H : Hp} {e ix : Expr} {es ns : List Expr} {pos p p2 pos2 : Pos} {d : D} {ds : List D} {x : Str} {k : Nat} {rest : List Stmt} {Z : Ends}
/-- a call whose def comes from an expression -/
theorem pe_callF {CX : CXT} {Er : L2.St → XK} {fe : Expr} {tf : TE} {ta : TA} (hf : PE X fe tf) (hr : Room k X.A) (hx : ∀ σ, PassesAt CX X σ (Er σ)) (ha : PA X (e :: es) ta)
    (hc : eval (.Call fe (e :: es) [] pos) X.env = (do callWith pos (← eval fe X.env) [] (backTo pos (starEach (e :: es) X.env)) (backToKw pos (keywordEach [] X.env))) := by rfl)
    (he : starEach (e :: es) X.env = (false, eval e X.env) :: starEach es X.env := by rfl) (hpl : (backTo pos (starEach es X.env)).any (·.1) = false := by rfl) :
    PE X (.Call fe (e :: es) [] pos) (fun σ H Q => tf σ H fun v H1 => ∃ f sp, v = .ref f ∧ PySem.W.keepIn X.K (.ref f) = true ∧ FnR X.prog X.w X.K X.mg X.base CX k f sp ∧ ta σ H1 fun vs H2 => sp vs H2 Q (Er σ)) := by
  refine ⟨fun pins s σ H Q I h => ?_⟩
  refine Call_ (thn (hf.run pins s σ H _ I h) fun u s1 ⟨v, H1, I1, r1, f, sp, e1, hk, F, q⟩ => ?_) hc
  subst e1
  cases r1
  exact PySem.W.callWith_K (h₀ := X.base) I1.ok.mod.kin hk (thn (ha.run pos pins s1 σ H1 _ I1 q) fun us s2 ⟨vs, H2, I2, r, q⟩ => ⟨I2.kIn, run_fnRS F hr (hx σ) I2 r q⟩) he hpl
/-- return [f, g, ..][i](a, ..) -/
theorem s_retIx {W : WX} {R : List D → Except Str D → Prop} {r : Except Str D} {i : Int} {l : List (Str × Addr)} {f : Addr} (hn : GN X ns l) (hl : l.length ≤ 1000) (hix : E X ix σ G (.int i)) (hat : atI l i = some (x, f)) (hmx : X.mg x = some (.ref f)) (F : XFn X.prog X.w X.K X.mg X.base k x R) (hr : Room k X.A) (tk : L2N.Takes X W) (ha : A X (e :: es) σ G ds) (hR : R ds r) (gh : Ex G H)
    (ok : ∀ d, r = .ok d → ∀ v G' H', Nx G H G' H' → Dp X.K G' v d → Z.rt v H') (er : ∀ n c, r = .error n → X.mg n = some (.ref c) → ∀ G' H', Nx G H G' H' → W (.ref c) Option.none σ H')
    (hs : PlainIx ix := by exact fun _ _ => rfl)
    (hc : eval (.Call (.Subscript (.List ns p) ix p2) (e :: es) [] pos) X.env = (do callWith pos (← eval (.Subscript (.List ns p) ix p2) X.env) [] (backTo pos (starEach (e :: es) X.env)) (backToKw pos (keywordEach [] X.env))) := by rfl)
    (he : starEach (e :: es) X.env = (false, eval e X.env) :: starEach es X.env := by rfl) (hpl : (backTo pos (starEach es X.env)).any (·.1) = false := by rfl) :
    wB X (.Return (some (.Call (.Subscript (.List ns p) ix p2) (e :: es) [] pos)) pos2 :: rest) Z σ H := by
  obtain ⟨f', hm, hk, F⟩ := F.ex
  have ef : f' = f := by rw [hmx] at hm; cases hm; rfl
  subst ef
  refine s_cons ⟨_, ps_ret (pe_callF (pe_ix ix_list (pe_lst (pa_names hn)) pe_w hs) hr (fun σ => L2N.passAt tk σ) pa_w hc he hpl), ⟨by rw [List.length_map]; exact Evl.sz_of (by omega), fun q hq => ?_⟩⟩
  have n0 := Nx.new (o := .lst (l.map fun z => V.ref z.2)) gh hq
  refine hix _ _ n0.g n0.gh _ fun v G2 H2 n2 hv => ⟨q, _, i, .ref f', rfl, Dp.int_inv hv, .inl (.inl (n2.h _ _ upd_same)), ?_, f', _, rfl, hk, F, ha G2 H2 (n0.g.trans n2.g) n2.gh _ fun us G3 H3 n3 hu => ?_⟩
  · unfold atI at hat ⊢
    rw [List.length_map]
    cases hx : ixN l.length i with
    | none => rw [hx] at hat; cases hat
    | some j =>
      rw [hx] at hat
      have hat : l[j]? = some (x, f') := hat
      show (l.map fun z => V.ref z.2)[j]? = _
      rw [List.getElem?_map, hat]; rfl
  · exact ⟨ds, r, G3, hR, n3.gh, hu, fun d hd v G4 H4 n4 hv => ok d hd v G4 H4 (((n0.trans n2).trans n3).trans n4) hv, fun n c hn hc G4 H4 n4 => er n c hn hc G4 H4 (((n0.trans n2).trans n3).trans n4)⟩
/-- what an error asks of the clause -/
theorem takes0N : L2N.Takes X (fun _ _ _ _ => False) := fun _ _ x => by
  obtain ⟨_, _, _, _, _, _, _, _, _, _, _, _, _, _, _, _, z⟩ := x
  exact z.elim
/-- try: body / except x as n: suite -/
theorem s_tryAs (i : Nat) {n : Str} {c : Addr} {body suite : List Stmt} {b₀ : Stmt} {np pos' : Pos} (hN : X.N.Nodup) (hm : X.mg x = some (.ref c))
    (hb : ∀ (W : WX), (∀ (D0 : Addr) (σ' : L2.St) (H' : Hp), PySem.W.exmOne X.K (.ref D0) (.ref c) = some true → (∀ (a : Addr) (oe : Obj) (pn : List (Addr × Obj)), H' a = Option.none → L2N.Zn (.ref D0) Option.none oe → (∃ vs, oe.data = .fields vs) →
        wB (X.suite a ((a, oe) :: pn)) (b₀ :: suite) { nx := fun σ' H' => wB X rest Z (σ'.set i Option.none) H', rt := Z.rt, bk := fun σ' H' => Z.bk (σ'.set i Option.none) H', ct := fun σ' H' => Z.ct (σ'.set i Option.none) H' } (σ'.set i (some (.ref a))) H') → W (.ref D0) Option.none σ' H') →
      ∀ (pn : List (Addr × Obj)) (xe : Value → Shared → Prop), L2N.Takes (X.tr pn xe) W → PassesOwn (model X.prog X.w) X.A X.env xe → wB (X.tr pn xe) body { Z with nx := wB X rest Z } σ H)
    (hs : X.stack = X.env :: X.outer := by rfl) (hf : X.env.frame = some X.env.locals := by rfl) (hi : X.N[i]? = some n := by rfl) (hln : X.env.kindOf n = some .local := by rfl) (hg : Gl X x := by rfl) (hdb : (x == ("__debug__" : Str)) = false := by decide) :
    wB X (.Try body [.ExceptHandler (some (.Name x np)) (some n) (b₀ :: suite) pos'] [] [] pos :: rest) Z σ H :=
  s_cons ⟨_, L2N.ps_try_as (tb := fun W Z σ H => ∀ (pn : List (Addr × Obj)) (xe : Value → Shared → Prop), L2N.Takes (X.tr pn xe) W → PassesOwn (model X.prog X.w) X.A X.env xe → wB (X.tr pn xe) body Z σ H)
      (ts := fun a cls d Z σ H => ∀ (oe : Obj) (pn : List (Addr × Obj)), L2N.Zn cls d oe → (∃ vs, oe.data = .fields vs) → wB (X.suite a ((a, oe) :: pn)) (b₀ :: suite) Z σ H)
      hs hf hN hi hln ⟨hg, hdb, .inl hm⟩ takes0N (fun W pn xe tk po => ⟨fun pins s σ H D I h => pss_w.run pins s σ H D I (h pn xe tk po)⟩)
      (fun a oe cls d pn hz hd => ⟨fun pins s σ H D I h => pss_w.run pins s σ H D I (h oe pn hz hd)⟩),
    hb _ fun D0 σ' H' hx h => ⟨true, hx, fun _ a ha oe pn hz hd => h a oe pn ha hz hd, fun z => nomatch z⟩⟩
end
end DL

/-! K12: what is refused; what is told. -/
namespace K00
open PySem PySem.Spec PyProof.Rows L2 DL SX
def kn : Nat → Str
  | 0 => "NotRight"
  | 1 => "NotThere"
  | 2 => "NoAnswer"
  | 3 => "Undefined"
  | 4 => "Unclear"
  | _ => "TooHard"
/-- what isinstance says of an error of the idx-th kind -/
def EfAt (K : PySem.W.Frag) (mg : Str → Option Value) (idx : Nat) (D : Addr) : Prop := ExcC K D ∧ idx < 6 ∧ ∀ j, j < 6 → ∃ C, mg (kn j) = some (.ref C) ∧ PySem.W.kitOne K (.ref D) (.ref C) = some (decide (j = idx))
structure Ef (K : PySem.W.Frag) (mg : Str → Option Value) (n : Str) (idx : Nat) : Prop where
  ex : ∃ D, mg n = some (.ref D) ∧ EfAt K mg idx D ∧ ∃ w, mg "WidthError" = some (.ref w) ∧ PySem.W.exmOne K (.ref D) (.ref w) = some true
structure Txt2 (K : PySem.W.Frag) (mg : Str → Option Value) : Prop where
  e0 : Ef K mg "NotRight" 0
  e2 : Ef K mg "NoAnswer" 2
/-- 'refused n' -/
def refT (n : Nat) : List Nat := [114, 101, 102, 117, 115, 101, 100, 32] ++ dig n
section
variable {P : Program} {w : World} {K : PySem.W.Frag} {mg : Str → Option Value} {base : Heap}
def spFlag (K : PySem.W.Frag) (mg : Str → Option Value) : Addr × Obj → Sp := fun p us H Q _ => ∃ (idx : Nat) (D : Addr) (G : Hp), us = [.ref p.1] ∧ EfAt K mg idx D ∧ Zc (.ref D) Option.none p.2 ∧ (∃ vs, p.2.data = .fields vs) ∧ Ex G H ∧ ∀ G' H', Nx G H G' H' → Q (.str (S (refT (idx + 1)))) H'
theorem flag_sum (idx : Nat) (h : idx < 6) : ((List.range 6).map fun k : Nat => ((k : Int) + 1) * (if decide (k = idx) = true then (1 : Int) else 0)).sum = ((idx + 1 : Nat) : Int) := by
  match idx, h with
  | 0, _ => decide
  | 1, _ => decide
  | 2, _ => decide
  | 3, _ => decide
  | 4, _ => decide
  | 5, _ => decide
theorem ok__law_flag (T : Txt K mg) : ∃ f fd, mg "_law_flag" = some (.ref f) ∧ PySem.W.keepIn K (.ref f) = true ∧ Binds K fd ["error"] [] ∧ FnP P w K mg base CX0 1 f fd ["error"] (spFlag K mg) := by
  obtain ⟨f, fd, h1, F, hb⟩ := T.h__law_flag
  refine ⟨f, fd, h1, F.kp, hb, fnP_of F sc__law_flag (fun p vs H Q E ⟨idx, D, G, e, _⟩ => by rw [e]; rfl) fun cdv A outer s H vs Q xk p hot hr ⟨idx, D, G, e, ef, hz, hf, g, q⟩ => ?_⟩
  subst e
  obtain ⟨C, hi, hk⟩ := ef
  obtain ⟨c0, m0, k0⟩ := hk 0 (by decide)
  obtain ⟨c1, m1, k1⟩ := hk 1 (by decide)
  obtain ⟨c2, m2, k2⟩ := hk 2 (by decide)
  obtain ⟨c3, m3, k3⟩ := hk 3 (by decide)
  obtain ⟨c4, m4, k4⟩ := hk 4 (by decide)
  obtain ⟨c5, m5, k5⟩ := hk 5 (by decide)
  have hp : (p.1, p.2) ∈ (L2H.cxH CX0 P w K mg base N__law_flag "_law_flag" (defScope s__law_flag) f cdv A outer s H xk p).pn := List.mem_singleton.mpr rfl
  have hotX : L2H.HotC (L2H.cxH CX0 P w K mg base N__law_flag "_law_flag" (defScope s__law_flag) f cdv A outer s H xk p) := ⟨p, hot, hp⟩
  refine s_set 1 (d := .list ((List.range 6).map fun j => .bool (decide (j = idx)))) (e_lst (a_cons (e_isP 0 hp C hz hf T.b_isinstance m0 k0) (a_cons (e_isP 0 hp C hz hf T.b_isinstance m1 k1) (a_cons (e_isP 0 hp C hz hf T.b_isinstance m2 k2) (a_cons (e_isP 0 hp C hz hf T.b_isinstance m3 k3) (a_cons (e_isP 0 hp C hz hf T.b_isinstance m4 k4) (a_cons (e_isP 0 hp C hz hf T.b_isinstance m5 k5) a_nil))))))) g sc__law_flag.nd fun v1 G1 H1 n1 h1 => ?_
  have hat : ∀ j, j < 6 → ((List.range 6).map fun j => PyData.bool (decide (j = idx)))[j]? = some (.bool (decide (j = idx))) := fun j hj => by
    rw [List.getElem?_map, List.getElem?_range hj]; rfl
  refine s_ret (d := .str (S (refT (idx + 1)))) (e_is (e_catS (e_strC [114, 101, 102, 117, 115, 101, 100, 32]) (e_strN (i := ((idx + 1 : Nat) : Int)) T.b_str (e_is (e_sumH (ns := (List.range 6).map fun k : Nat => ((k : Int) + 1) * (if decide (k = idx) = true then (1 : Int) else 0)) hotX T.b_sum
    (e_is (e_lcRH (x := "k") (j := 2) (n := 6) (f := fun k => .int (((k : Int) + 1) * (if decide (k = idx) = true then (1 : Int) else 0))) hotX sc__law_flag.nd T.b_range (a_cons e_int a_nil) (by decide) (blkOk_by (N := N__law_flag) (sc := defScope s__law_flag) (by decide +kernel)) (fun _ _ _ _ _ => pg_name (i := 2) sc__law_flag.nd rfl (Or.inl rfl)) fun j hj _ _ _ _ _ => ?_) (by rw [List.map_map]; rfl))) (by rw [flag_sum idx hi])) (by omega)) ?_) (by rw [digI_nat]; rfl)) n1.gh fun v2 G2 H2 n2 h2 => ?_
  · exact e_mul (e_add (e_var 2 (.int _)) e_int) (e_intB T.b_int (e_ixL (e_var 1 h1) (e_var 2 (.int _)) (atN (hat j hj)))) (mulOK (a := 10) (b := 10) (by omega) (by split <;> decide) (by decide))
  · rw [digI_nat]
    have := dig_len (n := idx + 1) (Nat.lt_of_lt_of_le (show idx + 1 < 2 ^ 3 by omega) (pow_le (by decide)))
    simp only [List.length_cons, List.length_nil]; omega
  · cases h2
    exact q G2 H2 (n1.trans n2)
end
end K00

/-! K13: what is told. -/
namespace K00
open PySem PySem.Spec PyProof.Rows L2 DL SX
def RT : Nat → List D → Except Str D → Prop
  | 0 => R_two fun a b => rd (a + b)
  | 1 => R_two fun a b => rd (a - b)
  | 2 => R_two fun a b => rd (a * b)
  | 3 => R_over
  | 4 => R_compare
  | 5 => R_ratio
  | 6 => R_one fun a => .int (a.num / a.den)
  | 7 => R_one fun a => .int (-(-a.num / a.den))
  | 8 => R_shown
  | 9 => R_halved
  | 10 => R_least_square
  | 11 => R_power
  | 12 => R_dto dn
  | 13 => R_dto upq
  | 14 => R_decimal_of
  | _ => fun _ _ => False
def okErr (r : Except Str D) : Prop := ∀ n, r = .error n → n = "NotRight" ∨ n = "NoAnswer"
theorem okErr_if {c : Bool} {a : D} {r : Except Str D} (h : r = if c = true then .ok a else .error "NotRight") : okErr r := fun n e => by
  rw [h] at e
  split at e
  · cases e
  · exact .inl (Except.error.inj e).symm
theorem okErr_one {r : Except Str D} (h : r = .error "NotRight") : okErr r := fun n e => by rw [h] at e; exact .inl (Except.error.inj e).symm
theorem okErr_ok {r : Except Str D} {a : D} (h : r = .ok a) : okErr r := fun n e => by rw [h] at e; cases e
theorem okErr_if2 {c : Bool} {p : Prop} [Decidable p] {a : D} {r : Except Str D} (h : r = if c = true then (if p then .error "NoAnswer" else .ok a) else .error "NotRight") : okErr r := fun n e => by
  rw [h] at e
  split at e
  · split at e
    · exact .inr (Except.error.inj e).symm
    · cases e
  · exact .inl (Except.error.inj e).symm
theorem okErr_ratio {ds : List D} {r : Except Str D} (h : R_ratio ds r) : okErr r := by
  obtain ⟨x, y, _, h⟩ := h
  split at h
  · obtain ⟨_, _, h⟩ := h
    split at h
    · exact okErr_one h
    · exact okErr_ok h
  · exact okErr_one h
theorem okErr_sq {ds : List D} {r : Except Str D} (h : R_least_square ds r) : okErr r := by
  obtain ⟨x, _, h⟩ := h
  split at h
  · split at h
    · exact okErr_one h
    · obtain ⟨_, s, _, _, h⟩ := h
      exact okErr_ok h
  · exact okErr_one h
theorem okErr_pow {ds : List D} {r : Except Str D} (h : R_power ds r) : okErr r := by
  obtain ⟨x, y, _, _, h⟩ := h
  intro n e
  rw [h] at e
  split at e
  · split at e
    · split at e
      · exact .inr (Except.error.inj e).symm
      · cases e
    · exact .inl (Except.error.inj e).symm
  · exact .inl (Except.error.inj e).symm
theorem rt_err : ∀ {i : Nat} {ds : List D} {r : Except Str D}, RT i ds r → okErr r
  | 0, _, _, ⟨x, y, _, _, _, h⟩ => okErr_if h
  | 1, _, _, ⟨x, y, _, _, _, h⟩ => okErr_if h
  | 2, _, _, ⟨x, y, _, _, _, h⟩ => okErr_if h
  | 3, _, _, ⟨x, y, _, _, _, h⟩ => okErr_if2 h
  | 4, _, _, ⟨x, y, _, _, _, h⟩ => okErr_if h
  | 5, _, _, h => okErr_ratio h
  | 6, _, _, ⟨x, _, _, h⟩ => okErr_if h
  | 7, _, _, ⟨x, _, _, h⟩ => okErr_if h
  | 8, _, _, ⟨x, _, _, h⟩ => okErr_if h
  | 9, _, _, ⟨x, _, h⟩ => okErr_if h
  | 10, _, _, h => okErr_sq h
  | 11, _, _, h => okErr_pow h
  | 12, _, _, ⟨x, y, _, _, h⟩ => okErr_if h
  | 13, _, _, ⟨x, y, _, _, h⟩ => okErr_if h
  | 14, _, _, ⟨x, y, _, _, h⟩ => okErr_if h
  | n + 15, _, _, h => h.elim
/-- how many arguments it has -/
theorem rt_two : ∀ {i : Nat} {ds : List D} {r : Except Str D}, RT i ds r → (i < 6 ∨ 11 ≤ i) → ∃ x y, ds = [x, y]
  | 0, _, _, ⟨x, y, e, _⟩, _ => ⟨x, y, e⟩
  | 1, _, _, ⟨x, y, e, _⟩, _ => ⟨x, y, e⟩
  | 2, _, _, ⟨x, y, e, _⟩, _ => ⟨x, y, e⟩
  | 3, _, _, ⟨x, y, e, _⟩, _ => ⟨x, y, e⟩
  | 4, _, _, ⟨x, y, e, _⟩, _ => ⟨x, y, e⟩
  | 5, _, _, ⟨x, y, e, _⟩, _ => ⟨x, y, e⟩
  | 6, _, _, _, h => absurd h (by decide)
  | 7, _, _, _, h => absurd h (by decide)
  | 8, _, _, _, h => absurd h (by decide)
  | 9, _, _, _, h => absurd h (by decide)
  | 10, _, _, _, h => absurd h (by decide)
  | 11, _, _, ⟨x, y, e, _⟩, _ => ⟨x, y, e⟩
  | 12, _, _, ⟨x, y, e, _⟩, _ => ⟨x, y, e⟩
  | 13, _, _, ⟨x, y, e, _⟩, _ => ⟨x, y, e⟩
  | 14, _, _, ⟨x, y, e, _⟩, _ => ⟨x, y, e⟩
  | n + 15, _, _, h, _ => h.elim
theorem rt_one : ∀ {i : Nat} {ds : List D} {r : Except Str D}, RT i ds r → 6 ≤ i → i < 11 → ∃ x, ds = [x]
  | 6, _, _, ⟨x, e, _⟩, _, _ => ⟨x, e⟩
  | 7, _, _, ⟨x, e, _⟩, _, _ => ⟨x, e⟩
  | 8, _, _, ⟨x, e, _⟩, _, _ => ⟨x, e⟩
  | 9, _, _, ⟨x, e, _⟩, _, _ => ⟨x, e⟩
  | 10, _, _, ⟨x, e, _⟩, _, _ => ⟨x, e⟩
  | 0, _, _, _, h, _ => absurd h (by decide)
  | 1, _, _, _, h, _ => absurd h (by decide)
  | 2, _, _, _, h, _ => absurd h (by decide)
  | 3, _, _, _, h, _ => absurd h (by decide)
  | 4, _, _, _, h, _ => absurd h (by decide)
  | 5, _, _, _, h, _ => absurd h (by decide)
  | n + 11, _, _, _, _, h => absurd h (by omega)
/-- what the law gets to see -/
def outD : Except Str D → D
  | .ok d => d
  | .error n => .str (S (refT (if n = "NotRight" then 1 else 3)))
def R_told : List D → D → Prop := fun ds d => ∃ (i : Nat) (args : List D) (r : Except Str D), ds = [.int i, .tuple args] ∧ RT i args r ∧ d = outD r
section
variable {P : Program} {w : World} {K : PySem.W.Frag} {mg : Str → Option Value} {base : Heap}
theorem decLtN (a b : Nat) : decide ((a : Int) < (b : Int)) = decide (a < b) := by
  by_cases h : a < b
  · rw [decide_eq_true h]; exact decide_eq_true (by omega)
  · rw [decide_eq_false h]; exact decide_eq_false (by omega)
theorem xfn_mg {P : Program} {w : World} {K : PySem.W.Frag} {mg : Str → Option Value} {base : Heap} {k : Nat} {x : Str} {R : List D → Except Str D → Prop} (F : XFn P w K mg base k x R) : ∃ f, mg x = some (.ref f) := by
  obtain ⟨f, h, _⟩ := F.ex
  exact ⟨f, h⟩
theorem ok__law_told (T : Txt K mg) (T2 : Txt2 K mg) : PFn P w K mg base 6 "_law_told" R_told :=
  pfn_of T.h__law_told sc__law_told (fun ds d ⟨i, args, r, e, _⟩ => by rw [e]; rfl) fun cdv A outer s f H Q xk hr ds d G vs ⟨i, args, r, e, hR, ed⟩ g hv q => by
    subst e ed
    obtain ⟨u, x, rfl, hu, hx⟩ := all2 hv
    cases hu
    obtain ⟨_, _, _, cw, hcw, _⟩ := T2.e0.ex
    refine s_tryAs 2 (c := cw) sc__law_told.nd hcw fun W hW pn xe tk po => ?_
    -- the except suite
    have er : ∀ (σ' : L2.St) (n : Str) (c : Addr), σ' = [some (.int i), some x, Option.none] → r = .error n → mg n = some (.ref c) → ∀ G' H', Nx G H G' H' → W (.ref c) Option.none σ' H' := fun σ' n c eσ hr' hc G' H' n' => by
      subst eσ
      have key : ∀ idx, Ef K mg n idx → (if n = "NotRight" then 1 else 3) = idx + 1 → W (.ref c) Option.none [some (.int i), some x, Option.none] H' := fun idx ef hi => by
        obtain ⟨D0, hm, hE, cw', hcw', hx⟩ := ef.ex
        rw [hc] at hm; cases hm
        rw [hcw] at hcw'; cases hcw'
        refine hW c _ H' hx fun a oe pn' ha hz hd => ?_
        obtain ⟨ff, fd, m1, m2, m3, FF⟩ := ok__law_flag (P := P) (w := w) (base := base) T
        have hot : L2H.Hot1 ((cxOf CX0 P w K mg base N__law_told "_law_told" (defScope s__law_told) f cdv A outer s H xk).nox.A.mark (some (.ref a))) (a, oe) := by
          obtain ⟨vs, hv⟩ := hd
          exact ⟨rfl, vs, hv, hz.2.2 vs hv⟩
        refine s_cons ⟨_, ps_ret (pe_callP (p := (a, oe)) FF ⟨(hr.mono (show 1 ≤ 5 by decide)).dp, (hr.mono (show 1 ≤ 5 by decide)).un⟩ hot (List.mem_cons_self ..) rfl m1 m2 m3 (pa_cons (pe_var (i := 2) rfl (Or.inl rfl)) pa_nil)), .ref a, rfl, idx, c, G', rfl, hE, hz.zc, hd, n'.gh, fun G2 H2 n2 => ?_⟩
        refine q _ G2 H2 (n'.trans n2) ?_
        rw [hr']
        show Dp K G2 _ (.str (S (refT (if n = "NotRight" then 1 else 3))))
        rw [hi]
        exact .str _
      rcases rt_err hR n hr' with e | e
      · subst e; exact key 0 T2.e0 rfl
      · subst e; exact key 2 T2.e2 (by rw [if_neg (by decide)])
    have ok : ∀ d, r = .ok d → ∀ v G' H', Nx G H G' H' → Dp K G' v d → Q v H' := fun d hd v G' H' n hv => q v G' H' n (by rw [hd]; exact hv)
    refine s_when (k := decide (i < 6)) (t_is (t_lt (e_var 0 (.int _)) e_int) (decLtN i 6)) g (fun h G1 H1 n1 => ?_) fun h G1 H1 n1 => ?_
    · have h := of_decide_eq_true h
      have hx1 := Dp.mono n1.g hx
      obtain ⟨a, b, rfl⟩ := rt_two hR (.inl h)
      obtain ⟨f0, m0⟩ := xfn_mg (ok_plus (P := P) (w := w) (base := base) T)
      obtain ⟨f1, m1⟩ := xfn_mg (ok_minus (P := P) (w := w) (base := base) T)
      obtain ⟨f2, m2⟩ := xfn_mg (ok_times (P := P) (w := w) (base := base) T)
      obtain ⟨f3, m3⟩ := xfn_mg (ok_over (P := P) (w := w) (base := base) T)
      obtain ⟨f4, m4⟩ := xfn_mg (ok_compare (P := P) (w := w) (base := base) T)
      obtain ⟨f5, m5⟩ := xfn_mg (ok_ratio (P := P) (w := w) (base := base) T)
      rcases (show i = 0 ∨ i = 1 ∨ i = 2 ∨ i = 3 ∨ i = 4 ∨ i = 5 by omega) with e | e | e | e | e | e <;> subst e
      · exact s_retIx (l := [("plus", f0), ("minus", f1), ("times", f2), ("over", f3), ("compare", f4), ("ratio", f5)]) (.cons m0 rfl (by decide) rfl (.cons m1 rfl (by decide) rfl (.cons m2 rfl (by decide) rfl (.cons m3 rfl (by decide) rfl (.cons m4 rfl (by decide) rfl (.cons m5 rfl (by decide) rfl .nil)))))) (by simp) (e_var 0 (.int _)) rfl m0 (ok_plus T) (hr.mono (by decide)) tk (a_cons (e_ixT (e_var 1 hx1) e_int rfl) (a_cons (e_ixT (e_var 1 hx1) e_int rfl) a_nil)) hR n1.gh (fun d hd v G' H' n hv => ok d hd v G' H' (n1.trans n) hv) fun n c hn hc G' H' z => er _ n c rfl hn hc G' H' (n1.trans z)
      · exact s_retIx (l := [("plus", f0), ("minus", f1), ("times", f2), ("over", f3), ("compare", f4), ("ratio", f5)]) (.cons m0 rfl (by decide) rfl (.cons m1 rfl (by decide) rfl (.cons m2 rfl (by decide) rfl (.cons m3 rfl (by decide) rfl (.cons m4 rfl (by decide) rfl (.cons m5 rfl (by decide) rfl .nil)))))) (by simp) (e_var 0 (.int _)) rfl m1 (ok_minus T) (hr.mono (by decide)) tk (a_cons (e_ixT (e_var 1 hx1) e_int rfl) (a_cons (e_ixT (e_var 1 hx1) e_int rfl) a_nil)) hR n1.gh (fun d hd v G' H' n hv => ok d hd v G' H' (n1.trans n) hv) fun n c hn hc G' H' z => er _ n c rfl hn hc G' H' (n1.trans z)
      · exact s_retIx (l := [("plus", f0), ("minus", f1), ("times", f2), ("over", f3), ("compare", f4), ("ratio", f5)]) (.cons m0 rfl (by decide) rfl (.cons m1 rfl (by decide) rfl (.cons m2 rfl (by decide) rfl (.cons m3 rfl (by decide) rfl (.cons m4 rfl (by decide) rfl (.cons m5 rfl (by decide) rfl .nil)))))) (by simp) (e_var 0 (.int _)) rfl m2 (ok_times T) (hr.mono (by decide)) tk (a_cons (e_ixT (e_var 1 hx1) e_int rfl) (a_cons (e_ixT (e_var 1 hx1) e_int rfl) a_nil)) hR n1.gh (fun d hd v G' H' n hv => ok d hd v G' H' (n1.trans n) hv) fun n c hn hc G' H' z => er _ n c rfl hn hc G' H' (n1.trans z)
      · exact s_retIx (l := [("plus", f0), ("minus", f1), ("times", f2), ("over", f3), ("compare", f4), ("ratio", f5)]) (.cons m0 rfl (by decide) rfl (.cons m1 rfl (by decide) rfl (.cons m2 rfl (by decide) rfl (.cons m3 rfl (by decide) rfl (.cons m4 rfl (by decide) rfl (.cons m5 rfl (by decide) rfl .nil)))))) (by simp) (e_var 0 (.int _)) rfl m3 (ok_over T) (hr.mono (by decide)) tk (a_cons (e_ixT (e_var 1 hx1) e_int rfl) (a_cons (e_ixT (e_var 1 hx1) e_int rfl) a_nil)) hR n1.gh (fun d hd v G' H' n hv => ok d hd v G' H' (n1.trans n) hv) fun n c hn hc G' H' z => er _ n c rfl hn hc G' H' (n1.trans z)
      · exact s_retIx (l := [("plus", f0), ("minus", f1), ("times", f2), ("over", f3), ("compare", f4), ("ratio", f5)]) (.cons m0 rfl (by decide) rfl (.cons m1 rfl (by decide) rfl (.cons m2 rfl (by decide) rfl (.cons m3 rfl (by decide) rfl (.cons m4 rfl (by decide) rfl (.cons m5 rfl (by decide) rfl .nil)))))) (by simp) (e_var 0 (.int _)) rfl m4 (ok_compare T) (hr.mono (by decide)) tk (a_cons (e_ixT (e_var 1 hx1) e_int rfl) (a_cons (e_ixT (e_var 1 hx1) e_int rfl) a_nil)) hR n1.gh (fun d hd v G' H' n hv => ok d hd v G' H' (n1.trans n) hv) fun n c hn hc G' H' z => er _ n c rfl hn hc G' H' (n1.trans z)
      · exact s_retIx (l := [("plus", f0), ("minus", f1), ("times", f2), ("over", f3), ("compare", f4), ("ratio", f5)]) (.cons m0 rfl (by decide) rfl (.cons m1 rfl (by decide) rfl (.cons m2 rfl (by decide) rfl (.cons m3 rfl (by decide) rfl (.cons m4 rfl (by decide) rfl (.cons m5 rfl (by decide) rfl .nil)))))) (by simp) (e_var 0 (.int _)) rfl m5 (ok_ratio T) (hr.mono (by decide)) tk (a_cons (e_ixT (e_var 1 hx1) e_int rfl) (a_cons (e_ixT (e_var 1 hx1) e_int rfl) a_nil)) hR n1.gh (fun d hd v G' H' n hv => ok d hd v G' H' (n1.trans n) hv) fun n c hn hc G' H' z => er _ n c rfl hn hc G' H' (n1.trans z)
    · have h := of_decide_eq_false h
      refine s_when (k := decide (i < 11)) (t_is (t_lt (e_var 0 (.int _)) e_int) (decLtN i 11)) n1.gh (fun h2 G2 H2 n2 => ?_) fun h2 G2 H2 n2 => ?_
      · have h2 := of_decide_eq_true h2
        have hx1 := Dp.mono n2.g (Dp.mono n1.g hx)
        have nn := n1.trans n2
        obtain ⟨a, rfl⟩ := rt_one hR (by omega) h2
        obtain ⟨f0, m0⟩ := xfn_mg (ok_floor_of (P := P) (w := w) (base := base) T)
        obtain ⟨f1, m1⟩ := xfn_mg (ok_ceiling_of (P := P) (w := w) (base := base) T)
        obtain ⟨f2, m2⟩ := xfn_mg (ok_shown_ratio (P := P) (w := w) (base := base) T)
        obtain ⟨f3, m3⟩ := xfn_mg (ok_halved (P := P) (w := w) (base := base) T)
        obtain ⟨f4, m4⟩ := xfn_mg (ok_least_square (P := P) (w := w) (base := base) T)
        rcases (show i = 6 ∨ i = 7 ∨ i = 8 ∨ i = 9 ∨ i = 10 by omega) with e | e | e | e | e <;> subst e
        · exact s_retIx (l := [("floor_of", f0), ("ceiling_of", f1), ("shown_ratio", f2), ("halved", f3), ("least_square", f4)]) (.cons m0 rfl (by decide) rfl (.cons m1 rfl (by decide) rfl (.cons m2 rfl (by decide) rfl (.cons m3 rfl (by decide) rfl (.cons m4 rfl (by decide) rfl .nil))))) (by simp) (e_sub (e_var 0 (.int _)) e_int) rfl m0 (ok_floor_of T) (hr.mono (by decide)) tk (a_cons (e_ixT (e_var 1 hx1) e_int rfl) a_nil) hR nn.gh (fun d hd v G' H' n hv => ok d hd v G' H' (nn.trans n) hv) fun n c hn hc G' H' z => er _ n c rfl hn hc G' H' (nn.trans z)
        · exact s_retIx (l := [("floor_of", f0), ("ceiling_of", f1), ("shown_ratio", f2), ("halved", f3), ("least_square", f4)]) (.cons m0 rfl (by decide) rfl (.cons m1 rfl (by decide) rfl (.cons m2 rfl (by decide) rfl (.cons m3 rfl (by decide) rfl (.cons m4 rfl (by decide) rfl .nil))))) (by simp) (e_sub (e_var 0 (.int _)) e_int) rfl m1 (ok_ceiling_of T) (hr.mono (by decide)) tk (a_cons (e_ixT (e_var 1 hx1) e_int rfl) a_nil) hR nn.gh (fun d hd v G' H' n hv => ok d hd v G' H' (nn.trans n) hv) fun n c hn hc G' H' z => er _ n c rfl hn hc G' H' (nn.trans z)
        · exact s_retIx (l := [("floor_of", f0), ("ceiling_of", f1), ("shown_ratio", f2), ("halved", f3), ("least_square", f4)]) (.cons m0 rfl (by decide) rfl (.cons m1 rfl (by decide) rfl (.cons m2 rfl (by decide) rfl (.cons m3 rfl (by decide) rfl (.cons m4 rfl (by decide) rfl .nil))))) (by simp) (e_sub (e_var 0 (.int _)) e_int) rfl m2 (ok_shown_ratio T) (hr.mono (by decide)) tk (a_cons (e_ixT (e_var 1 hx1) e_int rfl) a_nil) hR nn.gh (fun d hd v G' H' n hv => ok d hd v G' H' (nn.trans n) hv) fun n c hn hc G' H' z => er _ n c rfl hn hc G' H' (nn.trans z)
        · exact s_retIx (l := [("floor_of", f0), ("ceiling_of", f1), ("shown_ratio", f2), ("halved", f3), ("least_square", f4)]) (.cons m0 rfl (by decide) rfl (.cons m1 rfl (by decide) rfl (.cons m2 rfl (by decide) rfl (.cons m3 rfl (by decide) rfl (.cons m4 rfl (by decide) rfl .nil))))) (by simp) (e_sub (e_var 0 (.int _)) e_int) rfl m3 (ok_halved T) (hr.mono (by decide)) tk (a_cons (e_ixT (e_var 1 hx1) e_int rfl) a_nil) hR nn.gh (fun d hd v G' H' n hv => ok d hd v G' H' (nn.trans n) hv) fun n c hn hc G' H' z => er _ n c rfl hn hc G' H' (nn.trans z)
        · exact s_retIx (l := [("floor_of", f0), ("ceiling_of", f1), ("shown_ratio", f2), ("halved", f3), ("least_square", f4)]) (.cons m0 rfl (by decide) rfl (.cons m1 rfl (by decide) rfl (.cons m2 rfl (by decide) rfl (.cons m3 rfl (by decide) rfl (.cons m4 rfl (by decide) rfl .nil))))) (by simp) (e_sub (e_var 0 (.int _)) e_int) rfl m4 (ok_least_square T) (hr.mono (by decide)) tk (a_cons (e_ixT (e_var 1 hx1) e_int rfl) a_nil) hR nn.gh (fun d hd v G' H' n hv => ok d hd v G' H' (nn.trans n) hv) fun n c hn hc G' H' z => er _ n c rfl hn hc G' H' (nn.trans z)
      · have h2 := of_decide_eq_false h2
        have hx1 := Dp.mono n2.g (Dp.mono n1.g hx)
        have nn := n1.trans n2
        obtain ⟨a, b, rfl⟩ := rt_two hR (.inr (by omega))
        have h15 : i < 15 := by
          refine Nat.lt_of_not_le fun z => ?_
          obtain ⟨m, rfl⟩ : ∃ m, i = m + 15 := ⟨i - 15, by omega⟩
          exact hR.elim
        obtain ⟨f0, m0⟩ := xfn_mg (ok_power (P := P) (w := w) (base := base) T)
        obtain ⟨f1, m1⟩ := xfn_mg (ok_down_to (P := P) (w := w) (base := base) T)
        obtain ⟨f2, m2⟩ := xfn_mg (ok_up_to (P := P) (w := w) (base := base) T)
        obtain ⟨f3, m3⟩ := xfn_mg (ok_decimal_of (P := P) (w := w) (base := base) T)
        rcases (show i = 11 ∨ i = 12 ∨ i = 13 ∨ i = 14 by omega) with e | e | e | e <;> subst e
        · exact s_retIx (l := [("power", f0), ("down_to", f1), ("up_to", f2), ("decimal_of", f3)]) (.cons m0 rfl (by decide) rfl (.cons m1 rfl (by decide) rfl (.cons m2 rfl (by decide) rfl (.cons m3 rfl (by decide) rfl .nil)))) (by simp) (e_sub (e_var 0 (.int _)) e_int) rfl m0 (ok_power T) (hr.mono (by decide)) tk (a_cons (e_ixT (e_var 1 hx1) e_int rfl) (a_cons (e_ixT (e_var 1 hx1) e_int rfl) a_nil)) hR nn.gh (fun d hd v G' H' n hv => ok d hd v G' H' (nn.trans n) hv) fun n c hn hc G' H' z => er _ n c rfl hn hc G' H' (nn.trans z)
        · exact s_retIx (l := [("power", f0), ("down_to", f1), ("up_to", f2), ("decimal_of", f3)]) (.cons m0 rfl (by decide) rfl (.cons m1 rfl (by decide) rfl (.cons m2 rfl (by decide) rfl (.cons m3 rfl (by decide) rfl .nil)))) (by simp) (e_sub (e_var 0 (.int _)) e_int) rfl m1 (ok_down_to T) (hr.mono (by decide)) tk (a_cons (e_ixT (e_var 1 hx1) e_int rfl) (a_cons (e_ixT (e_var 1 hx1) e_int rfl) a_nil)) hR nn.gh (fun d hd v G' H' n hv => ok d hd v G' H' (nn.trans n) hv) fun n c hn hc G' H' z => er _ n c rfl hn hc G' H' (nn.trans z)
        · exact s_retIx (l := [("power", f0), ("down_to", f1), ("up_to", f2), ("decimal_of", f3)]) (.cons m0 rfl (by decide) rfl (.cons m1 rfl (by decide) rfl (.cons m2 rfl (by decide) rfl (.cons m3 rfl (by decide) rfl .nil)))) (by simp) (e_sub (e_var 0 (.int _)) e_int) rfl m2 (ok_up_to T) (hr.mono (by decide)) tk (a_cons (e_ixT (e_var 1 hx1) e_int rfl) (a_cons (e_ixT (e_var 1 hx1) e_int rfl) a_nil)) hR nn.gh (fun d hd v G' H' n hv => ok d hd v G' H' (nn.trans n) hv) fun n c hn hc G' H' z => er _ n c rfl hn hc G' H' (nn.trans z)
        · exact s_retIx (l := [("power", f0), ("down_to", f1), ("up_to", f2), ("decimal_of", f3)]) (.cons m0 rfl (by decide) rfl (.cons m1 rfl (by decide) rfl (.cons m2 rfl (by decide) rfl (.cons m3 rfl (by decide) rfl .nil)))) (by simp) (e_sub (e_var 0 (.int _)) e_int) rfl m3 (ok_decimal_of T) (hr.mono (by decide)) tk (a_cons (e_ixT (e_var 1 hx1) e_int rfl) (a_cons (e_ixT (e_var 1 hx1) e_int rfl) a_nil)) hR nn.gh (fun d hd v G' H' n hv => ok d hd v G' H' (nn.trans n) hv) fun n c hn hc G' H' z => er _ n c rfl hn hc G' H' (nn.trans z)
end
end K00

/-! D12: w, x, y, z = (..). -/
namespace DL
open PySem PySem.Spec PyProof.Rows L2 L2H HotX SX
theorem all4 {K : PySem.W.Frag} {H : Hp} {us : List V} {a b c d : D} (h : DpAll K H us [a, b, c, d]) : ∃ u v w x, us = [u, v, w, x] ∧ Dp K H u a ∧ Dp K H v b ∧ Dp K H w c ∧ Dp K H x d := by
  cases h with
  | cons h r => obtain ⟨v, w, x, rfl, q⟩ := all3 r; exact ⟨_, v, w, x, rfl, h, q⟩
section
variable {X : Cx} {σ : L2.St} {G H : Hp} {l : Addr} {es : List Expr} {pos : Pos} {rest : List Stmt} {Z : Ends}
/-- four names at once, drawn -/
theorem sm_tup4 (i j k m : Nat) {w x y z : Str} {pw px py pz pt pt2 : Pos} {kt k2 : Nat} {Rs : List D → Prop} (hcalm : X.calm = true) (hN : X.N.Nodup) (ha : AM X es σ G l Rs) (mo : MO G H l) (hl : ∀ ds, Rs ds → ∃ a b c d, ds = [a, b, c, d])
    (q : ∀ u v w x a b c d G' H', Rs [a, b, c, d] → Ex G G' → MO G' H' l → Dp X.K G' u a → Dp X.K G' v b → Dp X.K G' w c → Dp X.K G' x d → wB X rest Z ((((σ.set i (some u)).set j (some v)).set k (some w)).set m (some x)) H')
    (hi : X.N[i]? = some w := by rfl) (hj : X.N[j]? = some x := by rfl) (hk : X.N[k]? = some y := by rfl) (hm : X.N[m]? = some z := by rfl)
    (li : L2.Loc X.env.scope w := by first | exact Or.inl rfl | exact Or.inr rfl) (lj : L2.Loc X.env.scope x := by first | exact Or.inl rfl | exact Or.inr rfl) (lk : L2.Loc X.env.scope y := by first | exact Or.inl rfl | exact Or.inr rfl) (lm : L2.Loc X.env.scope z := by first | exact Or.inl rfl | exact Or.inr rfl)
    (fi : X.fn w = true ∨ X.env.scope.names.lookup w = some .local := by first | exact .inl rfl | exact .inr rfl) (fj : X.fn x = true ∨ X.env.scope.names.lookup x = some .local := by first | exact .inl rfl | exact .inr rfl)
    (fk : X.fn y = true ∨ X.env.scope.names.lookup y = some .local := by first | exact .inl rfl | exact .inr rfl) (fm : X.fn z = true ∨ X.env.scope.names.lookup z = some .local := by first | exact .inl rfl | exact .inr rfl)
    (h4 : (assignEach [.Name w pw, .Name x px, .Name y py, .Name z pz] X.env).map (·.2) = assign (.Name w pw) X.env :: (assignEach [.Name x px, .Name y py, .Name z pz] X.env).map (·.2) := by rfl)
    (h3 : (assignEach [.Name x px, .Name y py, .Name z pz] X.env).map (·.2) = assign (.Name x px) X.env :: (assignEach [.Name y py, .Name z pz] X.env).map (·.2) := by rfl)
    (h2 : (assignEach [.Name y py, .Name z pz] X.env).map (·.2) = assign (.Name y py) X.env :: (assignEach [.Name z pz] X.env).map (·.2) := by rfl)
    (h1 : (assignEach [.Name z pz] X.env).map (·.2) = assign (.Name z pz) X.env :: (assignEach [] X.env).map (·.2) := by rfl)
    (hn : (assignEach [.Name w pw, .Name x px, .Name y py, .Name z pz] X.env).length = 4 := by rfl) (hst : (assignEach [.Name w pw, .Name x px, .Name y py, .Name z pz] X.env).findIdx? (·.1) = Option.none := by rfl)
    (hs : swapsWithSole [.Tuple [.Name w pw, .Name x px, .Name y py, .Name z pz] kt pt] (.Tuple es k2 pt2) pos.line X.env = pure false := by rfl)
    (hw : swappedStores [.Tuple [.Name w pw, .Name x px, .Name y py, .Name z pz] kt pt] (.Tuple es k2 pt2) X.env = pure Option.none := by rfl)
    (ht : (assignEach [.Tuple [.Name w pw, .Name x px, .Name y py, .Name z pz] kt pt] X.env).map (·.2) = [assign (.Tuple [.Name w pw, .Name x px, .Name y py, .Name z pz] kt pt) X.env] := by rfl) :
    wB X (.Assign [.Tuple [.Name w pw, .Name x px, .Name y py, .Name z pz] kt pt] (.Tuple es k2 pt2) pos :: rest) Z σ H :=
  s_cons ⟨_, ps_asg pe_w (pg_tup hcalm (pgs_cons (pg_name hN hi li fi) (pgs_cons (pg_name hN hj lj fj) (pgs_cons (pg_name hN hk lk fk) (pgs_cons (pg_name hN hm lm fm) pgs_nil h1) h2) h3) h4) hn hst) hs hw ht,
    em_tup ha (fun ds r => by obtain ⟨a, b, c, d, rfl⟩ := hl ds r; simp) G H (Evl.Ex.refl _) mo _ fun v d G' H' ⟨ds, e, r⟩ g' m' hv => by
      subst e
      obtain ⟨a, b, c, d, rfl⟩ := hl ds r
      obtain ⟨p, xs, rfl, ht', hx⟩ := Dp.tup_inv hv
      obtain ⟨u1, u2, u3, u4, rfl, d1, d2, d3, d4⟩ := all4 hx
      exact ⟨p, _, rfl, Evl.ex_t m'.gh ht', rfl, _, _, rfl, _, _, rfl, _, _, rfl, _, _, rfl, rfl, q u1 u2 u3 u4 a b c d G' H' r g' m' d1 d2 d3 d4⟩⟩
end
end DL

/-! K14: a turn of the law, first part. -/
namespace K00
open PySem PySem.Spec PyProof.Rows L2 DL SX
abbrev turnBody : List Stmt := match ((defBody s_law)[1]? : Option Stmt) with | some (Stmt.For _ _ b _ _) => b | _ => []
abbrev lawX (P : Program) (w : World) (K : PySem.W.Frag) (mg : Str → Option Value) (base : Heap) (f : Addr) (cdv : Value) (A : Around) (outer : List Env) (s : Shared) (H : Hp) (xk : XK) : Cx := (cxOf CX0 P w K mg base N_law "law" (defScope s_law) f cdv A outer s H xk).nox
abbrev st (u : V) (l : Addr) (t a b n k x7 x8 x9 x10 x11 x12 x13 x14 x15 x16 x17 x18 x19 : Option V) : L2.St := [some u, some (.ref l), t, a, b, n, k, x7, x8, x9, x10, x11, x12, x13, x14, x15, x16, x17, x18, x19, Option.none, Option.none]
section
variable {P : Program} {w : World} {K : PySem.W.Frag} {mg : Str → Option Value} {base : Heap} {f : Addr} {cdv : Value} {A : Around} {outer : List Env} {s : Shared} {H0 : Hp} {xk : XK}
/-- a, b, n, k are drawn -/
theorem seg_draw (T : Txt K mg) (hr : Room 6 (lawX P w K mg base f cdv A outer s H0 xk).A) {G H : Hp} {l : Addr} {Z : Ends} {u : V} {t a b n k x7 x8 x9 x10 x11 x12 x13 x14 x15 x16 x17 x18 x19 : Option V} (m : MO G H l)
    (q : ∀ (va vb : V) (qa qb : Rat) (n : Int) (k : Nat) G' H', Ex G G' → MO G' H' l → Dp K G' va (rd qa) → Dp K G' vb (rd qb) → Sz 17 qa → Sz 17 qb → -4 ≤ n → n < 8 → k < 40 →
      wB (lawX P w K mg base f cdv A outer s H0 xk) (turnBody.drop 1) Z (st u l t (some va) (some vb) (some (.int n)) (some (.int k)) x7 x8 x9 x10 x11 x12 x13 x14 x15 x16 x17 x18 x19) H') :
    wB (lawX P w K mg base f cdv A outer s H0 xk) turnBody Z (st u l t a b n k x7 x8 x9 x10 x11 x12 x13 x14 x15 x16 x17 x18 x19) H := by
  refine sm_tup4 3 4 5 6 rfl sc_law.nd (am_cons (em_call 1 (ok__law_any T) (hr.mono (by decide)) (R := fun d => ∃ q : Rat, d = rd q ∧ Sz 17 q) am_nil (fun ds e => e) (fun ds d _ h => h)) (am_cons (em_call 1 (ok__law_any T) (hr.mono (by decide)) (R := fun d => ∃ q : Rat, d = rd q ∧ Sz 17 q) am_nil (fun ds e => e) (fun ds d _ h => h))
    (am_cons (R := intP fun i => -4 ≤ i ∧ i < 8) (em_sub (P := fun i => 0 ≤ i ∧ i < 12) (em_call 1 (ok__law_take T) (hr.mono (by decide)) (am_of (a_cons e_int a_nil)) (fun ds e => ⟨_, e, by decide⟩) (fun ds d e ⟨bb, i, e1, e2, h1, h2⟩ => ?_)) em_int (fun i j h1 h2 => by subst h2; omega))
    (am_cons (R := intP fun i => 0 ≤ i ∧ i < 40) (em_call 1 (ok__law_take T) (hr.mono (by decide)) (am_of (a_cons e_int a_nil)) (fun ds e => ⟨_, e, by decide⟩) (fun ds d e ⟨bb, i, e1, e2, h1, h2⟩ => ?_)) am_nil)))) m
    (fun ds ⟨d1, r1, e1, _, d2, r2, e2, _, d3, r3, e3, _, d4, r4, e4, _, e5⟩ => ⟨d1, d2, d3, d4, by rw [e1, e2, e3, e4, e5]⟩)
    fun v1 v2 v3 v4 a b c d G' H' ⟨d1, r1, e1, ⟨qa, ea, za⟩, d2, r2, e2, ⟨qb, eb, zb⟩, d3, r3, e3, ⟨n, en, hn⟩, d4, r4, e4, ⟨k, ek, hk⟩, e5⟩ g' m' h1 h2 h3 h4 => ?_
  · subst e; cases e1; exact ⟨i, e2, h1, h2⟩
  · subst e; cases e1; exact ⟨i, e2, h1, h2⟩
  · subst e5 e4 e3 e2 ea eb en ek
    cases e1
    cases h3; cases h4
    obtain ⟨kk, rfl⟩ := Int.eq_ofNat_of_zero_le hk.1
    exact q v1 v2 qa qb n kk G' H' g' m' h1 h2 za zb hn.1 hn.2 (by omega)
end
end K00

/-! K15: a turn of the law: sums and the like. -/
namespace K00
open PySem PySem.Spec PyProof.Rows L2 DL SX
/-- what the program tells of a, b -/
def rG (a b : Rat) : Nat → Except Str D
  | 0 => .ok (rd (a + b))
  | 1 => .ok (rd (a - b))
  | 2 => .ok (rd (a * b))
  | 3 => if b = 0 then .error "NoAnswer" else .ok (rd (a / b))
  | _ => .ok (.int ((if b < a then 1 else 0) - (if a < b then 1 else 0)))
theorem szd {q : Rat} {n m : Nat} (h : Sz n q) (l : n ≤ m) : SzD m (rd q) := SzD.rd (h.mono l)
theorem rt_G {a b : Rat} (za : Sz 17 a) (zb : Sz 17 b) {i : Nat} (hi : i < 5) : RT i [rd a, rd b] (rG a b i) := by
  have sa : SzD 3000 (rd a) := szd za (by decide)
  have sb : SzD 3000 (rd b) := szd zb (by decide)
  have tt : (isRatio (rd a) && isRatio (rd b)) = true := by rw [isRatio_rd, isRatio_rd]; rfl
  match i, hi with
  | 0, _ => exact ⟨rd a, rd b, rfl, sa, sb, by rw [if_pos tt, qOf_rd, qOf_rd]; rfl⟩
  | 1, _ => exact ⟨rd a, rd b, rfl, sa, sb, by rw [if_pos tt, qOf_rd, qOf_rd]; rfl⟩
  | 2, _ => exact ⟨rd a, rd b, rfl, sa, sb, by rw [if_pos tt, qOf_rd, qOf_rd]; rfl⟩
  | 3, _ => exact ⟨rd a, rd b, rfl, sa, sb, by rw [if_pos tt, qOf_rd, qOf_rd]; rfl⟩
  | 4, _ => exact ⟨rd a, rd b, rfl, sa, sb, by rw [if_pos tt, qOf_rd, qOf_rd]; rfl⟩
def dOver (a b : Rat) : D := if b = 0 then .str (S (refT 3)) else rd (a / b)
theorem out_over (a b : Rat) : outD (if b = 0 then .error "NoAnswer" else .ok (rd (a / b))) = dOver a b := by
  unfold dOver
  by_cases h : b = 0
  · rw [if_pos h, if_pos h]
    show PyData.str (S (refT (if ("NoAnswer" : Str) = "NotRight" then 1 else 3))) = _
    rw [if_neg (by decide)]
  · rw [if_neg h, if_neg h]; rfl
theorem fl_rd (n : Nat) (q : Rat) : Fl (n + 1) (rd q) := ⟨by simp, fun x hx => by
  simp at hx
  rcases hx with rfl | rfl <;> cases n <;> exact trivial⟩
theorem fl_int (n : Nat) (i : Int) : Fl n (.int i) := by cases n <;> exact trivial
theorem fl_str (n : Nat) (s : Str) : Fl n (.str s) := by cases n <;> exact trivial
theorem fl_over (n : Nat) (a b : Rat) : Fl (n + 1) (dOver a b) := by
  unfold dOver
  split
  · exact fl_str _ _
  · exact fl_rd _ _
theorem ratio_mul (a : Rat) (n e : Int) (c : Int) (hc : c ≠ 0) (h1 : n = a.num * c) (h2 : e = (a.den : Int) * c) : Rat.divInt n e = a := by
  rw [h1, h2, Rat.divInt_mul_right hc, self_divInt]
theorem ref3 : ("refused 3" : Str) = S (refT 3) := by decide +kernel
section
variable {P : Program} {w : World} {K : PySem.W.Frag} {mg : Str → Option Value} {base : Heap} {f : Addr} {cdv : Value} {A : Around} {outer : List Env} {s : Shared} {H0 : Hp} {xk : XK}
theorem seg_sums (T : Txt K mg) (T2 : Txt2 K mg) (hr : Room 6 (lawX P w K mg base f cdv A outer s H0 xk).A) {G H : Hp} {l : Addr} {Z : Ends} {u va vb : V} {qa qb : Rat} {t n k x7 x8 x9 x10 x11 x12 x13 x14 x15 x16 x17 x18 x19 : Option V} (m : MO G H l) (ha : Dp K G va (rd qa)) (hb : Dp K G vb (rd qb)) (za : Sz 17 qa) (zb : Sz 17 qb)
    (q : ∀ (x7 x8 : Option V) G' H', Ex G G' → MO G' H' l →
      wB (lawX P w K mg base f cdv A outer s H0 xk) (turnBody.drop 5) Z (st u l t (some va) (some vb) n k x7 x8 x9 x10 x11 x12 x13 x14 x15 x16 x17 x18 x19) H') :
    wB (lawX P w K mg base f cdv A outer s H0 xk) (turnBody.drop 1) Z (st u l t (some va) (some vb) n k x7 x8 x9 x10 x11 x12 x13 x14 x15 x16 x17 x18 x19) H := by
  have za3 : Sz 3000 qa := za.mono (by decide)
  have zb3 : Sz 3000 qb := zb.mono (by decide)
  have hn0 : ∀ q : Rat, q.num = 0 ↔ q = 0 := fun q => Rat.num_eq_zero
  refine s_set 7 (d := .list [rd (qa + qb), rd (qa - qb), rd (qa * qb), dOver qa qb]) (e_lst (a_cons (e_call (ok__law_add T) (hr.mono (by decide)) (a_cons (e_var 3 ha) (a_cons (e_var 4 hb) a_nil)) ⟨qa, qb, rfl, za3, zb3, rfl⟩) (a_cons (e_call (ok__law_sub T) (hr.mono (by decide)) (a_cons (e_var 3 ha) (a_cons (e_var 4 hb) a_nil)) ⟨qa, qb, rfl, za3, zb3, rfl⟩)
    (a_cons (e_call (ok__law_mul T) (hr.mono (by decide)) (a_cons (e_var 3 ha) (a_cons (e_var 4 hb) a_nil)) ⟨qa, qb, rfl, za3, zb3, rfl⟩)
      (a_cons (e_if (t_neI (e_ixT (e_var 4 hb) e_int rfl) e_int) (fun h => ?_) fun h => ?_) a_nil))))) m.gh sc_law.nd fun v1 G1 H1 n1 h1 => ?_
  · have h : qb.num ≠ 0 := by simpa using h
    have hq : qb ≠ 0 := fun z => h ((hn0 qb).mpr z)
    refine e_is (e_call (ok__law_r T) (hr.mono (by decide)) (a_cons (e_mul (e_ixT (e_var 3 ha) e_int rfl) (e_ixT (e_var 4 hb) e_int rfl) (mulOK za.1 (natI zb.2) (by decide))) (a_cons (e_mul (e_ixT (e_var 3 ha) e_int rfl) (e_ixT (e_var 4 hb) e_int rfl) (mulOK (natI za.2) zb.1 (by decide))) a_nil))
      ⟨_, _, rfl, Int.mul_ne_zero (Int.ne_of_gt (den_pos' qa)) h, lt_pow (mul_lt za.1 (natI zb.2)) (by decide), lt_pow (mul_lt (natI za.2) zb.1) (by decide), rfl⟩) ?_
    unfold dOver
    rw [div_divInt, if_neg hq]
  · have h : qb.num = 0 := by simpa using h
    have hq : qb = 0 := (hn0 qb).mp h
    refine e_is e_str ?_
    unfold dOver
    rw [if_pos hq, ref3]
  have m1 := m.step n1
  have ha1 := Dp.mono n1.g ha
  have hb1 := Dp.mono n1.g hb
  refine s_set 7 (e_catL (e_var 7 h1) (e_lst (a_cons (e_sub (i := if qb < qa then 1 else 0) (j := if qa < qb then 1 else 0) (e_if (t_val (e_call (ok__law_less T) (hr.mono (by decide)) (a_cons (e_var 4 hb1) (a_cons (e_var 3 ha1) a_nil)) ⟨qb, qa, rfl, zb3, za3, rfl⟩)) (fun h => e_is e_int (by rw [if_pos (of_decide_eq_true h)])) fun h => e_is e_int (by rw [if_neg (of_decide_eq_false h)]))
    (e_if (t_val (e_call (ok__law_less T) (hr.mono (by decide)) (a_cons (e_var 3 ha1) (a_cons (e_var 4 hb1) a_nil)) ⟨qa, qb, rfl, za3, zb3, rfl⟩)) (fun h => e_is e_int (by rw [if_pos (of_decide_eq_true h)])) fun h => e_is e_int (by rw [if_neg (of_decide_eq_false h)]))) (a_cons (e_var 3 ha1) a_nil))) (by simp)) m1.gh sc_law.nd fun v2 G2 H2 n2 h2 => ?_
  have m2 := m1.step n2
  have ha2 := Dp.mono n2.g ha1
  have hb2 := Dp.mono n2.g hb1
  have z6 : ∀ c : Int, c.natAbs < 2 ^ 5 → (qa.num * c).natAbs < 2 ^ 8000 ∧ ((qa.den : Int) * c).natAbs < 2 ^ 8000 := fun c hc => ⟨lt_pow (mul_lt za.1 hc) (by decide), lt_pow (mul_lt (natI za.2) hc) (by decide)⟩
  have e6 : ∀ (c : Int), c ≠ 0 → c.natAbs < 2 ^ 5 → RT 5 [.int (qa.num * c), .int ((qa.den : Int) * c)] (.ok (rd qa)) := fun c hc hl => ⟨_, _, rfl, (z6 c hl).1, (z6 c hl).2, by
    rw [if_neg (Int.mul_ne_zero (Int.ne_of_gt (den_pos' qa)) hc), ratio_mul qa _ _ c hc rfl rfl]⟩
  have e9 : RT 5 [.int (0 - qa.num * 9), .int (0 - (qa.den : Int) * 9)] (.ok (rd qa)) := by
    have := e6 (-9) (by decide) (by decide)
    rw [show qa.num * -9 = 0 - qa.num * 9 by omega, show (qa.den : Int) * -9 = 0 - (qa.den : Int) * 9 by omega] at this
    exact this
  refine s_set 8 (d := .list (([0, 1, 2, 3, 4] : List Nat).map (fun i => outD (rG qa qb i)) ++ [outD (.ok (rd qa))])) (e_catL (e_lcR (x := "which") (j := 20) (n := 5) (f := fun i => outD (rG qa qb i)) rfl sc_law.nd T.b_range (a_cons e_int a_nil) (by decide) (blkOk_by (N := N_law) (sc := defScope s_law) (by decide +kernel)) rfl (fun _ _ _ _ _ => pg_name (i := 20) sc_law.nd rfl (Or.inl rfl)) fun i hi _ _ _ _ _ => ?_)
    (e_lst (a_cons (e_call (ok__law_told T T2) hr (a_cons e_int (a_cons (e_tup (a_cons (e_mul (e_ixT (e_var 3 ha2) e_int rfl) e_int (mulOK (b := 5) za.1 (by decide) (by decide))) (a_cons (e_mul (e_ixT (e_var 3 ha2) e_int rfl) e_int (mulOK (b := 5) (natI za.2) (by decide) (by decide))) a_nil))) a_nil)) ⟨5, _, .ok (rd qa), rfl, e6 6 (by decide) (by decide), rfl⟩) a_nil)) (by simp)) m2.gh sc_law.nd fun v3 G3 H3 n3 h3 => ?_
  · exact e_call (ok__law_told T T2) hr (a_cons (e_var 20 (.int _)) (a_cons (e_tup (a_cons (e_var 3 ha2) (a_cons (e_var 4 hb2) a_nil))) a_nil)) ⟨i, _, rG qa qb i, rfl, rt_G za zb hi, rfl⟩
  have m3 := m2.step n3
  have ha3 := Dp.mono n3.g ha2
  have h23 := Dp.mono n3.g h2
  have hfl : Fl 2 (.list ([rd (qa + qb), rd (qa - qb), rd (qa * qb), dOver qa qb] ++ [.int ((if qb < qa then 1 else 0) - (if qa < qb then 1 else 0)), rd qa])) := ⟨by simp, fun x hx => by
    simp at hx
    rcases hx with rfl | rfl | rfl | rfl | rfl | rfl
    · exact fl_rd _ _
    · exact fl_rd _ _
    · exact fl_rd _ _
    · exact fl_over _ _ _
    · exact fl_int _ _
    · exact fl_rd _ _⟩
  have same : ([0, 1, 2, 3, 4] : List Nat).map (fun i => outD (rG qa qb i)) ++ [outD (.ok (rd qa))] = [rd (qa + qb), rd (qa - qb), rd (qa * qb), dOver qa qb] ++ [.int ((if qb < qa then 1 else 0) - (if qa < qb then 1 else 0)), rd qa] := by
    show [_, _, _, outD (if qb = 0 then .error "NoAnswer" else .ok (rd (qa / qb))), _] ++ _ = _
    rw [out_over]; rfl
  refine s_when (k := false) (t_is (t_or (t_not (t_val (e_call (ok__law_same T 2) (hr.mono (by decide)) (a_cons (e_var 8 h3) (a_cons (e_var 7 h23) a_nil)) ⟨_, _, rfl, hfl, rfl⟩))) fun _ => t_not (t_val (e_call (ok__law_same T 1) (hr.mono (by decide)) (a_cons (e_call (ok__law_told T T2) hr (a_cons e_int (a_cons (e_tup (a_cons (e_sub e_int (e_mul (e_ixT (e_var 3 ha3) e_int rfl) e_int (mulOK (b := 5) za.1 (by decide) (by decide)))) (a_cons (e_sub e_int (e_mul (e_ixT (e_var 3 ha3) e_int rfl) e_int (mulOK (b := 5) (natI za.2) (by decide) (by decide)))) a_nil))) a_nil)) ⟨5, _, .ok (rd qa), rfl, e9, rfl⟩) (a_cons (e_var 3 ha3) a_nil)) ⟨_, _, rfl, fl_rd 0 qa, rfl⟩))) ?_) m3.gh (fun z => nomatch z) fun _ G4 H4 n4 => q _ _ G4 H4 (((n1.g.trans n2.g).trans n3.g).trans n4.g) (m3.step n4)
  rw [same, same_refl hfl, show outD (.ok (rd qa)) = rd qa from rfl, same_refl (fl_rd 0 qa)]
  rfl
end
end K00

/-! K16: a turn of the law: floors, texts, halves; powers. -/
namespace K00
open PySem PySem.Spec PyProof.Rows L2 DL SX
theorem inv_pow' (a : Rat) (n : Nat) : (a ^ n)⁻¹ = a⁻¹ ^ n := by
  induction n with
  | zero => rw [Rat.pow_zero, Rat.pow_zero]; decide +kernel
  | succ n ih => rw [Rat.pow_succ, Rat.pow_succ, Rat.inv_mul_rev, ih, Rat.mul_comm]
theorem ceil_law (n : Int) (d : Int) (hd : 0 < d) : (if n / d * d = n then n / d else n / d + 1) = -(-n / d) := by
  have e := Int.mul_ediv_add_emod n d
  have h1 := Int.emod_nonneg n (Int.ne_of_gt hd)
  have h2 := Int.emod_lt_of_pos n hd
  have e3 : d * (n / d) = n / d * d := Int.mul_comm _ _
  by_cases h : n / d * d = n
  · rw [if_pos h]
    have e2 : -n / d = -(n / d) := by
      have : -n = -(n / d) * d := by rw [Int.neg_mul]; omega
      rw [this, Int.mul_ediv_cancel _ (Int.ne_of_gt hd)]
    rw [e2]; omega
  · rw [if_neg h]
    have e2 : -n / d = -(n / d) - 1 := by
      have hm : 0 < n % d := by
        by_cases hz : n % d = 0
        · exact absurd (by omega : n / d * d = n) h
        · omega
      have : -n = (d - n % d) + (-(n / d) - 1) * d := by
        have : (-(n / d) - 1) * d = -(n / d * d) - d := by rw [Int.sub_mul, Int.neg_mul, Int.one_mul]
        omega
      rw [this, Int.add_mul_ediv_right _ _ (Int.ne_of_gt hd), Int.ediv_eq_zero_of_lt (by omega) (by omega)]; omega
    rw [e2]; omega
section
variable {P : Program} {w : World} {K : PySem.W.Frag} {mg : Str → Option Value} {base : Heap} {f : Addr} {cdv : Value} {A : Around} {outer : List Env} {s : Shared} {H0 : Hp} {xk : XK}
theorem seg_texts (T : Txt K mg) (T2 : Txt2 K mg) (hr : Room 6 (lawX P w K mg base f cdv A outer s H0 xk).A) {G H : Hp} {l : Addr} {Z : Ends} {u va : V} {qa : Rat} {k : Nat} {t b n x7 x8 x9 x10 x11 x12 x13 x14 x15 x16 x17 x18 x19 : Option V} (m : MO G H l) (ha : Dp K G va (rd qa)) (za : Sz 17 qa) (hk : k < 40)
    (q : ∀ (x9 x10 x11 : Option V) G' H', Ex G G' → MO G' H' l →
      wB (lawX P w K mg base f cdv A outer s H0 xk) (turnBody.drop 9) Z (st u l t (some va) b n (some (.int k)) x7 x8 x9 x10 x11 x12 x13 x14 x15 x16 x17 x18 x19) H') :
    wB (lawX P w K mg base f cdv A outer s H0 xk) (turnBody.drop 5) Z (st u l t (some va) b n (some (.int k)) x7 x8 x9 x10 x11 x12 x13 x14 x15 x16 x17 x18 x19) H := by
  have sa : SzD 3000 (rd qa) := szd za (by decide)
  have dI := den_pos' qa
  have dl := natI za.2
  have lz : (qa.num / (qa.den : Int)).natAbs < 2 ^ 18 := lt_pow (Nat.lt_of_le_of_lt (Int.natAbs_ediv_le_natAbs _ _) za.1) (by decide)
  refine s_set 9 (e_div (e_ixT (e_var 3 ha) e_int rfl) (e_ixT (e_var 3 ha) e_int rfl) (divOK dI dl (by decide))) m.gh sc_law.nd fun v1 G1 H1 n1 h1 => ?_
  cases h1
  have m1 := m.step n1
  have ha1 := Dp.mono n1.g ha
  refine s_set 10 (d := .int (-(-qa.num / (qa.den : Int)))) (e_is (e_if (d := .int (if qa.num / (qa.den : Int) * (qa.den : Int) = qa.num then qa.num / (qa.den : Int) else qa.num / (qa.den : Int) + 1)) (t_eqI (e_mul (e_var 9 (.int _)) (e_ixT (e_var 3 ha1) e_int rfl) (mulOK lz dl (by decide))) (e_ixT (e_var 3 ha1) e_int rfl)) (fun h => e_is (e_var 9 (.int _)) (by rw [if_pos (of_decide_eq_true h)])) fun h => e_is (e_add (e_var 9 (.int _)) e_int) (by rw [if_neg (of_decide_eq_false h)])) (by rw [ceil_law _ _ dI])) m1.gh sc_law.nd fun v2 G2 H2 n2 h2 => ?_
  cases h2
  have m2 := m1.step n2
  have ha2 := Dp.mono n2.g ha1
  have l1 := digI_len (lt_pow za.1 (show 17 ≤ 30000 by decide))
  have l2 := dig_len (lt_pow za.2 (show 17 ≤ 30000 by decide))
  refine s_set 11 (d := .str (S (showT qa))) (e_if (t_is (t_eqI (e_ixT (e_var 3 ha2) e_int rfl) e_int) (decN _ 1)) (fun h => ?_) fun h => ?_) m2.gh sc_law.nd fun v3 G3 H3 n3 h3 => ?_
  · refine e_is (e_strN T.b_str (e_ixT (e_var 3 ha2) e_int rfl) (lt_pow za.1 (by decide))) ?_
    unfold showT; rw [if_pos (of_decide_eq_true h)]
  · refine e_is (e_catS (e_catS (e_strN T.b_str (e_ixT (e_var 3 ha2) e_int rfl) (lt_pow za.1 (by decide))) (e_strC [47]) ?_) (e_strN T.b_str (e_ixT (e_var 3 ha2) e_int rfl) (lt_pow dl (by decide))) ?_) ?_
    · simp; omega
    · rw [digI_nat]; simp; omega
    · unfold showT; rw [if_neg (of_decide_eq_false h), digI_nat]
  cases h3
  have m3 := m2.step n3
  have ha3 := Dp.mono n3.g ha2
  have hw : within 0 20000 (.int (k : Int)) = true := by
    show (decide (0 ≤ (k : Int)) && decide ((k : Int) ≤ 20000)) = true
    rw [decide_eq_true (by omega), decide_eq_true (by omega)]; rfl
  have r6 : RT 6 [rd qa] (.ok (.int (qa.num / qa.den))) := ⟨rd qa, rfl, sa, by rw [if_pos (isRatio_rd qa), qOf_rd]⟩
  have r7 : RT 7 [rd qa] (.ok (.int (-(-qa.num / qa.den)))) := ⟨rd qa, rfl, sa, by rw [if_pos (isRatio_rd qa), qOf_rd]⟩
  have r8 : RT 8 [rd qa] (.ok (.str (S (showT qa)))) := ⟨rd qa, rfl, sa, by rw [if_pos (isRatio_rd qa), qOf_rd]⟩
  have r9 : RT 9 [.int (k : Int)] (.ok (.tuple [.int 1, .int ((2 ^ k : Nat) : Int)])) := ⟨_, rfl, by rw [if_pos hw]; show _ = Except.ok (PyData.tuple [.int 1, .int (2 ^ ((k : Int)).toNat)]); rw [Int.toNat_natCast, Int.natCast_pow]; rfl⟩
  have hfl : Fl 2 (.list [.int (qa.num / qa.den), .int (-(-qa.num / qa.den)), .str (S (showT qa)), .tuple [.int 1, .int ((2 ^ k : Nat) : Int)]]) := ⟨by simp, fun x hx => by
    simp at hx
    rcases hx with rfl | rfl | rfl | rfl
    · exact fl_int _ _
    · exact fl_int _ _
    · exact fl_str _ _
    · exact ⟨by simp, fun y hy => by simp at hy; rcases hy with rfl | rfl <;> exact fl_int _ _⟩⟩
  have one : ∀ {e1 : Expr} {d : D} {p : Pos} {kk : Nat}, E (lawX P w K mg base f cdv A outer s H0 xk) e1 (st u l t (some va) b n (some (.int k)) x7 x8 (some (.int (qa.num / (qa.den : Int)))) (some (.int (-(-qa.num / (qa.den : Int))))) (some (.str (S (showT qa)))) x12 x13 x14 x15 x16 x17 x18 x19) G3 d → (starEach [e1] (lawX P w K mg base f cdv A outer s H0 xk).env = (false, eval e1 (lawX P w K mg base f cdv A outer s H0 xk).env) :: starEach [] (lawX P w K mg base f cdv A outer s H0 xk).env) →
      E (lawX P w K mg base f cdv A outer s H0 xk) (.Tuple [e1] kk p) (st u l t (some va) b n (some (.int k)) x7 x8 (some (.int (qa.num / (qa.den : Int)))) (some (.int (-(-qa.num / (qa.den : Int))))) (some (.str (S (showT qa)))) x12 x13 x14 x15 x16 x17 x18 x19) G3 (.tuple [d]) := fun h hs => e_tup (a_cons h a_nil hs)
  refine s_when (k := false) (t_is (t_not (t_val (e_call (ok__law_same T 2) (hr.mono (by decide)) (a_cons (e_lst (a_cons (e_call (ok__law_told T T2) hr (a_cons e_int (a_cons (one (e_var 3 ha3) rfl) a_nil)) ⟨6, _, _, rfl, r6, rfl⟩) (a_cons (e_call (ok__law_told T T2) hr (a_cons e_int (a_cons (one (e_var 3 ha3) rfl) a_nil)) ⟨7, _, _, rfl, r7, rfl⟩)
    (a_cons (e_call (ok__law_told T T2) hr (a_cons e_int (a_cons (one (e_var 3 ha3) rfl) a_nil)) ⟨8, _, _, rfl, r8, rfl⟩) (a_cons (e_call (ok__law_told T T2) hr (a_cons e_int (a_cons (one (e_var 6 (.int _)) rfl) a_nil)) ⟨9, _, _, rfl, r9, rfl⟩) a_nil)))))
      (a_cons (e_lst (a_cons (e_var 9 (.int _)) (a_cons (e_var 10 (.int _)) (a_cons (e_var 11 (.str _)) (a_cons (e_tup (a_cons e_int (a_cons (e_call (ok__law_twos T) (hr.mono (by decide)) (a_cons (e_var 6 (.int _)) a_nil) ⟨k, rfl, by omega, rfl⟩) a_nil))) a_nil))))) a_nil)) ⟨_, _, rfl, hfl, rfl⟩))) ?_) m3.gh (fun z => nomatch z) fun _ G4 H4 n4 => q _ _ _ G4 H4 (((n1.g.trans n2.g).trans n3.g).trans n4.g) (m3.step n4)
  show (!sameD _ (.list [.int _, .int _, .str _, .tuple _])) = false
  rw [same_refl hfl]; rfl
theorem seg_power (T : Txt K mg) (T2 : Txt2 K mg) (hr : Room 6 (lawX P w K mg base f cdv A outer s H0 xk).A) {G H : Hp} {l : Addr} {Z : Ends} {u va : V} {qa : Rat} {n : Int} {t b k x7 x8 x9 x10 x11 x12 x13 x14 x15 x16 x17 x18 x19 : Option V} (m : MO G H l) (ha : Dp K G va (rd qa)) (za : Sz 17 qa) (hn1 : -4 ≤ n) (hn2 : n < 8)
    (q : ∀ (x12 : Option V) G' H', Ex G G' → MO G' H' l →
      wB (lawX P w K mg base f cdv A outer s H0 xk) (turnBody.drop 11) Z (st u l t (some va) b (some (.int n)) k x7 x8 x9 x10 x11 x12 x13 x14 x15 x16 x17 x18 x19) H') :
    wB (lawX P w K mg base f cdv A outer s H0 xk) (turnBody.drop 9) Z (st u l t (some va) b (some (.int n)) k x7 x8 x9 x10 x11 x12 x13 x14 x15 x16 x17 x18 x19) H := by
  have dI := den_pos' qa
  have hz : qa.num = 0 ↔ qa = 0 := Rat.num_eq_zero
  obtain ⟨up, hup⟩ : ∃ up : D, up = if 0 ≤ n then rd (qa ^ n.toNat) else if qa = 0 then .none else rd (qa⁻¹ ^ (-n).toNat) := ⟨_, rfl⟩
  have zi : qa ≠ 0 → Rat.divInt (qa.den : Int) qa.num = qa⁻¹ := fun h => by rw [Rat.inv_def]
  have sinv : qa ≠ 0 → Sz 17 qa⁻¹ := fun h => by
    have hn : qa.num ≠ 0 := fun z => h (hz.mp z)
    have hle : ∀ g : Nat, (qa.den / g) ≤ qa.den := fun g => Nat.div_le_self _ _
    refine ⟨?_, ?_⟩
    · rw [← zi h, Rat.num_divInt]
      refine Nat.lt_of_le_of_lt (Int.natAbs_ediv_le_natAbs _ _) ?_
      rw [Int.natAbs_mul]
      rcases Int.lt_or_gt_of_ne hn with z | z
      · rw [Int.sign_eq_neg_one_of_neg z]; simpa using za.2
      · rw [Int.sign_eq_one_of_pos z]; simpa using za.2
    · rw [← zi h, Rat.den_divInt, if_neg hn]
      exact Nat.lt_of_le_of_lt (Nat.div_le_self _ _) za.1
  refine s_set 12 (d := up) (e_if (t_ge (e_var 5 (.int _)) e_int) (fun h => ?_) fun h => e_if (t_eqI (e_ixT (e_var 3 ha) e_int rfl) e_int) (fun h2 => ?_) fun h2 => ?_) m.gh sc_law.nd fun v1 G1 H1 n1 h1 => ?_
  · have h : 0 ≤ n := of_decide_eq_true h
    refine e_is (e_call (ok__law_power T) (hr.mono (by decide)) (a_cons (e_var 3 ha) (a_cons (e_is (e_var 5 (.int _)) (show PyData.int n = .int (n.toNat : Int) by rw [Int.toNat_of_nonneg h])) a_nil)) ⟨qa, n.toNat, 17, rfl, by decide, za, by omega, by decide, rfl⟩) ?_
    rw [hup, if_pos h]
  · have h : ¬ 0 ≤ n := of_decide_eq_false h
    have h2 : qa = 0 := hz.mp (of_decide_eq_true h2)
    refine e_is e_non ?_
    rw [hup, if_neg h, if_pos h2]
  · have h : ¬ 0 ≤ n := of_decide_eq_false h
    have h2 : qa ≠ 0 := fun z => of_decide_eq_false h2 (hz.mpr z)
    have hn0 : qa.num ≠ 0 := fun z => h2 (hz.mp z)
    refine e_is (e_call (ok__law_power T) (hr.mono (by decide)) (a_cons (e_is (e_call (ok__law_r T) (hr.mono (by decide)) (a_cons (e_ixT (e_var 3 ha) e_int rfl) (a_cons (e_ixT (e_var 3 ha) e_int rfl) a_nil)) ⟨_, _, rfl, hn0, lt_pow (natI za.2) (by decide), lt_pow za.1 (by decide), rfl⟩) (by rw [zi h2]))
      (a_cons (e_is (e_sub e_int (e_var 5 (.int _))) (show PyData.int (0 - n) = .int ((-n).toNat : Int) by rw [Int.toNat_of_nonneg (by omega), Int.zero_sub])) a_nil)) ⟨qa⁻¹, (-n).toNat, 17, rfl, by decide, sinv h2, by omega, by decide, rfl⟩) ?_
    rw [hup, if_neg h, if_neg h2]
  have m1 := m.step n1
  have ha1 := Dp.mono n1.g ha
  obtain ⟨r, hr11⟩ : ∃ r : Except Str D, r = if qa = 0 ∧ n < 0 then .error "NoAnswer" else .ok (rd (pw qa n)) := ⟨_, rfl⟩
  have hw : within (-400) 400 (.int n) = true := by
    show (decide (-400 ≤ n) && decide (n ≤ 400)) = true
    rw [decide_eq_true (by omega), decide_eq_true (by omega)]; rfl
  have r11 : RT 11 [rd qa, .int n] r := ⟨rd qa, .int n, rfl, fun _ n' e _ _ => by
    cases e
    exact ⟨17, by rw [qOf_rd]; exact za, by decide, by omega⟩, by rw [if_pos (isRatio_rd qa), if_pos hw, qOf_rd]; exact hr11⟩
  obtain ⟨due, hdue⟩ : ∃ due : D, due = if isN up = true then .str (S (refT 3)) else up := ⟨_, rfl⟩
  have hfl : Fl 1 due := by
    rw [hdue, hup]
    by_cases h : 0 ≤ n
    · rw [if_pos h]; exact fl_rd 0 _
    · rw [if_neg h]
      by_cases h2 : qa = 0
      · rw [if_pos h2]; exact fl_str _ _
      · rw [if_neg h2]; exact fl_rd 0 _
  have hpos : ∀ n : Int, ¬ 0 ≤ n → n.natAbs = (-n).toNat := fun n h => by omega
  have same : outD r = due := by
    rw [hdue, hup, hr11]
    by_cases h : 0 ≤ n
    · rw [if_neg (by omega), if_pos h]
      show rd (pw qa n) = rd (qa ^ n.toNat)
      unfold pw
      rw [if_pos h, show n.natAbs = n.toNat by omega]
    · by_cases h2 : qa = 0
      · rw [if_pos ⟨h2, by omega⟩, if_neg h, if_pos h2]
        show PyData.str (S (refT (if ("NoAnswer" : Str) = "NotRight" then 1 else 3))) = _
        rw [if_neg (by decide)]; rfl
      · rw [if_neg (fun z => h2 z.1), if_neg h, if_neg h2]
        show rd (pw qa n) = rd (qa⁻¹ ^ (-n).toNat)
        unfold pw
        rw [if_neg h, hpos n h, inv_pow']
  refine s_when (k := false) (t_is (t_not (t_val (e_call (ok__law_same T 1) (hr.mono (by decide)) (a_cons (e_call (ok__law_told T T2) hr (a_cons e_int (a_cons (e_tup (a_cons (e_var 3 ha1) (a_cons (e_var 5 (.int _)) a_nil))) a_nil)) ⟨11, _, r, rfl, r11, rfl⟩) (a_cons (e_if (d := due) (t_isN (e_var 12 h1)) (fun h => ?_) fun h => ?_) a_nil)) ⟨_, _, rfl, hfl, rfl⟩))) ?_) m1.gh (fun z => nomatch z) fun _ G4 H4 n4 => q _ G4 H4 (n1.g.trans n4.g) (m1.step n4)
  · exact e_is e_str (by rw [hdue, if_pos h, ref3])
  · exact e_is (e_var 12 h1) (by rw [hdue, h]; rfl)
  · rw [same, same_refl hfl]; rfl
end
end K00

/-! K17: a turn of the law: bits, decimals, roots. -/
namespace K00
open PySem PySem.Spec PyProof.Rows L2 DL SX
theorem two_cast (k : Nat) : ((2 ^ k : Nat) : Int) = (2 : Int) ^ k := by rw [Int.natCast_pow]; rfl
section
variable {P : Program} {w : World} {K : PySem.W.Frag} {mg : Str → Option Value} {base : Heap} {f : Addr} {cdv : Value} {A : Around} {outer : List Env} {s : Shared} {H0 : Hp} {xk : XK}
theorem seg_bits (T : Txt K mg) (T2 : Txt2 K mg) (hr : Room 6 (lawX P w K mg base f cdv A outer s H0 xk).A) {G H : Hp} {l : Addr} {Z : Ends} {u va : V} {qa : Rat} {k : Nat} {t b n x7 x8 x9 x10 x11 x12 x13 x14 x15 x16 x17 x18 x19 : Option V} (m : MO G H l) (ha : Dp K G va (rd qa)) (za : Sz 17 qa) (hk : k < 40)
    (q : ∀ (x13 x14 x15 : Option V) G' H', Ex G G' → MO G' H' l →
      wB (lawX P w K mg base f cdv A outer s H0 xk) (turnBody.drop 14) Z (st u l t (some va) b n (some (.int k)) x7 x8 x9 x10 x11 x12 x13 x14 x15 x16 x17 x18 x19) H') :
    wB (lawX P w K mg base f cdv A outer s H0 xk) (turnBody.drop 11) Z (st u l t (some va) b n (some (.int k)) x7 x8 x9 x10 x11 x12 x13 x14 x15 x16 x17 x18 x19) H := by
  have sa : SzD 3000 (rd qa) := szd za (by decide)
  have dI := den_pos' qa
  have dl := natI za.2
  have tl : ((2 ^ k : Nat) : Int).natAbs < 2 ^ 41 := by rw [Int.natAbs_natCast]; exact Nat.pow_lt_pow_right (by decide) (by omega)
  have t0 : ((2 ^ k : Nat) : Int) ≠ 0 := by have := Nat.pow_pos (n := k) (show 0 < 2 by decide); omega
  have wl : (qa.num * ((2 ^ k : Nat) : Int)).natAbs < 2 ^ 58 := mul_lt za.1 tl
  have twos : ∀ {σ : L2.St} {G : Hp} {p p1 p2 : Pos}, σ[6]? = some (some (.int (k : Int))) → E (lawX P w K mg base f cdv A outer s H0 xk) (.Call (.Name "_law_twos" p) [.Name "k" p1] [] p2) σ G (.int ((2 ^ k : Nat) : Int)) := fun h => e_call (ok__law_twos T) (hr.mono (by decide)) (a_cons (e_var 6 (.int _) h) a_nil) ⟨k, rfl, by omega, rfl⟩
  refine s_set 13 (e_mul (e_ixT (e_var 3 ha) e_int rfl) (twos rfl) (mulOK za.1 tl (by decide))) m.gh sc_law.nd fun v1 G1 H1 n1 h1 => ?_
  cases h1
  have m1 := m.step n1
  have ha1 := Dp.mono n1.g ha
  have dsz : ∀ z : Int, z.natAbs < 2 ^ 58 → (z / (qa.den : Int)).natAbs < 2 ^ 58 := fun z hz => Nat.lt_of_le_of_lt (Int.natAbs_ediv_le_natAbs _ _) hz
  have wn : (0 - qa.num * ((2 ^ k : Nat) : Int)).natAbs < 2 ^ 58 := by rw [Int.zero_sub]; exact neg_lt wl
  refine s_par 14 15 rfl sc_law.nd (d1 := rd (dn qa k)) (d2 := rd (upq qa k)) (a_cons (e_is (e_call (ok__law_r T) (hr.mono (by decide)) (a_cons (e_div (e_var 13 (.int _)) (e_ixT (e_var 3 ha1) e_int rfl) (divOK dI dl (by decide))) (a_cons (twos rfl) a_nil)) ⟨_, _, rfl, t0, lt_pow (dsz _ wl) (by decide), lt_pow tl (by decide), rfl⟩) ?_)
    (a_cons (e_is (e_call (ok__law_r T) (hr.mono (by decide)) (a_cons (e_sub e_int (e_div (e_sub e_int (e_var 13 (.int _))) (e_ixT (e_var 3 ha1) e_int rfl) (divOK dI dl (by decide)))) (a_cons (twos rfl) a_nil)) ⟨_, _, rfl, t0, ?_, lt_pow tl (by decide), rfl⟩) ?_) a_nil)) m1.gh fun u2 v2 G2 H2 n2 h2 h3 => ?_
  · unfold dn; rw [two_cast]
  · rw [Int.zero_sub]; exact neg_lt (lt_pow (dsz _ wn) (by decide))
  · unfold upq; rw [two_cast, Int.zero_sub, Int.zero_sub, Int.neg_mul]
  have m2 := m1.step n2
  have ha2 := Dp.mono n2.g ha1
  have hw : ∀ j : Int, 400 ≤ j → within 0 j (.int (k : Int)) = true := fun j hj => by
    show (decide (0 ≤ (k : Int)) && decide ((k : Int) ≤ j)) = true
    rw [decide_eq_true (by omega), decide_eq_true (by omega)]; rfl
  have tt : ∀ j : Int, 400 ≤ j → (isRatio (rd qa) && within 0 j (.int (k : Int))) = true := fun j hj => by rw [isRatio_rd, hw j hj]; rfl
  have r12 : RT 12 [rd qa, .int (k : Int)] (.ok (rd (dn qa k))) := ⟨_, _, rfl, sa, by rw [if_pos (tt 20000 (by decide)), qOf_rd]; rfl⟩
  have r13 : RT 13 [rd qa, .int (k : Int)] (.ok (rd (upq qa k))) := ⟨_, _, rfl, sa, by rw [if_pos (tt 20000 (by decide)), qOf_rd]; rfl⟩
  have r14 : RT 14 [rd qa, .int (k : Int)] (.ok (.str (S (decT qa k)))) := ⟨_, _, rfl, sa, by rw [if_pos (tt 400 (by decide)), qOf_rd]; rfl⟩
  have hfl : Fl 2 (.list [rd (dn qa k), rd (upq qa k), .str (S (decL qa k))]) := ⟨by simp, fun x hx => by
    simp at hx
    rcases hx with rfl | rfl | rfl
    · exact fl_rd _ _
    · exact fl_rd _ _
    · exact fl_str _ _⟩
  refine s_when (k := false) (t_is (t_and (t_not (t_val (e_call (ok__law_same T 2) (hr.mono (by decide)) (a_cons (e_lst (a_cons (e_call (ok__law_told T T2) hr (a_cons e_int (a_cons (e_tup (a_cons (e_var 3 ha2) (a_cons (e_var 6 (.int _)) a_nil))) a_nil)) ⟨12, _, _, rfl, r12, rfl⟩) (a_cons (e_call (ok__law_told T T2) hr (a_cons e_int (a_cons (e_tup (a_cons (e_var 3 ha2) (a_cons (e_var 6 (.int _)) a_nil))) a_nil)) ⟨13, _, _, rfl, r13, rfl⟩)
    (a_cons (e_call (ok__law_told T T2) hr (a_cons e_int (a_cons (e_tup (a_cons (e_var 3 ha2) (a_cons (e_var 6 (.int _)) a_nil))) a_nil)) ⟨14, _, _, rfl, r14, rfl⟩) a_nil))))
      (a_cons (e_lst (a_cons (e_var 14 h2) (a_cons (e_var 15 h3) (a_cons (e_call (ok__law_decimal T) (hr.mono (by decide)) (a_cons (e_var 3 ha2) (a_cons (e_var 6 (.int _)) a_nil)) ⟨qa, k, rfl, za.mono (by decide), by omega, rfl⟩) a_nil)))) a_nil)) ⟨_, _, rfl, hfl, rfl⟩))) fun _ => t_gt (e_var 6 (.int _)) e_int) ?_) m2.gh (fun z => nomatch z) fun _ G4 H4 n4 => q _ _ _ G4 H4 ((n1.g.trans n2.g).trans n4.g) (m2.step n4)
  by_cases h0 : 0 < k
  · show (!sameD _ (.list [rd _, rd _, .str (S (decT qa k))]) && _) = false
    rw [dec_same qa h0, same_refl hfl]; rfl
  · have : decide ((0 : Int) < (k : Int)) = false := decide_eq_false (by omega)
    rw [this, Bool.and_false]
/-- a square root -/
theorem seg_root (T : Txt K mg) (T2 : Txt2 K mg) (hr : Room 6 (lawX P w K mg base f cdv A outer s H0 xk).A) {G H : Hp} {l : Addr} {Z : Ends} {u va : V} {qa : Rat} {t b n k x7 x8 x9 x10 x11 x12 x13 x14 x15 x16 x17 x18 x19 : Option V} (m : MO G H l) (ha : Dp K G va (rd qa)) (za : Sz 17 qa)
    (q : ∀ (x16 x17 : Option V) G' H', Ex G G' → MO G' H' l →
      wB (lawX P w K mg base f cdv A outer s H0 xk) (turnBody.drop 18) Z (st u l t (some va) b n k x7 x8 x9 x10 x11 x12 x13 x14 x15 x16 x17 x18 x19) H') :
    wB (lawX P w K mg base f cdv A outer s H0 xk) (turnBody.drop 14) Z (st u l t (some va) b n k x7 x8 x9 x10 x11 x12 x13 x14 x15 x16 x17 x18 x19) H := by
  have al : ((qa.num.natAbs : Nat) : Int).natAbs < 2 ^ 17 := by rw [Int.natAbs_natCast]; exact za.1
  have a2 := mul_lt al al
  have t90 : ((2 ^ 90 : Nat) : Int).natAbs < 2 ^ 91 := by rw [Int.natAbs_natCast]; exact Nat.pow_lt_pow_right (by decide) (by decide)
  have a3 := mul_lt al t90
  refine sm_set 16 (R := intP fun i => i.natAbs < 2 ^ 200) (em_call 1 (ok__law_pick T) (hr.mono (by decide)) (am_cons (R := fun d => ∃ (i : Int), d = .list [.int i, .int (qa.num.natAbs * qa.num.natAbs), .int (qa.num.natAbs * qa.num.natAbs - 1), .int (qa.num.natAbs * ((2 ^ 90 : Nat) : Int))] ∧ i.natAbs < 1000)
    (em_imp (em_lst (am_cons (R := intP fun i => 0 ≤ i ∧ i < 1000) (em_call 1 (ok__law_take T) (hr.mono (by decide)) (am_of (a_cons e_int a_nil)) (fun ds e => ⟨_, e, by decide⟩) (fun ds d e ⟨bb, i, e1, e2, h1, h2⟩ => ?_)) (am_of (a_cons (e_mul (e_abs T.b_abs (e_ixT (e_var 3 ha) e_int rfl)) (e_abs T.b_abs (e_ixT (e_var 3 ha) e_int rfl)) (mulOK al al (by decide)))
      (a_cons (e_sub (e_mul (e_abs T.b_abs (e_ixT (e_var 3 ha) e_int rfl)) (e_abs T.b_abs (e_ixT (e_var 3 ha) e_int rfl)) (mulOK al al (by decide))) e_int)
        (a_cons (e_mul (e_abs T.b_abs (e_ixT (e_var 3 ha) e_int rfl)) (e_call (ok__law_twos T) (hr.mono (by decide)) (a_cons e_int a_nil) ⟨90, rfl, by decide, rfl⟩) (mulOK al t90 (by decide))) a_nil))))) (fun ds ⟨d, r, e, _, e2⟩ => by rw [e, e2]; simp)) (fun d ⟨ds, e, d1, r, e1, ⟨i, ei, hi⟩, e2⟩ => ⟨i, by rw [e, e1, e2, ei], by omega⟩)) am_nil)
    (fun ds h => by obtain ⟨d, r, e1, ⟨i, e2, hi⟩, e3⟩ := h; subst e1 e2 e3; exact ⟨_, rfl, by simp⟩) (fun ds d ⟨d0, r, e1, ⟨i, e2, hi⟩, e3⟩ ⟨xs, e4, hx⟩ => ?_)) m sc_law.nd fun v1 d1 G1 H1 ⟨N, eN, hN⟩ g1 m1 h1 => ?_
  · subst e; cases e1; exact ⟨i, e2, h1, h2⟩
  · subst e1 e2 e3
    cases e4
    simp only [List.mem_cons, List.not_mem_nil, or_false] at hx
    rcases hx with rfl | rfl | rfl | rfl
    · exact ⟨i, rfl, lt_pow (a := 10) (by omega) (by decide)⟩
    · exact ⟨_, rfl, lt_pow a2 (by decide)⟩
    · exact ⟨_, rfl, by rw [Int.sub_eq_add_neg]; exact add_lt (a := 17 + 17) (b := 1) a2 (by decide) (by decide) (by decide)⟩
    · exact ⟨_, rfl, lt_pow a3 (by decide)⟩
  subst eN
  cases h1
  refine s_set 16 (e_max2 rfl T.b_max e_int (e_var 16 (.int _))) m1.gh sc_law.nd fun v2 G2 H2 n2 h2 => ?_
  cases h2
  have m2 := m1.step n2
  obtain ⟨M, hM⟩ : ∃ M : Nat, max 0 N = (M : Int) := ⟨(max 0 N).toNat, by omega⟩
  have Ml : M < 2 ^ 200 := by
    have : M ≤ N.natAbs := by omega
    omega
  rw [hM]
  obtain ⟨z, z1, z2⟩ := sqrt_ex M
  have zl := first_big Ml z1
  have r10 : RT 10 [.int (M : Int)] (.ok (.int (z : Int))) := ⟨_, rfl, by
    show if (M : Int) < 0 then _ else _
    rw [if_neg (by omega), Int.natAbs_natCast]
    exact ⟨lt_pow Ml (by decide), z, z1, z2, rfl⟩⟩
  refine s_set 17 (d := .int (z : Int)) (e_call (ok__law_told T T2) hr (a_cons e_int (a_cons (e_tup (a_cons (e_var 16 (.int _)) a_nil)) a_nil)) ⟨10, _, _, rfl, r10, rfl⟩) m2.gh sc_law.nd fun v3 G3 H3 n3 h3 => ?_
  cases h3
  have m3 := m2.step n3
  have zI : ((z : Int)).natAbs < 2 ^ 101 := by rw [Int.natAbs_natCast]; exact lt_pow zl (by decide)
  have zJ : ((z : Int) + 1).natAbs < 2 ^ 103 := add_lt zI (b := 1) (by decide) (by decide) (by decide)
  refine s_when (k := false) (t_of (tw_orF (t_is (t_not (t_val (e_isi T.b_isinstance T.b_int (by decide +kernel) (e_var 17 (.int _)) (kit_int _)))) rfl) (tw_orF (t_is (t_gt (e_mul (e_var 17 (.int _)) (e_var 17 (.int _)) (mulOK zI zI (by decide))) (e_var 16 (.int _))) ?_)
    (tw_or1 (t_is (t_le (e_mul (e_add (e_var 17 (.int _)) e_int) (e_add (e_var 17 (.int _)) e_int) (mulOK zJ zJ (by decide))) (e_var 16 (.int _))) ?_))))) m3.gh (fun z => nomatch z) fun _ G4 H4 n4 => q _ _ G4 H4 (((g1.trans n2.g).trans n3.g).trans n4.g) (m3.step n4)
  · refine decide_eq_false fun h => ?_
    have : (M : Int) < ((z * z : Nat) : Int) := by rw [Int.natCast_mul]; exact h
    omega
  · refine decide_eq_false fun h => ?_
    have : (((z + 1) * (z + 1) : Nat) : Int) ≤ (M : Int) := by rw [Int.natCast_mul]; exact h
    omega
end
end K00

/-! K18: a turn of the law: what is refused. -/
namespace DL
open PySem PySem.Spec PyProof.Rows L2 SX
/-- a comprehension all of whose items are one datum -/
theorem e_lcC {X : Cx} {σ : L2.St} {G : Hp} {elt iter : Expr} {tpos lpos : Pos} {x : Str} {j : Nat} {scope : Scope} {xs : List D} {d0 : D} {m : Nat} (hcalm : X.calm = true) (hN : X.N.Nodup) (ha : E X iter σ G (.list xs)) (hm : xs.length = m) (hn2 : m ≤ 100000) (ok : BlkOk X.N X.env.scope scope [(x, j)])
    (hg : ∀ s H C cl fp, PG (blkX X scope s H C cl fp) (.Name x tpos) (gName j))
    (he : ∀ d ∈ xs, ∀ v G', Ex G G' → Dp X.K G' v d → ∀ s H0 C cl fp, E (blkX X scope s H0 C cl fp) elt (σ.set j (some v)) G' d0) (hs : ∀ y, foldedSetIterable iter X.env y = pure y := by intro _; rfl) :
    E X (.ListComp elt [⟨.Name x tpos, iter, [], 0⟩] scope lpos) σ G (.list (List.replicate m d0)) := by
  refine e_is (e_lcS (xs := xs) (n := m) (tt := tYes) (c := fun _ => true) (f := fun _ => d0) hcalm hN ha (.inl rfl) hm hn2 ok hg (fun _ _ _ _ _ => pts_nil) (fun i v d G' hd gg hv G1 H1 _ gh Q q => q G1 H1 (Nx.refl gh)) (fun i v d G' hd gg hv _ s H0 C cl fp => he d (List.mem_of_getElem? hd) v G' gg hv s H0 C cl fp) hs (pi_list pe_w) (pi_tup pe_w)) ?_
  rw [kept_all]
  congr 1
  rw [List.map_const', List.length_range]
end DL
namespace K00
open PySem PySem.Spec PyProof.Rows L2 DL SX
abbrev R1 : D := .str (S (refT 1))
theorem out1 : outD (.error "NotRight") = R1 := by
  show PyData.str (S (refT (if ("NotRight" : Str) = "NotRight" then 1 else 3))) = _
  rw [if_pos rfl]
theorem ref1 : ("refused 1" : Str) = S (refT 1) := by decide +kernel
section
variable {bd : D} {a : Rat}
theorem bad_two (hb : isRatio bd = false) (za : Sz 17 a) {i : Nat} (hi : i < 5) : RT i [bd, rd a] (.error "NotRight") ∧ RT i [rd a, bd] (.error "NotRight") := by
  have sa : SzD 3000 (rd a) := szd za (by decide)
  have sb : SzD 3000 bd := SzD.no hb
  have t1 : ¬ (isRatio bd && isRatio (rd a)) = true := by rw [hb, Bool.false_and]; decide
  have t2 : ¬ (isRatio (rd a) && isRatio bd) = true := by rw [hb, Bool.and_false]; decide
  match i, hi with
  | 0, _ => exact ⟨⟨_, _, rfl, sb, sa, by rw [if_neg t1]⟩, ⟨_, _, rfl, sa, sb, by rw [if_neg t2]⟩⟩
  | 1, _ => exact ⟨⟨_, _, rfl, sb, sa, by rw [if_neg t1]⟩, ⟨_, _, rfl, sa, sb, by rw [if_neg t2]⟩⟩
  | 2, _ => exact ⟨⟨_, _, rfl, sb, sa, by rw [if_neg t1]⟩, ⟨_, _, rfl, sa, sb, by rw [if_neg t2]⟩⟩
  | 3, _ => exact ⟨⟨_, _, rfl, sb, sa, by rw [if_neg t1]⟩, ⟨_, _, rfl, sa, sb, by rw [if_neg t2]⟩⟩
  | 4, _ => exact ⟨⟨_, _, rfl, sb, sa, by rw [if_neg t1]⟩, ⟨_, _, rfl, sa, sb, by rw [if_neg t2]⟩⟩
theorem bad_one (hb : isRatio bd = false) {i : Nat} (h1 : 6 ≤ i) (h2 : i < 9) : RT i [bd] (.error "NotRight") := by
  have sb : SzD 3000 bd := SzD.no hb
  have t1 : ¬ isRatio bd = true := by rw [hb]; decide
  match i, h1, h2 with
  | 6, _, _ => exact ⟨_, rfl, sb, by rw [if_neg t1]⟩
  | 7, _, _ => exact ⟨_, rfl, sb, by rw [if_neg t1]⟩
  | 8, _, _ => exact ⟨_, rfl, sb, by rw [if_neg t1]⟩
theorem bad_three (hb : isRatio bd = false) {i : Nat} (h1 : 11 ≤ i) (h2 : i < 15) : RT i [bd, .int 3] (.error "NotRight") := by
  have sb : SzD 3000 bd := SzD.no hb
  have t0 : ¬ isRatio bd = true := by rw [hb]; decide
  have t1 : ∀ k : Bool, ¬ (isRatio bd && k) = true := fun k => by rw [hb, Bool.false_and]; decide
  match i, h1, h2 with
  | 11, _, _ => exact ⟨_, _, rfl, fun z => absurd z t0, by rw [if_neg t0]⟩
  | 12, _, _ => exact ⟨_, _, rfl, sb, by rw [if_neg (t1 _)]⟩
  | 13, _, _ => exact ⟨_, _, rfl, sb, by rw [if_neg (t1 _)]⟩
  | 14, _, _ => exact ⟨_, _, rfl, sb, by rw [if_neg (t1 _)]⟩
theorem odd_pow (za : Sz 17 a) {o : D} (ho : within (-400) 400 o = false) : RT 11 [rd a, o] (.error "NotRight") := by
  refine ⟨_, _, rfl, fun _ n e h1 h2 => ?_, ?_⟩
  · subst e
    have : (decide (-400 ≤ n) && decide (n ≤ 400)) = false := ho
    rw [decide_eq_true h1, decide_eq_true h2] at this
    cases this
  · rw [if_pos (isRatio_rd a), if_neg (by rw [ho]; decide)]
theorem odd_down (za : Sz 17 a) {o : D} (ho : within 0 20000 o = false) : RT 12 [rd a, o] (.error "NotRight") ∧ RT 13 [rd a, o] (.error "NotRight") :=
  ⟨⟨_, _, rfl, szd za (by decide), by rw [if_neg (by rw [ho, Bool.and_false]; decide)]⟩, ⟨_, _, rfl, szd za (by decide), by rw [if_neg (by rw [ho, Bool.and_false]; decide)]⟩⟩
theorem odd_dec (za : Sz 17 a) {o : D} (ho : within 0 400 o = false) : RT 14 [rd a, o] (.error "NotRight") := ⟨_, _, rfl, szd za (by decide), by rw [if_neg (by rw [ho, Bool.and_false]; decide)]⟩
theorem odd_sq : RT 10 [.int (-1)] (.error "NotRight") := ⟨_, rfl, by show if (-1 : Int) < 0 then _ else _; rw [if_pos (by decide)]⟩
theorem odd_rat : RT 5 [.int 1, .int 0] (.error "NotRight") ∧ RT 5 [.none, .int 1] (.error "NotRight") :=
  ⟨⟨_, _, rfl, by show (1 : Int).natAbs < 2 ^ 8000 ∧ (0 : Int).natAbs < 2 ^ 8000 ∧ _; exact ⟨Nat.one_lt_two_pow (by decide), Nat.pow_pos (by decide), by rw [if_pos rfl]⟩⟩, ⟨_, _, rfl, rfl⟩⟩
end
section
variable {P : Program} {w : World} {K : PySem.W.Frag} {mg : Str → Option Value} {base : Heap} {f : Addr} {cdv : Value} {A : Around} {outer : List Env} {s : Shared} {H0 : Hp} {xk : XK}
theorem dp_int {H : Hp} {v : V} {d : D} {i : Int} (e : d = .int i) (h : Dp K H v d) : Dp K H v (.int i) := e ▸ h
theorem seg_bad (T : Txt K mg) (T2 : Txt2 K mg) (hr : Room 6 (lawX P w K mg base f cdv A outer s H0 xk).A) {G H : Hp} {l : Addr} {Z : Ends} {u va : V} {qa : Rat} {t b n k x7 x8 x9 x10 x11 x12 x13 x14 x15 x16 x17 x18 x19 : Option V} (m : MO G H l) (ha : Dp K G va (rd qa)) (za : Sz 17 qa)
    (q : ∀ (x18 x19 : Option V) G' H', Ex G G' → MO G' H' l → Z.nx (st u l t (some va) b n k x7 x8 x9 x10 x11 x12 x13 x14 x15 x16 x17 x18 x19) H') :
    wB (lawX P w K mg base f cdv A outer s H0 xk) (turnBody.drop 18) Z (st u l t (some va) b n k x7 x8 x9 x10 x11 x12 x13 x14 x15 x16 x17 x18 x19) H := by
  refine sm_set 18 (R := fun d => isRatio d = false) (em_call 1 (ok__law_pick T) (hr.mono (by decide)) (am_of (a_cons (e_lst (a_cons e_non (a_cons e_int (a_cons (e_tup (a_cons e_int a_nil)) (a_cons (e_tup (a_cons e_int (a_cons e_int a_nil))) (a_cons (e_tup (a_cons e_int (a_cons e_int a_nil))) (a_cons (e_tup (a_cons e_int (a_cons (e_neg e_int) a_nil)))
    (a_cons (e_tup (a_cons e_bl (a_cons e_int a_nil))) (a_cons (e_lst (a_cons e_int (a_cons e_int a_nil))) (a_cons (e_tup (a_cons e_str (a_cons e_int a_nil))) (a_cons (e_tup (a_cons e_int (a_cons e_int (a_cons e_int a_nil)))) a_nil))))))))))) a_nil)) (fun ds e => ⟨_, e, by simp⟩) (fun ds d e ⟨xs, e1, hx⟩ => ?_)) m sc_law.nd fun vb bd G1 H1 hb g1 m1 h1 => ?_
  · subst e
    cases e1
    simp only [List.mem_cons, List.not_mem_nil, or_false] at hx
    rcases hx with rfl | rfl | rfl | rfl | rfl | rfl | rfl | rfl | rfl | rfl <;> first | rfl | decide
  have ha1 := Dp.mono g1 ha
  refine s_when (k := false) (t_is (t_or (t_notB (e_call (ok_is_ratio T) (hr.mono (by decide)) (a_cons (e_var 18 h1) a_nil) ⟨_, rfl, rfl⟩) e_bl) fun _ => t_notB (e_call (ok_is_ratio T) (hr.mono (by decide)) (a_cons (e_var 3 ha1) a_nil) ⟨_, rfl, rfl⟩) e_bl) (by rw [hb, isRatio_rd]; rfl)) m1.gh (fun z => nomatch z) fun _ G2 H2 n2 => ?_
  have m2 := m1.step n2
  have ha2 := Dp.mono n2.g ha1
  have hb2 := Dp.mono n2.g h1
  have i5 : ∀ d ∈ ([.int 0, .int 1, .int 2, .int 3, .int 4] : List D), ∃ i : Nat, d = .int (i : Int) ∧ i < 5 := fun d hd => by
    simp only [List.mem_cons, List.not_mem_nil, or_false] at hd
    rcases hd with rfl | rfl | rfl | rfl | rfl
    · exact ⟨0, rfl, by decide⟩
    · exact ⟨1, rfl, by decide⟩
    · exact ⟨2, rfl, by decide⟩
    · exact ⟨3, rfl, by decide⟩
    · exact ⟨4, rfl, by decide⟩
  have i3 : ∀ d ∈ ([.int 6, .int 7, .int 8] : List D), ∃ i : Nat, d = .int (i : Int) ∧ 6 ≤ i ∧ i < 9 := fun d hd => by
    simp only [List.mem_cons, List.not_mem_nil, or_false] at hd
    rcases hd with rfl | rfl | rfl
    · exact ⟨6, rfl, by decide, by decide⟩
    · exact ⟨7, rfl, by decide, by decide⟩
    · exact ⟨8, rfl, by decide, by decide⟩
  have i4 : ∀ d ∈ ([.int 11, .int 12, .int 13, .int 14] : List D), ∃ i : Nat, d = .int (i : Int) ∧ 11 ≤ i ∧ i < 15 := fun d hd => by
    simp only [List.mem_cons, List.not_mem_nil, or_false] at hd
    rcases hd with rfl | rfl | rfl | rfl
    · exact ⟨11, rfl, by decide, by decide⟩
    · exact ⟨12, rfl, by decide, by decide⟩
    · exact ⟨13, rfl, by decide, by decide⟩
    · exact ⟨14, rfl, by decide, by decide⟩
  have i2 : ∀ d ∈ ([.int 12, .int 13] : List D), ∃ i : Nat, d = .int (i : Int) ∧ (i = 12 ∨ i = 13) := fun d hd => by
    simp only [List.mem_cons, List.not_mem_nil, or_false] at hd
    rcases hd with rfl | rfl
    · exact ⟨12, rfl, .inl rfl⟩
    · exact ⟨13, rfl, .inr rfl⟩
  have io : ∀ d ∈ ([.int 401, .int (-401), .none, .bool true] : List D), within (-400) 400 d = false := fun d hd => by
    simp only [List.mem_cons, List.not_mem_nil, or_false] at hd
    rcases hd with rfl | rfl | rfl | rfl <;> rfl
  refine s_set 19 (d := .list (List.replicate 13 R1)) (e_is (e_catL (e_catL (e_lcC (x := "which") (j := 20) (m := 5) (d0 := R1) rfl sc_law.nd (e_lst (a_cons e_int (a_cons e_int (a_cons e_int (a_cons e_int (a_cons e_int a_nil)))))) rfl (by decide) (blkOk_by (N := N_law) (sc := defScope s_law) (by decide +kernel)) (fun _ _ _ _ _ => pg_name (i := 20) sc_law.nd rfl (Or.inl rfl)) fun d hd v G' gg hv _ _ _ _ _ => ?_)
      (e_lcC (x := "which") (j := 20) (m := 5) (d0 := R1) rfl sc_law.nd (e_lst (a_cons e_int (a_cons e_int (a_cons e_int (a_cons e_int (a_cons e_int a_nil)))))) rfl (by decide) (blkOk_by (N := N_law) (sc := defScope s_law) (by decide +kernel)) (fun _ _ _ _ _ => pg_name (i := 20) sc_law.nd rfl (Or.inl rfl)) fun d hd v G' gg hv _ _ _ _ _ => ?_) (by simp))
    (e_lcC (x := "which") (j := 20) (m := 3) (d0 := R1) rfl sc_law.nd (e_lst (a_cons e_int (a_cons e_int (a_cons e_int a_nil)))) rfl (by decide) (blkOk_by (N := N_law) (sc := defScope s_law) (by decide +kernel)) (fun _ _ _ _ _ => pg_name (i := 20) sc_law.nd rfl (Or.inl rfl)) fun d hd v G' gg hv _ _ _ _ _ => ?_) (by simp)) rfl) m2.gh sc_law.nd fun v3 G3 H3 n3 h3 => ?_
  · obtain ⟨i, e, hi⟩ := i5 d hd
    exact e_is (e_call (ok__law_told T T2) hr (a_cons (e_var 20 (dp_int e hv)) (a_cons (e_tup (a_cons (e_var 18 (Dp.mono gg hb2)) (a_cons (e_var 3 (Dp.mono gg ha2)) a_nil))) a_nil)) ⟨i, _, _, rfl, (bad_two hb za hi).1, rfl⟩) out1
  · obtain ⟨i, e, hi⟩ := i5 d hd
    exact e_is (e_call (ok__law_told T T2) hr (a_cons (e_var 20 (dp_int e hv)) (a_cons (e_tup (a_cons (e_var 3 (Dp.mono gg ha2)) (a_cons (e_var 18 (Dp.mono gg hb2)) a_nil))) a_nil)) ⟨i, _, _, rfl, (bad_two hb za hi).2, rfl⟩) out1
  · obtain ⟨i, e, hi, hi2⟩ := i3 d hd
    exact e_is (e_call (ok__law_told T T2) hr (a_cons (e_var 20 (dp_int e hv)) (a_cons (e_tup (a_cons (e_var 18 (Dp.mono gg hb2)) a_nil)) a_nil)) ⟨i, _, _, rfl, bad_one hb hi hi2, rfl⟩) out1
  have m3 := m2.step n3
  have ha3 := Dp.mono n3.g ha2
  have hb3 := Dp.mono n3.g hb2
  refine s_set 19 (d := .list (List.replicate 21 R1)) (e_is (e_catL (e_catL (e_var 19 h3) (e_lcC (x := "which") (j := 20) (m := 4) (d0 := R1) rfl sc_law.nd (e_lst (a_cons e_int (a_cons e_int (a_cons e_int (a_cons e_int a_nil))))) rfl (by decide) (blkOk_by (N := N_law) (sc := defScope s_law) (by decide +kernel)) (fun _ _ _ _ _ => pg_name (i := 20) sc_law.nd rfl (Or.inl rfl)) fun d hd v G' gg hv _ _ _ _ _ => ?_) (by simp))
    (e_lcC (x := "odd") (j := 21) (m := 4) (d0 := R1) rfl sc_law.nd (e_lst (a_cons e_int (a_cons (e_neg e_int) (a_cons e_non (a_cons e_bl a_nil))))) rfl (by decide) (blkOk_by (N := N_law) (sc := defScope s_law) (by decide +kernel)) (fun _ _ _ _ _ => pg_name (i := 21) sc_law.nd rfl (Or.inl rfl)) fun d hd v G' gg hv _ _ _ _ _ => ?_) (by simp)) rfl) m3.gh sc_law.nd fun v4 G4 H4 n4 h4 => ?_
  · obtain ⟨i, e, hi, hi2⟩ := i4 d hd
    exact e_is (e_call (ok__law_told T T2) hr (a_cons (e_var 20 (dp_int e hv)) (a_cons (e_tup (a_cons (e_var 18 (Dp.mono gg hb3)) (a_cons e_int a_nil))) a_nil)) ⟨i, _, _, rfl, bad_three hb hi hi2, rfl⟩) out1
  · exact e_is (e_call (ok__law_told T T2) hr (a_cons e_int (a_cons (e_tup (a_cons (e_var 3 (Dp.mono gg ha3)) (a_cons (e_var 21 hv) a_nil))) a_nil)) ⟨11, _, _, rfl, odd_pow za (io d hd), rfl⟩) out1
  have m4 := m3.step n4
  have ha4 := Dp.mono n4.g ha3
  refine s_set 19 (d := .list (List.replicate 28 R1)) (e_is (e_catL (e_catL (e_var 19 h4) (e_lcC (x := "which") (j := 20) (m := 2) (d0 := R1) rfl sc_law.nd (e_lst (a_cons e_int (a_cons e_int a_nil))) rfl (by decide) (blkOk_by (N := N_law) (sc := defScope s_law) (by decide +kernel)) (fun _ _ _ _ _ => pg_name (i := 20) sc_law.nd rfl (Or.inl rfl)) fun d hd v G' gg hv _ _ _ _ _ => ?_) (by simp))
    (e_lst (a_cons (e_is (e_call (ok__law_told T T2) hr (a_cons e_int (a_cons (e_tup (a_cons (e_var 3 ha4) (a_cons e_int a_nil))) a_nil)) ⟨14, _, _, rfl, odd_dec za rfl, rfl⟩) out1) (a_cons (e_is (e_call (ok__law_told T T2) hr (a_cons e_int (a_cons (e_tup (a_cons (e_var 3 ha4) (a_cons e_int a_nil))) a_nil)) ⟨12, _, _, rfl, (odd_down za rfl).1, rfl⟩) out1)
      (a_cons (e_is (e_call (ok__law_told T T2) hr (a_cons e_int (a_cons (e_tup (a_cons (e_neg e_int) a_nil)) a_nil)) ⟨10, _, _, rfl, odd_sq, rfl⟩) out1) (a_cons (e_is (e_call (ok__law_told T T2) hr (a_cons e_int (a_cons (e_tup (a_cons e_int (a_cons e_int a_nil))) a_nil)) ⟨5, _, _, rfl, odd_rat.1, rfl⟩) out1)
        (a_cons (e_is (e_call (ok__law_told T T2) hr (a_cons e_int (a_cons (e_tup (a_cons e_non (a_cons e_int a_nil))) a_nil)) ⟨5, _, _, rfl, odd_rat.2, rfl⟩) out1) a_nil)))))) (by simp)) rfl) m4.gh sc_law.nd fun v5 G5 H5 n5 h5 => ?_
  · obtain ⟨i, e, hi⟩ := i2 d hd
    refine e_is (e_call (ok__law_told T T2) hr (a_cons (e_var 20 (dp_int e hv)) (a_cons (e_tup (a_cons (e_var 3 (Dp.mono gg ha4)) (a_cons (e_neg e_int) a_nil))) a_nil)) ⟨i, _, _, rfl, ?_, rfl⟩) out1
    rcases hi with rfl | rfl
    · exact (odd_down za rfl).1
    · exact (odd_down za rfl).2
  have m5 := m4.step n5
  refine s_when (k := false) (t_is (t_neD (by have := hr.un; omega) (e_var 19 h5) (e_repL (n := 28) (a_cons (e_is e_str (by rw [ref1])) a_nil) (e_len T.b_len (e_var 19 h5) (.inr rfl)) (by decide) (by decide) (by simp)) (by decide +kernel) (by decide +kernel)) (by decide +kernel)) m5.gh (fun z => nomatch z) fun _ G6 H6 n6 => s_nil (q _ _ G6 H6 (((((g1.trans n2.g).trans n3.g).trans n4.g).trans n5.g).trans n6.g) (m5.step n6))
end
end K00

/-! K19: the law. -/
namespace K00
open PySem PySem.Spec PyProof.Rows L2 DL SX
def spLaw (K : PySem.W.Frag) : Sp := fun us H Q _ => ∃ (a : Addr) (ns : List Int), us = [.ref a] ∧ SqL K H a (ns.map V.int) ∧ ns.length ≤ 63 ∧ ∀ H', Q (.bl true) H'
section
variable {P : Program} {w : World} {K : PySem.W.Frag} {mg : Str → Option Value} {base : Heap}
theorem ok_law (T : Txt K mg) (T2 : Txt2 K mg) {f : Addr} {fd : FuncData} (F : Fun K "law" "law" s_law f fd) : FnOk P w K mg base CX0 7 f fd ["script"] (spLaw K) := by
  refine F.ok sc_law (fun vs H Q E ⟨a, ns, e, _⟩ => by rw [e]; rfl) fun cdv A outer s H vs Q xk hr ⟨a, ns, e, hl, hn, q⟩ => ?_
  subst e
  refine ⟨_, pss_w, ?_⟩
  show wB (lawX P w K mg base f cdv A outer s H xk) (defBody s_law) _ [some (.ref a), Option.none, Option.none, Option.none, Option.none, Option.none, Option.none, Option.none, Option.none, Option.none, Option.none, Option.none, Option.none, Option.none, Option.none, Option.none, Option.none, Option.none, Option.none, Option.none, Option.none, Option.none] H
  have hr : Room 6 (lawX P w K mg base f cdv A outer s H xk).A := hr
  obtain ⟨fd1, m1, k1, F1⟩ := ok__law_draws (P := P) (w := w) (base := base) T
  refine s_cons ⟨_, ps_set sc_law.nd (i := 1) rfl (Or.inl rfl) (pe_callR (Er := fun _ => E0) F1 (hr.mono (by decide)) rfl m1 k1 passAt0 (pa_cons (pe_var (i := 0) rfl (Or.inl rfl)) pa_nil)) rfl, .ref a, rfl, .ref a, ns, H, rfl, by omega, Evl.Ex.refl _, .lst hl DpAll.ints, fun l G1 H1 g1 mo => ?_⟩
  refine s_forR 2 (n := 12) .never rfl sc_law.nd T.b_range (a_cons e_int a_nil) mo.gh (by decide) (fun i σ H' => ∃ (t a0 b0 n0 k0 x7 x8 x9 x10 x11 x12 x13 x14 x15 x16 x17 x18 x19 : Option V) (G' : Hp), σ = st (.ref a) l t a0 b0 n0 k0 x7 x8 x9 x10 x11 x12 x13 x14 x15 x16 x17 x18 x19 ∧ MO G' H' l)
    (fun G2 H2 n2 => ⟨_, _, _, _, _, _, _, _, _, _, _, _, _, _, _, _, _, _, G2, rfl, mo.step n2⟩) (fun i σ H2 hi ⟨t, a0, b0, n0, k0, x7, x8, x9, x10, x11, x12, x13, x14, x15, x16, x17, x18, x19, G2, eσ, m2⟩ => ?_) fun σ H2 ⟨t, a0, b0, n0, k0, x7, x8, x9, x10, x11, x12, x13, x14, x15, x16, x17, x18, x19, G2, eσ, m2⟩ => ?_
  · subst eσ
    show wB (lawX P w K mg base f cdv A outer s H xk) turnBody _ (st (.ref a) l (some (.int (i : Int))) a0 b0 n0 k0 x7 x8 x9 x10 x11 x12 x13 x14 x15 x16 x17 x18 x19) H2
    refine seg_draw T hr m2 fun va vb qa qb n k G3 H3 g3 m3 ha hb za zb hn1 hn2 hk => ?_
    refine seg_sums T T2 hr m3 ha hb za zb fun x7 x8 G4 H4 g4 m4 => ?_
    have ha := Dp.mono g4 ha
    refine seg_texts T T2 hr m4 ha za hk fun x9 x10 x11 G5 H5 g5 m5 => ?_
    have ha := Dp.mono g5 ha
    refine seg_power T T2 hr m5 ha za hn1 hn2 fun x12 G6 H6 g6 m6 => ?_
    have ha := Dp.mono g6 ha
    refine seg_bits T T2 hr m6 ha za hk fun x13 x14 x15 G7 H7 g7 m7 => ?_
    have ha := Dp.mono g7 ha
    refine seg_root T T2 hr m7 ha za fun x16 x17 G8 H8 g8 m8 => ?_
    have ha := Dp.mono g8 ha
    refine seg_bad T T2 hr m8 ha za fun x18 x19 G9 H9 g9 m9 => ?_
    exact ⟨_, _, _, _, _, _, _, _, _, _, _, _, _, _, _, _, _, _, G9, rfl, m9⟩
  · subst eσ
    exact s_ret e_bl m2.gh fun v G3 H3 n3 hv => by
      cases hv
      exact q H3
end
end K00

/-! K20: the end. -/
namespace K00
open PySem PySem.Spec PyProof.Rows L2 DL
theorem kit_self {K : PySem.W.Frag} {D : Addr} : PySem.W.kitOne K (.ref D) (.ref D) = some true := by
  unfold PySem.W.kitOne
  rw [if_pos (beq_self_eq_true _)]
theorem kit_ref {K : PySem.W.Frag} {D C : Addr} {b : Bool} (hd : PySem.W.hasDictIn K C = true) (ht : PySem.W.typeIn K (.ref C) = some (.type "type")) (hs : PySem.W.subIn K (.ref D) (.ref C) = some b) (hn : (Value.ref D == Value.ref C) = false) : PySem.W.kitOne K (.ref D) (.ref C) = some b := by
  obtain ⟨cd, hc, _⟩ := PySem.W.any_some hd
  unfold PySem.W.kitOne
  rw [if_neg (by rw [hn]; decide)]
  have e2 : ((PySem.W.clsIn K C).isSome && PySem.W.typeIn K (.ref C) == some (.type "type")) = true := by rw [hc, ht] <;> rfl
  show (if ((PySem.W.clsIn K C).isSome && PySem.W.typeIn K (.ref C) == some (.type "type")) = true then PySem.W.subIn K (.ref D) (.ref C) else Option.none) = some b
  rw [if_pos e2]
  exact hs
theorem all_mk {l : PySem.W.OpenLaw} {w : World} {K : PySem.W.Frag} {h : Heap} {mg : Str → Option Value} {fa : Addr} (X : K.In h) (G : h.Ns mainGlobals mg) (hfa : mg "law" = some (.ref fa))
    {fn0 : Addr} {od0 an0 : Option Addr} {sl0 : Array (Option Value)} {oc0 kV0 dc0 pm0 cd0 ct0 : Value}
    {fn1 : Addr} {od1 an1 : Option Addr} {sl1 : Array (Option Value)} {oc1 kV1 dc1 pm1 cd1 ct1 : Value}
    {fn2 : Addr} {od2 an2 : Option Addr} {sl2 : Array (Option Value)} {oc2 kV2 dc2 pm2 cd2 ct2 : Value}
    {fn3 : Addr} {od3 an3 : Option Addr} {sl3 : Array (Option Value)} {oc3 kV3 dc3 pm3 cd3 ct3 : Value}
    {fn4 : Addr} {od4 an4 : Option Addr} {sl4 : Array (Option Value)} {oc4 kV4 dc4 pm4 cd4 ct4 : Value}
    {fn5 : Addr} {od5 an5 : Option Addr} {sl5 : Array (Option Value)} {oc5 kV5 dc5 pm5 cd5 ct5 : Value}
    {fn6 : Addr} {od6 an6 : Option Addr} {sl6 : Array (Option Value)} {oc6 kV6 dc6 pm6 cd6 ct6 : Value}
    {fn7 : Addr} {od7 an7 : Option Addr} {sl7 : Array (Option Value)} {oc7 kV7 dc7 pm7 cd7 ct7 : Value}
    {fn8 : Addr} {od8 an8 : Option Addr} {sl8 : Array (Option Value)} {oc8 kV8 dc8 pm8 cd8 ct8 : Value}
    {fn9 : Addr} {od9 an9 : Option Addr} {sl9 : Array (Option Value)} {oc9 kV9 dc9 pm9 cd9 ct9 : Value}
    {fn10 : Addr} {od10 an10 : Option Addr} {sl10 : Array (Option Value)} {oc10 kV10 dc10 pm10 cd10 ct10 : Value}
    {fn11 : Addr} {od11 an11 : Option Addr} {sl11 : Array (Option Value)} {oc11 kV11 dc11 pm11 cd11 ct11 : Value}
    {fn12 : Addr} {od12 an12 : Option Addr} {sl12 : Array (Option Value)} {oc12 kV12 dc12 pm12 cd12 ct12 : Value}
    {fn13 : Addr} {od13 an13 : Option Addr} {sl13 : Array (Option Value)} {oc13 kV13 dc13 pm13 cd13 ct13 : Value}
    {fn14 : Addr} {od14 an14 : Option Addr} {sl14 : Array (Option Value)} {oc14 kV14 dc14 pm14 cd14 ct14 : Value}
    {fn15 : Addr} {od15 an15 : Option Addr} {sl15 : Array (Option Value)} {oc15 kV15 dc15 pm15 cd15 ct15 : Value}
    {fn16 : Addr} {od16 an16 : Option Addr} {sl16 : Array (Option Value)} {oc16 kV16 dc16 pm16 cd16 ct16 : Value}
    {fn17 : Addr} {od17 an17 : Option Addr} {sl17 : Array (Option Value)} {oc17 kV17 dc17 pm17 cd17 ct17 : Value}
    {fn18 : Addr} {od18 an18 : Option Addr} {sl18 : Array (Option Value)} {oc18 kV18 dc18 pm18 cd18 ct18 : Value}
    {fn19 : Addr} {od19 an19 : Option Addr} {sl19 : Array (Option Value)} {oc19 kV19 dc19 pm19 cd19 ct19 : Value}
    {fn20 : Addr} {od20 an20 : Option Addr} {sl20 : Array (Option Value)} {oc20 kV20 dc20 pm20 cd20 ct20 : Value}
    {fn21 : Addr} {od21 an21 : Option Addr} {sl21 : Array (Option Value)} {oc21 kV21 dc21 pm21 cd21 ct21 : Value}
    {fn22 : Addr} {od22 an22 : Option Addr} {sl22 : Array (Option Value)} {oc22 kV22 dc22 pm22 cd22 ct22 : Value}
    {fn23 : Addr} {od23 an23 : Option Addr} {sl23 : Array (Option Value)} {oc23 kV23 dc23 pm23 cd23 ct23 : Value}
    {fn24 : Addr} {od24 an24 : Option Addr} {sl24 : Array (Option Value)} {oc24 kV24 dc24 pm24 cd24 ct24 : Value}
    {fn25 : Addr} {od25 an25 : Option Addr} {sl25 : Array (Option Value)} {oc25 kV25 dc25 pm25 cd25 ct25 : Value}
    {fn26 : Addr} {od26 an26 : Option Addr} {sl26 : Array (Option Value)} {oc26 kV26 dc26 pm26 cd26 ct26 : Value}
    {fn27 : Addr} {od27 an27 : Option Addr} {sl27 : Array (Option Value)} {oc27 kV27 dc27 pm27 cd27 ct27 : Value}
    {fn28 : Addr} {od28 an28 : Option Addr} {sl28 : Array (Option Value)} {oc28 kV28 dc28 pm28 cd28 ct28 : Value}
    {fn29 : Addr} {od29 an29 : Option Addr} {sl29 : Array (Option Value)} {oc29 kV29 dc29 pm29 cd29 ct29 : Value}
    {fn30 : Addr} {od30 an30 : Option Addr} {sl30 : Array (Option Value)} {oc30 kV30 dc30 pm30 cd30 ct30 : Value}
    {fn31 : Addr} {od31 an31 : Option Addr} {sl31 : Array (Option Value)} {oc31 kV31 dc31 pm31 cd31 ct31 : Value}
    {fn32 : Addr} {od32 an32 : Option Addr} {sl32 : Array (Option Value)} {oc32 kV32 dc32 pm32 cd32 ct32 : Value}
    {fn33 : Addr} {od33 an33 : Option Addr} {sl33 : Array (Option Value)} {oc33 kV33 dc33 pm33 cd33 ct33 : Value}
    {fn34 : Addr} {od34 an34 : Option Addr} {sl34 : Array (Option Value)} {oc34 kV34 dc34 pm34 cd34 ct34 : Value}
    {fn35 : Addr} {od35 an35 : Option Addr} {sl35 : Array (Option Value)} {oc35 kV35 dc35 pm35 cd35 ct35 : Value}
    {fn36 : Addr} {od36 an36 : Option Addr} {sl36 : Array (Option Value)} {oc36 kV36 dc36 pm36 cd36 ct36 : Value}
    {fn37 : Addr} {od37 an37 : Option Addr} {sl37 : Array (Option Value)} {oc37 kV37 dc37 pm37 cd37 ct37 : Value}
    {fn38 : Addr} {od38 an38 : Option Addr} {sl38 : Array (Option Value)} {oc38 kV38 dc38 pm38 cd38 ct38 : Value}
    {fn39 : Addr} {od39 an39 : Option Addr} {sl39 : Array (Option Value)} {oc39 kV39 dc39 pm39 cd39 ct39 : Value}
    {fn40 : Addr} {od40 an40 : Option Addr} {sl40 : Array (Option Value)} {oc40 kV40 dc40 pm40 cd40 ct40 : Value}
    {fn41 : Addr} {od41 an41 : Option Addr} {sl41 : Array (Option Value)} {oc41 kV41 dc41 pm41 cd41 ct41 : Value}
    {fn42 : Addr} {od42 an42 : Option Addr} {sl42 : Array (Option Value)} {oc42 kV42 dc42 pm42 cd42 ct42 : Value}
    {fn43 : Addr} {od43 an43 : Option Addr} {sl43 : Array (Option Value)} {oc43 kV43 dc43 pm43 cd43 ct43 : Value}
    {fn44 : Addr} {od44 an44 : Option Addr} {sl44 : Array (Option Value)} {oc44 kV44 dc44 pm44 cd44 ct44 : Value}
    {fn45 : Addr} {od45 an45 : Option Addr} {sl45 : Array (Option Value)} {oc45 kV45 dc45 pm45 cd45 ct45 : Value}
    {fn46 : Addr} {od46 an46 : Option Addr} {sl46 : Array (Option Value)} {oc46 kV46 dc46 pm46 cd46 ct46 : Value}
    {fn47 : Addr} {od47 an47 : Option Addr} {sl47 : Array (Option Value)} {oc47 kV47 dc47 pm47 cd47 ct47 : Value}
    {fn48 : Addr} {od48 an48 : Option Addr} {sl48 : Array (Option Value)} {oc48 kV48 dc48 pm48 cd48 ct48 : Value}
    {fn49 : Addr} {od49 an49 : Option Addr} {sl49 : Array (Option Value)} {oc49 kV49 dc49 pm49 cd49 ct49 : Value}
    {fn50 : Addr} {od50 an50 : Option Addr} {sl50 : Array (Option Value)} {oc50 kV50 dc50 pm50 cd50 ct50 : Value}
    {tk0 : Tok}
    {tk1 : Tok}
    {tk2 : Tok}
    {tk3 : Tok}
    {tk4 : Tok}
    {C0 : Addr}
    {C1 : Addr}
    {C2 : Addr}
    {C3 : Addr}
    {C4 : Addr}
    {C5 : Addr}
    {C6 : Addr}
    (a0 : PySem.W.nsIn K mainGlobals "is_integer" = some (some (.ref fn0)))
    (l0 : K.lookup fn0 = some ⟨oc0, od0, .func (PySem.W.fnOf "is_integer" "is_integer" (defArgs s_is_integer) (defBody s_is_integer) (defScope s_is_integer) .none kV0 dc0 pm0 an0 cd0 ct0), sl0⟩)
    (c0 : PySem.W.codeIn K cd0 "is_integer" = true)
    (k0 : PySem.W.keepIn K (.ref fn0) = true)
    (a1 : PySem.W.nsIn K mainGlobals "is_within" = some (some (.ref fn1)))
    (l1 : K.lookup fn1 = some ⟨oc1, od1, .func (PySem.W.fnOf "is_within" "is_within" (defArgs s_is_within) (defBody s_is_within) (defScope s_is_within) .none kV1 dc1 pm1 an1 cd1 ct1), sl1⟩)
    (c1 : PySem.W.codeIn K cd1 "is_within" = true)
    (k1 : PySem.W.keepIn K (.ref fn1) = true)
    (a2 : PySem.W.nsIn K mainGlobals "check" = some (some (.ref fn2)))
    (l2 : K.lookup fn2 = some ⟨oc2, od2, .func (PySem.W.fnOf "check" "check" (defArgs s_check) (defBody s_check) (defScope s_check) .none kV2 dc2 pm2 an2 cd2 ct2), sl2⟩)
    (c2 : PySem.W.codeIn K cd2 "check" = true)
    (k2 : PySem.W.keepIn K (.ref fn2) = true)
    (a3 : PySem.W.nsIn K mainGlobals "figures_of" = some (some (.ref fn3)))
    (l3 : K.lookup fn3 = some ⟨oc3, od3, .func (PySem.W.fnOf "figures_of" "figures_of" (defArgs s_figures_of) (defBody s_figures_of) (defScope s_figures_of) .none kV3 dc3 pm3 an3 cd3 ct3), sl3⟩)
    (c3 : PySem.W.codeIn K cd3 "figures_of" = true)
    (k3 : PySem.W.keepIn K (.ref fn3) = true)
    (a4 : PySem.W.nsIn K mainGlobals "shared" = some (some (.ref fn4)))
    (l4 : K.lookup fn4 = some ⟨oc4, od4, .func (PySem.W.fnOf "shared" "shared" (defArgs s_shared) (defBody s_shared) (defScope s_shared) .none kV4 dc4 pm4 an4 cd4 ct4), sl4⟩)
    (c4 : PySem.W.codeIn K cd4 "shared" = true)
    (k4 : PySem.W.keepIn K (.ref fn4) = true)
    (a5 : PySem.W.nsIn K mainGlobals "made" = some (some (.ref fn5)))
    (l5 : K.lookup fn5 = some ⟨oc5, od5, .func (PySem.W.fnOf "made" "made" (defArgs s_made) (defBody s_made) (defScope s_made) .none kV5 dc5 pm5 an5 cd5 ct5), sl5⟩)
    (c5 : PySem.W.codeIn K cd5 "made" = true)
    (k5 : PySem.W.keepIn K (.ref fn5) = true)
    (a6 : PySem.W.nsIn K mainGlobals "is_ratio" = some (some (.ref fn6)))
    (l6 : K.lookup fn6 = some ⟨oc6, od6, .func (PySem.W.fnOf "is_ratio" "is_ratio" (defArgs s_is_ratio) (defBody s_is_ratio) (defScope s_is_ratio) .none kV6 dc6 pm6 an6 cd6 ct6), sl6⟩)
    (c6 : PySem.W.codeIn K cd6 "is_ratio" = true)
    (k6 : PySem.W.keepIn K (.ref fn6) = true)
    (a7 : PySem.W.nsIn K mainGlobals "ratio" = some (some (.ref fn7)))
    (l7 : K.lookup fn7 = some ⟨oc7, od7, .func (PySem.W.fnOf "ratio" "ratio" (defArgs s_ratio) (defBody s_ratio) (defScope s_ratio) .none kV7 dc7 pm7 an7 cd7 ct7), sl7⟩)
    (c7 : PySem.W.codeIn K cd7 "ratio" = true)
    (k7 : PySem.W.keepIn K (.ref fn7) = true)
    (a8 : PySem.W.nsIn K mainGlobals "check_ratios" = some (some (.ref fn8)))
    (l8 : K.lookup fn8 = some ⟨oc8, od8, .func (PySem.W.fnOf "check_ratios" "check_ratios" (defArgs s_check_ratios) (defBody s_check_ratios) (defScope s_check_ratios) .none kV8 dc8 pm8 an8 cd8 ct8), sl8⟩)
    (c8 : PySem.W.codeIn K cd8 "check_ratios" = true)
    (k8 : PySem.W.keepIn K (.ref fn8) = true)
    (a9 : PySem.W.nsIn K mainGlobals "add" = some (some (.ref fn9)))
    (l9 : K.lookup fn9 = some ⟨oc9, od9, .func (PySem.W.fnOf "add" "add" (defArgs s_add) (defBody s_add) (defScope s_add) .none kV9 dc9 pm9 an9 cd9 ct9), sl9⟩)
    (c9 : PySem.W.codeIn K cd9 "add" = true)
    (k9 : PySem.W.keepIn K (.ref fn9) = true)
    (a10 : PySem.W.nsIn K mainGlobals "less" = some (some (.ref fn10)))
    (l10 : K.lookup fn10 = some ⟨oc10, od10, .func (PySem.W.fnOf "less" "less" (defArgs s_less) (defBody s_less) (defScope s_less) .none kV10 dc10 pm10 an10 cd10 ct10), sl10⟩)
    (c10 : PySem.W.codeIn K cd10 "less" = true)
    (k10 : PySem.W.keepIn K (.ref fn10) = true)
    (a11 : PySem.W.nsIn K mainGlobals "product" = some (some (.ref fn11)))
    (l11 : K.lookup fn11 = some ⟨oc11, od11, .func (PySem.W.fnOf "product" "product" (defArgs s_product) (defBody s_product) (defScope s_product) .none kV11 dc11 pm11 an11 cd11 ct11), sl11⟩)
    (c11 : PySem.W.codeIn K cd11 "product" = true)
    (k11 : PySem.W.keepIn K (.ref fn11) = true)
    (a12 : PySem.W.nsIn K mainGlobals "share" = some (some (.ref fn12)))
    (l12 : K.lookup fn12 = some ⟨oc12, od12, .func (PySem.W.fnOf "share" "share" (defArgs s_share) (defBody s_share) (defScope s_share) .none kV12 dc12 pm12 an12 cd12 ct12), sl12⟩)
    (c12 : PySem.W.codeIn K cd12 "share" = true)
    (k12 : PySem.W.keepIn K (.ref fn12) = true)
    (a13 : PySem.W.nsIn K mainGlobals "is_below" = some (some (.ref fn13)))
    (l13 : K.lookup fn13 = some ⟨oc13, od13, .func (PySem.W.fnOf "is_below" "is_below" (defArgs s_is_below) (defBody s_is_below) (defScope s_is_below) .none kV13 dc13 pm13 an13 cd13 ct13), sl13⟩)
    (c13 : PySem.W.codeIn K cd13 "is_below" = true)
    (k13 : PySem.W.keepIn K (.ref fn13) = true)
    (a14 : PySem.W.nsIn K mainGlobals "plus" = some (some (.ref fn14)))
    (l14 : K.lookup fn14 = some ⟨oc14, od14, .func (PySem.W.fnOf "plus" "plus" (defArgs s_plus) (defBody s_plus) (defScope s_plus) .none kV14 dc14 pm14 an14 cd14 ct14), sl14⟩)
    (c14 : PySem.W.codeIn K cd14 "plus" = true)
    (k14 : PySem.W.keepIn K (.ref fn14) = true)
    (a15 : PySem.W.nsIn K mainGlobals "minus" = some (some (.ref fn15)))
    (l15 : K.lookup fn15 = some ⟨oc15, od15, .func (PySem.W.fnOf "minus" "minus" (defArgs s_minus) (defBody s_minus) (defScope s_minus) .none kV15 dc15 pm15 an15 cd15 ct15), sl15⟩)
    (c15 : PySem.W.codeIn K cd15 "minus" = true)
    (k15 : PySem.W.keepIn K (.ref fn15) = true)
    (a16 : PySem.W.nsIn K mainGlobals "times" = some (some (.ref fn16)))
    (l16 : K.lookup fn16 = some ⟨oc16, od16, .func (PySem.W.fnOf "times" "times" (defArgs s_times) (defBody s_times) (defScope s_times) .none kV16 dc16 pm16 an16 cd16 ct16), sl16⟩)
    (c16 : PySem.W.codeIn K cd16 "times" = true)
    (k16 : PySem.W.keepIn K (.ref fn16) = true)
    (a17 : PySem.W.nsIn K mainGlobals "over" = some (some (.ref fn17)))
    (l17 : K.lookup fn17 = some ⟨oc17, od17, .func (PySem.W.fnOf "over" "over" (defArgs s_over) (defBody s_over) (defScope s_over) .none kV17 dc17 pm17 an17 cd17 ct17), sl17⟩)
    (c17 : PySem.W.codeIn K cd17 "over" = true)
    (k17 : PySem.W.keepIn K (.ref fn17) = true)
    (a18 : PySem.W.nsIn K mainGlobals "raised" = some (some (.ref fn18)))
    (l18 : K.lookup fn18 = some ⟨oc18, od18, .func (PySem.W.fnOf "raised" "raised" (defArgs s_raised) (defBody s_raised) (defScope s_raised) .none kV18 dc18 pm18 an18 cd18 ct18), sl18⟩)
    (c18 : PySem.W.codeIn K cd18 "raised" = true)
    (k18 : PySem.W.keepIn K (.ref fn18) = true)
    (a19 : PySem.W.nsIn K mainGlobals "power_by" = some (some (.ref fn19)))
    (l19 : K.lookup fn19 = some ⟨oc19, od19, .func (PySem.W.fnOf "power_by" "power_by" (defArgs s_power_by) (defBody s_power_by) (defScope s_power_by) .none kV19 dc19 pm19 an19 cd19 ct19), sl19⟩)
    (c19 : PySem.W.codeIn K cd19 "power_by" = true)
    (k19 : PySem.W.keepIn K (.ref fn19) = true)
    (a20 : PySem.W.nsIn K mainGlobals "power" = some (some (.ref fn20)))
    (l20 : K.lookup fn20 = some ⟨oc20, od20, .func (PySem.W.fnOf "power" "power" (defArgs s_power) (defBody s_power) (defScope s_power) .none kV20 dc20 pm20 an20 cd20 ct20), sl20⟩)
    (c20 : PySem.W.codeIn K cd20 "power" = true)
    (k20 : PySem.W.keepIn K (.ref fn20) = true)
    (a21 : PySem.W.nsIn K mainGlobals "compare" = some (some (.ref fn21)))
    (l21 : K.lookup fn21 = some ⟨oc21, od21, .func (PySem.W.fnOf "compare" "compare" (defArgs s_compare) (defBody s_compare) (defScope s_compare) .none kV21 dc21 pm21 an21 cd21 ct21), sl21⟩)
    (c21 : PySem.W.codeIn K cd21 "compare" = true)
    (k21 : PySem.W.keepIn K (.ref fn21) = true)
    (a22 : PySem.W.nsIn K mainGlobals "floor_of" = some (some (.ref fn22)))
    (l22 : K.lookup fn22 = some ⟨oc22, od22, .func (PySem.W.fnOf "floor_of" "floor_of" (defArgs s_floor_of) (defBody s_floor_of) (defScope s_floor_of) .none kV22 dc22 pm22 an22 cd22 ct22), sl22⟩)
    (c22 : PySem.W.codeIn K cd22 "floor_of" = true)
    (k22 : PySem.W.keepIn K (.ref fn22) = true)
    (a23 : PySem.W.nsIn K mainGlobals "ceiling_of" = some (some (.ref fn23)))
    (l23 : K.lookup fn23 = some ⟨oc23, od23, .func (PySem.W.fnOf "ceiling_of" "ceiling_of" (defArgs s_ceiling_of) (defBody s_ceiling_of) (defScope s_ceiling_of) .none kV23 dc23 pm23 an23 cd23 ct23), sl23⟩)
    (c23 : PySem.W.codeIn K cd23 "ceiling_of" = true)
    (k23 : PySem.W.keepIn K (.ref fn23) = true)
    (a24 : PySem.W.nsIn K mainGlobals "of_bits" = some (some (.ref fn24)))
    (l24 : K.lookup fn24 = some ⟨oc24, od24, .func (PySem.W.fnOf "of_bits" "of_bits" (defArgs s_of_bits) (defBody s_of_bits) (defScope s_of_bits) .none kV24 dc24 pm24 an24 cd24 ct24), sl24⟩)
    (c24 : PySem.W.codeIn K cd24 "of_bits" = true)
    (k24 : PySem.W.keepIn K (.ref fn24) = true)
    (a25 : PySem.W.nsIn K mainGlobals "down_by" = some (some (.ref fn25)))
    (l25 : K.lookup fn25 = some ⟨oc25, od25, .func (PySem.W.fnOf "down_by" "down_by" (defArgs s_down_by) (defBody s_down_by) (defScope s_down_by) .none kV25 dc25 pm25 an25 cd25 ct25), sl25⟩)
    (c25 : PySem.W.codeIn K cd25 "down_by" = true)
    (k25 : PySem.W.keepIn K (.ref fn25) = true)
    (a26 : PySem.W.nsIn K mainGlobals "up_by" = some (some (.ref fn26)))
    (l26 : K.lookup fn26 = some ⟨oc26, od26, .func (PySem.W.fnOf "up_by" "up_by" (defArgs s_up_by) (defBody s_up_by) (defScope s_up_by) .none kV26 dc26 pm26 an26 cd26 ct26), sl26⟩)
    (c26 : PySem.W.codeIn K cd26 "up_by" = true)
    (k26 : PySem.W.keepIn K (.ref fn26) = true)
    (a27 : PySem.W.nsIn K mainGlobals "down_to" = some (some (.ref fn27)))
    (l27 : K.lookup fn27 = some ⟨oc27, od27, .func (PySem.W.fnOf "down_to" "down_to" (defArgs s_down_to) (defBody s_down_to) (defScope s_down_to) .none kV27 dc27 pm27 an27 cd27 ct27), sl27⟩)
    (c27 : PySem.W.codeIn K cd27 "down_to" = true)
    (k27 : PySem.W.keepIn K (.ref fn27) = true)
    (a28 : PySem.W.nsIn K mainGlobals "up_to" = some (some (.ref fn28)))
    (l28 : K.lookup fn28 = some ⟨oc28, od28, .func (PySem.W.fnOf "up_to" "up_to" (defArgs s_up_to) (defBody s_up_to) (defScope s_up_to) .none kV28 dc28 pm28 an28 cd28 ct28), sl28⟩)
    (c28 : PySem.W.codeIn K cd28 "up_to" = true)
    (k28 : PySem.W.keepIn K (.ref fn28) = true)
    (a29 : PySem.W.nsIn K mainGlobals "halved" = some (some (.ref fn29)))
    (l29 : K.lookup fn29 = some ⟨oc29, od29, .func (PySem.W.fnOf "halved" "halved" (defArgs s_halved) (defBody s_halved) (defScope s_halved) .none kV29 dc29 pm29 an29 cd29 ct29), sl29⟩)
    (c29 : PySem.W.codeIn K cd29 "halved" = true)
    (k29 : PySem.W.keepIn K (.ref fn29) = true)
    (a30 : PySem.W.nsIn K mainGlobals "shown_ratio" = some (some (.ref fn30)))
    (l30 : K.lookup fn30 = some ⟨oc30, od30, .func (PySem.W.fnOf "shown_ratio" "shown_ratio" (defArgs s_shown_ratio) (defBody s_shown_ratio) (defScope s_shown_ratio) .none kV30 dc30 pm30 an30 cd30 ct30), sl30⟩)
    (c30 : PySem.W.codeIn K cd30 "shown_ratio" = true)
    (k30 : PySem.W.keepIn K (.ref fn30) = true)
    (a31 : PySem.W.nsIn K mainGlobals "decimal_by" = some (some (.ref fn31)))
    (l31 : K.lookup fn31 = some ⟨oc31, od31, .func (PySem.W.fnOf "decimal_by" "decimal_by" (defArgs s_decimal_by) (defBody s_decimal_by) (defScope s_decimal_by) .none kV31 dc31 pm31 an31 cd31 ct31), sl31⟩)
    (c31 : PySem.W.codeIn K cd31 "decimal_by" = true)
    (k31 : PySem.W.keepIn K (.ref fn31) = true)
    (a32 : PySem.W.nsIn K mainGlobals "decimal_of" = some (some (.ref fn32)))
    (l32 : K.lookup fn32 = some ⟨oc32, od32, .func (PySem.W.fnOf "decimal_of" "decimal_of" (defArgs s_decimal_of) (defBody s_decimal_of) (defScope s_decimal_of) .none kV32 dc32 pm32 an32 cd32 ct32), sl32⟩)
    (c32 : PySem.W.codeIn K cd32 "decimal_of" = true)
    (k32 : PySem.W.keepIn K (.ref fn32) = true)
    (a33 : PySem.W.nsIn K mainGlobals "root_under" = some (some (.ref fn33)))
    (l33 : K.lookup fn33 = some ⟨oc33, od33, .func (PySem.W.fnOf "root_under" "root_under" (defArgs s_root_under) (defBody s_root_under) (defScope s_root_under) .none kV33 dc33 pm33 an33 cd33 ct33), sl33⟩)
    (c33 : PySem.W.codeIn K cd33 "root_under" = true)
    (k33 : PySem.W.keepIn K (.ref fn33) = true)
    (a34 : PySem.W.nsIn K mainGlobals "least_square" = some (some (.ref fn34)))
    (l34 : K.lookup fn34 = some ⟨oc34, od34, .func (PySem.W.fnOf "least_square" "least_square" (defArgs s_least_square) (defBody s_least_square) (defScope s_least_square) .none kV34 dc34 pm34 an34 cd34 ct34), sl34⟩)
    (c34 : PySem.W.codeIn K cd34 "least_square" = true)
    (k34 : PySem.W.keepIn K (.ref fn34) = true)
    (a35 : PySem.W.nsIn K mainGlobals "_law_draws" = some (some (.ref fn35)))
    (l35 : K.lookup fn35 = some ⟨oc35, od35, .func (PySem.W.fnOf "_law_draws" "_law_draws" (defArgs s__law_draws) (defBody s__law_draws) (defScope s__law_draws) .none kV35 dc35 pm35 an35 cd35 ct35), sl35⟩)
    (c35 : PySem.W.codeIn K cd35 "_law_draws" = true)
    (k35 : PySem.W.keepIn K (.ref fn35) = true)
    (a36 : PySem.W.nsIn K mainGlobals "_law_same" = some (some (.ref fn36)))
    (l36 : K.lookup fn36 = some ⟨oc36, od36, .func (PySem.W.fnOf "_law_same" "_law_same" (defArgs s__law_same) (defBody s__law_same) (defScope s__law_same) .none kV36 dc36 pm36 an36 cd36 ct36), sl36⟩)
    (c36 : PySem.W.codeIn K cd36 "_law_same" = true)
    (k36 : PySem.W.keepIn K (.ref fn36) = true)
    (a37 : PySem.W.nsIn K mainGlobals "_law_take" = some (some (.ref fn37)))
    (l37 : K.lookup fn37 = some ⟨oc37, od37, .func (PySem.W.fnOf "_law_take" "_law_take" (defArgs s__law_take) (defBody s__law_take) (defScope s__law_take) .none kV37 dc37 pm37 an37 cd37 ct37), sl37⟩)
    (c37 : PySem.W.codeIn K cd37 "_law_take" = true)
    (k37 : PySem.W.keepIn K (.ref fn37) = true)
    (a38 : PySem.W.nsIn K mainGlobals "_law_pick" = some (some (.ref fn38)))
    (l38 : K.lookup fn38 = some ⟨oc38, od38, .func (PySem.W.fnOf "_law_pick" "_law_pick" (defArgs s__law_pick) (defBody s__law_pick) (defScope s__law_pick) .none kV38 dc38 pm38 an38 cd38 ct38), sl38⟩)
    (c38 : PySem.W.codeIn K cd38 "_law_pick" = true)
    (k38 : PySem.W.keepIn K (.ref fn38) = true)
    (a39 : PySem.W.nsIn K mainGlobals "_law_flag" = some (some (.ref fn39)))
    (l39 : K.lookup fn39 = some ⟨oc39, od39, .func (PySem.W.fnOf "_law_flag" "_law_flag" (defArgs s__law_flag) (defBody s__law_flag) (defScope s__law_flag) .none kV39 dc39 pm39 an39 cd39 ct39), sl39⟩)
    (c39 : PySem.W.codeIn K cd39 "_law_flag" = true)
    (k39 : PySem.W.keepIn K (.ref fn39) = true)
    (a40 : PySem.W.nsIn K mainGlobals "_law_r" = some (some (.ref fn40)))
    (l40 : K.lookup fn40 = some ⟨oc40, od40, .func (PySem.W.fnOf "_law_r" "_law_r" (defArgs s__law_r) (defBody s__law_r) (defScope s__law_r) .none kV40 dc40 pm40 an40 cd40 ct40), sl40⟩)
    (c40 : PySem.W.codeIn K cd40 "_law_r" = true)
    (k40 : PySem.W.keepIn K (.ref fn40) = true)
    (a41 : PySem.W.nsIn K mainGlobals "_law_add" = some (some (.ref fn41)))
    (l41 : K.lookup fn41 = some ⟨oc41, od41, .func (PySem.W.fnOf "_law_add" "_law_add" (defArgs s__law_add) (defBody s__law_add) (defScope s__law_add) .none kV41 dc41 pm41 an41 cd41 ct41), sl41⟩)
    (c41 : PySem.W.codeIn K cd41 "_law_add" = true)
    (k41 : PySem.W.keepIn K (.ref fn41) = true)
    (a42 : PySem.W.nsIn K mainGlobals "_law_sub" = some (some (.ref fn42)))
    (l42 : K.lookup fn42 = some ⟨oc42, od42, .func (PySem.W.fnOf "_law_sub" "_law_sub" (defArgs s__law_sub) (defBody s__law_sub) (defScope s__law_sub) .none kV42 dc42 pm42 an42 cd42 ct42), sl42⟩)
    (c42 : PySem.W.codeIn K cd42 "_law_sub" = true)
    (k42 : PySem.W.keepIn K (.ref fn42) = true)
    (a43 : PySem.W.nsIn K mainGlobals "_law_mul" = some (some (.ref fn43)))
    (l43 : K.lookup fn43 = some ⟨oc43, od43, .func (PySem.W.fnOf "_law_mul" "_law_mul" (defArgs s__law_mul) (defBody s__law_mul) (defScope s__law_mul) .none kV43 dc43 pm43 an43 cd43 ct43), sl43⟩)
    (c43 : PySem.W.codeIn K cd43 "_law_mul" = true)
    (k43 : PySem.W.keepIn K (.ref fn43) = true)
    (a44 : PySem.W.nsIn K mainGlobals "_law_less" = some (some (.ref fn44)))
    (l44 : K.lookup fn44 = some ⟨oc44, od44, .func (PySem.W.fnOf "_law_less" "_law_less" (defArgs s__law_less) (defBody s__law_less) (defScope s__law_less) .none kV44 dc44 pm44 an44 cd44 ct44), sl44⟩)
    (c44 : PySem.W.codeIn K cd44 "_law_less" = true)
    (k44 : PySem.W.keepIn K (.ref fn44) = true)
    (a45 : PySem.W.nsIn K mainGlobals "_law_twos" = some (some (.ref fn45)))
    (l45 : K.lookup fn45 = some ⟨oc45, od45, .func (PySem.W.fnOf "_law_twos" "_law_twos" (defArgs s__law_twos) (defBody s__law_twos) (defScope s__law_twos) .none kV45 dc45 pm45 an45 cd45 ct45), sl45⟩)
    (c45 : PySem.W.codeIn K cd45 "_law_twos" = true)
    (k45 : PySem.W.keepIn K (.ref fn45) = true)
    (a46 : PySem.W.nsIn K mainGlobals "_law_any" = some (some (.ref fn46)))
    (l46 : K.lookup fn46 = some ⟨oc46, od46, .func (PySem.W.fnOf "_law_any" "_law_any" (defArgs s__law_any) (defBody s__law_any) (defScope s__law_any) .none kV46 dc46 pm46 an46 cd46 ct46), sl46⟩)
    (c46 : PySem.W.codeIn K cd46 "_law_any" = true)
    (k46 : PySem.W.keepIn K (.ref fn46) = true)
    (a47 : PySem.W.nsIn K mainGlobals "_law_power" = some (some (.ref fn47)))
    (l47 : K.lookup fn47 = some ⟨oc47, od47, .func (PySem.W.fnOf "_law_power" "_law_power" (defArgs s__law_power) (defBody s__law_power) (defScope s__law_power) .none kV47 dc47 pm47 an47 cd47 ct47), sl47⟩)
    (c47 : PySem.W.codeIn K cd47 "_law_power" = true)
    (k47 : PySem.W.keepIn K (.ref fn47) = true)
    (a48 : PySem.W.nsIn K mainGlobals "_law_told" = some (some (.ref fn48)))
    (l48 : K.lookup fn48 = some ⟨oc48, od48, .func (PySem.W.fnOf "_law_told" "_law_told" (defArgs s__law_told) (defBody s__law_told) (defScope s__law_told) .none kV48 dc48 pm48 an48 cd48 ct48), sl48⟩)
    (c48 : PySem.W.codeIn K cd48 "_law_told" = true)
    (k48 : PySem.W.keepIn K (.ref fn48) = true)
    (a49 : PySem.W.nsIn K mainGlobals "_law_decimal" = some (some (.ref fn49)))
    (l49 : K.lookup fn49 = some ⟨oc49, od49, .func (PySem.W.fnOf "_law_decimal" "_law_decimal" (defArgs s__law_decimal) (defBody s__law_decimal) (defScope s__law_decimal) .none kV49 dc49 pm49 an49 cd49 ct49), sl49⟩)
    (c49 : PySem.W.codeIn K cd49 "_law_decimal" = true)
    (k49 : PySem.W.keepIn K (.ref fn49) = true)
    (a50 : PySem.W.nsIn K mainGlobals "law" = some (some (.ref fn50)))
    (l50 : K.lookup fn50 = some ⟨oc50, od50, .func (PySem.W.fnOf "law" "law" (defArgs s_law) (defBody s_law) (defScope s_law) .none kV50 dc50 pm50 an50 cd50 ct50), sl50⟩)
    (c50 : PySem.W.codeIn K cd50 "law" = true)
    (k50 : PySem.W.keepIn K (.ref fn50) = true)
    (b0 : PySem.W.nsIn K mainGlobals "abs" = some none)
    (b1 : PySem.W.nsIn K mainGlobals "all" = some none)
    (b2 : PySem.W.nsIn K mainGlobals "bool" = some none)
    (b3 : PySem.W.nsIn K mainGlobals "dict" = some none)
    (b4 : PySem.W.nsIn K mainGlobals "int" = some none)
    (b5 : PySem.W.nsIn K mainGlobals "isinstance" = some none)
    (b6 : PySem.W.nsIn K mainGlobals "len" = some none)
    (b7 : PySem.W.nsIn K mainGlobals "list" = some none)
    (b8 : PySem.W.nsIn K mainGlobals "max" = some none)
    (b9 : PySem.W.nsIn K mainGlobals "range" = some none)
    (b10 : PySem.W.nsIn K mainGlobals "reversed" = some none)
    (b11 : PySem.W.nsIn K mainGlobals "str" = some none)
    (b12 : PySem.W.nsIn K mainGlobals "sum" = some none)
    (b13 : PySem.W.nsIn K mainGlobals "tuple" = some none)
    (n0 : PySem.W.nsIn K mainGlobals "LONG_FIGURES" = some (some (.int (18) tk0)))
    (n1 : PySem.W.nsIn K mainGlobals "LONG" = some (some (.int (1000000000000000000) tk1)))
    (n2 : PySem.W.nsIn K mainGlobals "MOST_BITS" = some (some (.int (20000) tk2)))
    (n3 : PySem.W.nsIn K mainGlobals "MOST_POWER" = some (some (.int (400) tk3)))
    (n4 : PySem.W.nsIn K mainGlobals "MOST_FIGURES" = some (some (.int (400) tk4)))
    (x0 : PySem.W.nsIn K mainGlobals "NoAnswer" = some (some (.ref C0)))
    (x1 : PySem.W.nsIn K mainGlobals "NotRight" = some (some (.ref C1)))
    (x2 : PySem.W.nsIn K mainGlobals "NotThere" = some (some (.ref C2)))
    (x3 : PySem.W.nsIn K mainGlobals "TooHard" = some (some (.ref C3)))
    (x4 : PySem.W.nsIn K mainGlobals "Unclear" = some (some (.ref C4)))
    (x5 : PySem.W.nsIn K mainGlobals "Undefined" = some (some (.ref C5)))
    (x6 : PySem.W.nsIn K mainGlobals "WidthError" = some (some (.ref C6)))
    (hd0 : PySem.W.hasDictIn K C0 = true)
    (te0 : PySem.W.typeIn K (.ref C0) = some (.type "type"))
    (hd1 : PySem.W.hasDictIn K C1 = true)
    (te1 : PySem.W.typeIn K (.ref C1) = some (.type "type"))
    (hd2 : PySem.W.hasDictIn K C2 = true)
    (te2 : PySem.W.typeIn K (.ref C2) = some (.type "type"))
    (hd3 : PySem.W.hasDictIn K C3 = true)
    (te3 : PySem.W.typeIn K (.ref C3) = some (.type "type"))
    (hd4 : PySem.W.hasDictIn K C4 = true)
    (te4 : PySem.W.typeIn K (.ref C4) = some (.type "type"))
    (hd5 : PySem.W.hasDictIn K C5 = true)
    (te5 : PySem.W.typeIn K (.ref C5) = some (.type "type"))
    (hd6 : PySem.W.hasDictIn K C6 = true)
    (te6 : PySem.W.typeIn K (.ref C6) = some (.type "type"))
    (be1 : PySem.W.subIn K (.ref C1) (.type "BaseException") = some true)
    (be0 : PySem.W.subIn K (.ref C0) (.type "BaseException") = some true)
    (be6 : PySem.W.subIn K (.ref C6) (.type "BaseException") = some true)
    (e1 : PySem.W.excIn K C1 [.type "ValueError", .type "Exception", .type "BaseException", .type "object"] "ValueError.__new__" = true)
    (ke1 : PySem.W.keepIn K (.ref C1) = true)
    (ga1 : PySem.W.findIn K (.ref C1) "__getattribute__" = some (some (.builtin "BaseException.__getattribute__")))
    (gg1 : PySem.W.findIn K (.ref C1) "__getattr__" = some none)
    (cl1 : PySem.W.findIn K (.ref C1) "__class__" = some (some (.builtin "object.__class__")))
    (mr1 : PySem.W.mroIn K C1 (.type "object") = some true)
    (s1_b : PySem.W.subIn K (.ref C1) (.ref C6) = some true)
    (s1_1 : PySem.W.subIn K (.ref C1) (.ref C2) = some false)
    (n1_1 : (Value.ref C1 == Value.ref C2) = false)
    (s1_2 : PySem.W.subIn K (.ref C1) (.ref C0) = some false)
    (n1_2 : (Value.ref C1 == Value.ref C0) = false)
    (s1_3 : PySem.W.subIn K (.ref C1) (.ref C5) = some false)
    (n1_3 : (Value.ref C1 == Value.ref C5) = false)
    (s1_4 : PySem.W.subIn K (.ref C1) (.ref C4) = some false)
    (n1_4 : (Value.ref C1 == Value.ref C4) = false)
    (s1_5 : PySem.W.subIn K (.ref C1) (.ref C3) = some false)
    (n1_5 : (Value.ref C1 == Value.ref C3) = false)
    (e0 : PySem.W.excIn K C0 [.type "ValueError", .type "Exception", .type "BaseException", .type "object"] "ValueError.__new__" = true)
    (ke0 : PySem.W.keepIn K (.ref C0) = true)
    (ga0 : PySem.W.findIn K (.ref C0) "__getattribute__" = some (some (.builtin "BaseException.__getattribute__")))
    (gg0 : PySem.W.findIn K (.ref C0) "__getattr__" = some none)
    (cl0 : PySem.W.findIn K (.ref C0) "__class__" = some (some (.builtin "object.__class__")))
    (mr0 : PySem.W.mroIn K C0 (.type "object") = some true)
    (s0_b : PySem.W.subIn K (.ref C0) (.ref C6) = some true)
    (s0_0 : PySem.W.subIn K (.ref C0) (.ref C1) = some false)
    (n0_0 : (Value.ref C0 == Value.ref C1) = false)
    (s0_1 : PySem.W.subIn K (.ref C0) (.ref C2) = some false)
    (n0_1 : (Value.ref C0 == Value.ref C2) = false)
    (s0_3 : PySem.W.subIn K (.ref C0) (.ref C5) = some false)
    (n0_3 : (Value.ref C0 == Value.ref C5) = false)
    (s0_4 : PySem.W.subIn K (.ref C0) (.ref C4) = some false)
    (n0_4 : (Value.ref C0 == Value.ref C4) = false)
    (s0_5 : PySem.W.subIn K (.ref C0) (.ref C3) = some false)
    (n0_5 : (Value.ref C0 == Value.ref C3) = false)
    (sg : PySem.W.specialIn K (.builtin "object.__class__") "__get__" = some (some (.builtin "getset_descriptor.__get__")))
    (tg : PySem.W.takesIn K (.builtin "object.__class__") = some true) :
    ∃ fd : FuncData, (∀ (s : Shared) (v : Value), BindsTo s fd ⟨[v], []⟩ [("script", v)]) ∧ ∀ base : Heap, K.In base → base.Ns mainGlobals mg → FnOk l.prog w K mg base CX0 7 fa fd ["script"] (spLaw K) := by
  have e := hfa.symm.trans (PySem.W.mg_of X G a50)
  cases e
  have T : Txt K mg := {
    h_is_integer := ⟨_, _, PySem.W.mg_of X G a0, fun_mk (st := s_is_integer) l0 c0 k0, (fun_mk (st := s_is_integer) l0 c0 k0).binds (ps := ["value"]) fun _ _ _ _ _ _ us hl => match us, hl with | [_], _ => rfl⟩,
    h_is_within := ⟨_, _, PySem.W.mg_of X G a1, fun_mk (st := s_is_within) l1 c1 k1, (fun_mk (st := s_is_within) l1 c1 k1).binds (ps := ["value", "low", "high"]) fun _ _ _ _ _ _ us hl => match us, hl with | [_, _, _], _ => rfl⟩,
    h_check := ⟨_, _, PySem.W.mg_of X G a2, fun_mk (st := s_check) l2 c2 k2, (fun_mk (st := s_check) l2 c2 k2).binds (ps := ["is_right"]) fun _ _ _ _ _ _ us hl => match us, hl with | [_], _ => rfl⟩,
    h_figures_of := ⟨_, _, PySem.W.mg_of X G a3, fun_mk (st := s_figures_of) l3 c3 k3, (fun_mk (st := s_figures_of) l3 c3 k3).binds (ps := ["number"]) fun _ _ _ _ _ _ us hl => match us, hl with | [_], _ => rfl⟩,
    h_shared := ⟨_, _, PySem.W.mg_of X G a4, fun_mk (st := s_shared) l4 c4 k4, (fun_mk (st := s_shared) l4 c4 k4).binds (ps := ["a", "b"]) fun _ _ _ _ _ _ us hl => match us, hl with | [_, _], _ => rfl⟩,
    h_made := ⟨_, _, PySem.W.mg_of X G a5, fun_mk (st := s_made) l5 c5 k5, (fun_mk (st := s_made) l5 c5 k5).binds (ps := ["n", "d"]) fun _ _ _ _ _ _ us hl => match us, hl with | [_, _], _ => rfl⟩,
    h_is_ratio := ⟨_, _, PySem.W.mg_of X G a6, fun_mk (st := s_is_ratio) l6 c6 k6, (fun_mk (st := s_is_ratio) l6 c6 k6).binds (ps := ["value"]) fun _ _ _ _ _ _ us hl => match us, hl with | [_], _ => rfl⟩,
    h_ratio := ⟨_, _, PySem.W.mg_of X G a7, fun_mk (st := s_ratio) l7 c7 k7, (fun_mk (st := s_ratio) l7 c7 k7).binds (ps := ["n", "d"]) fun _ _ _ _ _ _ us hl => match us, hl with | [_, _], _ => rfl⟩,
    h_check_ratios := ⟨_, _, PySem.W.mg_of X G a8, fun_mk (st := s_check_ratios) l8 c8 k8⟩,
    h_add := ⟨_, _, PySem.W.mg_of X G a9, fun_mk (st := s_add) l9 c9 k9, (fun_mk (st := s_add) l9 c9 k9).binds (ps := ["a", "b"]) fun _ _ _ _ _ _ us hl => match us, hl with | [_, _], _ => rfl⟩,
    h_less := ⟨_, _, PySem.W.mg_of X G a10, fun_mk (st := s_less) l10 c10 k10, (fun_mk (st := s_less) l10 c10 k10).binds (ps := ["a", "b"]) fun _ _ _ _ _ _ us hl => match us, hl with | [_, _], _ => rfl⟩,
    h_product := ⟨_, _, PySem.W.mg_of X G a11, fun_mk (st := s_product) l11 c11 k11, (fun_mk (st := s_product) l11 c11 k11).binds (ps := ["a", "b"]) fun _ _ _ _ _ _ us hl => match us, hl with | [_, _], _ => rfl⟩,
    h_share := ⟨_, _, PySem.W.mg_of X G a12, fun_mk (st := s_share) l12 c12 k12, (fun_mk (st := s_share) l12 c12 k12).binds (ps := ["a", "b"]) fun _ _ _ _ _ _ us hl => match us, hl with | [_, _], _ => rfl⟩,
    h_is_below := ⟨_, _, PySem.W.mg_of X G a13, fun_mk (st := s_is_below) l13 c13 k13, (fun_mk (st := s_is_below) l13 c13 k13).binds (ps := ["a", "b"]) fun _ _ _ _ _ _ us hl => match us, hl with | [_, _], _ => rfl⟩,
    h_plus := ⟨_, _, PySem.W.mg_of X G a14, fun_mk (st := s_plus) l14 c14 k14, (fun_mk (st := s_plus) l14 c14 k14).binds (ps := ["a", "b"]) fun _ _ _ _ _ _ us hl => match us, hl with | [_, _], _ => rfl⟩,
    h_minus := ⟨_, _, PySem.W.mg_of X G a15, fun_mk (st := s_minus) l15 c15 k15, (fun_mk (st := s_minus) l15 c15 k15).binds (ps := ["a", "b"]) fun _ _ _ _ _ _ us hl => match us, hl with | [_, _], _ => rfl⟩,
    h_times := ⟨_, _, PySem.W.mg_of X G a16, fun_mk (st := s_times) l16 c16 k16, (fun_mk (st := s_times) l16 c16 k16).binds (ps := ["a", "b"]) fun _ _ _ _ _ _ us hl => match us, hl with | [_, _], _ => rfl⟩,
    h_over := ⟨_, _, PySem.W.mg_of X G a17, fun_mk (st := s_over) l17 c17 k17, (fun_mk (st := s_over) l17 c17 k17).binds (ps := ["a", "b"]) fun _ _ _ _ _ _ us hl => match us, hl with | [_, _], _ => rfl⟩,
    h_raised := ⟨_, _, PySem.W.mg_of X G a18, fun_mk (st := s_raised) l18 c18 k18, (fun_mk (st := s_raised) l18 c18 k18).binds (ps := ["a", "n"]) fun _ _ _ _ _ _ us hl => match us, hl with | [_, _], _ => rfl⟩,
    h_power_by := ⟨_, _, PySem.W.mg_of X G a19, fun_mk (st := s_power_by) l19 c19 k19, (fun_mk (st := s_power_by) l19 c19 k19).binds (ps := ["a", "n"]) fun _ _ _ _ _ _ us hl => match us, hl with | [_, _], _ => rfl⟩,
    h_power := ⟨_, _, PySem.W.mg_of X G a20, fun_mk (st := s_power) l20 c20 k20, (fun_mk (st := s_power) l20 c20 k20).binds (ps := ["a", "n"]) fun _ _ _ _ _ _ us hl => match us, hl with | [_, _], _ => rfl⟩,
    h_compare := ⟨_, _, PySem.W.mg_of X G a21, fun_mk (st := s_compare) l21 c21 k21, (fun_mk (st := s_compare) l21 c21 k21).binds (ps := ["a", "b"]) fun _ _ _ _ _ _ us hl => match us, hl with | [_, _], _ => rfl⟩,
    h_floor_of := ⟨_, _, PySem.W.mg_of X G a22, fun_mk (st := s_floor_of) l22 c22 k22, (fun_mk (st := s_floor_of) l22 c22 k22).binds (ps := ["a"]) fun _ _ _ _ _ _ us hl => match us, hl with | [_], _ => rfl⟩,
    h_ceiling_of := ⟨_, _, PySem.W.mg_of X G a23, fun_mk (st := s_ceiling_of) l23 c23 k23, (fun_mk (st := s_ceiling_of) l23 c23 k23).binds (ps := ["a"]) fun _ _ _ _ _ _ us hl => match us, hl with | [_], _ => rfl⟩,
    h_of_bits := ⟨_, _, PySem.W.mg_of X G a24, fun_mk (st := s_of_bits) l24 c24 k24, (fun_mk (st := s_of_bits) l24 c24 k24).binds (ps := ["n", "k"]) fun _ _ _ _ _ _ us hl => match us, hl with | [_, _], _ => rfl⟩,
    h_down_by := ⟨_, _, PySem.W.mg_of X G a25, fun_mk (st := s_down_by) l25 c25 k25, (fun_mk (st := s_down_by) l25 c25 k25).binds (ps := ["a", "k"]) fun _ _ _ _ _ _ us hl => match us, hl with | [_, _], _ => rfl⟩,
    h_up_by := ⟨_, _, PySem.W.mg_of X G a26, fun_mk (st := s_up_by) l26 c26 k26, (fun_mk (st := s_up_by) l26 c26 k26).binds (ps := ["a", "k"]) fun _ _ _ _ _ _ us hl => match us, hl with | [_, _], _ => rfl⟩,
    h_down_to := ⟨_, _, PySem.W.mg_of X G a27, fun_mk (st := s_down_to) l27 c27 k27, (fun_mk (st := s_down_to) l27 c27 k27).binds (ps := ["a", "k"]) fun _ _ _ _ _ _ us hl => match us, hl with | [_, _], _ => rfl⟩,
    h_up_to := ⟨_, _, PySem.W.mg_of X G a28, fun_mk (st := s_up_to) l28 c28 k28, (fun_mk (st := s_up_to) l28 c28 k28).binds (ps := ["a", "k"]) fun _ _ _ _ _ _ us hl => match us, hl with | [_, _], _ => rfl⟩,
    h_halved := ⟨_, _, PySem.W.mg_of X G a29, fun_mk (st := s_halved) l29 c29 k29, (fun_mk (st := s_halved) l29 c29 k29).binds (ps := ["k"]) fun _ _ _ _ _ _ us hl => match us, hl with | [_], _ => rfl⟩,
    h_shown_ratio := ⟨_, _, PySem.W.mg_of X G a30, fun_mk (st := s_shown_ratio) l30 c30 k30, (fun_mk (st := s_shown_ratio) l30 c30 k30).binds (ps := ["a"]) fun _ _ _ _ _ _ us hl => match us, hl with | [_], _ => rfl⟩,
    h_decimal_by := ⟨_, _, PySem.W.mg_of X G a31, fun_mk (st := s_decimal_by) l31 c31 k31, (fun_mk (st := s_decimal_by) l31 c31 k31).binds (ps := ["a", "k"]) fun _ _ _ _ _ _ us hl => match us, hl with | [_, _], _ => rfl⟩,
    h_decimal_of := ⟨_, _, PySem.W.mg_of X G a32, fun_mk (st := s_decimal_of) l32 c32 k32, (fun_mk (st := s_decimal_of) l32 c32 k32).binds (ps := ["a", "k"]) fun _ _ _ _ _ _ us hl => match us, hl with | [_, _], _ => rfl⟩,
    h_root_under := ⟨_, _, PySem.W.mg_of X G a33, fun_mk (st := s_root_under) l33 c33 k33, (fun_mk (st := s_root_under) l33 c33 k33).binds (ps := ["n", "degree"]) fun _ _ _ _ _ _ us hl => match us, hl with | [_, _], _ => rfl⟩,
    h_least_square := ⟨_, _, PySem.W.mg_of X G a34, fun_mk (st := s_least_square) l34 c34 k34, (fun_mk (st := s_least_square) l34 c34 k34).binds (ps := ["n"]) fun _ _ _ _ _ _ us hl => match us, hl with | [_], _ => rfl⟩,
    h__law_draws := ⟨_, _, PySem.W.mg_of X G a35, fun_mk (st := s__law_draws) l35 c35 k35, (fun_mk (st := s__law_draws) l35 c35 k35).binds (ps := ["script"]) fun _ _ _ _ _ _ us hl => match us, hl with | [_], _ => rfl⟩,
    h__law_same := ⟨_, _, PySem.W.mg_of X G a36, fun_mk (st := s__law_same) l36 c36 k36, (fun_mk (st := s__law_same) l36 c36 k36).binds (ps := ["actual", "due"]) fun _ _ _ _ _ _ us hl => match us, hl with | [_, _], _ => rfl⟩,
    h__law_take := ⟨_, _, PySem.W.mg_of X G a37, fun_mk (st := s__law_take) l37 c37 k37, (fun_mk (st := s__law_take) l37 c37 k37).binds (ps := ["draws", "bound"]) fun _ _ _ _ _ _ us hl => match us, hl with | [_, _], _ => rfl⟩,
    h__law_pick := ⟨_, _, PySem.W.mg_of X G a38, fun_mk (st := s__law_pick) l38 c38 k38, (fun_mk (st := s__law_pick) l38 c38 k38).binds (ps := ["draws", "some"]) fun _ _ _ _ _ _ us hl => match us, hl with | [_, _], _ => rfl⟩,
    h__law_flag := ⟨_, _, PySem.W.mg_of X G a39, fun_mk (st := s__law_flag) l39 c39 k39, (fun_mk (st := s__law_flag) l39 c39 k39).binds (ps := ["error"]) fun _ _ _ _ _ _ us hl => match us, hl with | [_], _ => rfl⟩,
    h__law_r := ⟨_, _, PySem.W.mg_of X G a40, fun_mk (st := s__law_r) l40 c40 k40, (fun_mk (st := s__law_r) l40 c40 k40).binds (ps := ["n", "d"]) fun _ _ _ _ _ _ us hl => match us, hl with | [_, _], _ => rfl⟩,
    h__law_add := ⟨_, _, PySem.W.mg_of X G a41, fun_mk (st := s__law_add) l41 c41 k41, (fun_mk (st := s__law_add) l41 c41 k41).binds (ps := ["a", "b"]) fun _ _ _ _ _ _ us hl => match us, hl with | [_, _], _ => rfl⟩,
    h__law_sub := ⟨_, _, PySem.W.mg_of X G a42, fun_mk (st := s__law_sub) l42 c42 k42, (fun_mk (st := s__law_sub) l42 c42 k42).binds (ps := ["a", "b"]) fun _ _ _ _ _ _ us hl => match us, hl with | [_, _], _ => rfl⟩,
    h__law_mul := ⟨_, _, PySem.W.mg_of X G a43, fun_mk (st := s__law_mul) l43 c43 k43, (fun_mk (st := s__law_mul) l43 c43 k43).binds (ps := ["a", "b"]) fun _ _ _ _ _ _ us hl => match us, hl with | [_, _], _ => rfl⟩,
    h__law_less := ⟨_, _, PySem.W.mg_of X G a44, fun_mk (st := s__law_less) l44 c44 k44, (fun_mk (st := s__law_less) l44 c44 k44).binds (ps := ["a", "b"]) fun _ _ _ _ _ _ us hl => match us, hl with | [_, _], _ => rfl⟩,
    h__law_twos := ⟨_, _, PySem.W.mg_of X G a45, fun_mk (st := s__law_twos) l45 c45 k45, (fun_mk (st := s__law_twos) l45 c45 k45).binds (ps := ["many"]) fun _ _ _ _ _ _ us hl => match us, hl with | [_], _ => rfl⟩,
    h__law_any := ⟨_, _, PySem.W.mg_of X G a46, fun_mk (st := s__law_any) l46 c46 k46, (fun_mk (st := s__law_any) l46 c46 k46).binds (ps := ["draws"]) fun _ _ _ _ _ _ us hl => match us, hl with | [_], _ => rfl⟩,
    h__law_power := ⟨_, _, PySem.W.mg_of X G a47, fun_mk (st := s__law_power) l47 c47 k47, (fun_mk (st := s__law_power) l47 c47 k47).binds (ps := ["a", "n"]) fun _ _ _ _ _ _ us hl => match us, hl with | [_, _], _ => rfl⟩,
    h__law_told := ⟨_, _, PySem.W.mg_of X G a48, fun_mk (st := s__law_told) l48 c48 k48, (fun_mk (st := s__law_told) l48 c48 k48).binds (ps := ["which", "args"]) fun _ _ _ _ _ _ us hl => match us, hl with | [_, _], _ => rfl⟩,
    h__law_decimal := ⟨_, _, PySem.W.mg_of X G a49, fun_mk (st := s__law_decimal) l49 c49 k49, (fun_mk (st := s__law_decimal) l49 c49 k49).binds (ps := ["a", "k"]) fun _ _ _ _ _ _ us hl => match us, hl with | [_, _], _ => rfl⟩,
    h_law := ⟨_, _, PySem.W.mg_of X G a50, fun_mk (st := s_law) l50 c50 k50, (fun_mk (st := s_law) l50 c50 k50).binds (ps := ["script"]) fun _ _ _ _ _ _ us hl => match us, hl with | [_], _ => rfl⟩,
    b_abs := PySem.W.mg_none_of X G b0,
    b_all := PySem.W.mg_none_of X G b1,
    b_bool := PySem.W.mg_none_of X G b2,
    b_dict := PySem.W.mg_none_of X G b3,
    b_int := PySem.W.mg_none_of X G b4,
    b_isinstance := PySem.W.mg_none_of X G b5,
    b_len := PySem.W.mg_none_of X G b6,
    b_list := PySem.W.mg_none_of X G b7,
    b_max := PySem.W.mg_none_of X G b8,
    b_range := PySem.W.mg_none_of X G b9,
    b_reversed := PySem.W.mg_none_of X G b10,
    b_str := PySem.W.mg_none_of X G b11,
    b_sum := PySem.W.mg_none_of X G b12,
    b_tuple := PySem.W.mg_none_of X G b13,
    c_LONG_FIGURES := ⟨_, PySem.W.mg_of X G n0⟩,
    c_LONG := ⟨_, PySem.W.mg_of X G n1⟩,
    c_MOST_BITS := ⟨_, PySem.W.mg_of X G n2⟩,
    c_MOST_POWER := ⟨_, PySem.W.mg_of X G n3⟩,
    c_MOST_FIGURES := ⟨_, PySem.W.mg_of X G n4⟩,
    x_NotRight := ⟨⟨_, PySem.W.mg_of X G x1, e1, ke1, be1, te1⟩⟩,
    x_NoAnswer := ⟨⟨_, PySem.W.mg_of X G x0, e0, ke0, be0, te0⟩⟩ }
  have T2 : Txt2 K mg := {
    e0 := ⟨⟨_, PySem.W.mg_of X G x1, ⟨⟨ga1, gg1, be1, hd1, cl1, sg, tg, mr1⟩, by decide, fun j hj => match j, hj with | 0, _ => ⟨_, PySem.W.mg_of X G x1, kit_self⟩ | 1, _ => ⟨_, PySem.W.mg_of X G x2, kit_ref hd2 te2 s1_1 n1_1⟩ | 2, _ => ⟨_, PySem.W.mg_of X G x0, kit_ref hd0 te0 s1_2 n1_2⟩ | 3, _ => ⟨_, PySem.W.mg_of X G x5, kit_ref hd5 te5 s1_3 n1_3⟩ | 4, _ => ⟨_, PySem.W.mg_of X G x4, kit_ref hd4 te4 s1_4 n1_4⟩ | 5, _ => ⟨_, PySem.W.mg_of X G x3, kit_ref hd3 te3 s1_5 n1_5⟩⟩, _, PySem.W.mg_of X G x6, PySem.W.exm_ref be6 hd6 te6 s1_b⟩⟩,
    e2 := ⟨⟨_, PySem.W.mg_of X G x0, ⟨⟨ga0, gg0, be0, hd0, cl0, sg, tg, mr0⟩, by decide, fun j hj => match j, hj with | 0, _ => ⟨_, PySem.W.mg_of X G x1, kit_ref hd1 te1 s0_0 n0_0⟩ | 1, _ => ⟨_, PySem.W.mg_of X G x2, kit_ref hd2 te2 s0_1 n0_1⟩ | 2, _ => ⟨_, PySem.W.mg_of X G x0, kit_self⟩ | 3, _ => ⟨_, PySem.W.mg_of X G x5, kit_ref hd5 te5 s0_3 n0_3⟩ | 4, _ => ⟨_, PySem.W.mg_of X G x4, kit_ref hd4 te4 s0_4 n0_4⟩ | 5, _ => ⟨_, PySem.W.mg_of X G x3, kit_ref hd3 te3 s0_5 n0_5⟩⟩, _, PySem.W.mg_of X G x6, PySem.W.exm_ref be6 hd6 te6 s0_b⟩⟩ }
  exact ⟨_, fun s v => .of_eq rfl, fun base _ _ => ok_law T T2 (fun_mk (st := s_law) l50 c50 k50)⟩
theorem walk {l : PySem.W.OpenLaw} {q : Program} {loose : List Str} {XP : (Str → Option Value) → Heap → Prop} {YP : World → Heap → Prop} {d : DefRec} {K : Params → PySem.W.Frag} (hn : l.most = some 63) (hdf : d.params.defaults = [])
    (hY : ∀ (w : World) (h : Heap), YP w h → (K w.params).In h)
    (F : ∀ (w : World) (mg : Str → Option Value) (fa : Addr) (h : Heap), (K w.params).In h → h.Ns mainGlobals mg → mg d.name = some (.ref fa) →
      ∃ fd : FuncData, (∀ (s : Shared) (u : Value), BindsTo s fd ⟨[u], []⟩ [("script", u)]) ∧ ∀ base : Heap, (K w.params).In base → base.Ns mainGlobals mg → FnOk l.prog w (K w.params) mg base CX0 7 fa fd ["script"] (spLaw (K w.params))) :
    PySem.W.WalkO q loose XP YP l.row.toRowW d [] (fun f vs => PySem.call f vs) :=
  L2.walk_of (n := 63) (k := 7) (x := "script") (CX := fun _ => CX0) (sp := fun w => spLaw (K w.params)) hn (by decide) hdf ⟨rfl, by decide, by decide⟩ hY F (fun _ _ a ns hl _ hS => ⟨a, ns, rfl, hS, hl, fun _ => rfl⟩) fun _ _ _ _ _ z => z
end K00

open PySem PySem.W PyProof.Rows in
set_option maxRecDepth 100000 in
set_option maxHeartbeats 0 in
theorem PySem.Challenge.cw_withinwidth_k00_whole_ratios_holds : PySem.Challenge.rw_withinwidth_k00_whole_ratios.Holds := by
  w_on; o_law; k_head; (case hw => w_witness2)
  k_fill
  refine K00.walk (l := PySem.Challenge.rw_withinwidth_k00_whole_ratios) rfl rfl (fun w h Y => PySem.W.kIn_of Y) ?F
  case F =>
    intro w mg fa h KX G hmg
    refine' K00.all_mk KX G hmg ?a0 ?l0 ?c0 ?k0 ?a1 ?l1 ?c1 ?k1 ?a2 ?l2 ?c2 ?k2 ?a3 ?l3 ?c3 ?k3 ?a4 ?l4 ?c4 ?k4 ?a5 ?l5 ?c5 ?k5 ?a6 ?l6 ?c6 ?k6 ?a7 ?l7 ?c7 ?k7 ?a8 ?l8 ?c8 ?k8 ?a9 ?l9 ?c9 ?k9 ?a10 ?l10 ?c10 ?k10 ?a11 ?l11 ?c11 ?k11 ?a12 ?l12 ?c12 ?k12 ?a13 ?l13 ?c13 ?k13 ?a14 ?l14 ?c14 ?k14 ?a15 ?l15 ?c15 ?k15 ?a16 ?l16 ?c16 ?k16 ?a17 ?l17 ?c17 ?k17 ?a18 ?l18 ?c18 ?k18 ?a19 ?l19 ?c19 ?k19 ?a20 ?l20 ?c20 ?k20 ?a21 ?l21 ?c21 ?k21 ?a22 ?l22 ?c22 ?k22 ?a23 ?l23 ?c23 ?k23 ?a24 ?l24 ?c24 ?k24 ?a25 ?l25 ?c25 ?k25 ?a26 ?l26 ?c26 ?k26 ?a27 ?l27 ?c27 ?k27 ?a28 ?l28 ?c28 ?k28 ?a29 ?l29 ?c29 ?k29 ?a30 ?l30 ?c30 ?k30 ?a31 ?l31 ?c31 ?k31 ?a32 ?l32 ?c32 ?k32 ?a33 ?l33 ?c33 ?k33 ?a34 ?l34 ?c34 ?k34 ?a35 ?l35 ?c35 ?k35 ?a36 ?l36 ?c36 ?k36 ?a37 ?l37 ?c37 ?k37 ?a38 ?l38 ?c38 ?k38 ?a39 ?l39 ?c39 ?k39 ?a40 ?l40 ?c40 ?k40 ?a41 ?l41 ?c41 ?k41 ?a42 ?l42 ?c42 ?k42 ?a43 ?l43 ?c43 ?k43 ?a44 ?l44 ?c44 ?k44 ?a45 ?l45 ?c45 ?k45 ?a46 ?l46 ?c46 ?k46 ?a47 ?l47 ?c47 ?k47 ?a48 ?l48 ?c48 ?k48 ?a49 ?l49 ?c49 ?k49 ?a50 ?l50 ?c50 ?k50 ?b0 ?b1 ?b2 ?b3 ?b4 ?b5 ?b6 ?b7 ?b8 ?b9 ?b10 ?b11 ?b12 ?b13 ?n0 ?n1 ?n2 ?n3 ?n4 ?x0 ?x1 ?x2 ?x3 ?x4 ?x5 ?x6 ?hd0 ?te0 ?hd1 ?te1 ?hd2 ?te2 ?hd3 ?te3 ?hd4 ?te4 ?hd5 ?te5 ?hd6 ?te6 ?be1 ?be0 ?be6 ?e1 ?ke1 ?ga1 ?gg1 ?cl1 ?mr1 ?s1_b ?s1_1 ?n1_1 ?s1_2 ?n1_2 ?s1_3 ?n1_3 ?s1_4 ?n1_4 ?s1_5 ?n1_5 ?e0 ?ke0 ?ga0 ?gg0 ?cl0 ?mr0 ?s0_b ?s0_0 ?n0_0 ?s0_1 ?n0_1 ?s0_3 ?n0_3 ?s0_4 ?n0_4 ?s0_5 ?n0_5 ?sg ?tg
    (case a0 => k_is)
    (case l0 => k_is)
    (case c0 => k_is)
    (case k0 => k_is)
    (case a1 => k_is)
    (case l1 => k_is)
    (case c1 => k_is)
    (case k1 => k_is)
    (case a2 => k_is)
    (case l2 => k_is)
    (case c2 => k_is)
    (case k2 => k_is)
    (case a3 => k_is)
    (case l3 => k_is)
    (case c3 => k_is)
    (case k3 => k_is)
    (case a4 => k_is)
    (case l4 => k_is)
    (case c4 => k_is)
    (case k4 => k_is)
    (case a5 => k_is)
    (case l5 => k_is)
    (case c5 => k_is)
    (case k5 => k_is)
    (case a6 => k_is)
    (case l6 => k_is)
    (case c6 => k_is)
    (case k6 => k_is)
    (case a7 => k_is)
    (case l7 => k_is)
    (case c7 => k_is)
    (case k7 => k_is)
    (case a8 => k_is)
    (case l8 => k_is)
    (case c8 => k_is)
    (case k8 => k_is)
    (case a9 => k_is)
    (case l9 => k_is)
    (case c9 => k_is)
    (case k9 => k_is)
    (case a10 => k_is)
    (case l10 => k_is)
    (case c10 => k_is)
    (case k10 => k_is)
    (case a11 => k_is)
    (case l11 => k_is)
    (case c11 => k_is)
    (case k11 => k_is)
    (case a12 => k_is)
    (case l12 => k_is)
    (case c12 => k_is)
    (case k12 => k_is)
    (case a13 => k_is)
    (case l13 => k_is)
    (case c13 => k_is)
    (case k13 => k_is)
    (case a14 => k_is)
    (case l14 => k_is)
    (case c14 => k_is)
    (case k14 => k_is)
    (case a15 => k_is)
    (case l15 => k_is)
    (case c15 => k_is)
    (case k15 => k_is)
    (case a16 => k_is)
    (case l16 => k_is)
    (case c16 => k_is)
    (case k16 => k_is)
    (case a17 => k_is)
    (case l17 => k_is)
    (case c17 => k_is)
    (case k17 => k_is)
    (case a18 => k_is)
    (case l18 => k_is)
    (case c18 => k_is)
    (case k18 => k_is)
    (case a19 => k_is)
    (case l19 => k_is)
    (case c19 => k_is)
    (case k19 => k_is)
    (case a20 => k_is)
    (case l20 => k_is)
    (case c20 => k_is)
    (case k20 => k_is)
    (case a21 => k_is)
    (case l21 => k_is)
    (case c21 => k_is)
    (case k21 => k_is)
    (case a22 => k_is)
    (case l22 => k_is)
    (case c22 => k_is)
    (case k22 => k_is)
    (case a23 => k_is)
    (case l23 => k_is)
    (case c23 => k_is)
    (case k23 => k_is)
    (case a24 => k_is)
    (case l24 => k_is)
    (case c24 => k_is)
    (case k24 => k_is)
    (case a25 => k_is)
    (case l25 => k_is)
    (case c25 => k_is)
    (case k25 => k_is)
    (case a26 => k_is)
    (case l26 => k_is)
    (case c26 => k_is)
    (case k26 => k_is)
    (case a27 => k_is)
    (case l27 => k_is)
    (case c27 => k_is)
    (case k27 => k_is)
    (case a28 => k_is)
    (case l28 => k_is)
    (case c28 => k_is)
    (case k28 => k_is)
    (case a29 => k_is)
    (case l29 => k_is)
    (case c29 => k_is)
    (case k29 => k_is)
    (case a30 => k_is)
    (case l30 => k_is)
    (case c30 => k_is)
    (case k30 => k_is)
    (case a31 => k_is)
    (case l31 => k_is)
    (case c31 => k_is)
    (case k31 => k_is)
    (case a32 => k_is)
    (case l32 => k_is)
    (case c32 => k_is)
    (case k32 => k_is)
    (case a33 => k_is)
    (case l33 => k_is)
    (case c33 => k_is)
    (case k33 => k_is)
    (case a34 => k_is)
    (case l34 => k_is)
    (case c34 => k_is)
    (case k34 => k_is)
    (case a35 => k_is)
    (case l35 => k_is)
    (case c35 => k_is)
    (case k35 => k_is)
    (case a36 => k_is)
    (case l36 => k_is)
    (case c36 => k_is)
    (case k36 => k_is)
    (case a37 => k_is)
    (case l37 => k_is)
    (case c37 => k_is)
    (case k37 => k_is)
    (case a38 => k_is)
    (case l38 => k_is)
    (case c38 => k_is)
    (case k38 => k_is)
    (case a39 => k_is)
    (case l39 => k_is)
    (case c39 => k_is)
    (case k39 => k_is)
    (case a40 => k_is)
    (case l40 => k_is)
    (case c40 => k_is)
    (case k40 => k_is)
    (case a41 => k_is)
    (case l41 => k_is)
    (case c41 => k_is)
    (case k41 => k_is)
    (case a42 => k_is)
    (case l42 => k_is)
    (case c42 => k_is)
    (case k42 => k_is)
    (case a43 => k_is)
    (case l43 => k_is)
    (case c43 => k_is)
    (case k43 => k_is)
    (case a44 => k_is)
    (case l44 => k_is)
    (case c44 => k_is)
    (case k44 => k_is)
    (case a45 => k_is)
    (case l45 => k_is)
    (case c45 => k_is)
    (case k45 => k_is)
    (case a46 => k_is)
    (case l46 => k_is)
    (case c46 => k_is)
    (case k46 => k_is)
    (case a47 => k_is)
    (case l47 => k_is)
    (case c47 => k_is)
    (case k47 => k_is)
    (case a48 => k_is)
    (case l48 => k_is)
    (case c48 => k_is)
    (case k48 => k_is)
    (case a49 => k_is)
    (case l49 => k_is)
    (case c49 => k_is)
    (case k49 => k_is)
    (case a50 => k_is)
    (case l50 => k_is)
    (case c50 => k_is)
    (case k50 => k_is)
    (case b0 => k_is)
    (case b1 => k_is)
    (case b2 => k_is)
    (case b3 => k_is)
    (case b4 => k_is)
    (case b5 => k_is)
    (case b6 => k_is)
    (case b7 => k_is)
    (case b8 => k_is)
    (case b9 => k_is)
    (case b10 => k_is)
    (case b11 => k_is)
    (case b12 => k_is)
    (case b13 => k_is)
    (case n0 => k_is)
    (case n1 => k_is)
    (case n2 => k_is)
    (case n3 => k_is)
    (case n4 => k_is)
    (case x0 => k_is)
    (case x1 => k_is)
    (case x2 => k_is)
    (case x3 => k_is)
    (case x4 => k_is)
    (case x5 => k_is)
    (case x6 => k_is)
    (case hd0 => k_is)
    (case te0 => k_is)
    (case hd1 => k_is)
    (case te1 => k_is)
    (case hd2 => k_is)
    (case te2 => k_is)
    (case hd3 => k_is)
    (case te3 => k_is)
    (case hd4 => k_is)
    (case te4 => k_is)
    (case hd5 => k_is)
    (case te5 => k_is)
    (case hd6 => k_is)
    (case te6 => k_is)
    (case be1 => k_is)
    (case be0 => k_is)
    (case be6 => k_is)
    (case e1 => k_exc)
    (case ke1 => k_is)
    (case ga1 => k_is)
    (case gg1 => k_is)
    (case cl1 => k_is)
    (case mr1 => k_is)
    (case s1_b => k_is)
    (case s1_1 => k_is)
    (case n1_1 => rfl)
    (case s1_2 => k_is)
    (case n1_2 => rfl)
    (case s1_3 => k_is)
    (case n1_3 => rfl)
    (case s1_4 => k_is)
    (case n1_4 => rfl)
    (case s1_5 => k_is)
    (case n1_5 => rfl)
    (case e0 => k_exc)
    (case ke0 => k_is)
    (case ga0 => k_is)
    (case gg0 => k_is)
    (case cl0 => k_is)
    (case mr0 => k_is)
    (case s0_b => k_is)
    (case s0_0 => k_is)
    (case n0_0 => rfl)
    (case s0_1 => k_is)
    (case n0_1 => rfl)
    (case s0_3 => k_is)
    (case n0_3 => rfl)
    (case s0_4 => k_is)
    (case n0_4 => rfl)
    (case s0_5 => k_is)
    (case n0_5 => rfl)
    (case sg => k_is)
    (case tg => k_is)
