import PyProof.Rows.All
import Wide.All
import OpenK.AllK
import Wide.FinOn
import HandS.ForMost
import HandS.ForExc
import HandS.Wide
import HandS.WideBits
import HandS.IsInst
import HandS.Evl
import HandS.Star
import HandS.HotCalls
import HandS.ExcIs
import HandS.Codes
import HandS.Text
import HandS.Style
import HandS.FStr
import HandS.WideMore
import HandS.ReplaceLit
import HandS.RevTup
import HandS.Rev
import PyProof.SumWalkG
import PyProof.WalkInts
import HandS.More
import HandS.WordsDict
import HandS.DictComp
import HandS.Conv
import HandS.Iter
import HandS.ListItems
import HandS.Sort
import HandS.Deep
import HandS.Small
import PySem.Challenge.RW_withinwidth_k01_whole_spans_and_boxes
set_option Elab.async false
set_option linter.all false
set_option maxRecDepth 100000
set_option maxHeartbeats 9000000
set_option exponentiation.threshold 4001
/-! D1: expressions that come to data (PyData), over a heap of which a part G never changes. -/
namespace DL
open PySem PySem.Spec PyProof.Rows
open L2 hiding Dp DpAll

abbrev D := PyData
/-- a key as data -/
def kD : Key → D
  | .inl i => .int i
  | .inr x => .str x
mutual
/-- the value stands for the data; its lists, tuples and dicts don't change -/
inductive Dp (K : PySem.W.Frag) (H : Hp) : V → D → Prop
  | non : Dp K H .non .none
  | bl (b : Bool) : Dp K H (.bl b) (.bool b)
  | int (i : Int) : Dp K H (.int i) (.int i)
  | str (x : Str) : Dp K H (.str x) (.str x)
  | lst {a : Addr} {xs : List V} {ds : List D} (h : SqL K H a xs) (r : DpAll K H xs ds) : Dp K H (.ref a) (.list ds)
  | tup {a : Addr} {xs : List V} {ds : List D} (h : SqT K H a xs) (r : DpAll K H xs ds) : Dp K H (.ref a) (.tuple ds)
  | dic {a : Addr} {o : Obj} {kvs : List (Key × V)} {ds : List (D × D)} (h : H a = some (.frz o (.dK kvs))) (r : DpKV K H kvs ds) : Dp K H (.ref a) (.dict ds)
inductive DpAll (K : PySem.W.Frag) (H : Hp) : List V → List D → Prop
  | nil : DpAll K H [] []
  | cons {v : V} {vs : List V} {d : D} {ds : List D} (h : Dp K H v d) (r : DpAll K H vs ds) : DpAll K H (v :: vs) (d :: ds)
inductive DpKV (K : PySem.W.Frag) (H : Hp) : List (Key × V) → List (D × D) → Prop
  | nil : DpKV K H [] []
  | cons {k : Key} {v : V} {kvs : List (Key × V)} {d : D} {ds : List (D × D)} (h : Dp K H v d) (r : DpKV K H kvs ds) : DpKV K H ((k, v) :: kvs) ((kD k, d) :: ds)
end
abbrev Ex (H H' : Hp) : Prop := Evl.Ex H H'
/-- from what is known (G, within H) to what is known behind (G', within H'); what is newly known is new -/
structure Nx (G H G' H' : Hp) : Prop where
  g : Ex G G'
  h : Ex H H'
  gh : Ex G' H'
  fr : ∀ a, G' a ≠ Option.none → G a ≠ Option.none ∨ H a = Option.none
theorem Nx.refl {G H : Hp} (e : Ex G H) : Nx G H G H := ⟨Evl.Ex.refl _, Evl.Ex.refl _, e, fun _ h => .inl h⟩
theorem Nx.trans {G H G1 H1 G2 H2 : Hp} (a : Nx G H G1 H1) (b : Nx G1 H1 G2 H2) : Nx G H G2 H2 :=
  ⟨a.g.trans b.g, a.h.trans b.h, b.gh, fun x h => by
    rcases b.fr x h with q | q
    · exact a.fr x q
    · exact .inr (Evl.fresh_back a.h q)⟩
/-- a new object, known from now on -/
theorem Nx.new {G H : Hp} (e : Ex G H) {p : Addr} {o : HO} (hp : H p = Option.none) : Nx G H (upd G p o) (upd H p o) := by
  have gp : G p = Option.none := Evl.fresh_back e hp
  refine ⟨Evl.Ex.new gp, Evl.Ex.new hp, fun a u q => ?_, fun a q => ?_⟩
  · by_cases h : a = p
    · subst h; rw [upd_same] at q ⊢; exact q
    · rw [upd_ne h] at q ⊢; exact e a u q
  · by_cases h : a = p
    · subst h; exact .inr hp
    · rw [upd_ne h] at q; exact .inl q
/-- what stands beside the known part stays beside it -/
theorem Nx.beside {G H G' H' : Hp} (n : Nx G H G' H') {l : Addr} {o : HO} (h1 : G l = Option.none) (h2 : H l = some o) : G' l = Option.none ∧ H' l = some o := by
  refine ⟨?_, n.h l o h2⟩
  cases q : G' l with
  | none => rfl
  | some u =>
    rcases n.fr l (by rw [q]; exact fun z => nomatch z) with z | z
    · exact absurd h1 z
    · rw [h2] at z; cases z

section
variable {K : PySem.W.Frag} {H H' : Hp}
mutual
theorem Dp.mono (e : Ex H H') : ∀ {v : V} {d : D}, Dp K H v d → Dp K H' v d
  | _, _, .non => .non
  | _, _, .bl b => .bl b
  | _, _, .int i => .int i
  | _, _, .str x => .str x
  | _, _, .lst h r => .lst (Evl.ex_l e h) (DpAll.mono e r)
  | _, _, .tup h r => .tup (Evl.ex_t e h) (DpAll.mono e r)
  | _, _, .dic h r => .dic (e _ _ h) (DpKV.mono e r)
theorem DpAll.mono (e : Ex H H') : ∀ {vs : List V} {ds : List D}, DpAll K H vs ds → DpAll K H' vs ds
  | _, _, .nil => .nil
  | _, _, .cons h r => .cons (Dp.mono e h) (DpAll.mono e r)
theorem DpKV.mono (e : Ex H H') : ∀ {vs : List (Key × V)} {ds : List (D × D)}, DpKV K H vs ds → DpKV K H' vs ds
  | _, _, .nil => .nil
  | _, _, .cons h r => .cons (Dp.mono e h) (DpKV.mono e r)
end
theorem Dp.dic_inv {v : V} {ds : List (D × D)} (h : Dp K H v (.dict ds)) : ∃ a o kvs, v = .ref a ∧ H a = some (.frz o (.dK kvs)) ∧ DpKV K H kvs ds := by
  cases h with
  | dic h r => exact ⟨_, _, _, rfl, h, r⟩
mutual
/-- without a dict -/
def noDc : D → Bool
  | .list xs => noDcs xs
  | .tuple xs => noDcs xs
  | .dict _ => false
  | .none => true
  | .bool _ => true
  | .int _ => true
  | .str _ => true
def noDcs : List D → Bool
  | [] => true
  | d :: r => noDc d && noDcs r
end
mutual
theorem Dp.old : ∀ {v : V} {d : D}, Dp K H v d → noDc d = true → L2.Dp K H v d
  | _, _, .non, _ => .non
  | _, _, .bl b, _ => .bl b
  | _, _, .int i, _ => .int i
  | _, _, .str x, _ => .str x
  | _, _, .lst h r, n => .lst h (DpAll.old r (by rw [noDc] at n; exact n))
  | _, _, .tup h r, n => .tup h (DpAll.old r (by rw [noDc] at n; exact n))
  | _, _, .dic _ _, n => by rw [noDc] at n; cases n
theorem DpAll.old : ∀ {vs : List V} {ds : List D}, DpAll K H vs ds → noDcs ds = true → L2.DpAll K H vs ds
  | _, _, .nil, _ => .nil
  | _, _, .cons h r, n => by
    rw [noDcs, Bool.and_eq_true] at n
    exact .cons (Dp.old h n.1) (DpAll.old r n.2)
end
theorem Dp.int_inv {v : V} {i : Int} (h : Dp K H v (.int i)) : v = .int i := by cases h; rfl
theorem Dp.str_inv {v : V} {x : Str} (h : Dp K H v (.str x)) : v = .str x := by cases h; rfl
theorem Dp.bl_inv {v : V} {b : Bool} (h : Dp K H v (.bool b)) : v = .bl b := by cases h; rfl
theorem Dp.non_inv {v : V} (h : Dp K H v .none) : v = .non := by cases h; rfl
theorem Dp.tup_inv {v : V} {ds : List D} (h : Dp K H v (.tuple ds)) : ∃ a xs, v = .ref a ∧ SqT K H a xs ∧ DpAll K H xs ds := by
  cases h with
  | tup h r => exact ⟨_, _, rfl, h, r⟩
theorem Dp.lst_inv {v : V} {ds : List D} (h : Dp K H v (.list ds)) : ∃ a xs, v = .ref a ∧ SqL K H a xs ∧ DpAll K H xs ds := by
  cases h with
  | lst h r => exact ⟨_, _, rfl, h, r⟩
theorem DpAll.len : ∀ {vs : List V} {ds : List D}, DpAll K H vs ds → vs.length = ds.length
  | _, _, .nil => rfl
  | _, _, .cons _ r => congrArg (· + 1) (DpAll.len r)
theorem DpAll.get : ∀ {vs : List V} {ds : List D} {j : Nat} {d : D}, DpAll K H vs ds → ds[j]? = some d → ∃ v, vs[j]? = some v ∧ Dp K H v d
  | _, _, _, _, .nil, e => by simp at e
  | _, _, 0, _, .cons h _, e => by simp at e; subst e; exact ⟨_, rfl, h⟩
  | _, _, j + 1, _, .cons _ r, e => by
    obtain ⟨v, h1, h2⟩ := DpAll.get (j := j) r (by simpa using e)
    exact ⟨v, by simpa using h1, h2⟩
theorem DpAll.getV : ∀ {vs : List V} {ds : List D} {j : Nat} {v : V}, DpAll K H vs ds → vs[j]? = some v → ∃ d, ds[j]? = some d ∧ Dp K H v d
  | _, _, _, _, .nil, e => by simp at e
  | _, _, 0, _, .cons h _, e => by simp at e; subst e; exact ⟨_, rfl, h⟩
  | _, _, j + 1, _, .cons _ r, e => by
    obtain ⟨v, h1, h2⟩ := DpAll.getV (j := j) r (by simpa using e)
    exact ⟨v, by simpa using h1, h2⟩
theorem DpAll.append : ∀ {vs ws : List V} {ds es : List D}, DpAll K H vs ds → DpAll K H ws es → DpAll K H (vs ++ ws) (ds ++ es)
  | _, _, _, _, .nil, s => s
  | _, _, _, _, .cons h r, s => .cons h (DpAll.append r s)
theorem DpAll.map_inv {α : Type} {f : α → D} {g : α → V} (hf : ∀ v a, Dp K H v (f a) → v = g a) : ∀ {l : List α} {vs : List V}, DpAll K H vs (l.map f) → vs = l.map g
  | [], _, .nil => rfl
  | _ :: _, _, .cons h r => by rw [hf _ _ h, DpAll.map_inv hf r]; rfl
theorem DpAll.ints_inv {l : List Int} {vs : List V} (h : DpAll K H vs (l.map PyData.int)) : vs = l.map V.int := DpAll.map_inv (fun _ _ h => Dp.int_inv h) h
theorem DpAll.bls_inv {l : List Bool} {vs : List V} (h : DpAll K H vs (l.map PyData.bool)) : vs = l.map V.bl := DpAll.map_inv (fun _ _ h => Dp.bl_inv h) h
theorem DpAll.strs_inv {l : List Str} {vs : List V} (h : DpAll K H vs (l.map PyData.str)) : vs = l.map V.str := DpAll.map_inv (fun _ _ h => Dp.str_inv h) h
theorem DpAll.ints {l : List Int} : DpAll K H (l.map V.int) (l.map PyData.int) := by
  induction l with
  | nil => exact .nil
  | cons a r ih => exact .cons (.int a) ih
theorem DpAll.rev {vs : List V} {ds : List D} (h : DpAll K H vs ds) : DpAll K H vs.reverse ds.reverse := by
  induction vs generalizing ds with
  | nil => cases h; exact .nil
  | cons v vs ih =>
    cases h with
    | cons h r =>
      rw [List.reverse_cons, List.reverse_cons]
      exact DpAll.append (ih r) (.cons h .nil)
end

/-! ### any reading -/
def wE (X : Cx) (e : Expr) : TE := fun σ H Q => ∃ t : TE, PE X e t ∧ t σ H Q
def wT (X : Cx) (e : Expr) : TT := fun σ H Q => ∃ t : TT, PT X e t ∧ t σ H Q
def wW (X : Cx) (e : Expr) : TT := fun σ H Q => ∃ t : TT, PW X e t ∧ t σ H Q
def wA (X : Cx) (es : List Expr) : TA := fun σ H Q => ∃ t : TA, PA X es t ∧ t σ H Q
def wS (X : Cx) (st : Stmt) : TS := fun Z σ H => ∃ t : TS, PS X st t ∧ t Z σ H
def wB (X : Cx) (st : List Stmt) : TS := fun Z σ H => ∃ t : TS, PSs X st t ∧ t Z σ H
section
variable {X : Cx}
theorem pe_w {e : Expr} : PE X e (wE X e) := ⟨fun pins s σ H Q I ⟨_, h, q⟩ => h.run pins s σ H Q I q⟩
theorem pt_w {e : Expr} : PT X e (wT X e) := ⟨fun pins s σ H Q I ⟨_, h, q⟩ => h.run pins s σ H Q I q⟩
theorem pw_w {e : Expr} : PW X e (wW X e) := ⟨fun wh pins s σ H Q I ⟨_, h, q⟩ => h.run wh pins s σ H Q I q⟩
theorem pa_w {es : List Expr} : PA X es (wA X es) := ⟨fun pos pins s σ H Q I ⟨_, h, q⟩ => h.run pos pins s σ H Q I q⟩
theorem ps_w {st : Stmt} : PS X st (wS X st) := ⟨fun pins s σ H Z I ⟨_, h, q⟩ => h.run pins s σ H Z I q⟩
theorem pss_w {st : List Stmt} : PSs X st (wB X st) := ⟨fun pins s σ H Z I ⟨_, h, q⟩ => h.run pins s σ H Z I q⟩
end

/-- e comes to d, wherever G is known -/
def E (X : Cx) (e : Expr) (σ : L2.St) (G : Hp) (d : D) : Prop :=
  ∀ G1 H1, Ex G G1 → Ex G1 H1 → ∀ Q : VK, (∀ v G2 H2, Nx G1 H1 G2 H2 → Dp X.K G2 v d → Q v H2) → wE X e σ H1 Q
def T (X : Cx) (e : Expr) (σ : L2.St) (G : Hp) (b : Bool) : Prop :=
  ∀ G1 H1, Ex G G1 → Ex G1 H1 → ∀ Q : Bool → Hp → Prop, (∀ G2 H2, Nx G1 H1 G2 H2 → Q b H2) → wT X e σ H1 Q
def TW (X : Cx) (e : Expr) (σ : L2.St) (G : Hp) (b : Bool) : Prop :=
  ∀ G1 H1, Ex G G1 → Ex G1 H1 → ∀ Q : Bool → Hp → Prop, (∀ G2 H2, Nx G1 H1 G2 H2 → Q b H2) → wW X e σ H1 Q
def A (X : Cx) (es : List Expr) (σ : L2.St) (G : Hp) (ds : List D) : Prop :=
  ∀ G1 H1, Ex G G1 → Ex G1 H1 → ∀ Q : List V → Hp → Prop, (∀ vs G2 H2, Nx G1 H1 G2 H2 → DpAll X.K G2 vs ds → Q vs H2) → wA X es σ H1 Q

section
variable {X : Cx} {σ : L2.St} {G G' : Hp} {a b c e : Expr} {es : List Expr} {pos p : Pos} {d d' da db dc : D} {i j : Int} {x : Str}
theorem E.mono (h : E X e σ G d) (g : Ex G G') : E X e σ G' d := fun G1 H1 g1 gh => h G1 H1 (g.trans g1) gh
theorem T.mono {k : Bool} (h : T X e σ G k) (g : Ex G G') : T X e σ G' k := fun G1 H1 g1 gh => h G1 H1 (g.trans g1) gh
theorem e_is (h : E X e σ G d) (q : d = d') : E X e σ G d' := q ▸ h
theorem t_is {k k' : Bool} (h : T X e σ G k) (q : k = k') : T X e σ G k' := q ▸ h
theorem e_var (n : Nat) {v : V} (hd : Dp X.K G v d) (hs : σ[n]? = some (some v) := by rfl) (hN : X.N[n]? = some x := by rfl)
    (hv : Vis X.env.scope x := by first | exact Or.inl rfl | exact Or.inr (Or.inl rfl) | exact Or.inr (Or.inr rfl)) (h1 : (x == ("__debug__" : Str)) = false := by decide) (h2 : (x == ("__classdict__" : Str)) = false := by decide) : E X (.Name x pos) σ G d :=
  fun G1 H1 g gh Q k => ⟨_, pe_var hN hv h1 h2, v, hs, k v G1 H1 (Nx.refl gh) (Dp.mono g hd)⟩
theorem e_int {n : Nat} : E X (.Constant (.int i) n pos) σ G (.int i) := fun G1 H1 _ gh Q k => ⟨_, pe_int, k _ G1 H1 (Nx.refl gh) (.int i)⟩
theorem e_bl {k : Bool} {n : Nat} : E X (.Constant (.bool k) n pos) σ G (.bool k) := fun G1 H1 _ gh Q q => ⟨_, pe_bl, q _ G1 H1 (Nx.refl gh) (.bl k)⟩
theorem e_non {n : Nat} : E X (.Constant .none n pos) σ G .none := fun G1 H1 _ gh Q q => ⟨_, pe_non, q _ G1 H1 (Nx.refl gh) .non⟩
theorem e_str {s : Str} {n : Nat} : E X (.Constant (.str s) n pos) σ G (.str s) := fun G1 H1 _ gh Q q => ⟨_, pe_str, q _ G1 H1 (Nx.refl gh) (.str s)⟩
/-- a module's number -/
theorem e_globI {u : Value} (hm : X.mg x = some u) (r : RelV (.int i) u) (hg : Gl X x := by rfl) (h1 : (x == ("__debug__" : Str)) = false := by decide) : E X (.Name x pos) σ G (.int i) :=
  fun G1 H1 _ gh Q k => ⟨_, pe_glob hg hm r h1, k _ G1 H1 (Nx.refl gh) (.int i)⟩

/-! operators -/
theorem e_op {op : Operator} {r : R2} (ho : OpR X (binaryOp op) r) (ha : E X a σ G da) (hb : E X b σ G db)
    (hr : ∀ u v G1 H1, Ex G G1 → Ex G1 H1 → Dp X.K G1 u da → Dp X.K G1 v db → ∀ Q : VK, (∀ w G2 H2, Nx G1 H1 G2 H2 → Dp X.K G2 w d → Q w H2) → r u v H1 Q) : E X (.BinOp a op b pos) σ G d := fun G1 H1 g gh Q k =>
  ⟨_, pe_op ho pe_w pe_w, ha G1 H1 g gh _ fun u G2 H2 n hu => hb G2 H2 (g.trans n.g) n.gh _ fun v G3 H3 n2 hv =>
    hr u v G3 H3 ((g.trans n.g).trans n2.g) n2.gh (Dp.mono n2.g hu) hv Q fun w G4 H4 n3 hw => k w G4 H4 ((n.trans n2).trans n3) hw⟩
theorem e_opI {op : Operator} {C : Int → Int → Prop} {g : Int → Int → V} {z : Int} (ho : OpR X (binaryOp op) (rI C g)) (ha : E X a σ G (.int i)) (hb : E X b σ G (.int j)) (hc : C i j) (hz : g i j = .int z) : E X (.BinOp a op b pos) σ G (.int z) :=
  e_op ho ha hb fun u v G1 H1 _ gh hu hv Q k => by
    cases hu; cases hv
    exact ⟨i, j, rfl, rfl, hc, k _ G1 H1 (Nx.refl gh) (by rw [hz]; exact .int z)⟩
theorem e_opI0 {op : Operator} {g : Int → Int → V} {z : Int} (ho : OpR X (binaryOp op) (rI0 g)) (ha : E X a σ G (.int i)) (hb : E X b σ G (.int j)) (hz : g i j = .int z) : E X (.BinOp a op b pos) σ G (.int z) :=
  e_op ho ha hb fun u v G1 H1 _ gh hu hv Q k => by
    cases hu; cases hv
    exact ⟨i, j, rfl, rfl, k _ G1 H1 (Nx.refl gh) (by rw [hz]; exact .int z)⟩
theorem e_add (ha : E X a σ G (.int i)) (hb : E X b σ G (.int j)) : E X (.BinOp a .Add b pos) σ G (.int (i + j)) := e_opI0 op_add ha hb rfl
theorem e_sub (ha : E X a σ G (.int i)) (hb : E X b σ G (.int j)) : E X (.BinOp a .Sub b pos) σ G (.int (i - j)) := e_opI0 op_sub ha hb rfl
theorem e_mul (ha : E X a σ G (.int i)) (hb : E X b σ G (.int j)) (hc : CMulW i j) : E X (.BinOp a .Mult b pos) σ G (.int (i * j)) := e_opI op_mulW ha hb hc rfl
theorem e_div (ha : E X a σ G (.int i)) (hb : E X b σ G (.int j)) (hc : CDivW i j) : E X (.BinOp a .FloorDiv b pos) σ G (.int (i / j)) := e_opI op_fdivW ha hb hc rfl
theorem e_mod (ha : E X a σ G (.int i)) (hb : E X b σ G (.int j)) (hc : 0 < j) : E X (.BinOp a .Mod b pos) σ G (.int (i % j)) := e_opI op_mod ha hb hc rfl
theorem e_shl (ha : E X a σ G (.int i)) (hb : E X b σ G (.int j)) (hc : CShl i j) : E X (.BinOp a .LShift b pos) σ G (.int (i * 2 ^ j.toNat)) := e_opI op_shlW ha hb hc rfl
theorem e_un {op : UnaryOp} {r : V → Hp → VK → Prop} (ho : UnR X (unaryOp op) r) (ha : E X a σ G da)
    (hr : ∀ u G1 H1, Ex G G1 → Ex G1 H1 → Dp X.K G1 u da → ∀ Q : VK, (∀ w G2 H2, Nx G1 H1 G2 H2 → Dp X.K G2 w d → Q w H2) → r u H1 Q) : E X (.UnaryOp op a pos) σ G d := fun G1 H1 g gh Q k =>
  ⟨_, pe_un ho pe_w, ha G1 H1 g gh _ fun u G2 H2 n hu => hr u G2 H2 (g.trans n.g) n.gh hu Q fun w G4 H4 n3 hw => k w G4 H4 (n.trans n3) hw⟩
theorem e_neg (ha : E X a σ G (.int i)) : E X (.UnaryOp .USub a pos) σ G (.int (-i)) := e_un un_neg ha fun u G1 H1 _ gh hu Q k => by
  cases hu
  exact ⟨i, rfl, k _ G1 H1 (Nx.refl gh) (.int _)⟩
theorem e_addS {s t : Str} (ha : E X a σ G (.str s)) (hb : E X b σ G (.str t)) (hc : s.length + t.length ≤ sizeLine) : E X (.BinOp a .Add b pos) σ G (.str (s ++ t)) :=
  e_op op_add_str ha hb fun u v G1 H1 _ gh hu hv Q k => by
    cases hu; cases hv
    exact ⟨s, t, rfl, rfl, hc, k _ G1 H1 (Nx.refl gh) (.str _)⟩

/-! comparisons: as values, as tests -/
theorem e_cmp {op : CmpOp} {r : R2} {k : Bool} (ho : OpR X (compareOp op) r) (hm : behindInMarks op b = false) (ha : E X a σ G da) (hb : E X b σ G db)
    (hr : ∀ u v G1 H1, Ex G G1 → Ex G1 H1 → Dp X.K G1 u da → Dp X.K G1 v db → ∀ Q : VK, Q (.bl k) H1 → r u v H1 Q) : E X (.Compare a [op] [b] pos) σ G (.bool k) := fun G1 H1 g gh Q q =>
  ⟨_, pe_cmpR ho pe_w pe_w hm, ha G1 H1 g gh _ fun u G2 H2 n hu => hb G2 H2 (g.trans n.g) n.gh _ fun v G3 H3 n2 hv =>
    hr u v G3 H3 ((g.trans n.g).trans n2.g) n2.gh (Dp.mono n2.g hu) hv Q (q _ G3 H3 (n.trans n2) (.bl k))⟩
theorem t_cmp {op : CmpOp} {r : R2} {k : Bool} (ho : OpR X (compareOp op) r) (hm : behindInMarks op b = false) (ha : E X a σ G da) (hb : E X b σ G db)
    (hr : ∀ u v G1 H1, Ex G G1 → Ex G1 H1 → Dp X.K G1 u da → Dp X.K G1 v db → ∀ Q : VK, Q (.bl k) H1 → r u v H1 Q) : T X (.Compare a [op] [b] pos) σ G k := fun G1 H1 g gh Q q =>
  ⟨_, pt_cmpR ho pe_w pe_w hm, ha G1 H1 g gh _ fun u G2 H2 n hu => hb G2 H2 (g.trans n.g) n.gh _ fun v G3 H3 n2 hv =>
    hr u v G3 H3 ((g.trans n.g).trans n2.g) n2.gh (Dp.mono n2.g hu) hv _ ⟨k, rfl, q G3 H3 (n.trans n2)⟩⟩
theorem r_int {f : Int → Int → Bool} {G1 H1 : Hp} {u v : V} (hu : Dp X.K G1 u (.int i)) (hv : Dp X.K G1 v (.int j)) (Q : VK) (q : Q (.bl (f i j)) H1) : rI0 (fun i j => .bl (f i j)) u v H1 Q := by
  cases hu; cases hv
  exact ⟨i, j, rfl, rfl, q⟩
theorem e_lt (ha : E X a σ G (.int i)) (hb : E X b σ G (.int j)) : E X (.Compare a [.Lt] [b] pos) σ G (.bool (decide (i < j))) := e_cmp op_lt (nomark _) ha hb fun _ _ _ _ _ _ hu hv Q q => r_int hu hv Q q
theorem e_le (ha : E X a σ G (.int i)) (hb : E X b σ G (.int j)) : E X (.Compare a [.LtE] [b] pos) σ G (.bool (decide (i ≤ j))) := e_cmp op_le (nomark _) ha hb fun _ _ _ _ _ _ hu hv Q q => r_int (f := fun i j => decide (i ≤ j)) hu hv Q q
theorem e_gt (ha : E X a σ G (.int i)) (hb : E X b σ G (.int j)) : E X (.Compare a [.Gt] [b] pos) σ G (.bool (decide (j < i))) := e_cmp op_gt (nomark _) ha hb fun _ _ _ _ _ _ hu hv Q q => r_int (f := fun i j => decide (j < i)) hu hv Q q
theorem e_ge (ha : E X a σ G (.int i)) (hb : E X b σ G (.int j)) : E X (.Compare a [.GtE] [b] pos) σ G (.bool (decide (j ≤ i))) := e_cmp op_ge (nomark _) ha hb fun _ _ _ _ _ _ hu hv Q q => r_int (f := fun i j => decide (j ≤ i)) hu hv Q q
theorem t_lt (ha : E X a σ G (.int i)) (hb : E X b σ G (.int j)) : T X (.Compare a [.Lt] [b] pos) σ G (decide (i < j)) := t_cmp op_lt (nomark _) ha hb fun _ _ _ _ _ _ hu hv Q q => r_int hu hv Q q
theorem t_le (ha : E X a σ G (.int i)) (hb : E X b σ G (.int j)) : T X (.Compare a [.LtE] [b] pos) σ G (decide (i ≤ j)) := t_cmp op_le (nomark _) ha hb fun _ _ _ _ _ _ hu hv Q q => r_int (f := fun i j => decide (i ≤ j)) hu hv Q q
theorem t_gt (ha : E X a σ G (.int i)) (hb : E X b σ G (.int j)) : T X (.Compare a [.Gt] [b] pos) σ G (decide (j < i)) := t_cmp op_gt (nomark _) ha hb fun _ _ _ _ _ _ hu hv Q q => r_int (f := fun i j => decide (j < i)) hu hv Q q
theorem t_ge (ha : E X a σ G (.int i)) (hb : E X b σ G (.int j)) : T X (.Compare a [.GtE] [b] pos) σ G (decide (j ≤ i)) := t_cmp op_ge (nomark _) ha hb fun _ _ _ _ _ _ hu hv Q q => r_int (f := fun i j => decide (j ≤ i)) hu hv Q q
/-- == of scalars -/
def vOf : D → V
  | .none => .non
  | .bool b => .bl b
  | .int i => .int i
  | .str s => .str s
  | _ => .non
def isSc : D → Bool
  | .none => true
  | .bool _ => true
  | .int _ => true
  | .str _ => true
  | _ => false
theorem sc_inv {K : PySem.W.Frag} {H : Hp} {v : V} {d : D} (h : Dp K H v d) (s : isSc d = true) : v = vOf d := by
  cases h <;> first | rfl | cases s
theorem e_eq (ha : E X a σ G da) (hb : E X b σ G db) (s1 : isSc da = true) (s2 : isSc db = true) (hs : scal (vOf da) (vOf db) = true) : E X (.Compare a [.Eq] [b] pos) σ G (.bool (decide (vOf da = vOf db))) :=
  e_cmp op_eq (nomark _) ha hb fun u v G1 H1 _ _ hu hv Q q => by rw [sc_inv hu s1, sc_inv hv s2]; exact ⟨hs, q⟩
theorem t_eq (ha : E X a σ G da) (hb : E X b σ G db) (s1 : isSc da = true) (s2 : isSc db = true) (hs : scal (vOf da) (vOf db) = true) : T X (.Compare a [.Eq] [b] pos) σ G (decide (vOf da = vOf db)) :=
  t_cmp op_eq (nomark _) ha hb fun u v G1 H1 _ _ hu hv Q q => by rw [sc_inv hu s1, sc_inv hv s2]; exact ⟨hs, q⟩
theorem e_ne (ha : E X a σ G da) (hb : E X b σ G db) (s1 : isSc da = true) (s2 : isSc db = true) (hs : scal (vOf da) (vOf db) = true) : E X (.Compare a [.NotEq] [b] pos) σ G (.bool (!decide (vOf da = vOf db))) :=
  e_cmp op_ne (nomark _) ha hb fun u v G1 H1 _ _ hu hv Q q => by rw [sc_inv hu s1, sc_inv hv s2]; exact ⟨hs, q⟩
theorem t_ne (ha : E X a σ G da) (hb : E X b σ G db) (s1 : isSc da = true) (s2 : isSc db = true) (hs : scal (vOf da) (vOf db) = true) : T X (.Compare a [.NotEq] [b] pos) σ G (!decide (vOf da = vOf db)) :=
  t_cmp op_ne (nomark _) ha hb fun u v G1 H1 _ _ hu hv Q q => by rw [sc_inv hu s1, sc_inv hv s2]; exact ⟨hs, q⟩
theorem decV (i j : Int) : decide (V.int i = V.int j) = decide (i = j) := by
  by_cases h : i = j
  · subst h; simp
  · have q : ¬ V.int i = V.int j := fun z => h (V.int.inj z)
    rw [decide_eq_false h, decide_eq_false q]
theorem e_eqI (ha : E X a σ G (.int i)) (hb : E X b σ G (.int j)) : E X (.Compare a [.Eq] [b] pos) σ G (.bool (decide (i = j))) := e_is (e_eq ha hb rfl rfl rfl) (by show PyData.bool (decide (V.int i = V.int j)) = _; rw [decV])
theorem t_eqI (ha : E X a σ G (.int i)) (hb : E X b σ G (.int j)) : T X (.Compare a [.Eq] [b] pos) σ G (decide (i = j)) := t_is (t_eq ha hb rfl rfl rfl) (decV i j)
theorem e_neI (ha : E X a σ G (.int i)) (hb : E X b σ G (.int j)) : E X (.Compare a [.NotEq] [b] pos) σ G (.bool (!decide (i = j))) := e_is (e_ne ha hb rfl rfl rfl) (by show PyData.bool (!decide (V.int i = V.int j)) = _; rw [decV])
theorem t_neI (ha : E X a σ G (.int i)) (hb : E X b σ G (.int j)) : T X (.Compare a [.NotEq] [b] pos) σ G (!decide (i = j)) := t_is (t_ne ha hb rfl rfl rfl) (by show (!decide (V.int i = V.int j)) = _; rw [decV])
/-- deep == -/
theorem e_eqD (hu : X.A.units + 64 < cLine) (ha : E X a σ G da) (hb : E X b σ G db) (s1 : SeqAt.shaped da = true) (s2 : SeqAt.shaped db = true) (n1 : noDc da = true := by first | rfl | decide +kernel) (n2 : noDc db = true := by first | rfl | decide +kernel) : E X (.Compare a [.Eq] [b] pos) σ G (.bool (PyData.eqv da db)) :=
  e_cmp (op_eqD hu) (nomark _) ha hb fun u v G1 H1 _ gh hu hv Q q => ⟨da, db, Dp.old (Dp.mono gh hu) n1, Dp.old (Dp.mono gh hv) n2, s1, s2, q⟩
theorem t_neD (hu : X.A.units + 64 < cLine) (ha : E X a σ G da) (hb : E X b σ G db) (s1 : SeqAt.shaped da = true) (s2 : SeqAt.shaped db = true) (n1 : noDc da = true := by first | rfl | decide +kernel) (n2 : noDc db = true := by first | rfl | decide +kernel) : T X (.Compare a [.NotEq] [b] pos) σ G (!PyData.eqv da db) :=
  t_cmp (op_neD hu) (nomark _) ha hb fun u v G1 H1 _ gh hu hv Q q => ⟨da, db, Dp.old (Dp.mono gh hu) n1, Dp.old (Dp.mono gh hv) n2, s1, s2, q⟩
def isN : D → Bool
  | .none => true
  | _ => false
theorem dp_isN {K : PySem.W.Frag} {H : Hp} {v : V} {d : D} (h : Dp K H v d) : decide (v = .non) = isN d := by
  cases h <;> first | rfl | simp [isN]
theorem e_isN (ha : E X a σ G da) {n : Nat} {q : Pos} : E X (.Compare a [.Is] [.Constant .none n q] pos) σ G (.bool (isN da)) :=
  e_cmp op_isN (nomark _) ha e_non fun u v G1 H1 _ _ hu hv Q q => by cases hv; rw [← dp_isN hu] at q; exact ⟨rfl, q⟩
theorem t_isN (ha : E X a σ G da) {n : Nat} {q : Pos} : T X (.Compare a [.Is] [.Constant .none n q] pos) σ G (isN da) :=
  t_cmp op_isN (nomark _) ha e_non fun u v G1 H1 _ _ hu hv Q q => by cases hv; rw [← dp_isN hu] at q; exact ⟨rfl, q⟩

/-! tests -/
/-- a value that is a truth value, as a test -/
theorem t_val {k : Bool} (h : E X e σ G (.bool k)) (he : ∀ whole, isTrue e X.env whole = (do let v ← whole; standAt e.pos; holding [v] (truthy v)) := by intro _; rfl) : T X e σ G k := fun G1 H1 g gh Q q =>
  ⟨_, pt_val pe_w he, h G1 H1 g gh _ fun v G2 H2 n hv => ⟨k, Dp.bl_inv hv, q G2 H2 n⟩⟩
theorem t_not {k : Bool} (h : T X a σ G k) : T X (.UnaryOp .Not a pos) σ G (!k) := fun G1 H1 g gh Q q => ⟨_, pt_not pt_w, h G1 H1 g gh _ fun G2 H2 n => q G2 H2 n⟩
theorem t_of {k : Bool} (h : TW X e σ G k) : T X e σ G k := fun G1 H1 g gh Q q => ⟨_, PW.pt pw_w, h G1 H1 g gh Q q⟩
theorem tw_and1 {k : Bool} (h : T X a σ G k) : TW X (.BoolOp .And [a] pos) σ G k := fun G1 H1 g gh Q q => ⟨_, pw_and1 pt_w, h G1 H1 g gh Q q⟩
theorem tw_or1 {k : Bool} (h : T X a σ G k) : TW X (.BoolOp .Or [a] pos) σ G k := fun G1 H1 g gh Q q => ⟨_, pw_or1 pt_w, h G1 H1 g gh Q q⟩
theorem tw_and {k l : Bool} (h : T X a σ G k) (h2 : k = true → TW X (.BoolOp .And (b :: es) pos) σ G l) : TW X (.BoolOp .And (a :: b :: es) pos) σ G (k && l) := fun G1 H1 g gh Q q =>
  ⟨_, pw_and pt_w pw_w, h G1 H1 g gh _ fun G2 H2 n => by
    cases k with
    | true => exact iteT (h2 rfl G2 H2 (g.trans n.g) n.gh Q fun G3 H3 n3 => q G3 H3 (n.trans n3))
    | false => exact iteF (q G2 H2 n)⟩
theorem tw_or {k l : Bool} (h : T X a σ G k) (h2 : k = false → TW X (.BoolOp .Or (b :: es) pos) σ G l) : TW X (.BoolOp .Or (a :: b :: es) pos) σ G (k || l) := fun G1 H1 g gh Q q =>
  ⟨_, pw_or pt_w pw_w, h G1 H1 g gh _ fun G2 H2 n => by
    cases k with
    | true => exact iteT (q G2 H2 n)
    | false => exact iteF (h2 rfl G2 H2 (g.trans n.g) n.gh Q fun G3 H3 n3 => q G3 H3 (n.trans n3))⟩
theorem t_and {k l : Bool} (h : T X a σ G k) (h2 : k = true → T X b σ G l) : T X (.BoolOp .And [a, b] pos) σ G (k && l) := t_of (tw_and h fun z => tw_and1 (h2 z))
theorem t_or {k l : Bool} (h : T X a σ G k) (h2 : k = false → T X b σ G l) : T X (.BoolOp .Or [a, b] pos) σ G (k || l) := t_of (tw_or h fun z => tw_or1 (h2 z))
theorem tw_orT (h : T X a σ G true) : TW X (.BoolOp .Or (a :: b :: es) pos) σ G true := tw_or (l := true) h fun z => nomatch z
theorem tw_orF {l : Bool} (h : T X a σ G false) (h2 : TW X (.BoolOp .Or (b :: es) pos) σ G l) : TW X (.BoolOp .Or (a :: b :: es) pos) σ G l := tw_or h fun _ => h2
theorem tw_andF (h : T X a σ G false) : TW X (.BoolOp .And (a :: b :: es) pos) σ G false := tw_and (l := true) h fun z => nomatch z
theorem tw_andT {l : Bool} (h : T X a σ G true) (h2 : TW X (.BoolOp .And (b :: es) pos) σ G l) : TW X (.BoolOp .And (a :: b :: es) pos) σ G l := tw_and h fun _ => h2
/-- and, or, not as values -/
theorem e_one {op : BoolOp} (h : E X a σ G d) : E X (.BoolOp op [a] pos) σ G d := fun G1 H1 g gh Q q => ⟨_, pe_one pe_w, h G1 H1 g gh Q q⟩
theorem e_and {k l : Bool} (h : E X a σ G (.bool k)) (h2 : k = true → E X (.BoolOp .And (b :: es) pos) σ G (.bool l)) : E X (.BoolOp .And (a :: b :: es) pos) σ G (.bool (k && l)) := fun G1 H1 g gh Q q =>
  ⟨_, pe_and pe_w pe_w, h G1 H1 g gh _ fun v G2 H2 n hv => ⟨k, Dp.bl_inv hv, by
    cases k with
    | true => exact iteT (h2 rfl G2 H2 (g.trans n.g) n.gh Q fun w G3 H3 n3 hw => q w G3 H3 (n.trans n3) hw)
    | false => exact iteF (q _ G2 H2 n (.bl false))⟩⟩
theorem e_or {k l : Bool} (h : E X a σ G (.bool k)) (h2 : k = false → E X (.BoolOp .Or (b :: es) pos) σ G (.bool l)) : E X (.BoolOp .Or (a :: b :: es) pos) σ G (.bool (k || l)) := fun G1 H1 g gh Q q =>
  ⟨_, pe_or pe_w pe_w, h G1 H1 g gh _ fun v G2 H2 n hv => ⟨k, Dp.bl_inv hv, by
    cases k with
    | true => exact iteT (q _ G2 H2 n (.bl true))
    | false => exact iteF (h2 rfl G2 H2 (g.trans n.g) n.gh Q fun w G3 H3 n3 hw => q w G3 H3 (n.trans n3) hw)⟩⟩
theorem e_and2 {k l : Bool} (h : E X a σ G (.bool k)) (h2 : k = true → E X b σ G (.bool l)) : E X (.BoolOp .And [a, b] pos) σ G (.bool (k && l)) := e_and h fun z => e_one (h2 z)
theorem e_or2 {k l : Bool} (h : E X a σ G (.bool k)) (h2 : k = false → E X b σ G (.bool l)) : E X (.BoolOp .Or [a, b] pos) σ G (.bool (k || l)) := e_or h fun z => e_one (h2 z)
theorem e_not {k : Bool} (h : E X a σ G (.bool k)) : E X (.UnaryOp .Not a pos) σ G (.bool (!k)) := fun G1 H1 g gh Q q =>
  ⟨_, pe_not pe_w, h G1 H1 g gh _ fun v G2 H2 n hv => ⟨k, Dp.bl_inv hv, q _ G2 H2 n (.bl _)⟩⟩
theorem e_if {k : Bool} (h : T X c σ G k) (h1 : k = true → E X a σ G d) (h2 : k = false → E X b σ G d) : E X (.IfExp c a b pos) σ G d := fun G1 H1 g gh Q q =>
  ⟨_, pe_ifExp pt_w pe_w pe_w, h G1 H1 g gh _ fun G2 H2 n => by
    cases k with
    | true => exact iteT (h1 rfl G2 H2 (g.trans n.g) n.gh Q fun w G3 H3 n3 hw => q w G3 H3 (n.trans n3) hw)
    | false => exact iteF (h2 rfl G2 H2 (g.trans n.g) n.gh Q fun w G3 H3 n3 hw => q w G3 H3 (n.trans n3) hw)⟩
/-- a <= b <= c of ints -/
theorem e_chain {op op' : CmpOp} {f f' : Int → Int → Bool} {z : Int} (ho : OpR X (compareOp op) (rI0 fun i j => .bl (f i j))) (ho' : OpR X (compareOp op') (rI0 fun i j => .bl (f' i j))) (ha : E X a σ G (.int i)) (hb : E X b σ G (.int j)) (hc : E X c σ G (.int z))
    (h : ∀ {ta tb tc : TE}, PE X a ta → PE X b tb → PE X c tc → PE X (.Compare a [op, op'] [b, c] pos) (tChain (rI0 fun i j => .bl (f i j)) (rI0 fun i j => .bl (f' i j)) ta tb tc)) : E X (.Compare a [op, op'] [b, c] pos) σ G (.bool (f i j && f' j z)) := fun G1 H1 g gh Q q =>
  ⟨_, h pe_w pe_w pe_w, ha G1 H1 g gh _ fun u G2 H2 n hu => hb G2 H2 (g.trans n.g) n.gh _ fun v G3 H3 n2 hv => by
    cases hu; cases hv
    refine ⟨i, j, rfl, rfl, f i j, rfl, ?_⟩
    cases e : f i j with
    | true => exact iteT (hc G3 H3 ((g.trans n.g).trans n2.g) n2.gh _ fun w G4 H4 n4 hw => by
        cases hw
        exact ⟨j, z, rfl, rfl, by rw [e] at q; exact q _ G4 H4 ((n.trans n2).trans n4) (.bl _)⟩)
    | false => exact iteF (by rw [e] at q; exact q _ G3 H3 (n.trans n2) (.bl false))⟩

/-! arguments, displays -/
theorem a_nil : A X [] σ G [] := fun G1 H1 _ gh Q q => ⟨_, pa_nil, q [] G1 H1 (Nx.refl gh) .nil⟩
theorem a_cons {ds : List D} (h : E X e σ G d) (hr : A X es σ G ds) (hs : starEach (e :: es) X.env = (false, eval e X.env) :: starEach es X.env := by rfl) : A X (e :: es) σ G (d :: ds) := fun G1 H1 g gh Q q =>
  ⟨_, pa_cons pe_w pa_w hs, h G1 H1 g gh _ fun u G2 H2 n hu => hr G2 H2 (g.trans n.g) n.gh _ fun vs G3 H3 n2 hv => q _ G3 H3 (n.trans n2) (.cons (Dp.mono n2.g hu) hv)⟩
theorem e_tup {ds : List D} {n : Nat} (h : A X es σ G ds) (hl : ds.length ≤ 1000 := by simp) : E X (.Tuple es n pos) σ G (.tuple ds) := fun G1 H1 g gh Q q =>
  ⟨_, pe_tup pa_w, h G1 H1 g gh _ fun vs G2 H2 n hv => ⟨by rw [DpAll.len hv]; exact Evl.sz_of (by omega), fun p hp =>
    q _ _ _ (n.trans (Nx.new n.gh hp)) (.tup (Evl.st_of upd_same) (DpAll.mono (Evl.Ex.new (Evl.fresh_back n.gh hp)) hv))⟩⟩
theorem e_lst {ds : List D} (h : A X es σ G ds) (hl : ds.length ≤ 1000 := by simp) : E X (.List es pos) σ G (.list ds) := fun G1 H1 g gh Q q =>
  ⟨_, pe_lst pa_w, h G1 H1 g gh _ fun vs G2 H2 n hv => ⟨by rw [DpAll.len hv]; exact Evl.sz_of (by omega), fun p hp =>
    q _ _ _ (n.trans (Nx.new n.gh hp)) (.lst (Evl.sq_of upd_same) (DpAll.mono (Evl.Ex.new (Evl.fresh_back n.gh hp)) hv))⟩⟩

/-! items -/
theorem DpAll.at {K : PySem.W.Frag} {H : Hp} {vs : List V} {ds : List D} (h : DpAll K H vs ds) (e : atI ds i = some d) : ∃ v, atI vs i = some v ∧ Dp K H v d := by
  unfold atI at e ⊢
  rw [DpAll.len h]
  cases q : ixN ds.length i with
  | none => rw [q] at e; cases e
  | some j =>
    rw [q] at e
    exact DpAll.get h e
theorem e_ixT {ds : List D} (ha : E X a σ G (.tuple ds)) (hb : E X b σ G (.int i)) (h : atI ds i = some d) (hs : PlainIx b := by exact fun _ _ => rfl) : E X (.Subscript a b pos) σ G d := fun G1 H1 g gh Q q =>
  ⟨_, pe_ix ix_tup pe_w pe_w hs, ha G1 H1 g gh _ fun u G2 H2 n hu => hb G2 H2 (g.trans n.g) n.gh _ fun v G3 H3 n2 hv => by
    cases hv
    obtain ⟨p, xs, rfl, ht, hx⟩ := Dp.tup_inv (Dp.mono n2.g hu)
    obtain ⟨v, e1, e2⟩ := DpAll.at hx h
    exact ⟨p, xs, i, v, rfl, rfl, Evl.ex_t n2.gh ht, e1, q v G3 H3 (n.trans n2) e2⟩⟩
theorem e_ixL {ds : List D} (ha : E X a σ G (.list ds)) (hb : E X b σ G (.int i)) (h : atI ds i = some d) (hs : PlainIx b := by exact fun _ _ => rfl) : E X (.Subscript a b pos) σ G d := fun G1 H1 g gh Q q =>
  ⟨_, pe_ix ix_list pe_w pe_w hs, ha G1 H1 g gh _ fun u G2 H2 n hu => hb G2 H2 (g.trans n.g) n.gh _ fun v G3 H3 n2 hv => by
    cases hv
    obtain ⟨p, xs, rfl, ht, hx⟩ := Dp.lst_inv (Dp.mono n2.g hu)
    obtain ⟨v, e1, e2⟩ := DpAll.at hx h
    exact ⟨p, xs, i, v, rfl, rfl, Evl.ex_l n2.gh ht, e1, q v G3 H3 (n.trans n2) e2⟩⟩

/-! built-in functions -/
theorem e_callB {id : String} {r : List V → Hp → VK → Prop} {ds : List D} (hc : CallR X (.builtin id) r) (hm : X.mg x = Option.none) (hv : bootBuiltins x = some (.builtin id)) (ha : A X (e :: es) σ G ds)
    (hr : ∀ us G1 H1, Ex G G1 → Ex G1 H1 → DpAll X.K G1 us ds → ∀ Q : VK, (∀ w G2 H2, Nx G1 H1 G2 H2 → Dp X.K G2 w d → Q w H2) → r us H1 Q)
    (hg : Gl X x := by rfl) (hn : x ≠ "__name__" := by decide) (hdb : (x == ("__debug__" : Str)) = false := by decide)
    (he : starEach (e :: es) X.env = (false, eval e X.env) :: starEach es X.env := by rfl) (hpl : (backTo pos (starEach es X.env)).any (·.1) = false := by rfl) : E X (.Call (.Name x p) (e :: es) [] pos) σ G d := fun G1 H1 g gh Q q =>
  ⟨_, pe_callB hc hg hm hv pa_w hn hdb he hpl, ha G1 H1 g gh _ fun us G2 H2 n hu => hr us G2 H2 (g.trans n.g) n.gh hu Q fun w G3 H3 n3 hw => q w G3 H3 (n.trans n3) hw⟩
theorem e_callTy {id : String} {r : List V → Hp → VK → Prop} {ds : List D} (hc : CallR X (.type id) r) (hm : X.mg x = Option.none) (hv : bootBuiltins x = some (.type id)) (ha : A X (e :: es) σ G ds)
    (hr : ∀ us G1 H1, Ex G G1 → Ex G1 H1 → DpAll X.K G1 us ds → ∀ Q : VK, (∀ w G2 H2, Nx G1 H1 G2 H2 → Dp X.K G2 w d → Q w H2) → r us H1 Q)
    (hg : Gl X x := by rfl) (hn : x ≠ "__name__" := by decide) (hdb : (x == ("__debug__" : Str)) = false := by decide)
    (he : starEach (e :: es) X.env = (false, eval e X.env) :: starEach es X.env := by rfl) (hpl : (backTo pos (starEach es X.env)).any (·.1) = false := by rfl) : E X (.Call (.Name x p) (e :: es) [] pos) σ G d := fun G1 H1 g gh Q q =>
  ⟨_, pe_callTy hc hg hm hv pa_w hn hdb he hpl, ha G1 H1 g gh _ fun us G2 H2 n hu => hr us G2 H2 (g.trans n.g) n.gh hu Q fun w G3 H3 n3 hw => q w G3 H3 (n.trans n3) hw⟩
theorem all1 {K : PySem.W.Frag} {H : Hp} {us : List V} (h : DpAll K H us [d]) : ∃ u, us = [u] ∧ Dp K H u d := by
  cases h with
  | cons h r => cases r; exact ⟨_, rfl, h⟩
theorem all2 {K : PySem.W.Frag} {H : Hp} {us : List V} (h : DpAll K H us [d, d']) : ∃ u v, us = [u, v] ∧ Dp K H u d ∧ Dp K H v d' := by
  cases h with
  | cons h r => obtain ⟨v, rfl, q⟩ := all1 r; exact ⟨_, v, rfl, h, q⟩
theorem all3 {K : PySem.W.Frag} {H : Hp} {us : List V} {d3 : D} (h : DpAll K H us [d, d', d3]) : ∃ u v w, us = [u, v, w] ∧ Dp K H u d ∧ Dp K H v d' ∧ Dp K H w d3 := by
  cases h with
  | cons h r => obtain ⟨v, w, rfl, q, q2⟩ := all2 r; exact ⟨_, v, w, rfl, h, q, q2⟩
theorem absI (i : Int) : (if i < 0 then -i else i) = (i.natAbs : Int) := by omega
theorem e_abs (hm : X.mg "abs" = Option.none) (ha : E X a σ G (.int i)) (hg : Gl X "abs" := by rfl) (he : starEach [a] X.env = (false, eval a X.env) :: starEach [] X.env := by rfl) (hpl : (backTo pos (starEach [] X.env)).any (·.1) = false := by rfl) :
    E X (.Call (.Name "abs" p) [a] [] pos) σ G (.int (i.natAbs : Int)) :=
  e_callB call_abs hm (by decide +kernel) (a_cons ha a_nil he) (fun us G1 H1 _ gh hu Q q => by
    obtain ⟨u, rfl, h⟩ := all1 hu
    cases h
    exact ⟨i, rfl, q _ G1 H1 (Nx.refl gh) (by rw [absI]; exact .int _)⟩) hg (by decide) (by decide) he hpl
theorem e_intB {k : Bool} (hm : X.mg "int" = Option.none) (ha : E X a σ G (.bool k)) (hg : Gl X "int" := by rfl) (he : starEach [a] X.env = (false, eval a X.env) :: starEach [] X.env := by rfl) (hpl : (backTo pos (starEach [] X.env)).any (·.1) = false := by rfl) :
    E X (.Call (.Name "int" p) [a] [] pos) σ G (.int (if k then 1 else 0)) :=
  e_callTy call_int1 hm (by decide +kernel) (a_cons ha a_nil he) (fun us G1 H1 _ gh hu Q q => by
    obtain ⟨u, rfl, h⟩ := all1 hu
    cases h
    exact .inr ⟨k, rfl, q _ G1 H1 (Nx.refl gh) (.int _)⟩) hg (by decide) (by decide) he hpl
theorem e_intI (hm : X.mg "int" = Option.none) (ha : E X a σ G (.int i)) (hg : Gl X "int" := by rfl) (he : starEach [a] X.env = (false, eval a X.env) :: starEach [] X.env := by rfl) (hpl : (backTo pos (starEach [] X.env)).any (·.1) = false := by rfl) :
    E X (.Call (.Name "int" p) [a] [] pos) σ G (.int i) :=
  e_callTy call_int1 hm (by decide +kernel) (a_cons ha a_nil he) (fun us G1 H1 _ gh hu Q q => by
    obtain ⟨u, rfl, h⟩ := all1 hu
    cases h
    exact .inl ⟨i, rfl, q _ G1 H1 (Nx.refl gh) (.int _)⟩) hg (by decide) (by decide) he hpl
theorem e_strI (hm : X.mg "str" = Option.none) (ha : E X a σ G (.int i)) (hz : i.natAbs.log2 < 1920) (hg : Gl X "str" := by rfl) (he : starEach [a] X.env = (false, eval a X.env) :: starEach [] X.env := by rfl) (hpl : (backTo pos (starEach [] X.env)).any (·.1) = false := by rfl) :
    E X (.Call (.Name "str" p) [a] [] pos) σ G (.str (toString i)) :=
  e_callTy call_str_int hm (by decide +kernel) (a_cons ha a_nil he) (fun us G1 H1 _ gh hu Q q => by
    obtain ⟨u, rfl, h⟩ := all1 hu
    cases h
    exact ⟨i, rfl, hz, q _ G1 H1 (Nx.refl gh) (.str _)⟩) hg (by decide) (by decide) he hpl
theorem e_max2 (hcalm : X.calm = true) (hm : X.mg "max" = Option.none) (ha : E X a σ G (.int i)) (hb : E X b σ G (.int j)) (hg : Gl X "max" := by rfl) (he : starEach [a, b] X.env = (false, eval a X.env) :: starEach [b] X.env := by rfl)
    (he2 : starEach [b] X.env = (false, eval b X.env) :: starEach [] X.env := by rfl) (hpl : (backTo pos (starEach [b] X.env)).any (·.1) = false := by rfl) :
    E X (.Call (.Name "max" p) [a, b] [] pos) σ G (.int (max i j)) :=
  e_callB (call_max2 hcalm) hm (by decide +kernel) (a_cons ha (a_cons hb a_nil he2) he) (fun us G1 H1 _ gh hu Q q => by
    obtain ⟨u, v, rfl, h, h'⟩ := all2 hu
    cases h; cases h'
    exact ⟨i, j, rfl, q _ G1 H1 (Nx.refl gh) (by rw [show (if j > i then j else i) = max i j by omega]; exact .int _)⟩) hg (by decide) (by decide) he hpl
theorem e_len {ds : List D} (hm : X.mg "len" = Option.none) (ha : E X a σ G da) (hd : da = .tuple ds ∨ da = .list ds) (hg : Gl X "len" := by rfl) (he : starEach [a] X.env = (false, eval a X.env) :: starEach [] X.env := by rfl) (hpl : (backTo pos (starEach [] X.env)).any (·.1) = false := by rfl) :
    E X (.Call (.Name "len" p) [a] [] pos) σ G (.int (ds.length : Int)) :=
  e_callB call_len_seq hm (by decide +kernel) (a_cons ha a_nil he) (fun us G1 H1 _ gh hu Q q => by
    obtain ⟨u, rfl, h⟩ := all1 hu
    rcases hd with rfl | rfl
    · obtain ⟨p, xs, rfl, ht, hx⟩ := Dp.tup_inv h
      exact ⟨p, xs, rfl, .inr (Evl.ex_t gh ht), q _ G1 H1 (Nx.refl gh) (by rw [DpAll.len hx]; exact .int _)⟩
    · obtain ⟨p, xs, rfl, ht, hx⟩ := Dp.lst_inv h
      exact ⟨p, xs, rfl, .inl (Evl.ex_l gh ht), q _ G1 H1 (Nx.refl gh) (by rw [DpAll.len hx]; exact .int _)⟩) hg (by decide) (by decide) he hpl
theorem e_lenS {s : Str} (hm : X.mg "len" = Option.none) (ha : E X a σ G (.str s)) (hz : s.length ≤ sizeLine) (hg : Gl X "len" := by rfl) (he : starEach [a] X.env = (false, eval a X.env) :: starEach [] X.env := by rfl) (hpl : (backTo pos (starEach [] X.env)).any (·.1) = false := by rfl) :
    E X (.Call (.Name "len" p) [a] [] pos) σ G (.int (s.length : Int)) :=
  e_callB call_len_str hm (by decide +kernel) (a_cons ha a_nil he) (fun us G1 H1 _ gh hu Q q => by
    obtain ⟨u, rfl, h⟩ := all1 hu
    cases h
    exact ⟨s, rfl, hz, q _ G1 H1 (Nx.refl gh) (.int _)⟩) hg (by decide) (by decide) he hpl
theorem e_allB {bs : List Bool} (hcalm : X.calm = true) (hm : X.mg "all" = Option.none) (ha : E X a σ G (.list (bs.map PyData.bool))) (hg : Gl X "all" := by rfl) (he : starEach [a] X.env = (false, eval a X.env) :: starEach [] X.env := by rfl) (hpl : (backTo pos (starEach [] X.env)).any (·.1) = false := by rfl) :
    E X (.Call (.Name "all" p) [a] [] pos) σ G (.bool (bs.all id)) :=
  e_callB (cr_all hcalm) hm (by decide +kernel) (a_cons ha a_nil he) (fun us G1 H1 _ gh hu Q q => by
    obtain ⟨u, rfl, h⟩ := all1 hu
    obtain ⟨l, xs, rfl, hl, hx⟩ := Dp.lst_inv h
    rw [DpAll.bls_inv hx] at hl
    exact ⟨l, bs, rfl, Evl.ex_l gh hl, q _ G1 H1 (Nx.refl gh) (.bl _)⟩) hg (by decide) (by decide) he hpl
theorem e_sumI {ns : List Int} (hcalm : X.calm = true) (hm : X.mg "sum" = Option.none) (ha : E X a σ G (.list (ns.map PyData.int))) (hg : Gl X "sum" := by rfl) (he : starEach [a] X.env = (false, eval a X.env) :: starEach [] X.env := by rfl) (hpl : (backTo pos (starEach [] X.env)).any (·.1) = false := by rfl) :
    E X (.Call (.Name "sum" p) [a] [] pos) σ G (.int ns.sum) :=
  e_callB (cr_sum hcalm) hm (by decide +kernel) (a_cons ha a_nil he) (fun us G1 H1 _ gh hu Q q => by
    obtain ⟨u, rfl, h⟩ := all1 hu
    obtain ⟨l, xs, rfl, hl, hx⟩ := Dp.lst_inv h
    rw [DpAll.ints_inv hx] at hl
    exact ⟨l, ns, rfl, Evl.ex_l gh hl, q _ G1 H1 (Nx.refl gh) (.int _)⟩) hg (by decide) (by decide) he hpl
/-- isinstance(x, T), T a built-in class by its global name -/
def tyD : D → String
  | .none => "NoneType"
  | .bool _ => "bool"
  | .int _ => "int"
  | .str _ => "str"
  | .tuple _ => "tuple"
  | .list _ => "list"
  | .dict _ => "dict"
def tyIs (a : String) (b : String) : Bool := (kitB a b).getD false
end
end DL

/-! D2: isinstance, calls of defs by contract, comprehensions, statements. -/
namespace DL
open PySem PySem.Spec PyProof.Rows
open L2 hiding Dp DpAll

/-! ### isinstance -/
theorem dp_ty {K : PySem.W.Frag} {H : Hp} {v : V} {d : D} (h : Dp K H v d) : TyX K H v (.type (tyD d)) := by
  cases h with
  | non => exact .base .non
  | bl b => exact .base (.bl b)
  | int i => exact .base (.int i)
  | str x => exact .base (.str x)
  | lst h r =>
    rcases h with h | ⟨o, its, n, h, hc, _⟩
    · rcases h with h | ⟨o, h⟩
      · exact .base (.lst h)
      · exact .base (.frz h)
    · exact .kList h hc
  | tup h r =>
    rcases h with h | ⟨o, its, n, h, hc, _⟩
    · rcases h with h | ⟨o, h⟩
      · exact .base (.tup h)
      · exact .fTuple h
    · exact .kTuple h hc
  | dic h r => exact .fDict h
section
variable {X : Cx} {σ : L2.St} {G : Hp} {a e : Expr} {es : List Expr} {pos p p2 : Pos} {d : D} {x : Str}
theorem e_isi {y : Str} {T : String} {k : Bool} (hm : X.mg "isinstance" = Option.none) (hy : X.mg y = Option.none) (hv : bootBuiltins y = some (.type T)) (ha : E X a σ G d) (hk : kitB (tyD d) T = some k) (hgy : Gl X y := by rfl) (hg : Gl X "isinstance" := by rfl)
    (he : starEach [a, .Name y p2] X.env = (false, eval a X.env) :: starEach [.Name y p2] X.env := by rfl) (he2 : starEach [.Name y p2] X.env = (false, eval (.Name y p2) X.env) :: starEach [] X.env := by rfl) (hpl : (backTo pos (starEach [.Name y p2] X.env)).any (·.1) = false := by rfl)
    (h1 : y ≠ "__name__" := by decide) (h2 : (y == ("__debug__" : Str)) = false := by decide) : E X (.Call (.Name "isinstance" p) [a, .Name y p2] [] pos) σ G (.bool k) := fun G1 H1 g gh Q q =>
  ⟨_, pe_callB call_isi hg hm (by decide +kernel) (pa_cons pe_w (pa_cons (pe_bltn (v := .ty T) hgy hy hv rfl h1 h2) pa_nil he2) he) (by decide) (by decide) he hpl,
    ha G1 H1 g gh _ fun u G2 H2 n hu => ⟨u, .ty T, .type (tyD d), .type T, k, rfl, .ty T, dp_ty (Dp.mono n.gh hu), kit_ty hk, q _ G2 H2 n (.bl k)⟩⟩
end

/-! ### defs by contract -/
theorem cxUpN {P : Program} {w : World} : StX.CXUp (L2N.CX P w) := by
  rintro outer s H s2 H2 E e s' un kp ho ⟨a, B, H', cls, d, ea, fl, hok, ub, na, os, ag, he⟩
  refine ⟨a, B, H', cls, d, ea, fl, hok, ⟨fun b o q n hb => ub.keep b o (kp b o q) (un.free b o q n (by simp)) hb, fun b o q hb => ub.slot b o (kp b o q) hb, fun b o q n => ub.free b o (kp b o q) (un.free b o q n (by simp)),
    fun b o q hb => ub.there b o (kp b o q) hb, fun b xs q => ub.tups b xs (un.tups b xs q), fun b o xs q => ub.frzs b o xs (un.frzs b o xs q), fun b ps q => ?_⟩, na, os.trans ho, ag, he⟩
  obtain ⟨m1, e1⟩ := un.tbls b ps q
  obtain ⟨m2, e2⟩ := ub.tbls b _ e1
  exact ⟨m1 ++ m2, by rw [e2, Array.append_assoc]⟩
/-- as Fun.okX, the context of what is raised known -/
theorem okXN {P : Program} {w : World} {K : PySem.W.Frag} {mg : Str → Option Value} {base : Heap} {x qual : Str} {st : Stmt} {f : Addr} {fd : FuncData} {N ps : List Str} {k : Nat} {sp : Sp} (F : Fun K x qual st f fd) (S : FnScope N ps (defScope st)) (len : ∀ vs H Q E, sp vs H Q E → vs.length = ps.length)
    (hbody : ∀ (cdv : Value) (A : Around) (outer : List Env) (s : Shared) (H : Hp) (vs : List V) (Q : VK) (E : XK), Room k (A.deeper (envOfC qual (defScope st) s.heap.objs.size f cdv)) → sp vs H Q E →
      ∃ t, PSs (cxOf (L2N.CX P w) P w K mg base N qual (defScope st) f cdv A outer s H E) (defBody st) t ∧ t { nx := fun _ H' => Q .non H', rt := Q } (start N vs) H) : FnOk P w K mg base (L2N.CX P w) (k + 1) f fd ps sp := by
  obtain ⟨oc, od, kV, doc, pm, an, cdv, ct, osl, rfl, lk, hcd⟩ := F.ex
  exact fn_of lk hcd S len fun A outer s H vs Q E hr hsp => hbody cdv A outer s H vs Q E hr hsp
/-- a def without side effects: called with data ds it hands back data d, R ds d -/
def spR (K : PySem.W.Frag) (R : List D → D → Prop) : Sp := fun vs H Q _ => ∃ ds d G, R ds d ∧ Ex G H ∧ DpAll K G vs ds ∧ ∀ v G' H', Nx G H G' H' → Dp K G' v d → Q v H'
structure PFn (P : Program) (w : World) (K : PySem.W.Frag) (mg : Str → Option Value) (base : Heap) (k : Nat) (x : Str) (R : List D → D → Prop) : Prop where
  ex : ∃ f, mg x = some (.ref f) ∧ PySem.W.keepIn K (.ref f) = true ∧ FnR P w K mg base CX0 k f (spR K R)
/-- .. or raises: an error of the module's class of that name -/
def spX (K : PySem.W.Frag) (mg : Str → Option Value) (R : List D → Except Str D → Prop) : Sp := fun vs H Q E => ∃ ds r G, R ds r ∧ Ex G H ∧ DpAll K G vs ds ∧
  (∀ d, r = .ok d → ∀ v G' H', Nx G H G' H' → Dp K G' v d → Q v H') ∧ (∀ n c, r = .error n → mg n = some (.ref c) → ∀ G' H', Nx G H G' H' → E (.ref c) Option.none H')
structure XFn (P : Program) (w : World) (K : PySem.W.Frag) (mg : Str → Option Value) (base : Heap) (k : Nat) (x : Str) (R : List D → Except Str D → Prop) : Prop where
  ex : ∃ f, mg x = some (.ref f) ∧ PySem.W.keepIn K (.ref f) = true ∧ FnR P w K mg base (L2N.CX P w) k f (spX K mg R)
theorem PFn.mono {P : Program} {w : World} {K : PySem.W.Frag} {mg : Str → Option Value} {base : Heap} {j k : Nat} {x : Str} {R : List D → D → Prop} (F : PFn P w K mg base j x R) (h : j ≤ k) : PFn P w K mg base k x R := by
  obtain ⟨f, h1, h2, h4⟩ := F.ex
  exact ⟨f, h1, h2, h4.mono h⟩
theorem XFn.mono {P : Program} {w : World} {K : PySem.W.Frag} {mg : Str → Option Value} {base : Heap} {j k : Nat} {x : Str} {R : List D → Except Str D → Prop} (F : XFn P w K mg base j x R) (h : j ≤ k) : XFn P w K mg base k x R := by
  obtain ⟨f, h1, h2, h4⟩ := F.ex
  exact ⟨f, h1, h2, h4.mono h⟩
theorem PFn.imp {P : Program} {w : World} {K : PySem.W.Frag} {mg : Str → Option Value} {base : Heap} {k : Nat} {x : Str} {R R' : List D → D → Prop} (F : PFn P w K mg base k x R) (h : ∀ ds d, R' ds d → R ds d) : PFn P w K mg base k x R' := by
  obtain ⟨f, h1, h2, h4⟩ := F.ex
  exact ⟨f, h1, h2, h4.imp fun vs H Q E ⟨ds, d, G, r, q⟩ => ⟨ds, d, G, h ds d r, q⟩⟩
theorem FnOk.pos {P : Program} {w : World} {K : PySem.W.Frag} {mg : Str → Option Value} {base : Heap} {CX : CXT} {k : Nat} {f : Addr} {fd : FuncData} {ps : List Str} {sp : Sp} (F : FnOk P w K mg base CX k f fd ps sp) (hb : Binds K fd ps []) : FnR P w K mg base CX k f sp :=
  (FnOk.raw F hb .nil).imp fun vs H Q E h => by rw [List.append_nil]; exact h
/-- a def of the text -/
def Has (K : PySem.W.Frag) (mg : Str → Option Value) (x : Str) (st : Stmt) (ps : List Str) : Prop := ∃ f fd, mg x = some (.ref f) ∧ Fun K x x st f fd ∧ Binds K fd ps []
section
variable {P : Program} {w : World} {K : PySem.W.Frag} {mg : Str → Option Value} {base : Heap}
theorem pfn_of {k : Nat} {x : Str} {st : Stmt} {N ps : List Str} {R : List D → D → Prop} (h : Has K mg x st ps) (S : FnScope N ps (defScope st)) (len : ∀ ds d, R ds d → ds.length = ps.length)
    (body : ∀ (cdv : Value) (A : Around) (outer : List Env) (s : Shared) (f : Addr) (H : Hp) (Q : VK) (E : XK), Room k (A.deeper (envOfC x (defScope st) s.heap.objs.size f cdv)) → ∀ ds d G vs, R ds d → Ex G H → DpAll K G vs ds → (∀ v G' H', Nx G H G' H' → Dp K G' v d → Q v H') →
      wB (cxOf CX0 P w K mg base N x (defScope st) f cdv A outer s H E).nox (defBody st) { nx := fun _ H' => Q .non H', rt := Q } (start N vs) H) : PFn P w K mg base (k + 1) x R := by
  obtain ⟨f, fd, h1, F, hb⟩ := h
  refine ⟨f, h1, F.kp, FnOk.pos (F.ok S (fun vs H Q E ⟨ds, d, G, r, _, hv, _⟩ => by rw [DpAll.len hv]; exact len ds d r) fun cdv A outer s H vs Q E hr ⟨ds, d, G, r, g, hv, q⟩ => ?_) hb⟩
  exact ⟨_, pss_w, body cdv A outer s f H Q E hr ds d G vs r g hv q⟩
theorem xfn_of {k : Nat} {x : Str} {st : Stmt} {N ps : List Str} {R : List D → Except Str D → Prop} (h : Has K mg x st ps) (S : FnScope N ps (defScope st)) (len : ∀ ds d, R ds d → ds.length = ps.length)
    (body : ∀ (cdv : Value) (A : Around) (outer : List Env) (s : Shared) (f : Addr) (H : Hp) (Q : VK) (E : XK), Room k (A.deeper (envOfC x (defScope st) s.heap.objs.size f cdv)) → ∀ ds r G vs, R ds r → Ex G H → DpAll K G vs ds →
      (∀ d, r = .ok d → ∀ v G' H', Nx G H G' H' → Dp K G' v d → Q v H') → (∀ n c, r = .error n → mg n = some (.ref c) → ∀ G' H', Nx G H G' H' → E (.ref c) Option.none H') →
      wB (cxOf (L2N.CX P w) P w K mg base N x (defScope st) f cdv A outer s H E) (defBody st) { nx := fun _ H' => Q .non H', rt := Q } (start N vs) H) : XFn P w K mg base (k + 1) x R := by
  obtain ⟨f, fd, h1, F, hb⟩ := h
  refine ⟨f, h1, F.kp, FnOk.pos (okXN F S (fun vs H Q E ⟨ds, d, G, r, _, hv, _⟩ => by rw [DpAll.len hv]; exact len ds d r) fun cdv A outer s H vs Q E hr ⟨ds, r, G, hR, g, hv, q1, q2⟩ => ?_) hb⟩
  exact ⟨_, pss_w, body cdv A outer s f H Q E hr ds r G vs hR g hv q1 q2⟩
end
section
variable {X : Cx} {σ : L2.St} {G : Hp} {a e : Expr} {es : List Expr} {pos p : Pos} {d : D} {ds : List D} {x : Str} {k : Nat} {ps : List Str}
/-- the callee runs, what it may raise told at the slots -/
theorem run_fnRS {CX : CXT} {f : Addr} {sp : Sp} {Er : L2.St → XK} {pins : List (Addr × Obj)} {H : Hp} {s : Shared} {Q : VK} {us : List Value} {vs : List V} (F : FnR X.prog X.w X.K X.mg X.base CX k f sp) (hr : Room k X.A) (hx : PassesAt CX X σ (Er σ))
    (I : Inv X pins σ H s) (r : Vals vs us) (h : sp vs H Q (Er σ)) : wpAny (model X.prog X.w) X.A (call (.ref f) us) (EP X pins σ Q) X.xe s := by
  refine wpAny_call (codeAny_mono (F X.A X.stack s H us vs Q (Er σ) hr I.env0 r h) fun r s' hq => ?_)
  cases r with
  | error e => exact hx pins H s e s' I hq
  | ok fl =>
    cases fl with
    | ret u => exact I.after hq
    | next => exact False.elim hq
    | brk => exact False.elim hq
    | cont => exact False.elim hq
theorem pe_callR {CX : CXT} {f : Addr} {sp : Sp} {Er : L2.St → XK} {t : TA} (F : FnR X.prog X.w X.K X.mg X.base CX k f sp) (hr : Room k X.A) (hg : Gl X x) (hm : X.mg x = some (.ref f)) (hk : PySem.W.keepIn X.K (.ref f) = true) (hx : ∀ σ, PassesAt CX X σ (Er σ)) (ha : PA X (e :: es) t) (hdb : (x == ("__debug__" : Str)) = false := by decide)
    (he : starEach (e :: es) X.env = (false, eval e X.env) :: starEach es X.env := by rfl) (hpl : (backTo pos (starEach es X.env)).any (·.1) = false := by rfl) : PE X (.Call (.Name x p) (e :: es) [] pos) (tCallS sp Er t) := by
  refine ⟨fun pins s σ H Q I h => ?_⟩
  refine wpAny_Call_Name_kw (ld_glob I hg hm ?_ hdb)
  refine PySem.W.callWith_K (h₀ := X.base) I.ok.mod.kin hk (thn (ha.run pos pins s σ H _ I h) fun us s1 ⟨vs, H1, I1, r, q⟩ => ⟨I1.kIn, ?_⟩) he hpl
  exact run_fnRS F hr (hx σ) I1 r q
theorem passAt0 (σ : L2.St) : PassesAt CX0 X σ E0 := fun _ _ _ _ _ _ h => h.elim
theorem e_call {R : List D → D → Prop} (F : PFn X.prog X.w X.K X.mg X.base k x R) (hr : Room k X.A) (ha : A X (e :: es) σ G ds) (hR : R ds d) (hg : Gl X x := by rfl) (hdb : (x == ("__debug__" : Str)) = false := by decide)
    (he : starEach (e :: es) X.env = (false, eval e X.env) :: starEach es X.env := by rfl) (hpl : (backTo pos (starEach es X.env)).any (·.1) = false := by rfl) : E X (.Call (.Name x p) (e :: es) [] pos) σ G d := fun G1 H1 g gh Q q => by
  obtain ⟨f, hm, hk, F⟩ := F.ex
  exact ⟨_, pe_callR (Er := fun _ => E0) F hr hg hm hk passAt0 pa_w hdb he hpl, ha G1 H1 g gh _ fun us G2 H2 n hu => ⟨ds, d, G2, hR, n.gh, hu, fun v G3 H3 n3 hv => q v G3 H3 (n.trans n3) hv⟩⟩
end

/-! ### a list of one's own, beside what is known -/
structure Lcl (G H : Hp) (l : Addr) (G' H' : Hp) (vs : List V) : Prop where
  g : Ex G G'
  h : Ex H H'
  gl : G' l = Option.none
  gh : Ex G' H'
  fr : ∀ a, G' a ≠ Option.none → G a ≠ Option.none ∨ H a = Option.none
  hl : H' l = some (.lst vs)
  h0 : H l = Option.none
section
variable {G H G' H' G'' H'' : Hp} {l : Addr} {vs ws : List V}
theorem Lcl.start (e : Ex G H) (hl : H l = Option.none) : Lcl G H l G (upd H l (.lst vs)) vs :=
  ⟨Evl.Ex.refl _, Evl.Ex.new hl, Evl.fresh_back e hl, e.trans (Evl.Ex.new hl), fun _ h => .inl h, upd_same, hl⟩
theorem Lcl.step (x : Lcl G H l G' H' vs) (n : Nx G' H' G'' H'') : Lcl G H l G'' H'' vs :=
  ⟨x.g.trans n.g, x.h.trans n.h, (n.beside x.gl x.hl).1, n.gh, fun a q => by
    rcases n.fr a q with z | z
    · exact x.fr a z
    · exact .inr (Evl.fresh_back x.h z), (n.beside x.gl x.hl).2, x.h0⟩
theorem Lcl.put (x : Lcl G H l G' H' vs) : Lcl G H l G' (upd H' l (.lst ws)) ws :=
  ⟨x.g, Evl.Ex.mut x.h x.h0, x.gl, fun a u q => by
    rw [upd_ne (fun z => by rw [z, x.gl] at q; cases q)]
    exact x.gh a u q, x.fr, upd_same, x.h0⟩
theorem Lcl.done (x : Lcl G H l G' H' vs) : Nx G H (upd G' l (.lst vs)) H' :=
  ⟨x.g.trans (Evl.Ex.new x.gl), x.h, fun a u q => by
    by_cases z : a = l
    · subst z; rw [upd_same] at q; rw [← q]; exact x.hl
    · rw [upd_ne z] at q; exact x.gh a u q, fun a q => by
    by_cases z : a = l
    · subst z; exact .inr x.h0
    · rw [upd_ne z] at q; exact x.fr a q⟩
/-- forgotten -/
theorem Lcl.off (x : Lcl G H l G' H' vs) : Nx G H G' H' := ⟨x.g, x.h, x.gh, x.fr⟩
end

/-! ### comprehensions -/
abbrev blkX (X : Cx) (scope : Scope) (s : Shared) (H : Hp) (C : Addr) (cl : List (Str × Addr)) (fp : List Addr) : Cx := X.blk s H scope (compEnvC scope cl C X.env) fp
def wBE (X : Cx) (scope : Scope) (e : Expr) : TE := fun σ H Q => ∀ s H0 C cl fp, wE (blkX X scope s H0 C cl fp) e σ H Q
def wBT (X : Cx) (scope : Scope) (e : Expr) : TT := fun σ H Q => ∀ s H0 C cl fp, wT (blkX X scope s H0 C cl fp) e σ H Q
theorem wipe1 (σ : L2.St) (j : Nat) (v : Option V) : wipe ((wipe σ [j]).set j v) [j] = wipe σ [j] := by
  show ((σ.set j Option.none).set j v).set j Option.none = σ.set j Option.none
  rw [List.set_set, List.set_set]
theorem wipeset (σ : L2.St) (j : Nat) (v : Option V) : (wipe σ [j]).set j v = σ.set j v := by
  show (σ.set j Option.none).set j v = σ.set j v
  rw [List.set_set]
/-- what the kept ones come to -/
def kept (n : Nat) (c : Nat → Bool) (f : Nat → D) : List D := ((List.range n).filter c).map f
theorem kept_zero (c : Nat → Bool) (f : Nat → D) : kept 0 c f = [] := rfl
theorem kept_succ (n : Nat) (c : Nat → Bool) (f : Nat → D) : kept (n + 1) c f = if c n = true then kept n c f ++ [f n] else kept n c f := by
  unfold kept
  rw [List.range_succ, List.filter_append, List.map_append]
  cases h : c n <;> simp [h]
theorem kept_len (n : Nat) (c : Nat → Bool) (f : Nat → D) : (kept n c f).length ≤ n := by
  unfold kept
  rw [List.length_map]
  exact Nat.le_trans (List.length_filter_le _ _) (by rw [List.length_range]; exact Nat.le_refl _)
theorem kept_all (n : Nat) (f : Nat → D) : kept n (fun _ => true) f = (List.range n).map f := by
  unfold kept; rw [List.filter_eq_self.mpr (fun _ _ => rfl)]
section
variable {X : Cx} {σ : L2.St} {G : Hp} {elt iter : Expr} {pos tpos p : Pos} {x : Str} {j : Nat} {scope : Scope}
/-- one turn -/
theorem lc_turn {ifs : List Expr} {tt : TT} {G2 H2 : Hp} {Dl : Addr} {i n : Nat} {c : Nat → Bool} {f : Nat → D} {v : V} {H' : Hp} (hi : i < n) (hn : n ≤ 100000) (hG : Ex G G2)
    (Pi : ∃ G' vs, Lcl G2 H2 Dl G' H' vs ∧ DpAll X.K G' vs (kept i c f)) (hv : ∀ G', Ex G2 G' → True)
    (ht : ∀ G1 H1, Ex G G1 → Ex G1 H1 → ∀ Q : Bool → Hp → Prop, (∀ G2 H2, Nx G1 H1 G2 H2 → Q (c i) H2) → tt (σ.set j (some v)) H1 Q)
    (he : c i = true → ∀ s H0 C cl fp, E (blkX X scope s H0 C cl fp) elt (σ.set j (some v)) G (f i)) :
    tt ((wipe σ [j]).set j (some v)) H' fun b H3 => if b = true then wBE X scope elt ((wipe σ [j]).set j (some v)) H3 fun y H4 => ∃ acc, H4 Dl = some (.lst acc) ∧ acc.length < sizeLine ∧ (∃ G' vs, Lcl G2 H2 Dl G' (upd H4 Dl (.lst (acc ++ [y]))) vs ∧ DpAll X.K G' vs (kept (i + 1) c f))
      else ∃ G' vs, Lcl G2 H2 Dl G' H3 vs ∧ DpAll X.K G' vs (kept (i + 1) c f) := by
  obtain ⟨G', vs, L, dv⟩ := Pi
  rw [wipeset]
  refine ht G' H' (hG.trans L.g) L.gh _ fun G3 H3 n3 => ?_
  have L3 := L.step n3
  rw [kept_succ]
  cases hc : c i with
  | false =>
    refine iteF ⟨G3, vs, L3, ?_⟩
    rw [if_neg Bool.false_ne_true]
    exact DpAll.mono n3.g dv
  | true =>
    refine iteT fun s H0 C cl fp => he hc s H0 C cl fp G3 H3 ((hG.trans L.g).trans n3.g) n3.gh _ fun y G4 H4 n4 hy => ?_
    have L4 := L3.step n4
    refine ⟨vs, L4.hl, ?_, G4, vs ++ [y], L4.put, ?_⟩
    · rw [DpAll.len dv]
      exact Evl.sz_lt (by have := kept_len i c f; omega)
    · rw [if_pos rfl]
      exact DpAll.append (DpAll.mono n4.g (DpAll.mono n3.g dv)) (.cons hy .nil)
/-- [elt for x in range(n)], all kept -/
theorem e_lcR {na : Expr} {n : Nat} {f : Nat → D} (hcalm : X.calm = true) (hN : X.N.Nodup) (hm : X.mg "range" = Option.none) (ha : A X [na] σ G [.int (n : Int)]) (hn : n ≤ 100000) (ok : BlkOk X.N X.env.scope scope [(x, j)])
    (hx : X.N[j]? = some x) (hg : ∀ s H C cl fp, PG (blkX X scope s H C cl fp) (.Name x tpos) (gName j))
    (he : ∀ i, i < n → ∀ s H0 C cl fp, E (blkX X scope s H0 C cl fp) elt (σ.set j (some (.int (i : Int)))) G (f i)) (hgr : Gl X "range" := by rfl) (hse : starEach [na] X.env = [(false, eval na X.env)] := by rfl)
    (hs : ∀ y, foldedSetIterable (.Call (.Name "range" p) [na] [] pos) X.env y = pure y := by intro _; rfl) {lpos : Pos} : E X (.ListComp elt [⟨.Name x tpos, .Call (.Name "range" p) [na] [] pos, [], 0⟩] scope lpos) σ G (.list ((List.range n).map f)) := fun G1 H1 g gh Q q =>
  ⟨_, pe_lc (own := [(x, j)]) (te := wBE X scope elt) hcalm hN (pi_range1 hgr hm pa_w hse) ok hg (fun _ _ _ _ _ => pts_nil) (fun s H C cl fp => ⟨fun pins s' σ' H' Q' I h => (pe_w (X := blkX X scope s H C cl fp)).run pins s' σ' H' Q' I (h s H C cl fp)⟩) hs,
    ha G1 H1 g gh _ fun vs G2 H2 n2 hv => by
      obtain ⟨u, rfl, hu⟩ := all1 hv
      cases hu
      refine ⟨(n : Int), rfl, by omega, by omega, fun Dl hD => ?_⟩
      rw [Int.toNat_natCast]
      refine lc_range (lo := 0) (n := n) (fun i H' => ∃ G' vs, Lcl G2 H2 Dl G' H' vs ∧ DpAll X.K G' vs (kept i (fun _ => true) f)) ⟨G2, [], Lcl.start n2.gh hD, .nil⟩ (fun i H' hi Pi => ?_) fun H' ⟨G', vs, L, dv⟩ => ?_
      · have e0 : (0 : Int) + (i : Int) = (i : Int) := Int.zero_add _
        rw [e0]
        refine ⟨wipe1 σ j _, ?_⟩
        exact lc_turn (σ := σ) (j := j) (G := G) (ifs := []) hi hn (g.trans n2.g) Pi (fun _ _ => trivial) (fun G1 H1 _ gh Q q => q G1 H1 (Nx.refl gh)) (fun _ => he i hi)
      · rw [kept_all] at dv
        exact q _ _ _ (n2.trans L.done) (.lst (Evl.sq_of upd_same) (DpAll.mono (Evl.Ex.new L.gl) dv))⟩
/-- [elt for x in xs], [.. if c]: over a list or a tuple that is known -/
theorem e_lcS {xs : List D} {n : Nat} {dx : D} {ifs : List Expr} {tt : TT} {c : Nat → Bool} {f : Nat → D} (hcalm : X.calm = true) (hN : X.N.Nodup) (ha : E X iter σ G dx) (hdx : dx = .list xs ∨ dx = .tuple xs) (hn : xs.length = n) (hn2 : n ≤ 100000) (ok : BlkOk X.N X.env.scope scope [(x, j)])
    (hg : ∀ s H C cl fp, PG (blkX X scope s H C cl fp) (.Name x tpos) (gName j)) (hpt : ∀ s H C cl fp, PTs (blkX X scope s H C cl fp) ifs tt)
    (ht : ∀ i v d G', xs[i]? = some d → Ex G G' → Dp X.K G' v d → ∀ G1 H1, Ex G' G1 → Ex G1 H1 → ∀ Q : Bool → Hp → Prop, (∀ G2 H2, Nx G1 H1 G2 H2 → Q (c i) H2) → tt (σ.set j (some v)) H1 Q)
    (he : ∀ i v d G', xs[i]? = some d → Ex G G' → Dp X.K G' v d → c i = true → ∀ s H0 C cl fp, E (blkX X scope s H0 C cl fp) elt (σ.set j (some v)) G' (f i))
    (hs : ∀ y, foldedSetIterable iter X.env y = pure y := by intro _; rfl) (hpl : PI X (.Name x tpos) iter (iList X.K (wE X iter))) (hpt2 : PI X (.Name x tpos) iter (iTup X.K (wE X iter))) {lpos : Pos} :
    E X (.ListComp elt [⟨.Name x tpos, iter, ifs, 0⟩] scope lpos) σ G (.list (kept n c f)) := fun G1 H1 g gh Q q => by
  have turn : ∀ (G2 H2 : Hp) (Dl : Addr) (vx : List V) (i : Nat) (v : V) (H' : Hp), Ex G G2 → DpAll X.K G2 vx xs → vx[i]? = some v → (∃ G' vs, Lcl G2 H2 Dl G' H' vs ∧ DpAll X.K G' vs (kept i c f)) →
      tt ((wipe σ [j]).set j (some v)) H' fun b H3 => if b = true then wBE X scope elt ((wipe σ [j]).set j (some v)) H3 fun y H4 => ∃ acc, H4 Dl = some (.lst acc) ∧ acc.length < sizeLine ∧ (∃ G' vs, Lcl G2 H2 Dl G' (upd H4 Dl (.lst (acc ++ [y]))) vs ∧ DpAll X.K G' vs (kept (i + 1) c f))
        else ∃ G' vs, Lcl G2 H2 Dl G' H3 vs ∧ DpAll X.K G' vs (kept (i + 1) c f) := fun G2 H2 Dl vx i v H' hG hv hi Pi => by
    obtain ⟨d, hd, dv⟩ := DpAll.getV hv hi
    have hlt : i < n := by rw [← hn]; exact (List.getElem?_eq_some_iff.mp hd).1
    exact lc_turn (σ := σ) (j := j) (G := G2) (ifs := ifs) hlt hn2 (Evl.Ex.refl _) Pi (fun _ _ => trivial) (ht i v d G2 hd hG dv) (he i v d G2 hd hG dv)
  rcases hdx with rfl | rfl
  · refine ⟨_, pe_lc (own := [(x, j)]) (te := wBE X scope elt) hcalm hN hpl ok hg hpt (fun s H C cl fp => ⟨fun pins s' σ' H' Q' I h => (pe_w (X := blkX X scope s H C cl fp)).run pins s' σ' H' Q' I (h s H C cl fp)⟩) hs, ha G1 H1 g gh _ fun u G2 H2 n2 hu => ?_⟩
    obtain ⟨a, vx, rfl, hl, hv⟩ := Dp.lst_inv hu
    have hlen : vx.length = n := by rw [DpAll.len hv, hn]
    refine ⟨a, rfl, ⟨vx, Evl.ex_l n2.gh hl⟩, fun Dl hD => lc_list (xs := vx) (fun i H' => ∃ G' vs, Lcl G2 H2 Dl G' H' vs ∧ DpAll X.K G' vs (kept i c f)) ⟨G2, [], Lcl.start n2.gh hD, .nil⟩ (fun i H' _ ⟨G', vs, L, _⟩ => Evl.ex_l (L.g.trans L.gh) hl)
      (fun i v H' hi Pi => ⟨wipe1 σ j _, turn G2 H2 Dl vx i v H' (g.trans n2.g) hv hi Pi⟩) fun H' ⟨G', vs, L, dv⟩ => ?_⟩
    rw [hlen] at dv
    exact q _ _ _ (n2.trans L.done) (.lst (Evl.sq_of upd_same) (DpAll.mono (Evl.Ex.new L.gl) dv))
  · refine ⟨_, pe_lc (own := [(x, j)]) (te := wBE X scope elt) hcalm hN hpt2 ok hg hpt (fun s H C cl fp => ⟨fun pins s' σ' H' Q' I h => (pe_w (X := blkX X scope s H C cl fp)).run pins s' σ' H' Q' I (h s H C cl fp)⟩) hs, ha G1 H1 g gh _ fun u G2 H2 n2 hu => ?_⟩
    obtain ⟨a, vx, rfl, hl, hv⟩ := Dp.tup_inv hu
    have hlen : vx.length = n := by rw [DpAll.len hv, hn]
    refine ⟨a, rfl, ⟨vx, Evl.ex_t n2.gh hl⟩, fun Dl hD => lc_tup (xs := vx) (fun i H' => ∃ G' vs, Lcl G2 H2 Dl G' H' vs ∧ DpAll X.K G' vs (kept i c f)) ⟨G2, [], Lcl.start n2.gh hD, .nil⟩ (fun i H' _ ⟨G', vs, L, _⟩ => Evl.ex_t (L.g.trans L.gh) hl)
      (fun i v H' hi Pi => ⟨wipe1 σ j _, turn G2 H2 Dl vx i v H' (g.trans n2.g) hv hi Pi⟩) fun H' ⟨G', vs, L, dv⟩ => ?_⟩
    rw [hlen] at dv
    exact q _ _ _ (n2.trans L.done) (.lst (Evl.sq_of upd_same) (DpAll.mono (Evl.Ex.new L.gl) dv))
end

/-! ### statements -/
section
variable {X : Cx} {σ : L2.St} {G H : Hp} {e c : Expr} {es : List Expr} {a b rest : List Stmt} {pos p pos' : Pos} {d : D} {ds : List D} {x : Str} {Z : Ends} {st : Stmt}
theorem s_nil (h : Z.nx σ H) : wB X [] Z σ H := ⟨_, pss_nil, h⟩
theorem s_cons (h : wS X st { Z with nx := wB X rest Z } σ H) : wB X (st :: rest) Z σ H := ⟨_, pss_cons ps_w pss_w, h⟩
theorem s_ret (h : E X e σ G d) (gh : Ex G H) (q : ∀ v G' H', Nx G H G' H' → Dp X.K G' v d → Z.rt v H') : wB X (.Return (some e) pos :: rest) Z σ H :=
  s_cons ⟨_, ps_ret pe_w, h G H (Evl.Ex.refl _) gh _ q⟩
theorem s_retN (q : Z.rt .non H) : wB X (.Return Option.none pos :: rest) Z σ H := s_cons ⟨_, ps_retN, q⟩
theorem s_expr (h : E X e σ G d) (gh : Ex G H) (q : ∀ G' H', Nx G H G' H' → wB X rest Z σ H') (hs : swapsWith e Option.none pos.line X.env = pure false := by rfl) : wB X (.Expr e pos :: rest) Z σ H :=
  s_cons ⟨_, ps_expr pe_w hs, h G H (Evl.Ex.refl _) gh _ fun _ G' H' n _ => q G' H' n⟩
theorem s_set (i : Nat) (h : E X e σ G d) (gh : Ex G H) (hN : X.N.Nodup) (q : ∀ v G' H', Nx G H G' H' → Dp X.K G' v d → wB X rest Z (σ.set i (some v)) H') (hi : X.N[i]? = some x := by rfl) (hx : L2.Loc X.env.scope x := by first | exact Or.inl rfl | exact Or.inr rfl)
    (hs : swapsWith e (some (.Name x pos')) pos.line X.env = pure false := by rfl) (hf : X.fn x = true ∨ X.env.scope.names.lookup x = some .local := by first | exact .inl rfl | exact .inr rfl | assumption) : wB X (.Assign [.Name x pos'] e pos :: rest) Z σ H :=
  s_cons ⟨_, ps_set hN hi hx pe_w hs hf, h G H (Evl.Ex.refl _) gh _ q⟩
theorem s_if {k : Bool} (h : T X c σ G k) (gh : Ex G H) (h1 : k = true → ∀ G' H', Nx G H G' H' → wB X a { Z with nx := wB X rest Z } σ H') (h2 : k = false → ∀ G' H', Nx G H G' H' → wB X b { Z with nx := wB X rest Z } σ H') : wB X (.If c a b pos :: rest) Z σ H :=
  s_cons ⟨_, ps_if pt_w pss_w pss_w, h G H (Evl.Ex.refl _) gh _ fun G' H' n => by
    cases k with
    | true => exact iteT (h1 rfl G' H' n)
    | false => exact iteF (h2 rfl G' H' n)⟩
/-- an if without else -/
theorem s_when {k : Bool} (h : T X c σ G k) (gh : Ex G H) (h1 : k = true → ∀ G' H', Nx G H G' H' → wB X a { Z with nx := wB X rest Z } σ H') (h2 : k = false → ∀ G' H', Nx G H G' H' → wB X rest Z σ H') : wB X (.If c a [] pos :: rest) Z σ H :=
  s_if h gh h1 fun z G' H' n => s_nil (h2 z G' H' n)
theorem s_while (hp : PassesOwn (model X.prog X.w) X.A X.env X.xe) (W : Nat → L2.St → Hp → Prop) (m0 : Nat) (h0 : W m0 σ H)
    (hs : ∀ m σ H, W m σ H → ∃ k G, Ex G H ∧ T X c σ G k ∧ (k = true → ∀ G' H', Nx G H G' H' → ∃ N : L2.St → Hp → Prop, (∀ σ2 H2, N σ2 H2 → ∃ m', m' < m ∧ W m' σ2 H2) ∧ wB X a { Z with nx := N, ct := N, bk := wB X rest Z } σ H') ∧ (k = false → ∀ G' H', Nx G H G' H' → wB X rest Z σ H')) :
    wB X (.While c a [] pos :: rest) Z σ H :=
  s_cons ⟨_, ps_while hp pt_w pss_w, W, ⟨m0, h0⟩, fun m σ H w => by
    obtain ⟨k, G, gh, h, h1, h2⟩ := hs m σ H w
    refine h G H (Evl.Ex.refl _) gh _ fun G' H' n => ?_
    cases k with
    | true => exact iteT (h1 rfl G' H' n)
    | false => exact iteF (h2 rfl G' H' n)⟩
/-- a, b = e1, e2 -/
theorem s_par (i j : Nat) {y : Str} {e1 e2 : Expr} {d1 d2 : D} {px py pt pt2 : Pos} {kt k2 : _} (hcalm : X.calm = true) (hN : X.N.Nodup) (ha : A X [e1, e2] σ G [d1, d2]) (gh : Ex G H) (q : ∀ u v G' H', Nx G H G' H' → Dp X.K G' u d1 → Dp X.K G' v d2 → wB X rest Z ((σ.set i (some u)).set j (some v)) H')
    (hi : X.N[i]? = some x := by rfl) (hj : X.N[j]? = some y := by rfl) (hij : i ≠ j := by decide) (hx : X.env.scope.names.lookup x = some .local := by rfl) (hy : X.env.scope.names.lookup y = some .local := by rfl)
    (hw : swappedStores [.Tuple [.Name x px, .Name y py] kt pt] (.Tuple [e1, e2] k2 pt2) X.env = pure (some [x, y]) := by rfl)
    (hs : swapsWithSole [.Tuple [.Name x px, .Name y py] kt pt] (.Tuple [e1, e2] k2 pt2) pos.line X.env = pure false := by rfl) : wB X (.Assign [.Tuple [.Name x px, .Name y py] kt pt] (.Tuple [e1, e2] k2 pt2) pos :: rest) Z σ H :=
  s_cons ⟨_, ps_par hcalm hN hi hj hij hx hy pa_w hw hs, ha G H (Evl.Ex.refl _) gh _ fun vs G' H' n hv => by
    obtain ⟨u, v, rfl, h1, h2⟩ := all2 hv
    exact ⟨u, v, rfl, q u v G' H' n h1 h2⟩⟩
/-- the module's error classes -/
structure Er (K : PySem.W.Frag) (mg : Str → Option Value) (x : Str) : Prop where
  ex : ∃ C, mg x = some (.ref C) ∧ PySem.W.excIn K C [.type "ValueError", .type "Exception", .type "BaseException", .type "object"] "ValueError.__new__" = true ∧ PySem.W.keepIn K (.ref C) = true ∧
    PySem.W.subIn K (.ref C) (.type "BaseException") = some true ∧ PySem.W.typeIn K (.ref C) = some (.type "type")
theorem s_raise {W : WX} {m : Str} {j : Nat} {p2 pos2 : Pos} (hcalm : X.calm = true) (er : Er X.K X.mg x) (tk : L2N.Takes X W) (q : ∀ c, X.mg x = some (.ref c) → W (.ref c) Option.none σ H) (hg : Gl X x := by rfl) (hdb : (x == ("__debug__" : Str)) = false := by decide) :
    wB X (.Raise (some (.Call (.Name x p) [.Constant (.str m) j p2] [] pos)) Option.none pos2 :: rest) Z σ H := by
  obtain ⟨C, h1, h2, h3, h4, h5⟩ := er.ex
  exact s_cons ⟨_, L2N.ps_raise hcalm tk (L2N.pmk_own PySem.F.excBase_ValueError h2 h1 h3 (raises_own h4 h5) hg hdb), q C h1⟩
/-- a call of a def that may raise, its value dropped -/
theorem s_callX {W : WX} {R : List D → Except Str D → Prop} {k : Nat} {r : Except Str D} (F : XFn X.prog X.w X.K X.mg X.base k x R) (hr : Room k X.A) (tk : L2N.Takes X W) (ha : A X (e :: es) σ G ds) (hR : R ds r) (gh : Ex G H)
    (ok : ∀ d, r = .ok d → ∀ G' H', Nx G H G' H' → wB X rest Z σ H') (er : ∀ n c, r = .error n → X.mg n = some (.ref c) → ∀ G' H', Nx G H G' H' → W (.ref c) Option.none σ H') (hg : Gl X x := by rfl) (hdb : (x == ("__debug__" : Str)) = false := by decide)
    (he : starEach (e :: es) X.env = (false, eval e X.env) :: starEach es X.env := by rfl) (hpl : (backTo pos (starEach es X.env)).any (·.1) = false := by rfl)
    (hs : swapsWith (.Call (.Name x p) (e :: es) [] pos) Option.none pos'.line X.env = pure false := by rfl) : wB X (.Expr (.Call (.Name x p) (e :: es) [] pos) pos' :: rest) Z σ H := by
  obtain ⟨f, hm, hk, F⟩ := F.ex
  exact s_cons ⟨_, ps_expr (pe_callR (Er := WE W) F hr hg hm hk (L2N.passAt tk) pa_w hdb he hpl) hs, ha G H (Evl.Ex.refl _) gh _ fun us G2 H2 n hu =>
    ⟨ds, r, G2, hR, n.gh, hu, fun d hd v G3 H3 n3 _ => ok d hd G3 H3 (n.trans n3), fun c' c hc hmc G3 H3 n3 => er c' c hc hmc G3 H3 (n.trans n3)⟩⟩
/-- for x in range(n) -/
theorem s_forR (i : Nat) {na : Expr} {n : Nat} {px pr : Pos} (hp : PassesOwn (model X.prog X.w) X.A X.env X.xe) (hcalm : X.calm = true) (hN : X.N.Nodup) (hm : X.mg "range" = Option.none) (ha : A X [na] σ G [.int (n : Int)]) (gh : Ex G H) (hn : n ≤ 2 ^ 60)
    (Pv : Nat → L2.St → Hp → Prop) (h0 : ∀ G' H', Nx G H G' H' → Pv 0 σ H')
    (hs : ∀ k σ' H', k < n → Pv k σ' H' → wB X a { Z with nx := Pv (k + 1), ct := Pv (k + 1), bk := wB X rest Z } (σ'.set i (some (.int (k : Int)))) H') (hd : ∀ σ' H', Pv n σ' H' → wB X rest Z σ' H')
    (hgr : Gl X "range" := by rfl) (hse : starEach [na] X.env = [(false, eval na X.env)] := by rfl) (hi : X.N[i]? = some x := by rfl) (hx : L2.Loc X.env.scope x := by first | exact Or.inl rfl | exact Or.inr rfl) (hf : X.fn x = true ∨ X.env.scope.names.lookup x = some .local := by first | exact .inl rfl | exact .inr rfl | assumption) :
    wB X (.For (.Name x px) (.Call (.Name "range" pr) [na] [] p) a [] pos :: rest) Z σ H :=
  s_cons ⟨_, ps_for hp hcalm (pi_range1 hgr hm pa_w hse) (pg_name hN hi hx hf) pss_w, ha G H (Evl.Ex.refl _) gh _ fun vs G2 H2 n2 hv => by
    obtain ⟨u, rfl, hu⟩ := all1 hv
    cases hu
    have e62 : (n : Int) < 2 ^ 62 := by
      have : (n : Int) ≤ 2 ^ 60 := by exact_mod_cast hn
      omega
    refine ⟨(n : Int), rfl, by omega, e62, ?_⟩
    rw [Int.toNat_natCast]
    refine for_range (lo := 0) (n := n) Pv (h0 G2 H2 n2) (fun k σ' H' hk Pk => ?_) hd
    show wB X a _ (σ'.set i (some (.int (0 + (k : Int))))) H'
    rw [Int.zero_add]
    exact hs k σ' H' hk Pk⟩
end
end DL

/-! M1: ratios as Rat. -/
namespace DL
open PySem
open L2 hiding Dp DpAll
/-- a ratio as data -/
def rd (q : Rat) : D := .tuple [.int q.num, .int (q.den : Int)]
def Sz (n : Nat) (q : Rat) : Prop := q.num.natAbs < 2 ^ n ∧ q.den < 2 ^ n
theorem Sz.mono {m n : Nat} {q : Rat} (h : Sz m q) (l : m ≤ n) : Sz n q :=
  ⟨Nat.lt_of_lt_of_le h.1 (Nat.pow_le_pow_right (by decide) l), Nat.lt_of_lt_of_le h.2 (Nat.pow_le_pow_right (by decide) l)⟩
theorem mulOK {i j : Int} {a b : Nat} (ha : i.natAbs < 2 ^ a) (hb : j.natAbs < 2 ^ b) (h : a + b ≤ 999990) : CMulW i j :=
  wide_mul (a := a + 1) (b := b + 1) (Nat.lt_of_lt_of_le ha (Nat.pow_le_pow_right (by decide) (by omega))) (Nat.lt_of_lt_of_le hb (Nat.pow_le_pow_right (by decide) (by omega))) (by omega) (by omega) (by omega)
theorem divOK {i j : Int} {b : Nat} (h : 0 < j) (hb : j.natAbs < 2 ^ b) (h9 : b ≤ 8990) : CDivW i j := wide_div (b := b + 1) h (Nat.lt_of_lt_of_le hb (Nat.pow_le_pow_right (by decide) (by omega))) (by omega) (by omega)
theorem pow_le {a b : Nat} (h : a ≤ b) : 2 ^ a ≤ 2 ^ b := Nat.pow_le_pow_right (by decide) h
theorem lt_pow {n a b : Nat} (h : n < 2 ^ a) (l : a ≤ b) : n < 2 ^ b := Nat.lt_of_lt_of_le h (pow_le l)
theorem mul_lt {i j : Int} {a b : Nat} (ha : i.natAbs < 2 ^ a) (hb : j.natAbs < 2 ^ b) : (i * j).natAbs < 2 ^ (a + b) := wide_lt ha hb
theorem add_lt {i j : Int} {a b c : Nat} (ha : i.natAbs < 2 ^ a) (hb : j.natAbs < 2 ^ b) (h1 : a < c) (h2 : b < c) : (i + j).natAbs < 2 ^ c := by
  have e : 2 ^ c = 2 ^ (c - 1) + 2 ^ (c - 1) := by
    obtain ⟨d, rfl⟩ : ∃ d, c = d + 1 := ⟨c - 1, by omega⟩
    rw [Nat.pow_succ]; simp only [Nat.add_sub_cancel]; omega
  have h3 : 2 ^ a ≤ 2 ^ (c - 1) := pow_le (by omega)
  have h4 : 2 ^ b ≤ 2 ^ (c - 1) := pow_le (by omega)
  have := Int.natAbs_add_le i j
  omega
theorem neg_lt {i : Int} {a : Nat} (ha : i.natAbs < 2 ^ a) : (-i).natAbs < 2 ^ a := by rw [Int.natAbs_neg]; exact ha
/-- what made makes -/
theorem made_num (n e : Int) (he : e ≠ 0) : (if 0 < e then (1 : Int) else -1) * n / ((Nat.gcd n.natAbs e.natAbs : Nat) : Int) = (Rat.divInt n e).num := by
  rw [Rat.num_divInt]
  have h1 : Int.gcd e n = Nat.gcd n.natAbs e.natAbs := Nat.gcd_comm _ _
  rw [h1]
  have h2 : (if 0 < e then (1 : Int) else -1) = e.sign := by
    split
    · rw [Int.sign_eq_one_of_pos (by assumption)]
    · rw [Int.sign_eq_neg_one_of_neg (by omega)]
  rw [h2]
theorem made_den (n e : Int) (he : e ≠ 0) : (if 0 < e then (1 : Int) else -1) * e / ((Nat.gcd n.natAbs e.natAbs : Nat) : Int) = ((Rat.divInt n e).den : Int) := by
  rw [Rat.den_divInt, if_neg he]
  have h1 : Int.gcd e n = Nat.gcd n.natAbs e.natAbs := Nat.gcd_comm _ _
  rw [h1, Int.natCast_ediv]
  have h2 : (if 0 < e then (1 : Int) else -1) * e = (e.natAbs : Int) := by
    split <;> omega
  rw [h2]
theorem rd_made (n e : Int) (he : e ≠ 0) : (PyData.tuple [.int ((if 0 < e then (1 : Int) else -1) * n / ((Nat.gcd n.natAbs e.natAbs : Nat) : Int)), .int ((if 0 < e then (1 : Int) else -1) * e / ((Nat.gcd n.natAbs e.natAbs : Nat) : Int))]) = rd (Rat.divInt n e) := by
  rw [made_num n e he, made_den n e he]; rfl
theorem den_pos' (q : Rat) : (0 : Int) < (q.den : Int) := by have := q.den_pos; omega
theorem self_divInt (q : Rat) : Rat.divInt q.num (q.den : Int) = q := Rat.num_divInt_den q
theorem add_divInt (a b : Rat) : Rat.divInt (a.num * b.den + b.num * a.den) ((a.den : Int) * b.den) = a + b := by
  rw [Rat.add_def', ← Int.natCast_mul, Rat.divInt_ofNat]
theorem add_same (a b : Rat) (h : a.den = b.den) : Rat.divInt (a.num + b.num) (a.den : Int) = a + b := by
  rw [Rat.divInt_ofNat, Rat.mkRat_eq_div]
  conv => rhs; rw [← Rat.num_divInt_den a, ← Rat.num_divInt_den b, ← h]
  rw [Rat.divInt_ofNat, Rat.divInt_ofNat, Rat.mkRat_eq_div, Rat.mkRat_eq_div, Rat.intCast_add, Rat.div_def, Rat.div_def, Rat.div_def, Rat.add_mul]
theorem mul_divInt (a b : Rat) : Rat.divInt (a.num * b.num) ((a.den : Int) * b.den) = a * b := by
  rw [Rat.mul_def', ← Int.natCast_mul, Rat.divInt_ofNat]
theorem div_divInt (a b : Rat) : Rat.divInt (a.num * b.den) ((a.den : Int) * b.num) = a / b := by
  rw [Rat.div_def, Rat.inv_def]
  conv => rhs; lhs; rw [← Rat.num_divInt_den a]
  rw [Rat.divInt_mul_divInt]
theorem rd_int (n : Int) : rd (n : Rat) = .tuple [.int n, .int 1] := rfl
theorem of_den_one {q : Rat} (h : q.den = 1) : q = (q.num : Rat) := by
  apply Rat.ext
  · rw [Rat.num_intCast]
  · rw [Rat.den_intCast, h]
theorem lt_iff' (a b : Rat) : decide (a.num * b.den < b.num * a.den) = decide (a < b) := by
  by_cases h : a < b
  · rw [decide_eq_true h, decide_eq_true ((Rat.lt_iff a b).mp h)]
  · rw [decide_eq_false h, decide_eq_false (fun z => h ((Rat.lt_iff a b).mpr z))]
theorem is_rd_den (q : Rat) : 0 < (q.den : Int) ∧ Nat.gcd q.num.natAbs q.den = 1 := ⟨den_pos' q, q.reduced⟩
/-- a pair that is least is a ratio -/
theorem rd_of {n : Int} {e : Int} (h : 0 < e) (g : Nat.gcd n.natAbs e.natAbs = 1) : PyData.tuple [.int n, .int e] = rd (Rat.divInt n e) := by
  rw [← rd_made n e (by omega), if_pos h, g]
  simp
/-- any data: is it a ratio? which? -/
def isRatio : D → Bool
  | .tuple [.int n, .int e] => decide (0 < e) && decide (Nat.gcd n.natAbs e.natAbs = 1)
  | _ => false
def qOf : D → Rat
  | .tuple [.int n, .int e] => Rat.divInt n e
  | _ => 0
theorem isRatio_rd (q : Rat) : isRatio (rd q) = true := by
  show (decide (0 < (q.den : Int)) && decide (Nat.gcd q.num.natAbs ((q.den : Int)).natAbs = 1)) = true
  rw [Bool.and_eq_true, decide_eq_true_eq, decide_eq_true_eq]
  exact ⟨den_pos' q, q.reduced⟩
theorem qOf_rd (q : Rat) : qOf (rd q) = q := self_divInt q
theorem rd_qOf {d : D} (h : isRatio d = true) : d = rd (qOf d) := by
  unfold isRatio at h
  split at h
  · rename_i n e
    rw [Bool.and_eq_true, decide_eq_true_eq, decide_eq_true_eq] at h
    exact rd_of h.1 h.2
  · cases h
def SzD (n : Nat) (d : D) : Prop := isRatio d = true → Sz n (qOf d)
theorem SzD.rd {n : Nat} {q : Rat} (h : Sz n q) : SzD n (rd q) := fun _ => by rw [qOf_rd]; exact h
theorem SzD.no {n : Nat} {d : D} (h : isRatio d = false) : SzD n d := fun z => by rw [h] at z; cases z
theorem map_range_getD {α : Type} (xs : List D) (g : D → α) : (List.range xs.length).map (fun i => g (xs.getD i .none)) = xs.map g := by
  apply List.ext_getElem
  · simp
  · intro i h1 h2
    simp at h1 h2
    simp [h2]
end DL

/-! M2: figures as lists of codes. -/
namespace DL
open PySem SX
open L2 hiding Dp DpAll
/-- the figures of a number -/
def dig (n : Nat) : List Nat := (Nat.toDigits 10 n).map Char.toNat
/-- just k figures -/
def pad : Nat → Nat → List Nat
  | 0, _ => []
  | k + 1, n => pad k (n / 10) ++ [48 + n % 10]
theorem pad_len : ∀ (k n : Nat), (pad k n).length = k
  | 0, _ => rfl
  | k + 1, n => by show (pad k (n / 10) ++ [48 + n % 10]).length = k + 1; rw [List.length_append, pad_len k]; rfl
theorem digitChar_code {d : Nat} (h : d < 10) : (Nat.digitChar d).toNat = 48 + d := by
  match d, h with
  | 0, _ => rfl
  | 1, _ => rfl
  | 2, _ => rfl
  | 3, _ => rfl
  | 4, _ => rfl
  | 5, _ => rfl
  | 6, _ => rfl
  | 7, _ => rfl
  | 8, _ => rfl
  | 9, _ => rfl
theorem dig_lt {n : Nat} (h : n < 10) : dig n = [48 + n] := by
  unfold dig; rw [Nat.toDigits_of_lt_base h]
  show [(Nat.digitChar n).toNat] = _
  rw [digitChar_code h]
theorem dig_step {n : Nat} (h : 10 ≤ n) : dig n = dig (n / 10) ++ [48 + n % 10] := by
  unfold dig
  rw [Nat.toDigits_of_base_le (by decide) h, List.map_append]
  show _ ++ [(Nat.digitChar (n % 10)).toNat] = _
  rw [digitChar_code (Nat.mod_lt n (by decide))]
theorem dig_pos (n : Nat) : 0 < (dig n).length := by unfold dig; rw [List.length_map]; exact Nat.length_toDigits_pos
theorem dig_len_le {n k : Nat} (hk : 0 < k) : (dig n).length ≤ k ↔ n < 10 ^ k := by unfold dig; rw [List.length_map]; exact Nat.length_toDigits_le_iff (by decide) hk
theorem dig_split {q : Nat} (hq : 0 < q) : ∀ {k r : Nat}, r < 10 ^ k → dig (q * 10 ^ k + r) = dig q ++ pad k r
  | 0, r, h => by
    have : r = 0 := by simpa using h
    subst this
    show dig (q * 1 + 0) = dig q ++ []
    simp
  | k + 1, r, h => by
    have e : q * 10 ^ (k + 1) + r = 10 * (q * 10 ^ k + r / 10) + r % 10 := by
      have e1 : q * 10 ^ (k + 1) = 10 * (q * 10 ^ k) := by rw [Nat.pow_succ]; grind
      omega
    have hp : 0 < 10 ^ k := Nat.pow_pos (by decide)
    have hq1 : 1 ≤ q * 10 ^ k := Nat.mul_pos hq hp
    have h10 : 10 ≤ q * 10 ^ (k + 1) + r := by omega
    rw [dig_step h10, e]
    have e2 : (10 * (q * 10 ^ k + r / 10) + r % 10) / 10 = q * 10 ^ k + r / 10 := by omega
    have e3 : (10 * (q * 10 ^ k + r / 10) + r % 10) % 10 = r % 10 := by omega
    rw [e2, e3, dig_split hq (k := k) (r := r / 10) (by rw [Nat.pow_succ] at h; omega), List.append_assoc]
    rfl
theorem rep_succ (n : Nat) : List.replicate (n + 1) 48 = 48 :: List.replicate n 48 := rfl
/-- figures with noughts ahead -/
theorem pad_dig : ∀ {k n : Nat}, 0 < k → n < 10 ^ k → pad k n = List.replicate (k - (dig n).length) 48 ++ dig n
  | 1, n, _, h => by
    have h : n < 10 := by simpa using h
    show [] ++ [48 + n % 10] = _
    rw [dig_lt h, Nat.mod_eq_of_lt h]
    rfl
  | k + 2, n, _, h => by
    show pad (k + 1) (n / 10) ++ [48 + n % 10] = _
    have h2 : n / 10 < 10 ^ (k + 1) := by rw [Nat.pow_succ] at h; omega
    rw [pad_dig (Nat.succ_pos k) h2]
    by_cases hn : n < 10
    · have e : n / 10 = 0 := by omega
      rw [e, dig_lt (show 0 < 10 by decide), dig_lt hn, Nat.mod_eq_of_lt hn]
      show List.replicate (k + 1 - 1) 48 ++ [48] ++ [48 + n] = List.replicate (k + 2 - 1) 48 ++ [48 + n]
      rw [show k + 1 - 1 = k by omega, show k + 2 - 1 = k + 1 by omega, List.replicate_succ']
    · rw [dig_step (show 10 ≤ n by omega), List.length_append, List.length_singleton, List.append_assoc]
      rw [show k + 2 - ((dig (n / 10)).length + 1) = k + 1 - (dig (n / 10)).length by omega]
theorem pad_split : ∀ {b : Nat} (a : Nat) (x : Nat) {y : Nat}, y < 10 ^ b → pad (a + b) (x * 10 ^ b + y) = pad a x ++ pad b y
  | 0, a, x, y, h => by
    have : y = 0 := by simpa using h
    subst this
    show pad a (x * 1 + 0) = pad a x ++ []
    simp
  | b + 1, a, x, y, h => by
    show pad (a + b) ((x * 10 ^ (b + 1) + y) / 10) ++ [48 + (x * 10 ^ (b + 1) + y) % 10] = pad a x ++ (pad b (y / 10) ++ [48 + y % 10])
    have e1 : x * 10 ^ (b + 1) = 10 * (x * 10 ^ b) := by rw [Nat.pow_succ]; grind
    have e2 : (x * 10 ^ (b + 1) + y) / 10 = x * 10 ^ b + y / 10 := by omega
    have e3 : (x * 10 ^ (b + 1) + y) % 10 = y % 10 := by omega
    rw [e2, e3, pad_split a x (y := y / 10) (by rw [Nat.pow_succ] at h; omega), List.append_assoc]
theorem str_nat (n : Nat) : (Str.ofString (toString (n : Int))) = S (dig n) := by
  rw [Str.ofString_eq_toList]
  show (⟨((toString n).toList.map Char.toNat).toArray⟩ : Str) = _
  rw [show (toString n) = n.repr from rfl, Nat.toList_repr]
  rfl
theorem str_neg (n : Nat) (h : 0 < n) : (Str.ofString (toString (-(n : Int)))) = S (45 :: dig n) := by
  rw [Str.ofString_eq_toList]
  obtain ⟨m, rfl⟩ : ∃ m, n = m + 1 := ⟨n - 1, by omega⟩
  show (⟨((toString (Int.negSucc m)).toList.map Char.toNat).toArray⟩ : Str) = _
  rw [show (toString (Int.negSucc m)) = "-" ++ (m + 1).repr from rfl, String.toList_append, Nat.toList_repr]
  rfl
/-- how an int is written -/
def digI (i : Int) : List Nat := if i < 0 then 45 :: dig i.natAbs else dig i.natAbs
theorem str_int (i : Int) : (Str.ofString (toString i)) = S (digI i) := by
  unfold digI
  by_cases h : i < 0
  · rw [if_pos h]
    have e : i = -(i.natAbs : Int) := by omega
    conv => lhs; rw [e]
    exact str_neg _ (by omega)
  · rw [if_neg h]
    have e : i = (i.natAbs : Int) := by omega
    conv => lhs; rw [e]
    exact str_nat _
theorem log_small {i : Int} (h : i.natAbs < 2 ^ 1000) : i.natAbs.log2 < 1920 := by
  by_cases h0 : i.natAbs = 0
  · rw [h0]; decide
  · exact Nat.lt_of_lt_of_le ((Nat.log2_lt h0).mpr h) (by decide)
end DL

/-! D3: texts, slices, a list of one's own by name. -/
namespace DL
open PySem PySem.Spec PyProof.Rows SX
open L2 hiding Dp DpAll
section
variable {X : Cx} {σ : L2.St} {G H : Hp} {a b c e : Expr} {es : List Expr} {pos p p2 : Pos} {d : D} {ds : List D} {x : Str} {i j : Int}

/-- '..' * n -/
def rMulS : R2 := fun x y H Q => ∃ s n, x = .str s ∧ y = .int n ∧ MulOk s n ∧ Q (.str (Txt.mul s n)) H
theorem op_mulS : OpR X (binaryOp .Mult) rMulS := by
  intro pins s σ H x y v u Q I rx ry h
  obtain ⟨z, n, rfl, rfl, hc, q⟩ := h
  obtain ⟨t, rfl⟩ := rx
  obtain ⟨k, rfl⟩ := ry
  exact SB.mul hc fun t' k => ⟨.str (Txt.mul z n), H, I.tok k, ⟨t', rfl⟩, q⟩
theorem mul_rep (l : List Nat) (n : Int) : Txt.mul (S l) n = S (List.replicate n.toNat l).flatten := by
  unfold Txt.mul
  by_cases h1 : n < 1
  · rw [if_pos h1, show n.toNat = 0 by omega]; rfl
  · rw [if_neg h1]
    by_cases h2 : (n == 1 || (S l).length == 0) = true
    · rw [if_pos h2]
      rw [Bool.or_eq_true, beq_iff_eq, beq_iff_eq] at h2
      rcases h2 with h2 | h2
      · subst h2; show S l = S (List.replicate 1 l).flatten; simp
      · rw [S_len] at h2
        have : l = [] := List.eq_nil_of_length_eq_zero h2
        subst this
        simp
    · rw [if_neg h2]
      refine TL.ext_tl ?_
      show ((List.replicate n.toNat l.toArray).foldl (· ++ ·) #[]).toList = (List.replicate n.toNat l).flatten
      generalize n.toNat = m
      have key : ∀ (m : Nat) (acc : Array Nat), ((List.replicate m l.toArray).foldl (· ++ ·) acc).toList = acc.toList ++ (List.replicate m l).flatten := by
        intro m
        induction m with
        | zero => intro acc; simp
        | succ m ih => intro acc; rw [List.replicate_succ, List.foldl_cons, ih, List.replicate_succ, List.flatten_cons]; simp
      rw [key]; simp
theorem mulS_ok {l : List Nat} {n : Int} (hl : l.length ≤ 1) (h1 : -(2 ^ 40) ≤ n) (h2 : n ≤ 1000000) : MulOk (S l) n := by
  have hl' : (S l).length ≤ 1 := by rw [S_len]; exact hl
  refine ⟨?_, fun h _ => ?_, fun h _ => ?_⟩
  · have g1 : decide (n < -(2 ^ 63 : Int)) = false := decide_eq_false (by omega)
    have g2 : decide (n ≥ 2 ^ 63) = false := decide_eq_false (by omega)
    rw [g1, g2]; rfl
  · have : (1 : Int) ≤ (2 ^ 63 - 1) / n := (Int.le_ediv_iff_mul_le (by omega)).mpr (by omega)
    omega
  · unfold Builtin.Str.tooLong
    refine decide_eq_false ?_
    have : (S l).length * n.toNat ≤ 1 * n.toNat := Nat.mul_le_mul_right _ hl'
    have hz : (1000000 : Nat) ≤ sizeLine := by decide
    omega
theorem e_mulS {l : List Nat} {n : Int} (ha : E X a σ G (.str (S l))) (hb : E X b σ G (.int n)) (hl : l.length ≤ 1 := by decide) (h1 : -(2 ^ 40) ≤ n) (h2 : n ≤ 1000000) : E X (.BinOp a .Mult b pos) σ G (.str (S (List.replicate n.toNat l).flatten)) :=
  e_op op_mulS ha hb fun u v G1 H1 _ gh hu hv Q k => by
    cases hu; cases hv
    refine ⟨S l, n, rfl, rfl, mulS_ok hl h1 h2, k _ G1 H1 (Nx.refl gh) ?_⟩
    rw [mul_rep]; exact .str _
theorem e_catS {l m : List Nat} (ha : E X a σ G (.str (S l))) (hb : E X b σ G (.str (S m))) (hc : l.length + m.length ≤ 1000000) : E X (.BinOp a .Add b pos) σ G (.str (S (l ++ m))) :=
  e_is (e_addS ha hb (by rw [S_len, S_len]; exact Nat.le_trans hc (by decide))) (by rw [S_cat])
/-- sep.join(a list) -/
theorem e_join {l : List Nat} {ys : List (List Nat)} {apos : Pos} (ha : E X a σ G (.str (S l))) (hb : E X b σ G (.list (ys.map fun y => .str (S y)))) (hz : (ys.map (·.length)).sum + ys.length * l.length ≤ 16777216)
    (hs : starEach [b] X.env = [(false, eval b X.env)] := by rfl) (hbase : attributeBase a "join" X.env (eval a X.env) = eval a X.env := by rfl) (hline : (apos.endLine == pos.line) = true := by rfl) :
    E X (.Call (.Attribute a "join" apos) [b] [] pos) σ G (.str (S (TL.joinL l ys))) := fun G1 H1 g gh Q q =>
  ⟨_, pe_join pe_w pe_w hs hbase hline, ha G1 H1 g gh _ fun u G2 H2 n hu => ⟨⟨_, Dp.str_inv hu⟩, hb G2 H2 (g.trans n.g) n.gh _ fun v G3 H3 n2 hv => by
    obtain ⟨pp, xs, rfl, hl, hx⟩ := Dp.lst_inv hv
    have e1 : (ys.map fun y => PyData.str (S y)) = (ys.map S).map PyData.str := by rw [List.map_map]; rfl
    rw [e1] at hx
    rw [DpAll.strs_inv hx] at hl
    refine ⟨S l, pp, ys.map S, Dp.str_inv hu, rfl, .inl (Evl.ex_l n2.gh hl), ?_, ?_⟩
    · rw [lens, List.length_map, S_len]; exact hz
    · rw [join_S]; exact q _ G3 H3 (n.trans n2) (.str _)⟩⟩
/-- x[::-1] of a list -/
theorem e_revL {k : Nat} {p1 p2 p3 : Pos} (ha : E X a σ G (.list ds)) (hz : ds.length ≤ 100000) : E X (.Subscript a (.Slice none none (some (.UnaryOp .USub (.Constant (.int 1) k p1) p2)) p3) pos) σ G (.list ds.reverse) := fun G1 H1 g gh Q q =>
  ⟨_, pe_revL pe_w, ha G1 H1 g gh _ fun u G2 H2 n hu => by
    obtain ⟨pp, xs, rfl, hl, hx⟩ := Dp.lst_inv hu
    exact ⟨pp, xs, rfl, Evl.ex_l n.gh hl, fun r hr => q _ _ _ (n.trans (Nx.new n.gh hr)) (.lst (Evl.sq_of upd_same) (DpAll.mono (Evl.Ex.new (Evl.fresh_back n.gh hr)) (DpAll.rev hx)))⟩⟩
/-- x[:e], x[e:] of a text, e an int -/
theorem e_slHi {l : List Nat} (ha : E X a σ G (.str (S l))) (hb : E X b σ G (.int i)) (hz : l.length ≤ 1000000) : E X (.Subscript a (.Slice none (some b) none p2) pos) σ G (.str (cutS (S l) none (some i))) := fun G1 H1 g gh Q q =>
  ⟨_, pe_slice sl_str pe_w po_none (po_some pe_w), ha G1 H1 g gh _ fun u G2 H2 n hu => hb G2 H2 (g.trans n.g) n.gh _ fun v G3 H3 n2 hv =>
    ⟨i, Dp.int_inv hv, S l, Dp.str_inv hu, by rw [S_len]; exact Nat.le_trans hz (by decide), q _ G3 H3 (n.trans n2) (.str _)⟩⟩
theorem e_slLo {l : List Nat} (ha : E X a σ G (.str (S l))) (hb : E X b σ G (.int i)) (hz : l.length ≤ 1000000) : E X (.Subscript a (.Slice (some b) none none p2) pos) σ G (.str (cutS (S l) (some i) none)) := fun G1 H1 g gh Q q =>
  ⟨_, pe_slice sl_str pe_w (po_some pe_w) po_none, ha G1 H1 g gh _ fun u G2 H2 n hu => hb G2 H2 (g.trans n.g) n.gh _ fun v G3 H3 n2 hv =>
    ⟨i, Dp.int_inv hv, S l, Dp.str_inv hu, by rw [S_len]; exact Nat.le_trans hz (by decide), q _ G3 H3 (n.trans n2) (.str _)⟩⟩
theorem cut_hi {l : List Nat} {k : Nat} (hk : 0 < k) (h : k ≤ l.length) : cutS (S l) none (some (-(k : Int))) = S (l.take (l.length - k)) := by
  unfold cutS
  rw [S_len]
  show S ((l.drop (HT.sIx l.length 0 none)).take (HT.sIx l.length l.length (some (-(k : Int))) - HT.sIx l.length 0 none)) = _
  have e1 : HT.sIx l.length l.length (some (-(k : Int))) = l.length - k := by
    show (if (-(k : Int)) < 0 then ((-(k : Int)) + (l.length : Int)).toNat else _) = _
    rw [if_pos (by omega)]; omega
  rw [e1]; rfl
theorem cut_lo {l : List Nat} {k : Nat} (hk : 0 < k) (h : k ≤ l.length) : cutS (S l) (some (-(k : Int))) none = S (l.drop (l.length - k)) := by
  unfold cutS
  rw [S_len]
  show S ((l.drop (HT.sIx l.length 0 (some (-(k : Int))))).take (HT.sIx l.length l.length none - HT.sIx l.length 0 (some (-(k : Int))))) = _
  have e1 : HT.sIx l.length 0 (some (-(k : Int))) = l.length - k := by
    show (if (-(k : Int)) < 0 then ((-(k : Int)) + (l.length : Int)).toNat else _) = _
    rw [if_pos (by omega)]; omega
  rw [e1]
  show S ((l.drop (l.length - k)).take (l.length - (l.length - k))) = _
  rw [List.take_of_length_le (by rw [List.length_drop]; omega)]
/-- f'{a}.{b}' -/
theorem e_f3 {l m n : List Nat} {j : Nat} {q1 q2 q3 : Pos} (ha : E X a σ G (.str (S l))) (hb : E X b σ G (.str (S n))) (hz : l.length + m.length + n.length ≤ 1000000) :
    E X (.JoinedStr [.FormattedValue a (-1) none q1, .Constant (.str (S m)) j q2, .FormattedValue b (-1) none q3] pos) σ G (.str (S (l ++ m ++ n))) := fun G1 H1 g gh Q q => by
  have z : (1000000 : Nat) ≤ sizeLine := by decide
  have e0 : Str.empty ++ S l = S l := by show S [] ++ S l = S l; rw [S_cat]; rfl
  refine ⟨_, pe_joined (.cons (pe_fmt pe_w) (.cons pe_str (.cons (pe_fmt pe_w) .nil))), ha G1 H1 g gh _ fun u G2 H2 n2 hu => .inl ⟨S l, Dp.str_inv hu, by rw [S_len]; omega, S l, rfl, ?_⟩⟩
  rw [e0]
  refine ⟨by rw [S_len]; omega, S m, rfl, ?_⟩
  rw [S_cat]
  refine ⟨by rw [S_len, List.length_append]; omega, hb G2 H2 (g.trans n2.g) n2.gh _ fun v G3 H3 n3 hv => .inl ⟨S n, Dp.str_inv hv, by rw [S_len]; omega, S n, rfl, ?_⟩⟩
  rw [S_cat]
  exact ⟨by rw [S_len, List.length_append, List.length_append]; omega, q _ G3 H3 (n2.trans n3) (.str _)⟩
theorem e_lenL {l : List Nat} (hm : X.mg "len" = Option.none) (ha : E X a σ G (.str (S l))) (hz : l.length ≤ 1000000) (hg : Gl X "len" := by rfl) (he : starEach [a] X.env = (false, eval a X.env) :: starEach [] X.env := by rfl) (hpl : (backTo pos (starEach [] X.env)).any (·.1) = false := by rfl) :
    E X (.Call (.Name "len" p) [a] [] pos) σ G (.int (l.length : Int)) :=
  e_is (e_lenS hm ha (by rw [S_len]; exact Nat.le_trans hz (by decide)) hg he hpl) (by rw [S_len])
/-- text == text -/
theorem e_eqS {l m : List Nat} (ha : E X a σ G (.str (S l))) (hb : E X b σ G (.str (S m))) : E X (.Compare a [.Eq] [b] pos) σ G (.bool (decide (l = m))) :=
  e_is (e_eq ha hb rfl rfl rfl) (by
    show PyData.bool (decide (V.str (S l) = V.str (S m))) = _
    by_cases h : l = m
    · subst h; simp
    · have : ¬ V.str (S l) = V.str (S m) := fun z => h (S_inj (V.str.inj z))
      rw [decide_eq_false h, decide_eq_false this])
/-- is, of truth values -/
theorem t_isB {k l : Bool} (ha : E X a σ G (.bool k)) (hb : E X b σ G (.bool l)) (hm : behindInMarks .Is b = false := by rfl) : T X (.Compare a [.Is] [b] pos) σ G (decide (k = l)) :=
  t_cmp op_isBl hm ha hb fun u v G1 H1 _ _ hu hv Q q => ⟨k, l, Dp.bl_inv hu, Dp.bl_inv hv, q⟩
theorem t_notB {k l : Bool} (ha : E X a σ G (.bool k)) (hb : E X b σ G (.bool l)) (hm : behindInMarks .IsNot b = false := by rfl) : T X (.Compare a [.IsNot] [b] pos) σ G (!decide (k = l)) :=
  t_cmp op_notBl hm ha hb fun u v G1 H1 _ _ hu hv Q q => ⟨k, l, Dp.bl_inv hu, Dp.bl_inv hv, q⟩
end
end DL

/-! D4: strike-out of a sign, a list of one's own by name, list(reversed(..)). -/
namespace DL
open PySem PySem.Spec PyProof.Rows SX
open L2 hiding Dp DpAll
section
variable {X : Cx} {σ : L2.St} {G H : Hp} {a b c e o : Expr} {es : List Expr} {pos p p0 p1 p2 pc pc2 : Pos} {d : D} {ds : List D} {x : Str} {i j : Int} {ta tb to : TE} {m : Str} {n n2 : Nat}

/-! ### x == '0' and y.replace('0', '') == '' -/
def tEqS (m : Str) (ta : TE) : TE := fun σ H Q => ta σ H fun x H1 => ∃ l, x = .str l ∧ Q (.bl (decide (V.str l = V.str m))) H1
theorem pet_eqC (ho : PET X o to) : PET X (.Compare o [.Eq] [.Constant (.str m) n pc] p1) (tEqS m to) := by
  intro pins s σ H Q h0 I h
  refine wpAny_Compare1 (thn (ho pins s σ H _ h0 I h) fun v s1 ⟨x, H1, I1, r1, l, e1, q1⟩ => ?_) (nomark _)
  subst e1
  obtain ⟨t, rfl⟩ := r1
  refine Calls.Constant_str ?_
  exact op_eq pins { s1 with toks := s1.toks + 1 } σ H1 (.str l) (.str m) _ _ Q (I1.tok _) ⟨t, rfl⟩ ⟨s1.toks, rfl⟩ ⟨rfl, q1⟩
theorem pe_andS (ha : PE X a ta) (hb : PET X b tb) : PE X (.BoolOp .And [.Compare a [.Eq] [.Constant (.str m) n pc] p1, b] p0) (tAndV (tEqS m ta) tb) := by
  refine ⟨fun pins s σ H Q I h => ?_⟩
  refine BoolOp_and (wpAny_Compare1 (thn (ha.run pins s σ H _ I h) fun v s1 ⟨x, H1, I1, r1, l, e1, q1⟩ => ?_) (nomark _))
  subst e1
  obtain ⟨t, rfl⟩ := r1
  refine Calls.Constant_str ?_
  refine wpAny_mono (PySem.wpAny_toks (op_eq pins { s1 with toks := s1.toks + 1 } σ H1 (.str l) (.str m) _ _ (fun x H1 => ∃ c, x = V.bl c ∧ if c = true then tb σ H1 Q else Q (V.bl false) H1) (I1.tok _) ⟨t, rfl⟩ ⟨s1.toks, rfl⟩ ⟨rfl, q1⟩)) (fun w s2 q => ?_) fun _ _ x => x.2
  obtain ⟨hk, z, H2, I2, r2, c, rfl, q⟩ := q
  cases r2
  have hk : 1 ≤ s2.toks := Nat.le_trans (Nat.le_add_left 1 s1.toks) hk
  refine wpAny_truthy_bool ?_
  cases hc : c with
  | true => rw [hc] at q; exact BoolOp_one (hb pins s2 σ H2 Q hk I2 q)
  | false => rw [hc] at q; exact ⟨.bl false, H2, I2, rfl, q⟩
theorem strike_S (l : List Nat) (c : Nat) : Txt.replace (S l) (S [c]) (S []) = S (l.filter (· != c)) := TL.ext_tl (replace_strikes (S l) c)
theorem e_nothing {l m : List Nat} {c : Nat} {apos pos c0 c1 pc pc2 : Pos} {j0 j1 : Nat} (ha : E X a σ G (.str (S l))) (ho : E X o σ G (.str (S m))) (hz : m.length ≤ 100000) (hyz : ((S [c] : Str) == (S [] : Str)) = false := by decide)
    (hst : starEach [.Constant (.str (S [c])) j0 c0, .Constant (.str (S [])) j1 c1] X.env = [(false, eval (.Constant (.str (S [c])) j0 c0) X.env), (false, eval (.Constant (.str (S [])) j1 c1) X.env)] := by rfl)
    (hbase : attributeBase o "replace" X.env (eval o X.env) = eval o X.env := by rfl) (hline : (apos.endLine == pos.line) = true := by rfl) :
    E X (.BoolOp .And [.Compare a [.Eq] [.Constant (.str (S [c])) n pc] p1, .Compare (.Call (.Attribute o "replace" apos) [.Constant (.str (S [c])) j0 c0, .Constant (.str (S [])) j1 c1] [] pos) [.Eq] [.Constant (.str (S [])) n2 pc2] p2] p0) σ G (.bool (decide (l = [c]) && decide (m.filter (· != c) = []))) := fun G1 H1 g gh Q q =>
  ⟨_, pe_andS pe_w (pet_eqC (CwR.pet_replC (X := X) pe_w hyz hst hbase hline)), ha G1 H1 g gh _ fun u G2 H2 n hu => by
    have eqS : ∀ x y : List Nat, decide (V.str (S x) = V.str (S y)) = decide (x = y) := fun x y => by
      by_cases h : x = y
      · subst h; simp
      · have : ¬ V.str (S x) = V.str (S y) := fun z => h (S_inj (V.str.inj z))
        rw [decide_eq_false h, decide_eq_false this]
    refine ⟨S l, Dp.str_inv hu, decide (l = [c]), by rw [eqS], ?_⟩
    by_cases hl : l = [c]
    · rw [decide_eq_true hl]
      refine iteT (ho G2 H2 (g.trans n.g) n.gh _ fun v G3 H3 n2 hv => ⟨S m, Dp.str_inv hv, ?_, _, rfl, ?_⟩)
      · rw [S_len, S_len]; simp; omega
      · rw [strike_S, eqS]
        rw [decide_eq_true hl] at q
        exact q _ G3 H3 (n.trans n2) (.bl _)
    · rw [decide_eq_false hl]
      refine iteF ?_
      rw [decide_eq_false hl] at q
      exact q _ G2 H2 n (.bl _)⟩

/-! ### a list of one's own, by name -/
/-- x, y = [], e -/
theorem s_parL (i j : Nat) {y : Str} {e2 : Expr} {d2 : D} {rest : List Stmt} {Z : Ends} {px py pt pt2 pl : Pos} {kt k2 : _} (hcalm : X.calm = true) (hN : X.N.Nodup) (ha : E X e2 σ G d2) (gh : Ex G H) (q : ∀ l v G' H', Lcl G H l G' H' [] → Dp X.K G' v d2 → wB X rest Z ((σ.set i (some (.ref l))).set j (some v)) H')
    (hi : X.N[i]? = some x := by rfl) (hj : X.N[j]? = some y := by rfl) (hij : i ≠ j := by decide) (hx : X.env.scope.names.lookup x = some .local := by rfl) (hy : X.env.scope.names.lookup y = some .local := by rfl)
    (hw : swappedStores [.Tuple [.Name x px, .Name y py] kt pt] (.Tuple [.List [] pl, e2] k2 pt2) X.env = pure (some [x, y]) := by rfl)
    (hs : swapsWithSole [.Tuple [.Name x px, .Name y py] kt pt] (.Tuple [.List [] pl, e2] k2 pt2) pos.line X.env = pure false := by rfl)
    (hs1 : starEach [.List [] pl, e2] X.env = (false, eval (.List [] pl) X.env) :: starEach [e2] X.env := by rfl) (hs2 : starEach [e2] X.env = (false, eval e2 X.env) :: starEach [] X.env := by rfl) :
    wB X (.Assign [.Tuple [.Name x px, .Name y py] kt pt] (.Tuple [.List [] pl, e2] k2 pt2) pos :: rest) Z σ H :=
  s_cons ⟨_, ps_par hcalm hN hi hj hij hx hy (pa_cons (pe_lst pa_nil) (pa_cons pe_w pa_nil hs2) hs1) hw hs, ⟨Nat.zero_le _, fun l hl => ha G (upd H l (.lst [])) (Evl.Ex.refl _) (gh.trans (Evl.Ex.new hl)) _ fun v G' H' n hv =>
    ⟨.ref l, v, rfl, q l v G' H' ((Lcl.start gh hl).step n) hv⟩⟩⟩
/-- x = [] -/
theorem s_setL (i : Nat) {rest : List Stmt} {Z : Ends} {pos' pl : Pos} (gh : Ex G H) (hN : X.N.Nodup) (q : ∀ l H', Lcl G H l G H' [] → wB X rest Z (σ.set i (some (.ref l))) H') (hi : X.N[i]? = some x := by rfl) (hx : L2.Loc X.env.scope x := by first | exact Or.inl rfl | exact Or.inr rfl)
    (hs : swapsWith (.List [] pl) (some (.Name x pos')) pos.line X.env = pure false := by rfl) (hf : X.fn x = true ∨ X.env.scope.names.lookup x = some .local := by first | exact .inl rfl | exact .inr rfl | assumption) : wB X (.Assign [.Name x pos'] (.List [] pl) pos :: rest) Z σ H :=
  s_cons ⟨_, ps_set hN hi hx (pe_lst pa_nil) hs hf, ⟨Nat.zero_le _, fun l hl => q l (upd H l (.lst [])) (Lcl.start gh hl)⟩⟩
/-- x.append(e) -/
theorem s_app (i : Nat) {l : Addr} {G0 H0 : Hp} {vs : List V} {rest : List Stmt} {Z : Ends} {pe apos pos' : Pos} (L : Lcl G0 H0 l G H vs) (hσ : σ[i]? = some (some (.ref l))) (ha : E X e σ G d) (hz : vs.length ≤ 90000)
    (q : ∀ v G' H', Ex G G' → Lcl G0 H0 l G' H' (vs ++ [v]) → Dp X.K G' v d → wB X rest Z σ H')
    (hN : X.N[i]? = some x := by rfl) (hv : Vis X.env.scope x := by first | exact Or.inl rfl | exact Or.inr (Or.inl rfl) | exact Or.inr (Or.inr rfl)) (h1 : (x == ("__debug__" : Str)) = false := by decide) (h2 : (x == ("__classdict__" : Str)) = false := by decide)
    (hs : swapsWith (.Call (.Attribute (.Name x pe) "append" apos) [e] [] pos') Option.none pos.line X.env = pure false := by rfl)
    (hbase : attributeBase (.Name x pe) "append" X.env (eval (.Name x pe) X.env) = eval (.Name x pe) X.env := by rfl)
    (hfew : ((backTo pos' (starEach [e] X.env)).all (fun x => !x.1) && (backToKw pos' (keywordEach [] X.env)).all (fun x => x.1.isSome)
      && decide (([e] : List Expr).length + ([] : List Keyword).length + (if ([] : List Keyword).isEmpty then 0 else 1) < 30)) = true := by rfl)
    (hline : (apos.endLine == pos'.line) = true := by rfl) (hst : starEach [e] X.env = (false, eval e X.env) :: starEach [] X.env := by rfl) (hplain : (backTo pos' (starEach [] X.env)).any (·.1) = false := by rfl) :
    wB X (.Expr (.Call (.Attribute (.Name x pe) "append" apos) [e] [] pos') pos :: rest) Z σ H :=
  s_cons ⟨_, ps_expr (pe_bm PySem.F.plainAttrs_list PySem.F.slot_list_append PySem.F.type_list_append mt_append (pe_var hN hv h1 h2) (pa_cons pe_w pa_nil hst) hbase hfew hline hst hplain) hs,
    ⟨.ref l, hσ, .inl ⟨rfl, vs, .inl (.inl L.hl)⟩, ha G H (Evl.Ex.refl _) L.gh _ fun v G' H' n hv' =>
      ⟨l, vs, v, rfl, rfl, (L.step n).hl, Evl.sz_lt (by omega), q v G' _ n.g (L.step n).put hv'⟩⟩⟩
/-- x //= e -/
theorem s_idiv (i : Nat) {rest : List Stmt} {Z : Ends} {k j : Int} {pos' : Pos} (hσ : σ[i]? = some (some (.int k))) (ha : E X e σ G (.int j)) (gh : Ex G H) (hc : CDivW k j) (hN : X.N.Nodup)
    (q : ∀ G' H', Nx G H G' H' → wB X rest Z (σ.set i (some (.int (k / j)))) H') (hi : X.N[i]? = some x := by rfl) (hx : L2.Loc X.env.scope x := by first | exact Or.inl rfl | exact Or.inr rfl)
    (hf : X.fn x = true ∨ X.env.scope.names.lookup x = some .local := by first | exact .inl rfl | exact .inr rfl | assumption) : wB X (.AugAssign (.Name x pos') .FloorDiv e pos :: rest) Z σ H :=
  s_cons ⟨_, ps_aug hN hi hx pe_w (iop_fdivW (X := X)) hf, ⟨.int k, hσ, ha G H (Evl.Ex.refl _) gh _ fun v G' H' n hv => ⟨k, j, rfl, Dp.int_inv hv, hc, q G' H' n⟩⟩⟩
end
end DL

/-! D5: list(reversed(x)); x + y, x * n of lists. -/
namespace DL
open PySem PySem.Spec PyProof.Rows SX RT
open L2 hiding Dp DpAll
section
variable {prog : Program} {w : World} {A : Around} {E : Value → Shared → Prop} {s : Shared}
/-- list(it), it = reversed(list) -/
theorem call_list_rev {it l : Addr} {items : Array Value} {Q : Value → Shared → Prop} (hh : A.handled = none) (hit : s.heap.IsRevIter it l ((items.size : Int) - 1)) (hl : s.heap.IsList l items) (hne : l ≠ it) (hn : items.size ≤ sizeLine)
    (hQ : ∀ (h' : Heap) (tk : Nat) (acc : Array Value) (c' : Nat), (∀ b o, b ≠ it → s.heap.get? b = some o → h'.get? b = some o) → h'.get? s.heap.objs.size = some { cls := .type "list", dict := none, data := .seq acc c', slots := #[] } →
      ItemsOf (fun i v => items[items.size - 1 - i]? = some v) acc items.size → Q (.ref s.heap.objs.size) { s with heap := h', toks := tk }) :
    wpAny (model prog w) A (call (.type "list") [.ref it]) Q E s := by
  have W := (Walks.listRev (prog := prog) (w := w) (A := A.in1.in1) hh it l hne items).toS
  obtain ⟨oi, hoi, _⟩ := id hit
  obtain ⟨ol, hol, _⟩ := id hl
  have hSi : s.heap.objs.size ≠ it := Nat.ne_of_gt (Heap.lt_size hoi)
  have hSl : s.heap.objs.size ≠ l := Nat.ne_of_gt (Heap.lt_size hol)
  have hSf : s.heap.objs.size ∉ [it, l] := by simp only [List.mem_cons, List.not_mem_nil, or_false, not_or]; exact ⟨hSi, hSl⟩
  refine callType_codes (Q₁ := fun obj s₁ => obj = .ref s.heap.objs.size ∧ s₁ = { s with heap := s.heap.push { cls := .type "list", data := .seq #[] } }) PySem.F.called_list (PySem.F.typeCall_list_1 _) PySem.F.entry_list_init
    (code_list_new _ ⟨rfl, rfl⟩) fun obj s₁ h₁ => ?_
  obtain ⟨rfl, rfl⟩ := h₁
  have hS : (s.heap.push { cls := .type "list", data := .seq #[] }).get? s.heap.objs.size = some { cls := .type "list", data := .seq #[] } := Heap.get?_push_size _ rfl
  refine ⟨⟨_, hS, rfl⟩, PySem.F.args_list_init_2 _ _, ?_⟩
  show wpAny _ A.in1.in1 (do let old ← Builtin.List.listItems (.ref s.heap.objs.size); Builtin.List.listUpdate (.ref s.heap.objs.size) (fun _ => #[]); letGo old.toList.reverse; Builtin.List.listExtendWith (.ref s.heap.objs.size) (.ref it) .none) _ _ _
  refine wpAny_bind ?_
  unfold Builtin.List.listItems
  refine wpAny_bind (wpAny_seqItems hS rfl (wpAny_pure ?_))
  show wpAny _ A.in1.in1 (updateSeq s.heap.objs.size (fun _ => #[]) >>= fun _ => letGo (#[] : Array Value).toList.reverse >>= fun _ => Builtin.List.listExtendWith (.ref s.heap.objs.size) (.ref it) .none) _ _ _
  refine wpAny_bind (wpAny_updateSeq hS rfl ?_)
  have hS₂ := Heap.get?_update_self (Obj.mapSeq (fun _ => (#[] : Array Value))) hS rfl
  have oth : ∀ b o, s.heap.get? b = some o → ((s.heap.push { cls := .type "list", data := .seq #[] }).update s.heap.objs.size (Obj.mapSeq (fun _ => (#[] : Array Value)))).get? b = some o :=
    fun b o e => (Heap.get?_update_other _ _ (Nat.ne_of_gt (Heap.lt_size e))).trans (Heap.get?_push_of_some _ e)
  refine wpAny_bind (wpAny_letGo ?_)
  have hit1 : ((s.heap.push { cls := .type "list", data := .seq #[] }).update s.heap.objs.size (Obj.mapSeq (fun _ => (#[] : Array Value)))).IsRevIter it l ((items.size : Int) - 1) := hit.at fun o e => oth _ _ e
  have hl1 : ((s.heap.push { cls := .type "list", data := .seq #[] }).update s.heap.objs.size (Obj.mapSeq (fun _ => (#[] : Array Value)))).IsList l items := hl.at fun o e => oth _ _ e
  have hT : ({ s with heap := (s.heap.push { cls := .type "list", data := .seq #[] }).update s.heap.objs.size (Obj.mapSeq (fun _ => (#[] : Array Value))) } : Shared).TypeIs (.ref it) "list_reverseiterator" :=
    Heap.IsRevIter.typeIs (s := { s with heap := (s.heap.push { cls := .type "list", data := .seq #[] }).update s.heap.objs.size (Obj.mapSeq (fun _ => (#[] : Array Value))) }) hit1
  have h1 : Builtin.List.listSameRef (.ref s.heap.objs.size) (.ref it) = false := by simp [Builtin.List.listSameRef, hSi]
  unfold Builtin.List.listExtendWith
  refine wpAny_bind (wpAny_typeOf hT ?_)
  rw [if_neg (by rw [h1]; decide)]
  refine wpAny_bind (wpAny_pyIter_revIter (s := { s with heap := (s.heap.push { cls := .type "list", data := .seq #[] }).update s.heap.objs.size (Obj.mapSeq (fun _ => (#[] : Array Value))) }) hit1 ?_)
  refine wpAny_bind (wpAny_holding ?_)
  unfold Builtin.List.listLengthHint
  refine wpAny_bind (wpAny_specialOf hT nolen_lri ?_)
  show wpAny _ _ (specialOf (Value.ref it) (Str.ofString "__length_hint__") >>= _) _ _ _
  refine wpAny_bind (wpAny_specialOf hT hint_lri ?_)
  generalize hid : ("list_reverseiterator.__length_hint__" : String) = id0
  wp_delta
  rw [show splitId id0 = some ("list_reverseiterator", "__length_hint__") from by subst hid; decide +kernel]
  subst hid
  refine wpAny_bind (wpAny_isInstance (b := true) hT (by rw [isSubtype_type]; kernel_rfl) ?_)
  refine wpAny_pure ?_
  rw [if_neg (by decide)]
  have e0 : ((items.size : Nat) : Int) - 1 - ((0 : Nat) : Int) = (items.size : Int) - 1 := by omega
  refine wpAny_pure ⟨plainId_quiet F.plain_extend_loop _, codeAny_extend_loopS W hn _ hSf _ items.size 0 _ _ _ rfl (Nat.zero_le _) ⟨Nat.zero_le _, by rw [e0]; exact hit1, hl1⟩ hS₂ (ItemsOf.nil _) fun s' acc' c' hm hS' hacc => ?_⟩
  rw [Moved.eq_with hm]
  refine ⟨rfl, hQ s'.heap s'.toks acc' c' (fun b o hb e => hm.heap b o (fun hmem => ?_) (oth b o e)) hS' hacc⟩
  rcases List.mem_cons.mp hmem with e' | hmem
  · exact absurd (Heap.lt_size e) (by rw [e']; exact Nat.lt_irrefl _)
  · exact hb (List.mem_singleton.mp hmem)
end
def tListRev (K : PySem.W.Frag) (te : TE) : TE := fun σ H Q => te σ H fun v H1 => ∃ (a : Addr) (xs : List V), v = .ref a ∧ SqL K H1 a xs ∧ ∀ q, H1 q = none → Q (.ref q) (upd H1 q (.lst xs.reverse))
section
variable {X : Cx}
theorem pe_listRev {e : Expr} {te : TE} {p p2 pos pos2 : Pos} (hc : X.calm = true) (hg : Gl X "list") (hm : X.mg "list" = none) (hg2 : Gl X "reversed") (hm2 : X.mg "reversed" = none) (he : PE X e te)
    (hs : starEach [e] X.env = (false, eval e X.env) :: starEach [] X.env := by rfl)
    (hs2 : starEach [.Call (.Name "reversed" p2) [e] [] pos2] X.env = (false, eval (.Call (.Name "reversed" p2) [e] [] pos2) X.env) :: starEach [] X.env := by rfl) :
    PE X (.Call (.Name "list" p) [.Call (.Name "reversed" p2) [e] [] pos2] [] pos) (tListRev X.K te) := by
  refine ⟨fun pins s σ H Q I h => ?_⟩
  refine Call_ (ld_blt I hg hm boot_list (PyProof.Rows.callWith_type1 (args_cons (Call_ (ld_blt I hg2 hm2 PyProof.Rows.boot_reversed (PyProof.Rows.callWith_type1 (args_cons (thn (he.run pins s σ H _ I h) fun u s1 ⟨v, H1, I1, r1, q1⟩ => args_nil ?_) hs) hs rfl))) hs2) hs2 rfl))
  obtain ⟨a, xs, ev, hq, q⟩ := q1
  subst ev
  obtain rfl : u = Value.ref a := r1
  obtain ⟨its, rv, p', hz⟩ := I1.list hq
  refine call_reversed_list p'.isList (args_nil ?_)
  have hl := p'.isList
  obtain ⟨ol, hol, _⟩ := id hl
  have hne : a ≠ s1.heap.objs.size := Nat.ne_of_lt (Heap.lt_size hol)
  have hn : its.toArray.size ≤ sizeLine := by rw [List.size_toArray, ← rv.length]; exact hz
  refine call_list_rev (s := { s1 with heap := s1.heap.push (revObj a ((its.toArray.size : Int) - 1)) }) (I1.ok.hd hc) ⟨_, Heap.get?_push_size _ rfl, rfl, rfl⟩ (hl.push _) hne hn fun h' tk acc c' hk hS hi => ?_
  have k1 : ∀ b u, s1.heap.get? b = some u → h'.get? b = some u := fun b u e => hk b u (Nat.ne_of_lt (Heap.lt_size e)) (Heap.get?_push_of_some _ e)
  have hle : s1.heap.objs.size ≤ (s1.heap.push (revObj a ((its.toArray.size : Int) - 1))).objs.size := by
    show s1.heap.objs.size ≤ (s1.heap.objs.push _).size
    rw [Array.size_push]; omega
  refine ⟨.ref _, upd H1 _ (.lst xs.reverse), I1.laid (t' := tk) k1 hle (show ObjOk X.prog X.w _ _ _ (.lst xs.reverse) from ⟨by rw [List.length_reverse]; exact hz, acc.toList, c', vals_rev rv hi, ?_⟩), rfl, q _ (I1.hok.fresh hle)⟩
  rw [Array.toArray_toList]
  exact hS
end
section
variable {X : Cx} {σ : L2.St} {G H : Hp} {a b c e o : Expr} {pos p p0 p1 p2 : Pos} {ds es : List D} {n : Int}
/-- list + list -/
def rCatS (K : PySem.W.Frag) : R2 := fun x y H Q => ∃ l b xs zs, x = .ref l ∧ y = .ref b ∧ SqL K H l xs ∧ SqL K H b zs ∧ xs.length + zs.length ≤ sizeLine ∧ ∀ p, H p = none → Q (.ref p) (upd H p (.lst (xs ++ zs)))
theorem op_catS : OpR X (binaryOp .Add) (rCatS X.K) := by
  intro pins s σ H x y v u Q I rx ry h
  obtain ⟨l, b, xs, zs, rfl, rfl, hl, hb, hz, q⟩ := h
  cases rx
  cases ry
  obtain ⟨its, r1, p1, _⟩ := I.list hl
  obtain ⟨its2, r2, p2, _⟩ := I.list hb
  obtain ⟨⟨cls, dd, data, sl⟩, ho, hc, n, hd⟩ := p1.isList
  obtain ⟨⟨cls2, dd2, data2, sl2⟩, ho2, hc2, n2, hd2⟩ := p2.isList
  simp only at hc hd hc2 hd2
  subst hc hd hc2 hd2
  have e : its.toArray ++ its2.toArray = (its ++ its2).toArray := by simp
  refine concat_meets ⟨_, ho, rfl⟩ ⟨_, ho2, rfl⟩ noFill_list_add seq_list_add PySem.F.slot_list_add PySem.F.entry_list_add (PySem.F.args_list_add_2 _ _) (list_addW l b its.toArray its2.toArray n n2 dd dd2 sl sl2 (by rw [List.size_toArray, List.size_toArray, ← r1.length, ← r2.length]; exact hz)) ⟨ho, ho2, ?_⟩
  rw [e]
  exact ⟨.ref _, _, I.lnew (t' := s.toks) (r1.append r2) (by rw [List.length_append]; omega), rfl, q _ I.fresh⟩
theorem e_catL (ha : E X a σ G (.list ds)) (hb : E X b σ G (.list es)) (hz : ds.length + es.length ≤ 90000) : E X (.BinOp a .Add b pos) σ G (.list (ds ++ es)) :=
  e_op op_catS ha hb fun u v G1 H1 _ gh hu hv Q k => by
    obtain ⟨l, xs, rfl, hl, hx⟩ := Dp.lst_inv hu
    obtain ⟨m, ys, rfl, hm, hy⟩ := Dp.lst_inv hv
    refine ⟨l, m, xs, ys, rfl, rfl, Evl.ex_l gh hl, Evl.ex_l gh hm, by rw [DpAll.len hx, DpAll.len hy]; exact Evl.sz_of (by omega), fun r hr => k _ _ _ (Nx.new gh hr) (.lst (Evl.sq_of upd_same) ?_)⟩
    exact DpAll.append (DpAll.mono (Evl.Ex.new (Evl.fresh_back gh hr)) hx) (DpAll.mono (Evl.Ex.new (Evl.fresh_back gh hr)) hy)
theorem dp_rep {K : PySem.W.Frag} {H : Hp} {vs : List V} {ds : List D} (h : DpAll K H vs ds) : ∀ n : Nat, DpAll K H (List.replicate n vs).flatten (List.replicate n ds).flatten
  | 0 => .nil
  | n + 1 => by
    rw [List.replicate_succ, List.replicate_succ, List.flatten_cons, List.flatten_cons]
    exact DpAll.append h (dp_rep h n)
/-- [..] * n -/
theorem e_repL {ns : List Expr} (ha : A X ns σ G ds) (hb : E X b σ G (.int n)) (hn : n ≤ 1000) (hn0 : 0 ≤ n) (hd : ds.length ≤ 10) : E X (.BinOp (.List ns p) .Mult b pos) σ G (.list (List.replicate n.toNat ds).flatten) := fun G1 H1 g gh Q q =>
  ⟨_, pe_op op_rep (pe_lst pa_w) pe_w, ha G1 H1 g gh _ fun vs G2 H2 n2 hv => ⟨by rw [DpAll.len hv]; exact Evl.sz_of (by omega), fun r hr => by
    have nn := Nx.new (o := .lst vs) n2.gh hr
    refine hb _ _ ((g.trans n2.g).trans nn.g) nn.gh _ fun v G3 H3 n3 hw => ⟨r, n, vs, rfl, Dp.int_inv hw, n3.h _ _ upd_same, by omega, by omega, ?_, fun t ht => ?_⟩
    · rw [DpAll.len hv]
      have : ds.length * n.toNat ≤ 10 * 1000 := Nat.mul_le_mul hd (by omega)
      exact Evl.sz_of (by omega)
    · refine q _ _ _ (((n2.trans nn).trans n3).trans (Nx.new n3.gh ht)) (.lst (Evl.sq_of upd_same) ?_)
      exact DpAll.mono (Evl.Ex.new (Evl.fresh_back n3.gh ht)) (dp_rep (DpAll.mono n3.g (DpAll.mono nn.g hv)) _)⟩⟩
end
end DL

/-! D6: written texts by their codes. -/
namespace DL
open PySem PySem.Spec PyProof.Rows SX
open L2 hiding Dp DpAll
section
variable {X : Cx} {σ : L2.St} {G H : Hp} {a b c e o : Expr} {pos p p0 p1 p2 : Pos} {ds es : List D} {n n2 : Nat}
theorem e_strC {s : Str} (l : List Nat) (h : s = S l := by decide +kernel) : E X (.Constant (.str s) n pos) σ G (.str (S l)) := e_is e_str (by rw [h])
theorem e_strN {i : Int} (hm : X.mg "str" = Option.none) (ha : E X a σ G (.int i)) (hz : i.natAbs < 2 ^ 1000) (hg : Gl X "str" := by rfl) (he : starEach [a] X.env = (false, eval a X.env) :: starEach [] X.env := by rfl) (hpl : (backTo pos (starEach [] X.env)).any (·.1) = false := by rfl) :
    E X (.Call (.Name "str" p) [a] [] pos) σ G (.str (S (digI i))) := e_is (e_strI hm ha (log_small hz) hg he hpl) (by rw [str_int])
theorem e_f3' {sm : Str} {l m k : List Nat} {j : Nat} {q1 q2 q3 : Pos} (ha : E X a σ G (.str (S l))) (hb : E X b σ G (.str (S k))) (hz : l.length + m.length + k.length ≤ 1000000) (hm : sm = S m := by decide +kernel) :
    E X (.JoinedStr [.FormattedValue a (-1) none q1, .Constant (.str sm) j q2, .FormattedValue b (-1) none q3] pos) σ G (.str (S (l ++ m ++ k))) := by
  subst hm; exact e_f3 ha hb hz
theorem e_nothing' {s0 s1 s2 s3 : Str} {l m : List Nat} {c : Nat} {apos pos c0 c1 pc pc2 : Pos} {j0 j1 : Nat} (ha : E X a σ G (.str (S l))) (ho : E X o σ G (.str (S m))) (hz : m.length ≤ 100000) (hyz : ((S [c] : Str) == (S [] : Str)) = false := by decide)
    (h0 : s0 = S [c] := by decide +kernel) (h1 : s1 = S [c] := by decide +kernel) (h2 : s2 = S [] := by decide +kernel) (h3 : s3 = S [] := by decide +kernel)
    (hst : starEach [.Constant (.str s1) j0 c0, .Constant (.str s2) j1 c1] X.env = [(false, eval (.Constant (.str s1) j0 c0) X.env), (false, eval (.Constant (.str s2) j1 c1) X.env)] := by rfl)
    (hbase : attributeBase o "replace" X.env (eval o X.env) = eval o X.env := by rfl) (hline : (apos.endLine == pos.line) = true := by rfl) :
    E X (.BoolOp .And [.Compare a [.Eq] [.Constant (.str s0) n pc] p1, .Compare (.Call (.Attribute o "replace" apos) [.Constant (.str s1) j0 c0, .Constant (.str s2) j1 c1] [] pos) [.Eq] [.Constant (.str s3) n2 pc2] p2] p0) σ G (.bool (decide (l = [c]) && decide (m.filter (· != c) = []))) := by
  subst h0 h1 h2 h3
  exact e_nothing ha ho hz hyz hst hbase hline
end
theorem joinL0 : ∀ ys : List (List Nat), TL.joinL [] ys = ys.flatten
  | [] => rfl
  | [p] => by show p = [p].flatten; simp
  | p :: q :: r => by
    show p ++ ([] ++ TL.joinL [] (q :: r)) = (p :: q :: r).flatten
    rw [joinL0 (q :: r), List.nil_append]; rfl
theorem sum_len (ys : List (List Nat)) (k : Nat) (h : ∀ y ∈ ys, y.length = k) : (ys.map (·.length)).sum = k * ys.length := by
  induction ys with
  | nil => simp
  | cons y ys ih =>
    rw [List.map_cons, List.sum_cons, ih (fun z hz => h z (List.mem_cons_of_mem _ hz)), h y (List.mem_cons_self ..), List.length_cons, Nat.mul_succ]; omega
end DL

/-! D7: a list of ints that is taken from (the draws), beside what is known. -/
namespace DL
open PySem PySem.Spec PyProof.Rows SX
open L2 hiding Dp DpAll
/-- the draws stand at l, beside G -/
structure MO (G H : Hp) (l : Addr) : Prop where
  gh : Ex G H
  gl : G l = Option.none
  hl : ∃ ns : List Int, H l = some (.lst (ns.map V.int))
theorem MO.step {G H G' H' : Hp} {l : Addr} (m : MO G H l) (n : Nx G H G' H') : MO G' H' l := by
  obtain ⟨ns, h⟩ := m.hl
  exact ⟨n.gh, (n.beside m.gl h).1, ns, (n.beside m.gl h).2⟩
theorem MO.put {G H : Hp} {l : Addr} (m : MO G H l) (ns : List Int) : MO G (upd H l (.lst (ns.map V.int))) l :=
  ⟨fun a u q => by
    rw [upd_ne (fun z => by rw [z, m.gl] at q; cases q)]
    exact m.gh a u q, m.gl, ns, upd_same⟩
theorem MO.new {G H : Hp} {l p : Addr} {o : HO} (m : MO G H l) (hp : H p = Option.none) : MO (upd G p o) (upd H p o) l := m.step (Nx.new m.gh hp)
/-- e comes to some d of R; the draws may be taken from -/
def EM (X : Cx) (e : Expr) (σ : L2.St) (G : Hp) (l : Addr) (R : D → Prop) : Prop :=
  ∀ G1 H1, Ex G G1 → MO G1 H1 l → ∀ Q : VK, (∀ v d G2 H2, R d → Ex G1 G2 → MO G2 H2 l → Dp X.K G2 v d → Q v H2) → wE X e σ H1 Q
def AM (X : Cx) (es : List Expr) (σ : L2.St) (G : Hp) (l : Addr) (R : List D → Prop) : Prop :=
  ∀ G1 H1, Ex G G1 → MO G1 H1 l → ∀ Q : List V → Hp → Prop, (∀ vs ds G2 H2, R ds → Ex G1 G2 → MO G2 H2 l → DpAll X.K G2 vs ds → Q vs H2) → wA X es σ H1 Q
def intP (P : Int → Prop) : D → Prop := fun d => ∃ i, d = .int i ∧ P i
section
variable {X : Cx} {σ : L2.St} {G : Hp} {l : Addr} {a b e : Expr} {es : List Expr} {pos p p2 : Pos} {d : D} {ds : List D} {R : D → Prop} {Rs : List D → Prop} {i j : Int} {x : Str}
theorem em_of (h : E X e σ G d) : EM X e σ G l (· = d) := fun G1 H1 g m Q q => h G1 H1 g m.gh Q fun v G2 H2 n hv => q v d G2 H2 rfl n.g (m.step n) hv
theorem em_imp {R' : D → Prop} (h : EM X e σ G l R) (i : ∀ d, R d → R' d) : EM X e σ G l R' := fun G1 H1 g m Q q => h G1 H1 g m Q fun v d G2 H2 r => q v d G2 H2 (i d r)
theorem am_nil : AM X [] σ G l (· = []) := fun G1 H1 _ m Q q => ⟨_, pa_nil, q [] [] G1 H1 rfl (Evl.Ex.refl _) m .nil⟩
theorem am_cons (h : EM X e σ G l R) (hr : AM X es σ G l Rs) (hs : starEach (e :: es) X.env = (false, eval e X.env) :: starEach es X.env := by rfl) : AM X (e :: es) σ G l (fun ds => ∃ d r, ds = d :: r ∧ R d ∧ Rs r) := fun G1 H1 g m Q q =>
  ⟨_, pa_cons pe_w pa_w hs, h G1 H1 g m _ fun u d G2 H2 r1 g2 m2 hu => hr G2 H2 (g.trans g2) m2 _ fun vs ds G3 H3 r2 g3 m3 hv => q _ _ G3 H3 ⟨d, ds, rfl, r1, r2⟩ (g2.trans g3) m3 (.cons (Dp.mono g3 hu) hv)⟩
theorem am_of (h : A X es σ G ds) : AM X es σ G l (· = ds) := fun G1 H1 g m Q q => h G1 H1 g m.gh Q fun v G2 H2 n hv => q v ds G2 H2 rfl n.g (m.step n) hv
theorem am_imp {R' : List D → Prop} (h : AM X es σ G l Rs) (i : ∀ d, Rs d → R' d) : AM X es σ G l R' := fun G1 H1 g m Q q => h G1 H1 g m Q fun v d G2 H2 r => q v d G2 H2 (i d r)
theorem em_tup {n : Nat} (h : AM X es σ G l Rs) (hl : ∀ ds, Rs ds → ds.length ≤ 1000) : EM X (.Tuple es n pos) σ G l (fun d => ∃ ds, d = .tuple ds ∧ Rs ds) := fun G1 H1 g m Q q =>
  ⟨_, pe_tup pa_w, h G1 H1 g m _ fun vs ds G2 H2 r g2 m2 hv => ⟨by rw [DpAll.len hv]; exact Evl.sz_of (by have := hl ds r; omega), fun p hp =>
    q _ _ _ _ ⟨ds, rfl, r⟩ (g2.trans (Nx.new m2.gh hp).g) (m2.new hp) (.tup (Evl.st_of upd_same) (DpAll.mono (Nx.new m2.gh hp).g hv))⟩⟩
theorem em_lst (h : AM X es σ G l Rs) (hl : ∀ ds, Rs ds → ds.length ≤ 1000) : EM X (.List es pos) σ G l (fun d => ∃ ds, d = .list ds ∧ Rs ds) := fun G1 H1 g m Q q =>
  ⟨_, pe_lst pa_w, h G1 H1 g m _ fun vs ds G2 H2 r g2 m2 hv => ⟨by rw [DpAll.len hv]; exact Evl.sz_of (by have := hl ds r; omega), fun p hp =>
    q _ _ _ _ ⟨ds, rfl, r⟩ (g2.trans (Nx.new m2.gh hp).g) (m2.new hp) (.lst (Evl.sq_of upd_same) (DpAll.mono (Nx.new m2.gh hp).g hv))⟩⟩
theorem em_opI0 {op : Operator} {f : Int → Int → Int} {P P2 P3 : Int → Prop} (ho : OpR X (binaryOp op) (rI0 fun i j => .int (f i j))) (ha : EM X a σ G l (intP P)) (hb : EM X b σ G l (intP P2)) (h : ∀ i j, P i → P2 j → P3 (f i j)) : EM X (.BinOp a op b pos) σ G l (intP P3) := fun G1 H1 g m Q q =>
  ⟨_, pe_op ho pe_w pe_w, ha G1 H1 g m _ fun u d G2 H2 r1 g2 m2 hu => hb G2 H2 (g.trans g2) m2 _ fun v d2 G3 H3 r2 g3 m3 hv => by
    obtain ⟨i, rfl, r1⟩ := r1
    obtain ⟨j, rfl, r2⟩ := r2
    cases hu; cases hv
    exact ⟨i, j, rfl, rfl, q _ _ G3 H3 ⟨_, rfl, h i j r1 r2⟩ (g2.trans g3) m3 (.int _)⟩⟩
theorem em_add {P P2 P3 : Int → Prop} (ha : EM X a σ G l (intP P)) (hb : EM X b σ G l (intP P2)) (h : ∀ i j, P i → P2 j → P3 (i + j)) : EM X (.BinOp a .Add b pos) σ G l (intP P3) := em_opI0 op_add ha hb h
theorem em_sub {P P2 P3 : Int → Prop} (ha : EM X a σ G l (intP P)) (hb : EM X b σ G l (intP P2)) (h : ∀ i j, P i → P2 j → P3 (i - j)) : EM X (.BinOp a .Sub b pos) σ G l (intP P3) := em_opI0 op_sub ha hb h
theorem em_int {n : Nat} : EM X (.Constant (.int i) n pos) σ G l (intP (· = i)) := em_imp (em_of e_int) fun d h => ⟨i, h, rfl⟩
theorem em_ixL (ha : E X a σ G (.list ds)) (hb : EM X b σ G l (intP fun i => ∃ d, atI ds i = some d ∧ R d)) (hs : PlainIx b := by exact fun _ _ => rfl) : EM X (.Subscript a b pos) σ G l R := fun G1 H1 g m Q q =>
  ⟨_, pe_ix ix_list pe_w pe_w hs, ha G1 H1 g m.gh _ fun u G2 H2 n hu => hb G2 H2 (g.trans n.g) (m.step n) _ fun v d' G3 H3 r g3 m3 hv => by
    obtain ⟨i, rfl, d, hd, r⟩ := r
    cases hv
    obtain ⟨p, xs, rfl, ht, hx⟩ := Dp.lst_inv (Dp.mono g3 hu)
    obtain ⟨v, e1, e2⟩ := DpAll.at hx hd
    exact ⟨p, xs, i, v, rfl, rfl, Evl.ex_l m3.gh ht, e1, q v d G3 H3 r (n.g.trans g3) m3 e2⟩⟩
end

/-! ### defs that take from the draws -/
def spM (K : PySem.W.Frag) (Pre : List D → Prop) (R : List D → D → Prop) : Sp := fun us H Q _ => ∃ l vs ds G, us = .ref l :: vs ∧ Pre ds ∧ MO G H l ∧ DpAll K G vs ds ∧ ∀ v d G' H', R ds d → Ex G G' → MO G' H' l → Dp K G' v d → Q v H'
structure MFn (P : Program) (w : World) (K : PySem.W.Frag) (mg : Str → Option Value) (base : Heap) (k : Nat) (x : Str) (Pre : List D → Prop) (R : List D → D → Prop) : Prop where
  ex : ∃ f, mg x = some (.ref f) ∧ PySem.W.keepIn K (.ref f) = true ∧ FnR P w K mg base CX0 k f (spM K Pre R)
section
variable {P : Program} {w : World} {K : PySem.W.Frag} {mg : Str → Option Value} {base : Heap}
theorem mfn_of {k : Nat} {x : Str} {st : Stmt} {N ps : List Str} {Pre : List D → Prop} {R : List D → D → Prop} (h : Has K mg x st ps) (S : FnScope N ps (defScope st)) (len : ∀ ds, Pre ds → ds.length + 1 = ps.length)
    (body : ∀ (cdv : Value) (A : Around) (outer : List Env) (s : Shared) (f : Addr) (H : Hp) (Q : VK) (E : XK), Room k (A.deeper (envOfC x (defScope st) s.heap.objs.size f cdv)) → ∀ l ds G vs, Pre ds → MO G H l → DpAll K G vs ds → (∀ v d G' H', R ds d → Ex G G' → MO G' H' l → Dp K G' v d → Q v H') →
      wB (cxOf CX0 P w K mg base N x (defScope st) f cdv A outer s H E).nox (defBody st) { nx := fun _ H' => Q .non H', rt := Q } (start N (.ref l :: vs)) H) : MFn P w K mg base (k + 1) x Pre R := by
  obtain ⟨f, fd, h1, F, hb⟩ := h
  refine ⟨f, h1, F.kp, FnOk.pos (F.ok S (fun vs H Q E ⟨l, vs', ds, G, e, r, _, hv, _⟩ => by rw [e, List.length_cons, DpAll.len hv]; exact len ds r) fun cdv A outer s H vs Q E hr ⟨l, vs', ds, G, e, r, m, hv, q⟩ => ?_) hb⟩
  subst e
  exact ⟨_, pss_w, body cdv A outer s f H Q E hr l ds G vs' r m hv q⟩
end
section
variable {X : Cx} {σ : L2.St} {G H : Hp} {l : Addr} {a b e : Expr} {es : List Expr} {pos p p1 p2 : Pos} {d : D} {ds : List D} {R : D → Prop} {Rs : List D → Prop} {i j : Int} {x y : Str} {k : Nat}
theorem em_call (n : Nat) {Pre : List D → Prop} {Rf : List D → D → Prop} (F : MFn X.prog X.w X.K X.mg X.base k x Pre Rf) (hr : Room k X.A) (ha : AM X es σ G l Rs) (hP : ∀ ds, Rs ds → Pre ds) (hR : ∀ ds d, Rs ds → Rf ds d → R d) (hσ : σ[n]? = some (some (.ref l)) := by rfl) (hN : X.N[n]? = some y := by rfl)
    (hv : Vis X.env.scope y := by first | exact Or.inl rfl | exact Or.inr (Or.inl rfl) | exact Or.inr (Or.inr rfl)) (h1 : (y == ("__debug__" : Str)) = false := by decide) (h2 : (y == ("__classdict__" : Str)) = false := by decide)
    (hg : Gl X x := by rfl) (hdb : (x == ("__debug__" : Str)) = false := by decide)
    (he : starEach (.Name y p1 :: es) X.env = (false, eval (.Name y p1) X.env) :: starEach es X.env := by rfl) (hpl : (backTo pos (starEach es X.env)).any (·.1) = false := by rfl) : EM X (.Call (.Name x p) (.Name y p1 :: es) [] pos) σ G l R := fun G1 H1 g m Q q => by
  obtain ⟨f, hm, hk, F⟩ := F.ex
  exact ⟨_, pe_callR (Er := fun _ => E0) F hr hg hm hk passAt0 (pa_cons (pe_var hN hv h1 h2) pa_w he) hdb he hpl, .ref l, hσ, ha G1 H1 g m _ fun vs ds G2 H2 r g2 m2 hv =>
    ⟨l, vs, ds, G2, rfl, hP ds r, m2, hv, fun v d G3 H3 r3 g3 m3 hd => q v d G3 H3 (hR ds d r r3) (g2.trans g3) m3 hd⟩⟩
/-- a def without side effects, its arguments drawn -/
theorem em_callP {Rf : List D → D → Prop} (F : PFn X.prog X.w X.K X.mg X.base k x Rf) (hr : Room k X.A) (ha : AM X (e :: es) σ G l Rs) (hR : ∀ ds, Rs ds → ∃ d, Rf ds d ∧ R d) (hg : Gl X x := by rfl) (hdb : (x == ("__debug__" : Str)) = false := by decide)
    (he : starEach (e :: es) X.env = (false, eval e X.env) :: starEach es X.env := by rfl) (hpl : (backTo pos (starEach es X.env)).any (·.1) = false := by rfl) : EM X (.Call (.Name x p) (e :: es) [] pos) σ G l R := fun G1 H1 g m Q q => by
  obtain ⟨f, hm, hk, F⟩ := F.ex
  exact ⟨_, pe_callR (Er := fun _ => E0) F hr hg hm hk passAt0 pa_w hdb he hpl, ha G1 H1 g m _ fun us ds G2 H2 r g2 m2 hu => by
    obtain ⟨d, h1, h2⟩ := hR ds r
    exact ⟨ds, d, G2, h1, m2.gh, hu, fun v G3 H3 n3 hv => q v d G3 H3 h2 (g2.trans n3.g) (m2.step n3) hv⟩⟩
/-! statements -/
variable {rest : List Stmt} {Z : Ends}
theorem sm_ret (h : EM X e σ G l R) (m : MO G H l) (q : ∀ v d G' H', R d → Ex G G' → MO G' H' l → Dp X.K G' v d → Z.rt v H') : wB X (.Return (some e) pos :: rest) Z σ H :=
  s_cons ⟨_, ps_ret pe_w, h G H (Evl.Ex.refl _) m _ fun v d G' H' r g m' hv => q v d G' H' r g m' hv⟩
theorem sm_set (i : Nat) {pos' : Pos} (h : EM X e σ G l R) (m : MO G H l) (hN : X.N.Nodup) (q : ∀ v d G' H', R d → Ex G G' → MO G' H' l → Dp X.K G' v d → wB X rest Z (σ.set i (some v)) H') (hi : X.N[i]? = some x := by rfl) (hx : L2.Loc X.env.scope x := by first | exact Or.inl rfl | exact Or.inr rfl)
    (hs : swapsWith e (some (.Name x pos')) pos.line X.env = pure false := by rfl) (hf : X.fn x = true ∨ X.env.scope.names.lookup x = some .local := by first | exact .inl rfl | exact .inr rfl | assumption) : wB X (.Assign [.Name x pos'] e pos :: rest) Z σ H :=
  s_cons ⟨_, ps_set hN hi hx pe_w hs hf, h G H (Evl.Ex.refl _) m _ fun v d G' H' r g m' hv => q v d G' H' r g m' hv⟩
/-- return int(draws.pop()) % bound -/
theorem sm_popmod (n n2 : Nat) {y z : Str} {ns : List Int} {bd : Int} {apos p3 p4 p5 p6 : Pos} (hm : X.mg "int" = Option.none) (m : MO G H l) (hl : H l = some (.lst (ns.map V.int))) (hne : ns ≠ []) (hb : 0 < bd) (q : ∀ i H', 0 ≤ i → i < bd → MO G H' l → Z.rt (.int i) H')
    (hσ : σ[n]? = some (some (.ref l)) := by rfl) (hN : X.N[n]? = some y := by rfl) (hv : Vis X.env.scope y := by first | exact Or.inl rfl | exact Or.inr (Or.inl rfl) | exact Or.inr (Or.inr rfl)) (h1 : (y == ("__debug__" : Str)) = false := by decide) (h2 : (y == ("__classdict__" : Str)) = false := by decide)
    (hσ2 : σ[n2]? = some (some (.int bd)) := by rfl) (hN2 : X.N[n2]? = some z := by rfl) (hv2 : Vis X.env.scope z := by first | exact Or.inl rfl | exact Or.inr (Or.inl rfl) | exact Or.inr (Or.inr rfl)) (h12 : (z == ("__debug__" : Str)) = false := by decide) (h22 : (z == ("__classdict__" : Str)) = false := by decide)
    (hg : Gl X "int" := by rfl)
    (hbase : attributeBase (.Name y p1) "pop" X.env (eval (.Name y p1) X.env) = eval (.Name y p1) X.env := by rfl) (hline : (apos.endLine == p2.line) = true := by rfl)
    (he : starEach [.Call (.Attribute (.Name y p1) "pop" apos) [] [] p2] X.env = (false, eval (.Call (.Attribute (.Name y p1) "pop" apos) [] [] p2) X.env) :: starEach [] X.env := by rfl) (hpl : (backTo p3 (starEach [] X.env)).any (·.1) = false := by rfl) :
    wB X (.Return (some (.BinOp (.Call (.Name "int" p4) [.Call (.Attribute (.Name y p1) "pop" apos) [] [] p2] [] p3) .Mod (.Name z p5) p6)) pos :: rest) Z σ H := by
  have hlast : (ns.map V.int)[(ns.map V.int).length - 1]? = some (.int (ns.getLast hne)) := by
    rw [List.length_map, List.getElem?_map, ← List.getLast?_eq_getElem?, List.getLast?_eq_some_getLast hne]; rfl
  refine s_cons ⟨_, ps_ret (pe_op op_mod (pe_callTy call_int1 hg hm (by decide +kernel) (pa_cons (pe_bm0 PySem.F.plainAttrs_list PySem.F.slot_list_pop PySem.F.type_list_pop mt_pop (pe_var hN hv h1 h2) hbase hline) pa_nil he) (by decide) (by decide) he hpl) (pe_var hN2 hv2 h12 h22)),
    .ref l, hσ, .inl ⟨rfl, _, .inl (.inl hl)⟩, l, ns.map V.int, _, rfl, rfl, hl, hlast, ?_⟩
  refine .inl ⟨ns.getLast hne, rfl, .int bd, hσ2, ns.getLast hne, bd, rfl, rfl, hb, ?_⟩
  have hm2 := m.put ns.dropLast
  rw [List.map_dropLast] at hm2
  exact q _ _ (Int.emod_nonneg _ (by omega)) (Int.emod_lt_of_pos _ hb) hm2
end
end DL

/-! D8: loops over a known list; appending ints to a list of one's own. -/
namespace DL
open PySem PySem.Spec PyProof.Rows SX
open L2 hiding Dp DpAll
section
variable {X : Cx} {σ : L2.St} {G H : Hp} {l : Addr} {a b e : Expr} {es : List Expr} {pos p p1 p2 : Pos} {d : D} {ds : List D} {i j : Int} {x y : Str} {k : Nat} {rest body : List Stmt} {Z : Ends}
/-- weaker ends -/
theorem wB_weak {st : List Stmt} {Z0 : Ends} (h : wB X st Z0 σ H) (h1 : ∀ σ H, Z0.nx σ H → Z.nx σ H) (h2 : ∀ v H, Z0.rt v H → Z.rt v H) (h3 : ∀ σ H, Z0.bk σ H → Z.bk σ H) (h4 : ∀ σ H, Z0.ct σ H → Z.ct σ H) : wB X st Z σ H := by
  obtain ⟨t, ht, q⟩ := h
  refine ⟨fun Z σ H => ∃ Z0 : Ends, t Z0 σ H ∧ (∀ σ H, Z0.nx σ H → Z.nx σ H) ∧ (∀ v H, Z0.rt v H → Z.rt v H) ∧ (∀ σ H, Z0.bk σ H → Z.bk σ H) ∧ (∀ σ H, Z0.ct σ H → Z.ct σ H), ⟨fun pins s σ H D I ⟨Z0, q, g1, g2, g3, g4⟩ => ?_⟩, Z0, q, h1, h2, h3, h4⟩
  refine thn (ht.run pins s σ H Z0 I q) fun f s' r => ?_
  cases f with
  | next => obtain ⟨σ', H', I', z⟩ := r; exact ⟨σ', H', I', g1 _ _ z⟩
  | brk => obtain ⟨σ', H', I', z⟩ := r; exact ⟨σ', H', I', g3 _ _ z⟩
  | cont => obtain ⟨σ', H', I', z⟩ := r; exact ⟨σ', H', I', g4 _ _ z⟩
  | ret u => obtain ⟨v, σ', H', I', z1, z2⟩ := r; exact ⟨v, σ', H', I', z1, g2 _ _ z2⟩
/-- an if without else, behind which Post holds -/
theorem s_whenP {c : Expr} {k : Bool} (Post : L2.St → Hp → Prop) (h : T X c σ G k) (gh : Ex G H) (h1 : k = true → ∀ G' H', Nx G H G' H' → wB X body { Z with nx := Post } σ H') (h2 : k = false → ∀ G' H', Nx G H G' H' → Post σ H') (h3 : ∀ σ H, Post σ H → wB X rest Z σ H) : wB X (.If c body [] pos :: rest) Z σ H :=
  s_when h gh (fun z G' H' n => wB_weak (h1 z G' H' n) (fun σ H p => h3 σ H p) (fun _ _ z => z) (fun _ _ z => z) fun _ _ z => z) fun z G' H' n => h3 σ H' (h2 z G' H' n)
/-- a product one of whose factors is small -/
theorem e_mulS64 (ha : E X a σ G (.int i)) (hb : E X b σ G (.int j)) (h1 : -(2 ^ 64) < j) (h2 : j < 2 ^ 64) : E X (.BinOp a .Mult b pos) σ G (.int (i * j)) := e_opI op_mul ha hb (.inr ⟨h1, h2⟩) rfl
theorem e_pow (ha : E X a σ G (.int i)) (hb : E X b σ G (.int j)) (hc : CPow i j) : E X (.BinOp a .Pow b pos) σ G (.int (i ^ j.toNat)) := e_opI op_pow ha hb hc rfl
/-- for x in xs, a list that is known -/
theorem s_forL (i : Nat) {xs : List D} {px : Pos} (hp : PassesOwn (model X.prog X.w) X.A X.env X.xe) (hcalm : X.calm = true) (hN : X.N.Nodup) (ha : E X e σ G (.list xs)) (gh : Ex G H)
    (hk : ∀ G1 H1 vx, Nx G H G1 H1 → DpAll X.K G1 vx xs → ∃ Pv : Nat → L2.St → Hp → Prop, Pv 0 σ H1 ∧ (∀ k σ' H', Pv k σ' H' → Ex G1 H') ∧
      (∀ k v d σ' H', xs[k]? = some d → Dp X.K G1 v d → Pv k σ' H' → wB X body { Z with nx := Pv (k + 1), ct := Pv (k + 1), bk := wB X rest Z } (σ'.set i (some v)) H') ∧ (∀ σ' H', Pv xs.length σ' H' → wB X rest Z σ' H'))
    (hpl : PI X (.Name x px) e (iList X.K (wE X e))) (hs0 : ∀ y, foldedSetIterable e X.env y = pure y := by intro _; rfl) (hi : X.N[i]? = some x := by rfl) (hx : L2.Loc X.env.scope x := by first | exact Or.inl rfl | exact Or.inr rfl) (hf : X.fn x = true ∨ X.env.scope.names.lookup x = some .local := by first | exact .inl rfl | exact .inr rfl | assumption) :
    wB X (.For (.Name x px) e body [] pos :: rest) Z σ H :=
  s_cons ⟨_, ps_for hp hcalm hpl (pg_name hN hi hx hf) pss_w hs0, ha G H (Evl.Ex.refl _) gh _ fun u G1 H1 n hu => by
    obtain ⟨a, vx, rfl, hl, hv⟩ := Dp.lst_inv hu
    obtain ⟨Pv, h0, hG, hs, hd⟩ := hk G1 H1 vx n hv
    refine ⟨a, rfl, ⟨vx, Evl.ex_l n.gh hl⟩, for_list (xs := vx) Pv h0 (fun k σ' H' _ Pk => Evl.ex_l (hG k σ' H' Pk) hl) (fun k v σ' H' hk' Pk => ?_) fun σ' H' Pk => hd σ' H' (by rw [← DpAll.len hv]; exact Pk)⟩
    obtain ⟨d, hd', dv⟩ := DpAll.getV hv hk'
    exact hs k v d σ' H' hd' dv Pk⟩
/-- an own list of ints, n at the most -/
structure MB (G H : Hp) (l : Addr) (n : Nat) : Prop where
  gh : Ex G H
  gl : G l = Option.none
  hl : ∃ ns : List Int, H l = some (.lst (ns.map V.int)) ∧ ns.length ≤ n
theorem MB.mo {n : Nat} (m : MB G H l n) : MO G H l := ⟨m.gh, m.gl, let ⟨ns, h, _⟩ := m.hl; ⟨ns, h⟩⟩
theorem MB.step {n : Nat} {G' H' : Hp} (m : MB G H l n) (z : Nx G H G' H') : MB G' H' l n := by
  obtain ⟨ns, h, hn⟩ := m.hl
  exact ⟨z.gh, (z.beside m.gl h).1, ns, (z.beside m.gl h).2, hn⟩
theorem MB.up {m n : Nat} (z : MB G H l m) (h : m ≤ n) : MB G H l n := ⟨z.gh, z.gl, let ⟨ns, h1, h2⟩ := z.hl; ⟨ns, h1, Nat.le_trans h2 h⟩⟩
/-- x = [] -/
theorem sb_new (i : Nat) {pos' pl : Pos} (gh : Ex G H) (hN : X.N.Nodup) (q : ∀ l H', MB G H' l 0 → wB X rest Z (σ.set i (some (.ref l))) H') (hi : X.N[i]? = some x := by rfl) (hx : L2.Loc X.env.scope x := by first | exact Or.inl rfl | exact Or.inr rfl)
    (hs : swapsWith (.List [] pl) (some (.Name x pos')) pos.line X.env = pure false := by rfl) (hf : X.fn x = true ∨ X.env.scope.names.lookup x = some .local := by first | exact .inl rfl | exact .inr rfl | assumption) : wB X (.Assign [.Name x pos'] (.List [] pl) pos :: rest) Z σ H :=
  s_setL i gh hN (fun l H' L => q l H' ⟨L.gh, L.gl, [], L.hl, Nat.le_refl _⟩) hi hx hs hf
/-- x.append(e), e an int -/
theorem sb_app (i : Nat) {n : Nat} {j : Int} {pe apos pos' : Pos} (m : MB G H l n) (hσ : σ[i]? = some (some (.ref l))) (ha : E X e σ G (.int j)) (hz : n ≤ 90000)
    (q : ∀ G' H', Ex G G' → MB G' H' l (n + 1) → wB X rest Z σ H')
    (hN : X.N[i]? = some x := by rfl) (hv : Vis X.env.scope x := by first | exact Or.inl rfl | exact Or.inr (Or.inl rfl) | exact Or.inr (Or.inr rfl)) (h1 : (x == ("__debug__" : Str)) = false := by decide) (h2 : (x == ("__classdict__" : Str)) = false := by decide)
    (hs : swapsWith (.Call (.Attribute (.Name x pe) "append" apos) [e] [] pos') Option.none pos.line X.env = pure false := by rfl)
    (hbase : attributeBase (.Name x pe) "append" X.env (eval (.Name x pe) X.env) = eval (.Name x pe) X.env := by rfl)
    (hfew : ((backTo pos' (starEach [e] X.env)).all (fun x => !x.1) && (backToKw pos' (keywordEach [] X.env)).all (fun x => x.1.isSome)
      && decide (([e] : List Expr).length + ([] : List Keyword).length + (if ([] : List Keyword).isEmpty then 0 else 1) < 30)) = true := by rfl)
    (hline : (apos.endLine == pos'.line) = true := by rfl) (hst : starEach [e] X.env = (false, eval e X.env) :: starEach [] X.env := by rfl) (hplain : (backTo pos' (starEach [] X.env)).any (·.1) = false := by rfl) :
    wB X (.Expr (.Call (.Attribute (.Name x pe) "append" apos) [e] [] pos') pos :: rest) Z σ H := by
  obtain ⟨ns, hl, hn⟩ := m.hl
  refine s_cons ⟨_, ps_expr (pe_bm PySem.F.plainAttrs_list PySem.F.slot_list_append PySem.F.type_list_append mt_append (pe_var hN hv h1 h2) (pa_cons pe_w pa_nil hst) hbase hfew hline hst hplain) hs,
    ⟨.ref l, hσ, .inl ⟨rfl, _, .inl (.inl hl)⟩, ha G H (Evl.Ex.refl _) m.gh _ fun v G' H' n' hv' => ?_⟩⟩
  have hl' := (n'.beside m.gl hl)
  cases hv'
  refine ⟨l, ns.map V.int, .int j, rfl, rfl, hl'.2, by rw [List.length_map]; exact Evl.sz_lt (by omega), q G' _ n'.g ?_⟩
  have e : ns.map V.int ++ [V.int j] = (ns ++ [j]).map V.int := by rw [List.map_append]; rfl
  rw [e]
  exact ⟨fun a u q => by
    rw [upd_ne (fun z => by rw [z, hl'.1] at q; cases q)]
    exact n'.gh a u q, hl'.1, ns ++ [j], upd_same, by rw [List.length_append, List.length_singleton]; omega⟩
/-- return list(reversed(x)), x the own list -/
theorem sb_retRev (i : Nat) {n : Nat} {p3 p4 pos2 : Pos} (hcalm : X.calm = true) (m : MB G H l n) (hσ : σ[i]? = some (some (.ref l))) (hm : X.mg "list" = Option.none) (hm2 : X.mg "reversed" = Option.none) (q : ∀ l' H', MO G H' l' → Z.rt (.ref l') H')
    (hN : X.N[i]? = some x := by rfl) (hv : Vis X.env.scope x := by first | exact Or.inl rfl | exact Or.inr (Or.inl rfl) | exact Or.inr (Or.inr rfl)) (h1 : (x == ("__debug__" : Str)) = false := by decide) (h2 : (x == ("__classdict__" : Str)) = false := by decide)
    (hg : Gl X "list" := by rfl) (hg2 : Gl X "reversed" := by rfl)
    (hs : starEach [.Name x p3] X.env = (false, eval (.Name x p3) X.env) :: starEach [] X.env := by rfl)
    (hs2 : starEach [.Call (.Name "reversed" p2) [.Name x p3] [] pos2] X.env = (false, eval (.Call (.Name "reversed" p2) [.Name x p3] [] pos2) X.env) :: starEach [] X.env := by rfl) :
    wB X (.Return (some (.Call (.Name "list" p) [.Call (.Name "reversed" p2) [.Name x p3] [] pos2] [] p4)) pos :: rest) Z σ H := by
  obtain ⟨ns, hl, hn⟩ := m.hl
  refine s_cons ⟨_, ps_ret (pe_listRev hcalm hg hm hg2 hm2 (pe_var hN hv h1 h2) hs hs2), .ref l, hσ, l, ns.map V.int, rfl, .inl (.inl hl), fun r hr => q r _ ?_⟩
  rw [← List.map_reverse]
  exact ⟨m.gh.trans (Evl.Ex.new hr), Evl.fresh_back m.gh hr, _, upd_same⟩
end
end DL

/-! D9: sums and comprehensions while an exception is handled. -/
namespace DL
open PySem PySem.Spec PyProof.Rows L2H HotX
open L2 hiding Dp DpAll
section
variable {prog : Program} {w : World} {A : Around} {E : Value → Shared → Prop} {s : Shared}
theorem list_end_hot {it l x1 : Addr} {i : Nat} {items : Array Value} {Q : Option Value → Shared → Prop} (hot : HotAt A x1 s.heap) (hne : x1 ≠ it)
    (hit : s.heap.IsListIter it l i) (hl : s.heap.IsList l items) (hx : items[i]? = none)
    (hQ : ∀ h', Heap.ExtBut it s.heap h' → Q none { s with heap := h' }) : wpAny (model prog w) A (pyNext (.ref it)) Q E s := by
  obtain ⟨o, ho, hc, hd⟩ := id hit
  obtain ⟨ol, hol, _, nl, hdl⟩ := hl
  obtain ⟨hh, o1, vs1, h1, d1, c1⟩ := hot
  unfold pyNext
  refine wpAny_bind (wpAny_attempt (wpAny_callSpecial?_slot (name := Str.ofString "__next__") hit.typeIs slot_listiter_next
    (wpAny_call_entry slot_listiter_next hit.typeIs entry_listiter_next ?_ (args_listiter_next _))))
  show wpAny _ _ (field (.ref it) 0 >>= _) _ _ s
  refine wpAny_bind (wpAny_field ho hd (x := .ref l) rfl ?_)
  show wpAny _ _ (if (Value.ref l == Value.none) = true then _ else _) _ _ s
  rw [if_neg (show ¬ ((Value.ref l == Value.none) = true) from Bool.false_ne_true)]
  show wpAny _ _ (field (.ref it) 1 >>= _) _ _ s
  refine wpAny_bind (wpAny_field ho hd (x := .int i 0) rfl ?_)
  show wpAny _ _ (seqItems? (.ref l) >>= _) _ _ s
  refine wpAny_bind (wpAny_seqItems hol hdl ?_)
  simp only [Int.toNat_natCast, hx]
  refine wpAny_bind (wpAny_rule (wpAny_bind (wpAny_setField ho hd (by simp) ?_)))
  show wpAny _ _ (newExc (.type "StopIteration") [] >>= _) _ _ _
  refine wpAny_bind ?_
  simp only [newExc, newTuple]
  refine wpAny_bind (wpAny_newObj_type ?_ (by size_fits))
  refine wpAny_bind (m := firstArgMember _ _) (wpAny_of_eq (a := Value.none) (by first | rfl | (simp only [firstArgMember]; rfl)) ?_)
  refine wpAny_newObj_type ?_ (by size_fits)
  have k1 := (Heap.get?_update_other s.heap (Obj.mapFields (·.setIfInBounds 0 Value.none)) (Ne.symm hne)).trans h1
  refine raiseNew_hot ⟨hh, o1, vs1, Heap.get?_push_of_some _ (Heap.get?_push_of_some _ k1), d1, c1⟩ (Nat.ne_of_lt (Heap.lt_size (Heap.get?_push_of_some _ k1))) (Heap.get?_push_size _ rfl) rfl (by first | (simp; done) | (simp; omega) | (simp only [Array.size_append]; simp; omega)) ?_
  refine wpAny_bind (wpAny_isInstance (T := "StopIteration") (b := true) ⟨_, Heap.get?_update_self _ (Heap.get?_push_size _ rfl) rfl, rfl⟩ isSubtype_stop ?_)
  refine wpAny_pure (hQ _ fun b o hb e => ?_)
  have kb := (Heap.get?_update_other s.heap (Obj.mapFields (·.setIfInBounds 0 Value.none)) (Ne.symm hb)).trans e
  rw [Heap.get?_update_other _ _ (Nat.ne_of_gt (Heap.lt_size (Heap.get?_push_of_some _ kb)))]
  exact Heap.get?_push_of_some _ (Heap.get?_push_of_some _ kb)
/-- a list walked while an exception is handled -/
theorem walks_listH (x1 : Addr) (o1 : Obj) (vs1 : Array Value) (hh : A.handled = some (.ref x1)) (d1 : o1.data = .fields vs1) (c1 : vs1[2]? = some .none) (I ax : Addr) (hne : ax ≠ I) (hx : x1 ≠ I) (items : Array Value) :
    Walks prog w A I [I, ax, x1] [I] items.size (fun i v => items[i]? = some v) (fun i h => h.IsListIter I ax i ∧ h.IsList ax items ∧ h.get? x1 = some o1) where
  sub := fun b hb => by simp at hb; simp [hb]
  frame := fun _ _ _ st hk => ⟨st.1.at fun o e => hk I (by simp) o e, st.2.1.at fun o e => hk ax (by simp) o e, hk x1 (by simp) _ st.2.2⟩
  item := fun i s Q E hi st hQ => by
    refine wpAny_pyNext_list_item st.1 st.2.1 (x := items[i]) (by simp [hi]) fun h' hit' hs' => ?_
    exact hQ _ h' s.toks (by simp [hi]) ⟨hit', st.2.1.extBut hs'.extBut hne, hs'.extBut _ _ hx st.2.2⟩ fun b o hb e => hs'.extBut b o (fun h => hb (by simp [h])) e
  done := fun s Q E st hQ => list_end_hot ⟨hh, o1, vs1, st.2.2, d1, c1⟩ hx st.1 st.2.1 (by simp) fun h' he' => hQ h' s.toks fun b o hb e => he' b o (fun h => hb (by simp [h])) e
  self := fun _ _ _ _ st hQ => wpAny_pyIter_listiter st.1 hQ
end
section
variable {X : Cx}
theorem cr_sumH (hc : HotC X) : CallR X (.builtin "sum") (rSum X.K) := by
  intro pins s σ H vs us Q I r h
  obtain ⟨a, ns, rfl, hs, q⟩ := h
  obtain ⟨its, rv, hl, _⟩ := I.list hs
  rw [Vals.ref1 r]
  obtain ⟨p, ⟨hh, v1, e1, c1⟩, hp⟩ := hc
  have P1 := (I.pin p (List.mem_append_left _ hp)).1
  obtain ⟨xs, e⟩ := rv.ints.allInts.items
  have hn : numsOf (intItems xs).toList = ns := by rw [← e]; exact rv.ints.numsOf
  rw [nums_intItems] at hn
  have hl := hl.isList
  rw [e] at hl
  refine call_sum_walkG (iter_intList hl fun s₂ e st hfp hlI => ?_)
  subst e
  have hlt := Heap.lt_size P1
  refine ⟨_, [s.heap.objs.size, a, p.1], _, _, _, _, numAt xs, rfl, walks_listH (A := X.A.in1) p.1 p.2 v1 hh e1 c1 _ a hlI (Nat.ne_of_lt hlt) (intItems xs), ⟨st.1, st.2, Heap.get?_push_of_some _ P1⟩, fun b hb => ?_, (fun _ _ => intItems_at), fun h' tk t' hk => ?_⟩
  · rcases List.mem_cons.mp hb with z | hb
    · exact hfp b (by simp [z])
    · rcases List.mem_cons.mp hb with z | hb
      · exact hfp b (by simp [z])
      · rw [List.mem_singleton.mp hb]
        show p.1 < (s.heap.push _).objs.size
        rw [Heap.size_push]; exact Nat.lt_succ_of_lt hlt
  · have hk' := old_kept hk
    refine ⟨.int ns.sum, H, I.kept hk', ⟨t', ?_⟩, q⟩
    rw [preSum_eq, List.take_of_length_le (by simp [intItems]), hn]
end
/-! ### a comprehension there: the handled exception stays pinned in the block -/
section
variable {X : Cx}
theorem pe_lcH {elt tg iter : Expr} {ifs : List Expr} {scope : Scope} {own : List (Str × Nat)} {pos : Pos} {wi : TI} {g : TG} {tt : TT} {te : TE} (hc : HotC X) (hN : X.N.Nodup) (hi : PIH X tg iter wi) (ok : BlkOk X.N X.env.scope scope own)
    (hg : ∀ (s : Shared) (H : Hp) (C : Addr) (cl : List (Str × Addr)) (fp : List Addr), PG (X.blk s H scope (compEnvC scope cl C X.env) fp) tg g) (ht : ∀ (s : Shared) (H : Hp) (C : Addr) (cl : List (Str × Addr)) (fp : List Addr), PTs (X.blk s H scope (compEnvC scope cl C X.env) fp) ifs tt)
    (he : ∀ (s : Shared) (H : Hp) (C : Addr) (cl : List (Str × Addr)) (fp : List Addr), PE (X.blk s H scope (compEnvC scope cl C X.env) fp) elt te) (hs : ∀ x, foldedSetIterable iter X.env x = pure x := by intro _; rfl) :
    PE X (.ListComp elt [⟨tg, iter, ifs, 0⟩] scope pos) (tLc wi g tt te (own.map (·.2))) := by
  refine ⟨fun pins s σ H Q I h => ?_⟩
  rw [eval_ListComp]
  obtain ⟨p, hot, hp⟩ := hc
  have hfree : ∀ y ∈ scope.names, y.2 = .free → ∃ c, X.env.cells.lookup y.1 = some c := fun y hy e => (ok.free y hy e).elim (fun k => I.ok.has _ (.inl k)) fun k => I.ok.has _ (.inr k)
  refine wpAny_comprehension_free (use := Option.none) rfl hs (closure_ok hfree) ok.kind (fun y hy e => by rw [ok.uniq y hy, e])
    (thn (hi.run pins s σ H _ I h) fun xv s1 hx => thn hx fun itv s2 h2 => ?_)
  obtain ⟨it, fp, tn, J, H2, e, I2, T, st2, f2, q⟩ := h2
  subst e
  refine wpAny_newObj_type (newEnv_comp ?_) (by show 0 ≤ sizeLine; decide)
  generalize hD : s2.heap.objs.size = D
  have hDn : H2 D = Option.none := I2.hok.fresh (Nat.le_of_eq hD)
  obtain ⟨W, ⟨m0, w0⟩, turn⟩ := q D hDn
  generalize hs3 : ({ s2 with heap := s2.heap.push { cls := .type "list", data := .seq ([] : List Value).toArray } } : Shared) = s3
  have h3 : s3.heap = s2.heap.push { cls := .type "list", data := .seq ([] : List Value).toArray } := by rw [← hs3]
  have I3 : Inv X pins σ (upd H2 D (.lst [])) s3 := by
    rw [← hs3]
    refine I2.laid (t' := s2.toks) (fun b o e => Heap.get?_push_of_some _ e) (Nat.le_of_eq hD) ⟨Nat.zero_le _, [], 0, .nil, ?_⟩
    rw [← hD]
    exact Heap.get?_push_size _ rfl
  have f3 : ∀ b ∈ fp, FpOk X pins (upd H2 D (.lst [])) b ∧ b < s3.heap.objs.size := fun b hb => by
    obtain ⟨o, e, _⟩ := T.obj _ _ st2 b hb
    have hlt := Heap.lt_size e
    refine ⟨⟨?_, (f2 b hb).2⟩, by rw [h3, Heap.size_push]; exact Nat.lt_succ_of_lt hlt⟩
    rw [upd_ne (by rw [← hD]; exact Nat.ne_of_lt hlt)]
    exact (f2 b hb).1
  have st3 : tn 0 s3.heap := T.keep _ _ _ st2 fun b _ o e => by rw [h3]; exact Heap.get?_push_of_some _ e
  have I4 := block_start I3 ok hN f3
  have P3 := I3.pin p (List.mem_append_left _ hp)
  have pg := hg s3 (upd H2 D (.lst [])) s3.heap.objs.size (cellsFrom (s3.heap.objs.size + 1) scope.names (cloFrom X.env.cells scope.names [])) fp
  have pt := ht s3 (upd H2 D (.lst [])) s3.heap.objs.size (cellsFrom (s3.heap.objs.size + 1) scope.names (cloFrom X.env.cells scope.names [])) fp
  have pe := he s3 (upd H2 D (.lst [])) s3.heap.objs.size (cellsFrom (s3.heap.objs.size + 1) scope.names (cloFrom X.env.cells scope.names [])) fp
  show codeAny _ _ (.compStart (.ListComp elt [⟨tg, iter, ifs, 0⟩] scope pos) 0 (.ref it) (.ref D) (compEnvC scope (cellsFrom (s3.heap.objs.size + 1) scope.names (cloFrom X.env.cells scope.names [])) s3.heap.objs.size X.env)) (compPost (model X.prog X.w) X.A X.xe Option.none (EP X pins σ Q) (.ref D) s3.heap.objs.size) { s3 with heap := pushCells (s3.heap.push { cls := .type "dict", data := .dict #[] }) scope.names }
  have nfp : ∀ b ∈ fp, (upd H2 D (.lst [])) b = Option.none := fun b hb => (f3 b hb).1.1
  have pnL : p.1 ≠ s3.heap.objs.size := Nat.ne_of_lt (Heap.lt_size P3.1)
  generalize hce : compEnvC scope (cellsFrom (s3.heap.objs.size + 1) scope.names (cloFrom X.env.cells scope.names [])) s3.heap.objs.size X.env = ce at I4 pg pt pe ⊢
  have cL : ce.locals = s3.heap.objs.size := by subst hce; rfl
  generalize hH3 : upd H2 D (.lst []) = H3 at I3 I4 pg pt pe w0 nfp f3 P3
  have st4 : tn 0 (pushCells (s3.heap.push { cls := .type "dict", data := .dict #[] }) scope.names) := T.keep _ _ _ st3 fun b _ o e => pushCells_keeps _ _ _ _ (Heap.get?_push_of_some _ e)
  have P4 : (pushCells (s3.heap.push { cls := .type "dict", data := .dict #[] }) scope.names).get? p.1 = some p.2 := pushCells_keeps _ _ _ _ (Heap.get?_push_of_some _ P3.1)
  -- the block's context, the exception pinned
  have hsub : ∀ b ∈ frs X.stack, b ∈ X.env.locals :: X.fs := I3.stkSub
  have I4p : L2.Inv (X.blk s3 H3 scope ce fp) [p] (wipe σ (own.map (·.2))) H3 { s3 with heap := pushCells (s3.heap.push { cls := .type "dict", data := .dict #[] }) scope.names } := I4.pins_of fun q hq => by
    rw [List.mem_singleton.mp hq]
    refine ⟨P4, P3.2.1, fun z => pnL (z.trans cL), fun z => ?_, P3.2.2.2.2⟩
    rcases List.mem_cons.mp (hsub p.1 z) with z | z
    · exact P3.2.2.1 z
    · exact P3.2.2.2.1 z
  generalize hs4 : ({ s3 with heap := pushCells (s3.heap.push { cls := .type "dict", data := .dict #[] }) scope.names } : Shared) = s4 at I4p ⊢
  have st4 : tn 0 s4.heap := by rw [← hs4]; exact st4
  have hotB : HotC ((X.blk s3 H3 scope ce fp).tr ((X.blk s3 H3 scope ce fp).pn ++ [p]) (fun _ _ => False)) := ⟨p, hot, List.mem_append_right _ (List.mem_singleton.mpr rfl)⟩
  have stat : ∀ {σ' : L2.St} {H' : Hp} {s' : Shared}, L2.Inv (X.blk s3 H3 scope ce fp) [p] σ' H' s' → (∀ b ∈ fp, H' b = Option.none) → ∀ b ∈ fp, FpOk (X.blk s3 H3 scope ce fp) [p] H' b := fun {σ' H' s'} I' hn b hb =>
    ⟨hn b hb, (I'.ok.exf b hb).1, I'.ok.exfs b hb, .inl hb, fun x c e => (I'.ok.exf b hb).2 x c e, fun q hq => by
      rcases List.mem_append.mp hq with z | z
      · exact absurd z (List.not_mem_nil)
      · rw [List.mem_singleton.mp z]
        exact (f3 b hb).1.2.2.2.2.2 p (List.mem_append_left _ hp)⟩
  have statT : ∀ {H' : Hp} {b : Addr}, FpOk (X.blk s3 H3 scope ce fp) [p] H' b → FpOk ((X.blk s3 H3 scope ce fp).tr ((X.blk s3 H3 scope ce fp).pn ++ [p]) (fun _ _ => False)) [] H' b := fun {H' b} z =>
    ⟨z.1, z.2.1, z.2.2.1, z.2.2.2.1, z.2.2.2.2.1, fun q hq => z.2.2.2.2.2 q (by rw [List.append_nil] at hq; exact hq)⟩
  have loop : codeAny (model X.prog X.w) X.A (.compLoop (.ListComp elt [⟨tg, iter, ifs, 0⟩] scope pos) 0 (.ref it) (.ref D) ce) (compPost (model X.prog X.w) X.A X.xe Option.none (EP X pins σ Q) (.ref D) s3.heap.objs.size) s4 := by
    refine compLoop_any (fun n s' => ∃ i H', L2.Inv (X.blk s3 H3 scope ce fp) [p] (wipe σ (own.map (·.2))) H' s' ∧ tn i s'.heap ∧ (∀ b ∈ fp, H' b = Option.none) ∧ W i n H') ?_ m0 ⟨0, H3, I4p, st4, nfp, w0⟩
    rintro n s5 ⟨i, H5, I5, st5, n5, w5⟩
    rcases turn i n H5 w5 with ⟨stop, qq⟩ | ⟨go, Nx, hNx, step⟩
    · have td := T.done ((X.blk s3 H3 scope ce fp).tr ((X.blk s3 H3 scope ce fp).pn ++ [p]) (fun _ _ => False)) rfl rfl rfl hotB i [] s5 _ H5 (fun _ _ => False) (I5.toTry _) (fun b hb => statT (stat I5 n5 b hb)) st5 stop
      refine thnF td fun r s6 ⟨hr, I6⟩ => ?_
      subst hr
      have I6 := I6.ofTry I5.ok
      have I7 : L2.Inv X pins σ H5 s6 := I3.call' (ch := fp) I6.os I6.base I6.hok I6.bare fun b hb => ⟨(f3 b hb).1.2.2.2.1, (f3 b hb).1.2.1, (f3 b hb).1.2.2.2.2.1, (f3 b hb).1.2.2.2.2.2⟩
      have nC : H5 s3.heap.objs.size = Option.none := by
        have z : H5 ce.locals = Option.none := I6.free
        rw [cL] at z
        exact z
      obtain ⟨m, hn, _⟩ := I6.loc
      have hn : s6.heap.Ns ce.locals m := hn
      rw [cL] at hn
      obtain ⟨f0, f1, f2', f3', f4, f5⟩ := I3.fpOk (H' := H5) (Nat.le_refl _) nC
      exact ⟨m, hn, fun h'' sb => ⟨.ref D, H5, I7.turned (t' := s6.toks) (fun b o hb e => (sb.2 b hb).trans e) f0 f1 f3' f4 f5, rfl, qq⟩⟩
    · have ti := T.item ((X.blk s3 H3 scope ce fp).tr ((X.blk s3 H3 scope ce fp).pn ++ [p]) (fun _ _ => False)) rfl rfl rfl hotB i [] s5 _ H5 (fun _ _ => False) (I5.toTry _) (fun b hb => statT (stat I5 n5 b hb)) st5 go
      refine thnF ti fun r s6 ⟨u, hr, h6⟩ => ?_
      subst hr
      refine thnF h6 fun _ s7 ⟨x, H7, I7, r7, y7, st7, n7⟩ => ?_
      have I7 := I7.ofTry I5.ok
      have I7' := I7.pinned (stat I7 n7) (T.obj _ _ st7)
      refine thnF (pg.run _ s7 _ H7 x u _ I7' r7 (step x H7 y7)) fun _ s8 ⟨σ8, H8, I8, hw8, q8⟩ => ?_
      refine thnF (pt.run _ s8 σ8 H8 _ I8 q8) fun b s9 ⟨H9, I9, q9⟩ => ?_
      have fin : ∀ {s' : Shared} {H' : Hp}, L2.Inv (X.blk s3 H3 scope ce fp) ([p] ++ pinsAt fp s7.heap) σ8 H' s' → Nx H' → ∃ m, m < n ∧ ∃ i H', L2.Inv (X.blk s3 H3 scope ce fp) [p] (wipe σ (own.map (·.2))) H' s' ∧ tn i s'.heap ∧ (∀ b ∈ fp, H' b = Option.none) ∧ W i m H' := fun {s' H'} I' nx => by
        obtain ⟨m', hm, w'⟩ := hNx H' nx
        have pin' : ∀ b ∈ fp, ∀ o, s7.heap.get? b = some o → s'.heap.get? b = some o ∧ H' b = Option.none := fun b hb o e =>
          let z := I'.pin (b, o) (List.mem_append_right _ (List.mem_append_right _ (mem_pinsAt hb e)))
          ⟨z.1, z.2.1⟩
        have hl : (wipe σ (own.map (·.2))).length = σ8.length := by rw [← hw8, wipe_length]
        refine ⟨m', hm, i + 1, H', (I'.unpinned (pins := [p])).weak hl (fun j v e => ?_), T.keep _ _ _ st7 fun b hb o e => (pin' b hb o e).1, fun b hb => ?_, w'⟩
        · rw [← hw8] at e
          exact (wipe_some e).1
        · obtain ⟨o, e, _⟩ := T.obj _ _ st7 b hb
          exact (pin' b hb o e).2
      cases b with
      | false =>
        simp only [Bool.false_eq_true, if_false] at q9 ⊢
        exact fin I9 q9
      | true =>
        simp only [if_true] at q9 ⊢
        refine thnF (pe.run _ s9 σ8 H9 _ I9 q9) fun z s10 ⟨yv, H10, I10, r10, acc, hD10, hz10, nx⟩ => ?_
        exact app_ok (X := X.blk s3 H3 scope ce fp) I10 hD10 hz10 r10 fun s11 I11 => fin I11 nx
  exact codeAny_compStart_list loop (T.self X.A 0 _ _ _ st4 loop)
end
end DL

/-! D10: a def called in an except suite with the caught error; isinstance of it; a call of a listed def; try .. except .. as. -/
namespace DL
open PySem PySem.Spec PyProof.Rows L2H HotX SX
open L2 hiding Dp DpAll
/-- a def called while p's exception is handled; what it is asked may speak of p -/
structure FnP (P : Program) (w : World) (K : PySem.W.Frag) (mg : Str → Option Value) (base : Heap) (CX : CXT) (k : Nat) (f : Addr) (fd : FuncData) (ps : List Str) (sp : Addr × Obj → Sp) : Prop where
  len : ∀ p vs H Q E, sp p vs H Q E → vs.length = ps.length
  run : ∀ (A : Around) (outer : List Env) (s : Shared) (H : Hp) (args : Args) (us : List Value) (vs : List V) (Q : VK) (E : XK) (p : Addr × Obj), RoomH k A → Hot1 A p → PinOk outer H s p → Env0 P w K mg base A outer s H → BindsTo s fd args (ps.zip us) → Vals vs us → sp p vs H Q E →
    codeAny (model P w) A (.call (.ref f) args) (CR CX outer P w H s Q E) s
theorem fnP_of {P : Program} {w : World} {K : PySem.W.Frag} {mg : Str → Option Value} {base : Heap} {k : Nat} {f : Addr} {x qual : Str} {st : Stmt} {fd : FuncData} {N ps : List Str} {sp : Addr × Obj → Sp} (F : Fun K x qual st f fd) (S : FnScope N ps (defScope st))
    (len : ∀ p vs H Q E, sp p vs H Q E → vs.length = ps.length)
    (hbody : ∀ (cdv : Value) (A : Around) (outer : List Env) (s : Shared) (H : Hp) (vs : List V) (Q : VK) (E : XK) (p : Addr × Obj), Hot1 A p → RoomH k (A.deeper (envOfC qual (defScope st) s.heap.objs.size f cdv)) → sp p vs H Q E →
      wB (cxH CX0 P w K mg base N qual (defScope st) f cdv A outer s H E p) (defBody st) { nx := fun _ H' => Q .non H', rt := Q } (start N vs) H) : FnP P w K mg base CX0 (k + 1) f fd ps sp := by
  obtain ⟨oc, od, kV, doc, pm, an, cdv, ct, osl, rfl, lk, hcd⟩ := F.ex
  refine ⟨len, fun A outer s H args us vs Q E p hr hot hpin e0 hb r hsp => ?_⟩
  have hl := len p _ _ _ _ hsp
  have KX : K.In s.heap := e0.mod.kin.keeps fun b o e => (e0.bs b o e).1
  have lim : s.heap.NoLimit := e0.mod.nolimit.keeps fun b o e => (e0.bs b o e).1
  have hkind : ∀ y ∈ ps.zip us, (defScope st).names.lookup y.1 = some .local ∨ ((defScope st).names.lookup y.1 = some .cell ∧ ((cellsFrom (s.heap.objs.size + 1) (defScope st).names []).lookup y.1).isSome = true) := fun ⟨n, v⟩ hy =>
    (S.par n (List.of_mem_zip hy).1).imp id fun q => ⟨q, PySem.W.cellsFrom_some _ _ _ (.inl q)⟩
  refine codeAny_call_function hr.depth (KX _ _ lk) rfl S.co S.gen rfl (PySem.W.codeRec_of KX hcd) (hb _ _ _ _ ?_)
  refine wpAny_newFunctionEnv_cells S.kind hkind fun env he s1 x => ?_
  subst he
  refine ⟨lim.keeps x.toInCall.keep, codeAny_func ?_⟩
  obtain ⟨t, ht, hq⟩ := hbody cdv A outer s H vs Q E p hot (hr.deeper _) hsp
  have I : L2.Inv (cxH CX0 P w K mg base N qual (defScope st) f cdv A outer s H E p) [] (L2.start N vs) H s1 := inv_startH S hpin e0 hl r x
  refine wpAny_mono (ht.run [] s1 (L2.start N vs) H _ I hq) (fun fl s' hs => ?_) fun e s' hs => hs
  have fin : ∀ {σ' : L2.St} {H' : Hp} {v : V} {u : Value}, L2.Inv (cxH CX0 P w K mg base N qual (defScope st) f cdv A outer s H E p) [] σ' H' s' → RelV v u → Q v H' → CE outer P w H s Q u s' :=
    fun {σ' H' v u} J rv q => ⟨v, H', J.os, J.bare, J.base, J.hok, rv, q⟩
  cases fl with
  | ret u => obtain ⟨v, σ', H', J, rv, q⟩ := hs; exact fin J rv q
  | next => obtain ⟨σ', H', J, q⟩ := hs; exact fin (v := V.non) (u := Value.none) J rfl q
  | brk => obtain ⟨_, _, _, q⟩ := hs; exact False.elim q
  | cont => obtain ⟨_, _, _, q⟩ := hs; exact False.elim q
section
variable {X : Cx} {k : Nat} {f : Addr} {fd : FuncData} {ps : List Str} {sp : Addr × Obj → Sp} {x : Str} {q pos : Pos} {e : Expr} {es : List Expr} {t : TA}
theorem pe_callP {p : Addr × Obj} (F : FnP X.prog X.w X.K X.mg X.base CX0 k f fd ps sp) (hr : RoomH k X.A) (hot : Hot1 X.A p) (hp : p ∈ X.pn) (hg : Gl X x) (hm : X.mg x = some (.ref f)) (hk : PySem.W.keepIn X.K (.ref f) = true) (hb : Binds X.K fd ps [])
    (ha : PA X (e :: es) t) (hdb : (x == ("__debug__" : Str)) = false := by decide) (he : starEach (e :: es) X.env = (false, eval e X.env) :: starEach es X.env := by rfl) (hpl : (backTo pos (starEach es X.env)).any (·.1) = false := by rfl) :
    PE X (.Call (.Name x q) (e :: es) [] pos) (tCallS (sp p) (fun _ => E0) t) := by
  refine ⟨fun pins s σ H Q I h => ?_⟩
  refine wpAny_Call_Name_kw (ld_glob I hg hm ?_ hdb)
  refine PySem.W.callWith_K (h₀ := X.base) I.ok.mod.kin hk (thn (ha.run pos pins s σ H _ I h) fun us s1 ⟨vs, H1, I1, r, h⟩ => ⟨I1.kIn, ?_⟩) he hpl
  have hl : us.length = ps.length := by rw [← r.length]; exact F.len _ _ _ _ _ h
  have b := hb s1 us I1.kIn (by rw [List.append_nil]; exact hl)
  rw [List.append_nil] at b
  have P1 := I1.pin p (List.mem_append_left _ hp)
  have hpin : PinOk X.stack H1 s1 p := ⟨P1.1, P1.2.1, fun hm => (List.mem_cons.mp (I1.stkSub p.1 hm)).elim P1.2.2.1 P1.2.2.2.1, P1.2.2.2.2⟩
  refine wpAny_call (codeAny_mono (F.run X.A X.stack s1 H1 ⟨us, []⟩ us vs Q E0 p hr hot hpin I1.env0 b r h) fun r s' hq => ?_)
  cases r with
  | error e => exact (show False from hq).elim
  | ok fl =>
    cases fl with
    | ret u => exact I1.after hq
    | next => exact False.elim hq
    | brk => exact False.elim hq
    | cont => exact False.elim hq
/-- isinstance(e, C), e the exception that stands pinned -/
theorem call_isP {a D : Addr} {oe : Obj} (hp : (a, oe) ∈ X.pn) (C : ExcC X.K D) (hz : Zc (.ref D) Option.none oe) (hf : ∃ vs, oe.data = .fields vs) : CallR X (.builtin "isinstance") (rIsE X.K D a) := by
  intro pins s σ H xs us Q I r h
  obtain ⟨c, cv, b, rfl, hcv, e, q⟩ := h
  cases r with
  | cons rx rr =>
    cases rr with
    | cons rt rr =>
      cases rr
      cases rx
      have ec := hcv _ rt
      subst ec
      obtain ⟨hget, _⟩ := I.pin (a, oe) (List.mem_append_left _ hp)
      obtain ⟨vs, hv⟩ := hf
      have J : PySem.W.InstAt s.heap a oe D Option.none := by
        obtain ⟨oc, od, oda, osl⟩ := oe
        obtain ⟨h1, h2⟩ := hz
        dsimp only at h1 h2 hv
        subst h1 h2 hv
        exact ⟨hget, rfl, rfl, trivial⟩
      exact PySem.W.kia_one (PySem.W.handS_kitx_exc C.hg C.hk C.hs C.hd C.ha C.hn C.ht C.hm) I.kIn J e (fun z => nomatch z) fun tk => ⟨.bl b, H, I.kept (t' := tk) fun _ _ z => z, rfl, q⟩
theorem e_isP (n : Nat) {G : Hp} {σ : L2.St} {a D c : Addr} {oe : Obj} {y z : Str} {b : Bool} {p p1 p2 : Pos} (hp : (a, oe) ∈ X.pn) (C : ExcC X.K D) (hz : Zc (.ref D) Option.none oe) (hf : ∃ vs, oe.data = .fields vs) (hm : X.mg "isinstance" = Option.none) (hy : X.mg y = some (.ref c)) (hk : PySem.W.kitOne X.K (.ref D) (.ref c) = some b)
    (hσ : σ[n]? = some (some (.ref a)) := by rfl) (hN : X.N[n]? = some z := by rfl) (hv : Vis X.env.scope z := by first | exact Or.inl rfl | exact Or.inr (Or.inl rfl) | exact Or.inr (Or.inr rfl)) (h1 : (z == ("__debug__" : Str)) = false := by decide) (h2 : (z == ("__classdict__" : Str)) = false := by decide)
    (hgy : Gl X y := by rfl) (hg : Gl X "isinstance" := by rfl) (hdy : (y == ("__debug__" : Str)) = false := by decide)
    (he : starEach [.Name z p1, .Name y p2] X.env = (false, eval (.Name z p1) X.env) :: starEach [.Name y p2] X.env := by rfl) (he2 : starEach [.Name y p2] X.env = (false, eval (.Name y p2) X.env) :: starEach [] X.env := by rfl) (hpl : (backTo pos (starEach [.Name y p2] X.env)).any (·.1) = false := by rfl) :
    E X (.Call (.Name "isinstance" p) [.Name z p1, .Name y p2] [] pos) σ G (.bool b) := fun G1 H1 g gh Q q =>
  ⟨_, pe_callB (call_isP hp C hz hf) hg hm (by decide +kernel) (pa_cons (pe_var hN hv h1 h2) (pa_cons (pe_glob (v := .ref c) hgy hy rfl hdy) pa_nil he2) he) (by decide) (by decide) he hpl,
    .ref a, hσ, .ref c, .ref c, b, rfl, fun u r => by cases r; rfl, hk, q _ G1 H1 (Nx.refl gh) (.bl b)⟩
/-- sum of ints, there -/
theorem e_sumH {σ : L2.St} {G : Hp} {a : Expr} {p : Pos} {ns : List Int} (hot : HotC X) (hm : X.mg "sum" = Option.none) (ha : E X a σ G (.list (ns.map PyData.int))) (hg : Gl X "sum" := by rfl) (he : starEach [a] X.env = (false, eval a X.env) :: starEach [] X.env := by rfl) (hpl : (backTo pos (starEach [] X.env)).any (·.1) = false := by rfl) :
    E X (.Call (.Name "sum" p) [a] [] pos) σ G (.int ns.sum) :=
  e_callB (cr_sumH hot) hm (by decide +kernel) (a_cons ha a_nil he) (fun us G1 H1 _ gh hu Q q => by
    obtain ⟨u, rfl, h⟩ := all1 hu
    obtain ⟨l, xs, rfl, hl, hx⟩ := Dp.lst_inv h
    rw [DpAll.ints_inv hx] at hl
    exact ⟨l, ns, rfl, Evl.ex_l gh hl, q _ G1 H1 (Nx.refl gh) (.int _)⟩) hg (by decide) (by decide) he hpl
/-- [elt for x in range(n)], there -/
theorem e_lcRH {σ : L2.St} {G : Hp} {elt : Expr} {tpos p : Pos} {x : Str} {j : Nat} {scope : Scope} {na : Expr} {n : Nat} {f : Nat → D} (hot : HotC X) (hN : X.N.Nodup) (hm : X.mg "range" = Option.none) (ha : A X [na] σ G [.int (n : Int)]) (hn : n ≤ 100000) (ok : BlkOk X.N X.env.scope scope [(x, j)])
    (hg : ∀ s H C cl fp, PG (blkX X scope s H C cl fp) (.Name x tpos) (gName j))
    (he : ∀ i, i < n → ∀ s H0 C cl fp, E (blkX X scope s H0 C cl fp) elt (σ.set j (some (.int (i : Int)))) G (f i)) (hgr : Gl X "range" := by rfl) (hse : starEach [na] X.env = [(false, eval na X.env)] := by rfl)
    (hs : ∀ y, foldedSetIterable (.Call (.Name "range" p) [na] [] pos) X.env y = pure y := by intro _; rfl) {lpos : Pos} : E X (.ListComp elt [⟨.Name x tpos, .Call (.Name "range" p) [na] [] pos, [], 0⟩] scope lpos) σ G (.list ((List.range n).map f)) := fun G1 H1 g gh Q q =>
  ⟨_, pe_lcH (own := [(x, j)]) (te := wBE X scope elt) hot hN (pi_range1H hgr hm pa_w hse) ok hg (fun _ _ _ _ _ => pts_nil) (fun s H C cl fp => ⟨fun pins s' σ' H' Q' I h => (pe_w (X := blkX X scope s H C cl fp)).run pins s' σ' H' Q' I (h s H C cl fp)⟩) hs,
    ha G1 H1 g gh _ fun vs G2 H2 n2 hv => by
      obtain ⟨u, rfl, hu⟩ := all1 hv
      cases hu
      refine ⟨(n : Int), rfl, by omega, by omega, fun Dl hD => ?_⟩
      rw [Int.toNat_natCast]
      refine lc_range (lo := 0) (n := n) (fun i H' => ∃ G' vs, Lcl G2 H2 Dl G' H' vs ∧ DpAll X.K G' vs (kept i (fun _ => true) f)) ⟨G2, [], Lcl.start n2.gh hD, .nil⟩ (fun i H' hi Pi => ?_) fun H' ⟨G', vs, L, dv⟩ => ?_
      · have e0 : (0 : Int) + (i : Int) = (i : Int) := Int.zero_add _
        rw [e0]
        refine ⟨wipe1 σ j _, ?_⟩
        exact lc_turn (σ := σ) (j := j) (G := G) (ifs := []) hi hn (g.trans n2.g) Pi (fun _ _ => trivial) (fun G1 H1 _ gh Q q => q G1 H1 (Nx.refl gh)) (fun _ => he i hi)
      · rw [kept_all] at dv
        exact q _ _ _ (n2.trans L.done) (.lst (Evl.sq_of upd_same) (DpAll.mono (Evl.Ex.new L.gl) dv))⟩
end
end DL

/-! D11: return [f, g, ..][i](a, ..); try: .. except C as e: return h(e). -/
namespace DL
open PySem PySem.Spec PyProof.Rows L2H HotX SX
open L2 hiding Dp DpAll
/-- names of the module's defs -/
inductive GN (X : Cx) : List Expr → List (Str × Addr) → Prop
  | nil : GN X [] []
  | cons {x : Str} {f : Addr} {p : Pos} {es : List Expr} {l : List (Str × Addr)} (hm : X.mg x = some (.ref f)) (hg : Gl X x) (hdb : (x == ("__debug__" : Str)) = false) (hs : starEach (.Name x p :: es) X.env = (false, eval (.Name x p) X.env) :: starEach es X.env) (r : GN X es l) : GN X (.Name x p :: es) ((x, f) :: l)
theorem gn_cons {X : Cx} {x : Str} {p : Pos} {es : List Expr} {l : List (Str × Addr)} {k : Nat} {R : List D → Except Str D → Prop} (F : XFn X.prog X.w X.K X.mg X.base k x R) (r : GN X es l) (hg : Gl X x := by rfl) (hdb : (x == ("__debug__" : Str)) = false := by decide)
    (hs : starEach (.Name x p :: es) X.env = (false, eval (.Name x p) X.env) :: starEach es X.env := by rfl) : ∃ f, GN X (.Name x p :: es) ((x, f) :: l) := by
  obtain ⟨f, hm, _⟩ := F.ex
  exact ⟨f, .cons hm hg hdb hs r⟩
theorem pa_names {X : Cx} {es : List Expr} {l : List (Str × Addr)} (h : GN X es l) : PA X es (fun σ H Q => Q (l.map fun z => V.ref z.2) H) := by
  induction h with
  | nil => exact pa_nil
  | cons hm hg hdb hs r ih =>
    have := pa_cons (pe_glob (v := .ref _) hg hm rfl hdb) ih hs
    exact this
section
variable {X : Cx} {σ : L2.St} {G H : Hp} {e ix : Expr} {es ns : List Expr} {pos p p2 pos2 : Pos} {d : D} {ds : List D} {x : Str} {k : Nat} {rest : List Stmt} {Z : Ends}
/-- a call whose def comes from an expression -/
theorem pe_callF {CX : CXT} {Er : L2.St → XK} {fe : Expr} {tf : TE} {ta : TA} (hf : PE X fe tf) (hr : Room k X.A) (hx : ∀ σ, PassesAt CX X σ (Er σ)) (ha : PA X (e :: es) ta)
    (hc : eval (.Call fe (e :: es) [] pos) X.env = (do callWith pos (← eval fe X.env) [] (backTo pos (starEach (e :: es) X.env)) (backToKw pos (keywordEach [] X.env))) := by rfl)
    (he : starEach (e :: es) X.env = (false, eval e X.env) :: starEach es X.env := by rfl) (hpl : (backTo pos (starEach es X.env)).any (·.1) = false := by rfl) :
    PE X (.Call fe (e :: es) [] pos) (fun σ H Q => tf σ H fun v H1 => ∃ f sp, v = .ref f ∧ PySem.W.keepIn X.K (.ref f) = true ∧ FnR X.prog X.w X.K X.mg X.base CX k f sp ∧ ta σ H1 fun vs H2 => sp vs H2 Q (Er σ)) := by
  refine ⟨fun pins s σ H Q I h => ?_⟩
  refine Call_ (thn (hf.run pins s σ H _ I h) fun u s1 ⟨v, H1, I1, r1, f, sp, e1, hk, F, q⟩ => ?_) hc
  subst e1
  cases r1
  exact PySem.W.callWith_K (h₀ := X.base) I1.ok.mod.kin hk (thn (ha.run pos pins s1 σ H1 _ I1 q) fun us s2 ⟨vs, H2, I2, r, q⟩ => ⟨I2.kIn, run_fnRS F hr (hx σ) I2 r q⟩) he hpl
/-- return [f, g, ..][i](a, ..) -/
theorem s_retIx {W : WX} {R : List D → Except Str D → Prop} {r : Except Str D} {i : Int} {l : List (Str × Addr)} {f : Addr} (hn : GN X ns l) (hl : l.length ≤ 1000) (hix : E X ix σ G (.int i)) (hat : atI l i = some (x, f)) (hmx : X.mg x = some (.ref f)) (F : XFn X.prog X.w X.K X.mg X.base k x R) (hr : Room k X.A) (tk : L2N.Takes X W) (ha : A X (e :: es) σ G ds) (hR : R ds r) (gh : Ex G H)
    (ok : ∀ d, r = .ok d → ∀ v G' H', Nx G H G' H' → Dp X.K G' v d → Z.rt v H') (er : ∀ n c, r = .error n → X.mg n = some (.ref c) → ∀ G' H', Nx G H G' H' → W (.ref c) Option.none σ H')
    (hs : PlainIx ix := by exact fun _ _ => rfl)
    (hc : eval (.Call (.Subscript (.List ns p) ix p2) (e :: es) [] pos) X.env = (do callWith pos (← eval (.Subscript (.List ns p) ix p2) X.env) [] (backTo pos (starEach (e :: es) X.env)) (backToKw pos (keywordEach [] X.env))) := by rfl)
    (he : starEach (e :: es) X.env = (false, eval e X.env) :: starEach es X.env := by rfl) (hpl : (backTo pos (starEach es X.env)).any (·.1) = false := by rfl) :
    wB X (.Return (some (.Call (.Subscript (.List ns p) ix p2) (e :: es) [] pos)) pos2 :: rest) Z σ H := by
  obtain ⟨f', hm, hk, F⟩ := F.ex
  have ef : f' = f := by rw [hmx] at hm; cases hm; rfl
  subst ef
  refine s_cons ⟨_, ps_ret (pe_callF (pe_ix ix_list (pe_lst (pa_names hn)) pe_w hs) hr (fun σ => L2N.passAt tk σ) pa_w hc he hpl), ⟨by rw [List.length_map]; exact Evl.sz_of (by omega), fun q hq => ?_⟩⟩
  have n0 := Nx.new (o := .lst (l.map fun z => V.ref z.2)) gh hq
  refine hix _ _ n0.g n0.gh _ fun v G2 H2 n2 hv => ⟨q, _, i, .ref f', rfl, Dp.int_inv hv, .inl (.inl (n2.h _ _ upd_same)), ?_, f', _, rfl, hk, F, ha G2 H2 (n0.g.trans n2.g) n2.gh _ fun us G3 H3 n3 hu => ?_⟩
  · unfold atI at hat ⊢
    rw [List.length_map]
    cases hx : ixN l.length i with
    | none => rw [hx] at hat; cases hat
    | some j =>
      rw [hx] at hat
      have hat : l[j]? = some (x, f') := hat
      show (l.map fun z => V.ref z.2)[j]? = _
      rw [List.getElem?_map, hat]; rfl
  · exact ⟨ds, r, G3, hR, n3.gh, hu, fun d hd v G4 H4 n4 hv => ok d hd v G4 H4 (((n0.trans n2).trans n3).trans n4) hv, fun n c hn hc G4 H4 n4 => er n c hn hc G4 H4 (((n0.trans n2).trans n3).trans n4)⟩
/-- what an error asks of the clause -/
theorem takes0N : L2N.Takes X (fun _ _ _ _ => False) := fun _ _ x => by
  obtain ⟨_, _, _, _, _, _, _, _, _, _, _, _, _, _, _, _, z⟩ := x
  exact z.elim
/-- try: body / except x as n: suite -/
theorem s_tryAs (i : Nat) {n : Str} {c : Addr} {body suite : List Stmt} {b₀ : Stmt} {np pos' : Pos} (hN : X.N.Nodup) (hm : X.mg x = some (.ref c))
    (hb : ∀ (W : WX), (∀ (D0 : Addr) (σ' : L2.St) (H' : Hp), PySem.W.exmOne X.K (.ref D0) (.ref c) = some true → (∀ (a : Addr) (oe : Obj) (pn : List (Addr × Obj)), H' a = Option.none → L2N.Zn (.ref D0) Option.none oe → (∃ vs, oe.data = .fields vs) →
        wB (X.suite a ((a, oe) :: pn)) (b₀ :: suite) { nx := fun σ' H' => wB X rest Z (σ'.set i Option.none) H', rt := Z.rt, bk := fun σ' H' => Z.bk (σ'.set i Option.none) H', ct := fun σ' H' => Z.ct (σ'.set i Option.none) H' } (σ'.set i (some (.ref a))) H') → W (.ref D0) Option.none σ' H') →
      ∀ (pn : List (Addr × Obj)) (xe : Value → Shared → Prop), L2N.Takes (X.tr pn xe) W → PassesOwn (model X.prog X.w) X.A X.env xe → wB (X.tr pn xe) body { Z with nx := wB X rest Z } σ H)
    (hs : X.stack = X.env :: X.outer := by rfl) (hf : X.env.frame = some X.env.locals := by rfl) (hi : X.N[i]? = some n := by rfl) (hln : X.env.kindOf n = some .local := by rfl) (hg : Gl X x := by rfl) (hdb : (x == ("__debug__" : Str)) = false := by decide) :
    wB X (.Try body [.ExceptHandler (some (.Name x np)) (some n) (b₀ :: suite) pos'] [] [] pos :: rest) Z σ H :=
  s_cons ⟨_, L2N.ps_try_as (tb := fun W Z σ H => ∀ (pn : List (Addr × Obj)) (xe : Value → Shared → Prop), L2N.Takes (X.tr pn xe) W → PassesOwn (model X.prog X.w) X.A X.env xe → wB (X.tr pn xe) body Z σ H)
      (ts := fun a cls d Z σ H => ∀ (oe : Obj) (pn : List (Addr × Obj)), L2N.Zn cls d oe → (∃ vs, oe.data = .fields vs) → wB (X.suite a ((a, oe) :: pn)) (b₀ :: suite) Z σ H)
      hs hf hN hi hln ⟨hg, hdb, .inl hm⟩ takes0N (fun W pn xe tk po => ⟨fun pins s σ H D I h => pss_w.run pins s σ H D I (h pn xe tk po)⟩)
      (fun a oe cls d pn hz hd => ⟨fun pins s σ H D I h => pss_w.run pins s σ H D I (h oe pn hz hd)⟩),
    hb _ fun D0 σ' H' hx h => ⟨true, hx, fun _ a ha oe pn hz hd => h a oe pn ha hz hd, fun z => nomatch z⟩⟩
end
end DL

/-! D12: w, x, y, z = (..). -/
namespace DL
open PySem PySem.Spec PyProof.Rows L2H HotX SX
open L2 hiding Dp DpAll
theorem all4 {K : PySem.W.Frag} {H : Hp} {us : List V} {a b c d : D} (h : DpAll K H us [a, b, c, d]) : ∃ u v w x, us = [u, v, w, x] ∧ Dp K H u a ∧ Dp K H v b ∧ Dp K H w c ∧ Dp K H x d := by
  cases h with
  | cons h r => obtain ⟨v, w, x, rfl, q⟩ := all3 r; exact ⟨_, v, w, x, rfl, h, q⟩
section
variable {X : Cx} {σ : L2.St} {G H : Hp} {l : Addr} {es : List Expr} {pos : Pos} {rest : List Stmt} {Z : Ends}
/-- four names at once, drawn -/
theorem sm_tup4 (i j k m : Nat) {w x y z : Str} {pw px py pz pt pt2 : Pos} {kt k2 : Nat} {Rs : List D → Prop} (hcalm : X.calm = true) (hN : X.N.Nodup) (ha : AM X es σ G l Rs) (mo : MO G H l) (hl : ∀ ds, Rs ds → ∃ a b c d, ds = [a, b, c, d])
    (q : ∀ u v w x a b c d G' H', Rs [a, b, c, d] → Ex G G' → MO G' H' l → Dp X.K G' u a → Dp X.K G' v b → Dp X.K G' w c → Dp X.K G' x d → wB X rest Z ((((σ.set i (some u)).set j (some v)).set k (some w)).set m (some x)) H')
    (hi : X.N[i]? = some w := by rfl) (hj : X.N[j]? = some x := by rfl) (hk : X.N[k]? = some y := by rfl) (hm : X.N[m]? = some z := by rfl)
    (li : L2.Loc X.env.scope w := by first | exact Or.inl rfl | exact Or.inr rfl) (lj : L2.Loc X.env.scope x := by first | exact Or.inl rfl | exact Or.inr rfl) (lk : L2.Loc X.env.scope y := by first | exact Or.inl rfl | exact Or.inr rfl) (lm : L2.Loc X.env.scope z := by first | exact Or.inl rfl | exact Or.inr rfl)
    (fi : X.fn w = true ∨ X.env.scope.names.lookup w = some .local := by first | exact .inl rfl | exact .inr rfl) (fj : X.fn x = true ∨ X.env.scope.names.lookup x = some .local := by first | exact .inl rfl | exact .inr rfl)
    (fk : X.fn y = true ∨ X.env.scope.names.lookup y = some .local := by first | exact .inl rfl | exact .inr rfl) (fm : X.fn z = true ∨ X.env.scope.names.lookup z = some .local := by first | exact .inl rfl | exact .inr rfl)
    (h4 : (assignEach [.Name w pw, .Name x px, .Name y py, .Name z pz] X.env).map (·.2) = assign (.Name w pw) X.env :: (assignEach [.Name x px, .Name y py, .Name z pz] X.env).map (·.2) := by rfl)
    (h3 : (assignEach [.Name x px, .Name y py, .Name z pz] X.env).map (·.2) = assign (.Name x px) X.env :: (assignEach [.Name y py, .Name z pz] X.env).map (·.2) := by rfl)
    (h2 : (assignEach [.Name y py, .Name z pz] X.env).map (·.2) = assign (.Name y py) X.env :: (assignEach [.Name z pz] X.env).map (·.2) := by rfl)
    (h1 : (assignEach [.Name z pz] X.env).map (·.2) = assign (.Name z pz) X.env :: (assignEach [] X.env).map (·.2) := by rfl)
    (hn : (assignEach [.Name w pw, .Name x px, .Name y py, .Name z pz] X.env).length = 4 := by rfl) (hst : (assignEach [.Name w pw, .Name x px, .Name y py, .Name z pz] X.env).findIdx? (·.1) = Option.none := by rfl)
    (hs : swapsWithSole [.Tuple [.Name w pw, .Name x px, .Name y py, .Name z pz] kt pt] (.Tuple es k2 pt2) pos.line X.env = pure false := by rfl)
    (hw : swappedStores [.Tuple [.Name w pw, .Name x px, .Name y py, .Name z pz] kt pt] (.Tuple es k2 pt2) X.env = pure Option.none := by rfl)
    (ht : (assignEach [.Tuple [.Name w pw, .Name x px, .Name y py, .Name z pz] kt pt] X.env).map (·.2) = [assign (.Tuple [.Name w pw, .Name x px, .Name y py, .Name z pz] kt pt) X.env] := by rfl) :
    wB X (.Assign [.Tuple [.Name w pw, .Name x px, .Name y py, .Name z pz] kt pt] (.Tuple es k2 pt2) pos :: rest) Z σ H :=
  s_cons ⟨_, ps_asg pe_w (pg_tup hcalm (pgs_cons (pg_name hN hi li fi) (pgs_cons (pg_name hN hj lj fj) (pgs_cons (pg_name hN hk lk fk) (pgs_cons (pg_name hN hm lm fm) pgs_nil h1) h2) h3) h4) hn hst) hs hw ht,
    em_tup ha (fun ds r => by obtain ⟨a, b, c, d, rfl⟩ := hl ds r; simp) G H (Evl.Ex.refl _) mo _ fun v d G' H' ⟨ds, e, r⟩ g' m' hv => by
      subst e
      obtain ⟨a, b, c, d, rfl⟩ := hl ds r
      obtain ⟨p, xs, rfl, ht', hx⟩ := Dp.tup_inv hv
      obtain ⟨u1, u2, u3, u4, rfl, d1, d2, d3, d4⟩ := all4 hx
      exact ⟨p, _, rfl, Evl.ex_t m'.gh ht', rfl, _, _, rfl, _, _, rfl, _, _, rfl, _, _, rfl, rfl, q u1 u2 u3 u4 a b c d G' H' r g' m' d1 d2 d3 d4⟩⟩
end
end DL

/-! D13: tuples of the module; expressions that may raise. -/
namespace DL
open PySem PySem.Spec PyProof.Rows SX
open L2 hiding Dp DpAll
/-- a tuple of ints that the module names -/
structure KTup (K : PySem.W.Frag) (mg : Str → Option Value) (x : Str) (ns : List Int) : Prop where
  ex : ∃ (a : Addr) (o : Obj) (its : Array Value) (n : Nat), mg x = some (.ref a) ∧ K.lookup a = some o ∧ o.cls = .type "tuple" ∧ o.data = .seq its n ∧ its.size ≤ sizeLine ∧ Vals (ns.map V.int) its.toList
section
variable {X : Cx} {σ : L2.St} {G H : Hp} {a b c e : Expr} {es : List Expr} {pos p p2 : Pos} {d : D} {ds : List D} {x : Str} {k : Nat} {rest : List Stmt} {Z : Ends}
theorem e_globT {ns : List Int} (h : KTup X.K X.mg x ns) (hg : Gl X x := by rfl) (h1 : (x == ("__debug__" : Str)) = false := by decide) : E X (.Name x pos) σ G (.tuple (ns.map PyData.int)) := by
  obtain ⟨a, o, its, n, hm, hl, hc, hd, hz, hv⟩ := h.ex
  exact fun G1 H1 _ gh Q q => ⟨_, pe_glob (v := .ref a) hg hm rfl h1, q _ G1 H1 (Nx.refl gh) (.tup (.inr ⟨o, its, n, hl, hc, hd, hz, hv⟩) DpAll.ints)⟩

/-! ### expressions that come to data, or raise -/
/-- e comes to d (r = ok d), or raises the module's error of that name -/
def EX (X : Cx) (W : WX) (e : Expr) (σ : L2.St) (G : Hp) (r : Except Str D) : Prop :=
  ∀ G1 H1, Ex G G1 → Ex G1 H1 → ∀ Q : VK, (∀ d, r = .ok d → ∀ v G2 H2, Nx G1 H1 G2 H2 → Dp X.K G2 v d → Q v H2) → (∀ n c, r = .error n → X.mg n = some (.ref c) → ∀ G2 H2, Nx G1 H1 G2 H2 → W (.ref c) Option.none σ H2) → wE X e σ H1 Q
def AX (X : Cx) (W : WX) (es : List Expr) (σ : L2.St) (G : Hp) (r : Except Str (List D)) : Prop :=
  ∀ G1 H1, Ex G G1 → Ex G1 H1 → ∀ Q : List V → Hp → Prop, (∀ ds, r = .ok ds → ∀ vs G2 H2, Nx G1 H1 G2 H2 → DpAll X.K G2 vs ds → Q vs H2) → (∀ n c, r = .error n → X.mg n = some (.ref c) → ∀ G2 H2, Nx G1 H1 G2 H2 → W (.ref c) Option.none σ H2) → wA X es σ H1 Q
variable {W : WX} {r : Except Str D} {rs : Except Str (List D)}
theorem ex_of (h : E X e σ G d) : EX X W e σ G (.ok d) := fun G1 H1 g gh Q q _ => h G1 H1 g gh Q fun v G2 H2 n hv => q d rfl v G2 H2 n hv
theorem ex_is {r' : Except Str D} (h : EX X W e σ G r) (q : r = r') : EX X W e σ G r' := q ▸ h
theorem ax_nil : AX X W [] σ G (.ok []) := fun G1 H1 _ gh Q q _ => ⟨_, pa_nil, q [] rfl [] G1 H1 (Nx.refl gh) .nil⟩
theorem ax_of (h : A X es σ G ds) : AX X W es σ G (.ok ds) := fun G1 H1 g gh Q q _ => h G1 H1 g gh Q fun v G2 H2 n hv => q ds rfl v G2 H2 n hv
/-- the first to raise raises -/
def consX : Except Str D → Except Str (List D) → Except Str (List D)
  | .ok d, .ok ds => .ok (d :: ds)
  | .ok _, .error n => .error n
  | .error n, _ => .error n
theorem ax_cons (h : EX X W e σ G r) (hr : AX X W es σ G rs) (hs : starEach (e :: es) X.env = (false, eval e X.env) :: starEach es X.env := by rfl) : AX X W (e :: es) σ G (consX r rs) := fun G1 H1 g gh Q q er => by
  refine ⟨_, pa_cons pe_w pa_w hs, h G1 H1 g gh _ (fun d hd u G2 H2 n hu => ?_) fun n c hn hc G2 H2 nn => er n c (by rw [hn]; rfl) hc G2 H2 nn⟩
  subst hd
  refine hr G2 H2 (g.trans n.g) n.gh _ (fun ds hd vs G3 H3 n2 hv => ?_) fun m c hn hc G3 H3 nn => er m c (by rw [hn]; rfl) hc G3 H3 (n.trans nn)
  subst hd
  exact q _ rfl _ G3 H3 (n.trans n2) (.cons (Dp.mono n2.g hu) hv)
/-- a def that may raise, its arguments may raise -/
theorem ex_call {R : List D → Except Str D → Prop} (F : XFn X.prog X.w X.K X.mg X.base k x R) (hr : Room k X.A) (tk : L2N.Takes X W) (ha : AX X W (e :: es) σ G rs) (hR : ∀ ds, rs = .ok ds → R ds r) (hE : ∀ n, rs = .error n → r = .error n) (hg : Gl X x := by rfl) (hdb : (x == ("__debug__" : Str)) = false := by decide)
    (he : starEach (e :: es) X.env = (false, eval e X.env) :: starEach es X.env := by rfl) (hpl : (backTo pos (starEach es X.env)).any (·.1) = false := by rfl) : EX X W (.Call (.Name x p) (e :: es) [] pos) σ G r := fun G1 H1 g gh Q q er => by
  obtain ⟨f, hm, hk, F⟩ := F.ex
  exact ⟨_, pe_callR (Er := WE W) F hr hg hm hk (L2N.passAt tk) pa_w hdb he hpl, ha G1 H1 g gh _ (fun ds hd us G2 H2 n hu => ⟨ds, r, G2, hR ds hd, n.gh, hu, fun d hd v G3 H3 n3 hv => q d hd v G3 H3 (n.trans n3) hv, fun m c hm hc G3 H3 n3 => er m c hm hc G3 H3 (n.trans n3)⟩) fun m c hm hc G2 H2 n => er m c (hE m hm) hc G2 H2 n⟩
/-- a def without side effects, its arguments may raise -/
theorem ex_callP {R : List D → D → Prop} (F : PFn X.prog X.w X.K X.mg X.base k x R) (hr : Room k X.A) (ha : AX X W (e :: es) σ G rs) (hR : ∀ ds, rs = .ok ds → ∃ d, R ds d ∧ r = .ok d) (hE : ∀ n, rs = .error n → r = .error n) (hg : Gl X x := by rfl) (hdb : (x == ("__debug__" : Str)) = false := by decide)
    (he : starEach (e :: es) X.env = (false, eval e X.env) :: starEach es X.env := by rfl) (hpl : (backTo pos (starEach es X.env)).any (·.1) = false := by rfl) : EX X W (.Call (.Name x p) (e :: es) [] pos) σ G r := fun G1 H1 g gh Q q er => by
  obtain ⟨f, hm, hk, F⟩ := F.ex
  exact ⟨_, pe_callR (Er := fun _ => E0) F hr hg hm hk passAt0 pa_w hdb he hpl, ha G1 H1 g gh _ (fun ds hd us G2 H2 n hu => by
    obtain ⟨d, h1, h2⟩ := hR ds hd
    exact ⟨ds, d, G2, h1, n.gh, hu, fun v G3 H3 n3 hv => q d h2 v G3 H3 (n.trans n3) hv⟩) fun m c hm hc G2 H2 n => er m c (hE m hm) hc G2 H2 n⟩
theorem ex_if {k : Bool} (h : T X c σ G k) (h1 : k = true → EX X W a σ G r) (h2 : k = false → EX X W b σ G r) : EX X W (.IfExp c a b pos) σ G r := fun G1 H1 g gh Q q er =>
  ⟨_, pe_ifExp pt_w pe_w pe_w, h G1 H1 g gh _ fun G2 H2 n => by
    cases k with
    | true => exact iteT (h1 rfl G2 H2 (g.trans n.g) n.gh Q (fun d hd v G3 H3 n3 hv => q d hd v G3 H3 (n.trans n3) hv) fun m c hm hc G3 H3 n3 => er m c hm hc G3 H3 (n.trans n3))
    | false => exact iteF (h2 rfl G2 H2 (g.trans n.g) n.gh Q (fun d hd v G3 H3 n3 hv => q d hd v G3 H3 (n.trans n3) hv) fun m c hm hc G3 H3 n3 => er m c hm hc G3 H3 (n.trans n3))⟩
/-- return e, e may raise -/
theorem s_retX (h : EX X W e σ G r) (gh : Ex G H) (q : ∀ d, r = .ok d → ∀ v G' H', Nx G H G' H' → Dp X.K G' v d → Z.rt v H') (er : ∀ n c, r = .error n → X.mg n = some (.ref c) → ∀ G' H', Nx G H G' H' → W (.ref c) Option.none σ H') : wB X (.Return (some e) pos :: rest) Z σ H :=
  s_cons ⟨_, ps_ret pe_w, h G H (Evl.Ex.refl _) gh _ q er⟩
end
end DL

namespace K01
open PySem PySem.Spec PyProof.Rows DL
open L2 hiding Dp DpAll
def top (i : Nat) : Stmt := PySem.Challenge.pw_withinwidth_k01_whole_spans_and_boxes.main.body.getD i (.Pass ⟨0, 0, 0, 0⟩)
abbrev s_is_integer : Stmt := top 9
abbrev N_is_integer : List Str := ["value"]
theorem sc_is_integer : FnScope N_is_integer ["value"] (defScope s_is_integer) := ⟨rfl, rfl, rfl, by decide +kernel, rfl, by decide +kernel, by decide +kernel⟩
abbrev s_is_within : Stmt := top 10
abbrev N_is_within : List Str := ["value", "low", "high"]
theorem sc_is_within : FnScope N_is_within ["value", "low", "high"] (defScope s_is_within) := ⟨rfl, rfl, rfl, by decide +kernel, rfl, by decide +kernel, by decide +kernel⟩
abbrev s_is_small : Stmt := top 11
abbrev N_is_small : List Str := ["sign"]
theorem sc_is_small : FnScope N_is_small ["sign"] (defScope s_is_small) := ⟨rfl, rfl, rfl, by decide +kernel, rfl, by decide +kernel, by decide +kernel⟩
abbrev s_is_name : Stmt := top 12
abbrev N_is_name : List Str := ["value", "sign"]
theorem sc_is_name : FnScope N_is_name ["value"] (defScope s_is_name) := ⟨rfl, rfl, rfl, by decide +kernel, rfl, by decide +kernel, by decide +kernel⟩
abbrev s_check : Stmt := top 13
abbrev N_check : List Str := ["is_right"]
theorem sc_check : FnScope N_check ["is_right"] (defScope s_check) := ⟨rfl, rfl, rfl, by decide +kernel, rfl, by decide +kernel, by decide +kernel⟩
abbrev s_shared : Stmt := top 18
abbrev N_shared : List Str := ["a", "b"]
theorem sc_shared : FnScope N_shared ["a", "b"] (defScope s_shared) := ⟨rfl, rfl, rfl, by decide +kernel, rfl, by decide +kernel, by decide +kernel⟩
abbrev s_made : Stmt := top 19
abbrev N_made : List Str := ["n", "d", "divisor", "sign"]
theorem sc_made : FnScope N_made ["n", "d"] (defScope s_made) := ⟨rfl, rfl, rfl, by decide +kernel, rfl, by decide +kernel, by decide +kernel⟩
abbrev s_is_ratio : Stmt := top 20
abbrev N_is_ratio : List Str := ["value"]
theorem sc_is_ratio : FnScope N_is_ratio ["value"] (defScope s_is_ratio) := ⟨rfl, rfl, rfl, by decide +kernel, rfl, by decide +kernel, by decide +kernel⟩
abbrev s_add : Stmt := top 21
abbrev N_add : List Str := ["a", "b"]
theorem sc_add : FnScope N_add ["a", "b"] (defScope s_add) := ⟨rfl, rfl, rfl, by decide +kernel, rfl, by decide +kernel, by decide +kernel⟩
abbrev s_opposite : Stmt := top 22
abbrev N_opposite : List Str := ["a"]
theorem sc_opposite : FnScope N_opposite ["a"] (defScope s_opposite) := ⟨rfl, rfl, rfl, by decide +kernel, rfl, by decide +kernel, by decide +kernel⟩
abbrev s_less : Stmt := top 23
abbrev N_less : List Str := ["a", "b"]
theorem sc_less : FnScope N_less ["a", "b"] (defScope s_less) := ⟨rfl, rfl, rfl, by decide +kernel, rfl, by decide +kernel, by decide +kernel⟩
abbrev s_product : Stmt := top 24
abbrev N_product : List Str := ["a", "b"]
theorem sc_product : FnScope N_product ["a", "b"] (defScope s_product) := ⟨rfl, rfl, rfl, by decide +kernel, rfl, by decide +kernel, by decide +kernel⟩
abbrev s_share : Stmt := top 25
abbrev N_share : List Str := ["a", "b"]
theorem sc_share : FnScope N_share ["a", "b"] (defScope s_share) := ⟨rfl, rfl, rfl, by decide +kernel, rfl, by decide +kernel, by decide +kernel⟩
abbrev s_is_below : Stmt := top 26
abbrev N_is_below : List Str := ["a", "b"]
theorem sc_is_below : FnScope N_is_below ["a", "b"] (defScope s_is_below) := ⟨rfl, rfl, rfl, by decide +kernel, rfl, by decide +kernel, by decide +kernel⟩
abbrev s_lesser : Stmt := top 27
abbrev N_lesser : List Str := ["a", "b"]
theorem sc_lesser : FnScope N_lesser ["a", "b"] (defScope s_lesser) := ⟨rfl, rfl, rfl, by decide +kernel, rfl, by decide +kernel, by decide +kernel⟩
abbrev s_greater : Stmt := top 28
abbrev N_greater : List Str := ["a", "b"]
theorem sc_greater : FnScope N_greater ["a", "b"] (defScope s_greater) := ⟨rfl, rfl, rfl, by decide +kernel, rfl, by decide +kernel, by decide +kernel⟩
abbrev s_size_by : Stmt := top 29
abbrev N_size_by : List Str := ["a"]
theorem sc_size_by : FnScope N_size_by ["a"] (defScope s_size_by) := ⟨rfl, rfl, rfl, by decide +kernel, rfl, by decide +kernel, by decide +kernel⟩
abbrev s_raised : Stmt := top 30
abbrev N_raised : List Str := ["a", "n", "found"]
theorem sc_raised : FnScope N_raised ["a", "n"] (defScope s_raised) := ⟨rfl, rfl, rfl, by decide +kernel, rfl, by decide +kernel, by decide +kernel⟩
abbrev s_power_by : Stmt := top 31
abbrev N_power_by : List Str := ["a", "n"]
theorem sc_power_by : FnScope N_power_by ["a", "n"] (defScope s_power_by) := ⟨rfl, rfl, rfl, by decide +kernel, rfl, by decide +kernel, by decide +kernel⟩
abbrev s_of_bits : Stmt := top 32
abbrev N_of_bits : List Str := ["n", "k"]
theorem sc_of_bits : FnScope N_of_bits ["n", "k"] (defScope s_of_bits) := ⟨rfl, rfl, rfl, by decide +kernel, rfl, by decide +kernel, by decide +kernel⟩
abbrev s_down_by : Stmt := top 33
abbrev N_down_by : List Str := ["a", "k"]
theorem sc_down_by : FnScope N_down_by ["a", "k"] (defScope s_down_by) := ⟨rfl, rfl, rfl, by decide +kernel, rfl, by decide +kernel, by decide +kernel⟩
abbrev s_up_by : Stmt := top 34
abbrev N_up_by : List Str := ["a", "k"]
theorem sc_up_by : FnScope N_up_by ["a", "k"] (defScope s_up_by) := ⟨rfl, rfl, rfl, by decide +kernel, rfl, by decide +kernel, by decide +kernel⟩
abbrev s_is_span : Stmt := top 38
abbrev N_is_span : List Str := ["value"]
theorem sc_is_span : FnScope N_is_span ["value"] (defScope s_is_span) := ⟨rfl, rfl, rfl, by decide +kernel, rfl, by decide +kernel, by decide +kernel⟩
abbrev s_check_spans : Stmt := top 39
abbrev N_check_spans : List Str := ["values", "value"]
theorem sc_check_spans : FnScope N_check_spans ["values"] (defScope s_check_spans) := ⟨rfl, rfl, rfl, by decide +kernel, rfl, by decide +kernel, by decide +kernel⟩
abbrev s_check_ratio : Stmt := top 40
abbrev N_check_ratio : List Str := ["value"]
theorem sc_check_ratio : FnScope N_check_ratio ["value"] (defScope s_check_ratio) := ⟨rfl, rfl, rfl, by decide +kernel, rfl, by decide +kernel, by decide +kernel⟩
abbrev s_point : Stmt := top 41
abbrev N_point : List Str := ["a"]
theorem sc_point : FnScope N_point ["a"] (defScope s_point) := ⟨rfl, rfl, rfl, by decide +kernel, rfl, by decide +kernel, by decide +kernel⟩
abbrev s_span_by : Stmt := top 42
abbrev N_span_by : List Str := ["a", "b"]
theorem sc_span_by : FnScope N_span_by ["a", "b"] (defScope s_span_by) := ⟨rfl, rfl, rfl, by decide +kernel, rfl, by decide +kernel, by decide +kernel⟩
abbrev s_span_of : Stmt := top 43
abbrev N_span_of : List Str := ["a", "b"]
theorem sc_span_of : FnScope N_span_of ["a", "b"] (defScope s_span_of) := ⟨rfl, rfl, rfl, by decide +kernel, rfl, by decide +kernel, by decide +kernel⟩
abbrev s_width_by : Stmt := top 44
abbrev N_width_by : List Str := ["s"]
theorem sc_width_by : FnScope N_width_by ["s"] (defScope s_width_by) := ⟨rfl, rfl, rfl, by decide +kernel, rfl, by decide +kernel, by decide +kernel⟩
abbrev s_width_of : Stmt := top 45
abbrev N_width_of : List Str := ["s"]
theorem sc_width_of : FnScope N_width_of ["s"] (defScope s_width_of) := ⟨rfl, rfl, rfl, by decide +kernel, rfl, by decide +kernel, by decide +kernel⟩
abbrev s_middle_by : Stmt := top 46
abbrev N_middle_by : List Str := ["s"]
theorem sc_middle_by : FnScope N_middle_by ["s"] (defScope s_middle_by) := ⟨rfl, rfl, rfl, by decide +kernel, rfl, by decide +kernel, by decide +kernel⟩
abbrev s_middle_of : Stmt := top 47
abbrev N_middle_of : List Str := ["s"]
theorem sc_middle_of : FnScope N_middle_of ["s"] (defScope s_middle_of) := ⟨rfl, rfl, rfl, by decide +kernel, rfl, by decide +kernel, by decide +kernel⟩
abbrev s_size_of_span : Stmt := top 48
abbrev N_size_of_span : List Str := ["s"]
theorem sc_size_of_span : FnScope N_size_of_span ["s"] (defScope s_size_of_span) := ⟨rfl, rfl, rfl, by decide +kernel, rfl, by decide +kernel, by decide +kernel⟩
abbrev s_size_of : Stmt := top 49
abbrev N_size_of : List Str := ["s"]
theorem sc_size_of : FnScope N_size_of ["s"] (defScope s_size_of) := ⟨rfl, rfl, rfl, by decide +kernel, rfl, by decide +kernel, by decide +kernel⟩
abbrev s_has_by : Stmt := top 50
abbrev N_has_by : List Str := ["s", "a"]
theorem sc_has_by : FnScope N_has_by ["s", "a"] (defScope s_has_by) := ⟨rfl, rfl, rfl, by decide +kernel, rfl, by decide +kernel, by decide +kernel⟩
abbrev s_has : Stmt := top 51
abbrev N_has : List Str := ["s", "a"]
theorem sc_has : FnScope N_has ["s", "a"] (defScope s_has) := ⟨rfl, rfl, rfl, by decide +kernel, rfl, by decide +kernel, by decide +kernel⟩
abbrev s_within_by : Stmt := top 52
abbrev N_within_by : List Str := ["s", "t"]
theorem sc_within_by : FnScope N_within_by ["s", "t"] (defScope s_within_by) := ⟨rfl, rfl, rfl, by decide +kernel, rfl, by decide +kernel, by decide +kernel⟩
abbrev s_is_within_span : Stmt := top 53
abbrev N_is_within_span : List Str := ["s", "t"]
theorem sc_is_within_span : FnScope N_is_within_span ["s", "t"] (defScope s_is_within_span) := ⟨rfl, rfl, rfl, by decide +kernel, rfl, by decide +kernel, by decide +kernel⟩
abbrev s_inside_by : Stmt := top 54
abbrev N_inside_by : List Str := ["s", "t"]
theorem sc_inside_by : FnScope N_inside_by ["s", "t"] (defScope s_inside_by) := ⟨rfl, rfl, rfl, by decide +kernel, rfl, by decide +kernel, by decide +kernel⟩
abbrev s_is_inside : Stmt := top 55
abbrev N_is_inside : List Str := ["s", "t"]
theorem sc_is_inside : FnScope N_is_inside ["s", "t"] (defScope s_is_inside) := ⟨rfl, rfl, rfl, by decide +kernel, rfl, by decide +kernel, by decide +kernel⟩
abbrev s_add_spans : Stmt := top 56
abbrev N_add_spans : List Str := ["s", "t"]
theorem sc_add_spans : FnScope N_add_spans ["s", "t"] (defScope s_add_spans) := ⟨rfl, rfl, rfl, by decide +kernel, rfl, by decide +kernel, by decide +kernel⟩
abbrev s_added : Stmt := top 57
abbrev N_added : List Str := ["s", "t"]
theorem sc_added : FnScope N_added ["s", "t"] (defScope s_added) := ⟨rfl, rfl, rfl, by decide +kernel, rfl, by decide +kernel, by decide +kernel⟩
abbrev s_turn_span : Stmt := top 58
abbrev N_turn_span : List Str := ["s"]
theorem sc_turn_span : FnScope N_turn_span ["s"] (defScope s_turn_span) := ⟨rfl, rfl, rfl, by decide +kernel, rfl, by decide +kernel, by decide +kernel⟩
abbrev s_turned : Stmt := top 59
abbrev N_turned : List Str := ["s"]
theorem sc_turned : FnScope N_turned ["s"] (defScope s_turned) := ⟨rfl, rfl, rfl, by decide +kernel, rfl, by decide +kernel, by decide +kernel⟩
abbrev s_less_spans : Stmt := top 60
abbrev N_less_spans : List Str := ["s", "t"]
theorem sc_less_spans : FnScope N_less_spans ["s", "t"] (defScope s_less_spans) := ⟨rfl, rfl, rfl, by decide +kernel, rfl, by decide +kernel, by decide +kernel⟩
abbrev s_subtracted : Stmt := top 61
abbrev N_subtracted : List Str := ["s", "t"]
theorem sc_subtracted : FnScope N_subtracted ["s", "t"] (defScope s_subtracted) := ⟨rfl, rfl, rfl, by decide +kernel, rfl, by decide +kernel, by decide +kernel⟩
abbrev s_product_by : Stmt := top 62
abbrev N_product_by : List Str := ["s", "t", "ends", "low", "high", "end", "a", "b"]
theorem sc_product_by : FnScope N_product_by ["s", "t"] (defScope s_product_by) := ⟨rfl, rfl, rfl, by decide +kernel, rfl, by decide +kernel, by decide +kernel⟩
abbrev s_scale_span : Stmt := top 63
abbrev N_scale_span : List Str := ["s", "a"]
theorem sc_scale_span : FnScope N_scale_span ["s", "a"] (defScope s_scale_span) := ⟨rfl, rfl, rfl, by decide +kernel, rfl, by decide +kernel, by decide +kernel⟩
abbrev s_scaled : Stmt := top 64
abbrev N_scaled : List Str := ["s", "a"]
theorem sc_scaled : FnScope N_scaled ["s", "a"] (defScope s_scaled) := ⟨rfl, rfl, rfl, by decide +kernel, rfl, by decide +kernel, by decide +kernel⟩
abbrev s_inverse_by : Stmt := top 65
abbrev N_inverse_by : List Str := ["s"]
theorem sc_inverse_by : FnScope N_inverse_by ["s"] (defScope s_inverse_by) := ⟨rfl, rfl, rfl, by decide +kernel, rfl, by decide +kernel, by decide +kernel⟩
abbrev s_part_spans : Stmt := top 66
abbrev N_part_spans : List Str := ["s", "t"]
theorem sc_part_spans : FnScope N_part_spans ["s", "t"] (defScope s_part_spans) := ⟨rfl, rfl, rfl, by decide +kernel, rfl, by decide +kernel, by decide +kernel⟩
abbrev s_parted : Stmt := top 67
abbrev N_parted : List Str := ["s", "t"]
theorem sc_parted : FnScope N_parted ["s", "t"] (defScope s_parted) := ⟨rfl, rfl, rfl, by decide +kernel, rfl, by decide +kernel, by decide +kernel⟩
abbrev s_power_span : Stmt := top 68
abbrev N_power_span : List Str := ["s", "n", "low", "high"]
theorem sc_power_span : FnScope N_power_span ["s", "n"] (defScope s_power_span) := ⟨rfl, rfl, rfl, by decide +kernel, rfl, by decide +kernel, by decide +kernel⟩
abbrev s_powered : Stmt := top 69
abbrev N_powered : List Str := ["s", "n"]
theorem sc_powered : FnScope N_powered ["s", "n"] (defScope s_powered) := ⟨rfl, rfl, rfl, by decide +kernel, rfl, by decide +kernel, by decide +kernel⟩
abbrev s_size_span : Stmt := top 70
abbrev N_size_span : List Str := ["s"]
theorem sc_size_span : FnScope N_size_span ["s"] (defScope s_size_span) := ⟨rfl, rfl, rfl, by decide +kernel, rfl, by decide +kernel, by decide +kernel⟩
abbrev s_sized : Stmt := top 71
abbrev N_sized : List Str := ["s"]
theorem sc_sized : FnScope N_sized ["s"] (defScope s_sized) := ⟨rfl, rfl, rfl, by decide +kernel, rfl, by decide +kernel, by decide +kernel⟩
abbrev s_least_by : Stmt := top 72
abbrev N_least_by : List Str := ["s", "t"]
theorem sc_least_by : FnScope N_least_by ["s", "t"] (defScope s_least_by) := ⟨rfl, rfl, rfl, by decide +kernel, rfl, by decide +kernel, by decide +kernel⟩
abbrev s_least_two : Stmt := top 73
abbrev N_least_two : List Str := ["s", "t"]
theorem sc_least_two : FnScope N_least_two ["s", "t"] (defScope s_least_two) := ⟨rfl, rfl, rfl, by decide +kernel, rfl, by decide +kernel, by decide +kernel⟩
abbrev s_greatest_by : Stmt := top 74
abbrev N_greatest_by : List Str := ["s", "t"]
theorem sc_greatest_by : FnScope N_greatest_by ["s", "t"] (defScope s_greatest_by) := ⟨rfl, rfl, rfl, by decide +kernel, rfl, by decide +kernel, by decide +kernel⟩
abbrev s_greatest_two : Stmt := top 75
abbrev N_greatest_two : List Str := ["s", "t"]
theorem sc_greatest_two : FnScope N_greatest_two ["s", "t"] (defScope s_greatest_two) := ⟨rfl, rfl, rfl, by decide +kernel, rfl, by decide +kernel, by decide +kernel⟩
abbrev s_round_span : Stmt := top 76
abbrev N_round_span : List Str := ["s", "k"]
theorem sc_round_span : FnScope N_round_span ["s", "k"] (defScope s_round_span) := ⟨rfl, rfl, rfl, by decide +kernel, rfl, by decide +kernel, by decide +kernel⟩
abbrev s_rounded_out : Stmt := top 77
abbrev N_rounded_out : List Str := ["s", "k"]
theorem sc_rounded_out : FnScope N_rounded_out ["s", "k"] (defScope s_rounded_out) := ⟨rfl, rfl, rfl, by decide +kernel, rfl, by decide +kernel, by decide +kernel⟩
abbrev s_common_by : Stmt := top 78
abbrev N_common_by : List Str := ["s", "t", "low", "high"]
theorem sc_common_by : FnScope N_common_by ["s", "t"] (defScope s_common_by) := ⟨rfl, rfl, rfl, by decide +kernel, rfl, by decide +kernel, by decide +kernel⟩
abbrev s_common : Stmt := top 79
abbrev N_common : List Str := ["s", "t"]
theorem sc_common : FnScope N_common ["s", "t"] (defScope s_common) := ⟨rfl, rfl, rfl, by decide +kernel, rfl, by decide +kernel, by decide +kernel⟩
abbrev s_around_by : Stmt := top 80
abbrev N_around_by : List Str := ["s", "t"]
theorem sc_around_by : FnScope N_around_by ["s", "t"] (defScope s_around_by) := ⟨rfl, rfl, rfl, by decide +kernel, rfl, by decide +kernel, by decide +kernel⟩
abbrev s_around : Stmt := top 81
abbrev N_around : List Str := ["s", "t"]
theorem sc_around : FnScope N_around ["s", "t"] (defScope s_around) := ⟨rfl, rfl, rfl, by decide +kernel, rfl, by decide +kernel, by decide +kernel⟩
abbrev s_halve_span : Stmt := top 82
abbrev N_halve_span : List Str := ["s", "middle"]
theorem sc_halve_span : FnScope N_halve_span ["s"] (defScope s_halve_span) := ⟨rfl, rfl, rfl, by decide +kernel, rfl, by decide +kernel, by decide +kernel⟩
abbrev s_halves_of : Stmt := top 83
abbrev N_halves_of : List Str := ["s"]
theorem sc_halves_of : FnScope N_halves_of ["s"] (defScope s_halves_of) := ⟨rfl, rfl, rfl, by decide +kernel, rfl, by decide +kernel, by decide +kernel⟩
abbrev s_grow_span : Stmt := top 84
abbrev N_grow_span : List Str := ["s", "a"]
theorem sc_grow_span : FnScope N_grow_span ["s", "a"] (defScope s_grow_span) := ⟨rfl, rfl, rfl, by decide +kernel, rfl, by decide +kernel, by decide +kernel⟩
abbrev s_grown : Stmt := top 85
abbrev N_grown : List Str := ["s", "a"]
theorem sc_grown : FnScope N_grown ["s", "a"] (defScope s_grown) := ⟨rfl, rfl, rfl, by decide +kernel, rfl, by decide +kernel, by decide +kernel⟩
abbrev s_sign_by : Stmt := top 86
abbrev N_sign_by : List Str := ["s"]
theorem sc_sign_by : FnScope N_sign_by ["s"] (defScope s_sign_by) := ⟨rfl, rfl, rfl, by decide +kernel, rfl, by decide +kernel, by decide +kernel⟩
abbrev s_sign_of : Stmt := top 87
abbrev N_sign_of : List Str := ["s"]
theorem sc_sign_of : FnScope N_sign_of ["s"] (defScope s_sign_of) := ⟨rfl, rfl, rfl, by decide +kernel, rfl, by decide +kernel, by decide +kernel⟩
abbrev s_is_box : Stmt := top 89
abbrev N_is_box : List Str := ["value", "name"]
theorem sc_is_box : FnScope N_is_box ["value"] (defScope s_is_box) := ⟨rfl, rfl, rfl, by decide +kernel, rfl, by decide +kernel, by decide +kernel⟩
abbrev s_check_box : Stmt := top 90
abbrev N_check_box : List Str := ["value"]
theorem sc_check_box : FnScope N_check_box ["value"] (defScope s_check_box) := ⟨rfl, rfl, rfl, by decide +kernel, rfl, by decide +kernel, by decide +kernel⟩
abbrev s_check_alike : Stmt := top 91
abbrev N_check_alike : List Str := ["b", "c"]
theorem sc_check_alike : FnScope N_check_alike ["b", "c"] (defScope s_check_alike) := ⟨rfl, rfl, rfl, by decide +kernel, rfl, by decide +kernel, by decide +kernel⟩
abbrev s_width_by_box : Stmt := top 92
abbrev N_width_by_box : List Str := ["b", "found", "s", "width"]
theorem sc_width_by_box : FnScope N_width_by_box ["b"] (defScope s_width_by_box) := ⟨rfl, rfl, rfl, by decide +kernel, rfl, by decide +kernel, by decide +kernel⟩
abbrev s_width_of_box : Stmt := top 93
abbrev N_width_of_box : List Str := ["b"]
theorem sc_width_of_box : FnScope N_width_of_box ["b"] (defScope s_width_of_box) := ⟨rfl, rfl, rfl, by decide +kernel, rfl, by decide +kernel, by decide +kernel⟩
abbrev s_widest_name : Stmt := top 94
abbrev N_widest_name : List Str := ["b", "found", "name"]
theorem sc_widest_name : FnScope N_widest_name ["b"] (defScope s_widest_name) := ⟨rfl, rfl, rfl, by decide +kernel, rfl, by decide +kernel, by decide +kernel⟩
abbrev s_put_span : Stmt := top 95
abbrev N_put_span : List Str := ["b", "name", "s", "own"]
theorem sc_put_span : FnScope N_put_span ["b", "name", "s"] (defScope s_put_span) := ⟨rfl, rfl, rfl, by decide +kernel, rfl, by decide +kernel, by decide +kernel⟩
abbrev s_halve_box : Stmt := top 96
abbrev N_halve_box : List Str := ["b", "name", "one", "other"]
theorem sc_halve_box : FnScope N_halve_box ["b"] (defScope s_halve_box) := ⟨rfl, rfl, rfl, by decide +kernel, rfl, by decide +kernel, by decide +kernel⟩
abbrev s_halves_of_box : Stmt := top 97
abbrev N_halves_of_box : List Str := ["b"]
theorem sc_halves_of_box : FnScope N_halves_of_box ["b"] (defScope s_halves_of_box) := ⟨rfl, rfl, rfl, by decide +kernel, rfl, by decide +kernel, by decide +kernel⟩
abbrev s_middle_by_box : Stmt := top 98
abbrev N_middle_by_box : List Str := ["b", "name"]
theorem sc_middle_by_box : FnScope N_middle_by_box ["b"] (defScope s_middle_by_box) := ⟨rfl, rfl, rfl, by decide +kernel, rfl, by decide +kernel, by decide +kernel⟩
abbrev s_middle_of_box : Stmt := top 99
abbrev N_middle_of_box : List Str := ["b"]
theorem sc_middle_of_box : FnScope N_middle_of_box ["b"] (defScope s_middle_of_box) := ⟨rfl, rfl, rfl, by decide +kernel, rfl, by decide +kernel, by decide +kernel⟩
abbrev s_common_by_box : Stmt := top 100
abbrev N_common_by_box : List Str := ["b", "c", "found", "name"]
theorem sc_common_by_box : FnScope N_common_by_box ["b", "c"] (defScope s_common_by_box) := ⟨rfl, rfl, rfl, by decide +kernel, rfl, by decide +kernel, by decide +kernel⟩
abbrev s_common_box : Stmt := top 101
abbrev N_common_box : List Str := ["b", "c"]
theorem sc_common_box : FnScope N_common_box ["b", "c"] (defScope s_common_box) := ⟨rfl, rfl, rfl, by decide +kernel, rfl, by decide +kernel, by decide +kernel⟩
abbrev s_within_by_box : Stmt := top 102
abbrev N_within_by_box : List Str := ["b", "c", "name"]
theorem sc_within_by_box : FnScope N_within_by_box ["b", "c"] (defScope s_within_by_box) := ⟨rfl, rfl, rfl, by decide +kernel, rfl, by decide +kernel, by decide +kernel⟩
abbrev s_is_within_box : Stmt := top 103
abbrev N_is_within_box : List Str := ["b", "c"]
theorem sc_is_within_box : FnScope N_is_within_box ["b", "c"] (defScope s_is_within_box) := ⟨rfl, rfl, rfl, by decide +kernel, rfl, by decide +kernel, by decide +kernel⟩
abbrev s_inside_by_box : Stmt := top 104
abbrev N_inside_by_box : List Str := ["b", "c", "name"]
theorem sc_inside_by_box : FnScope N_inside_by_box ["b", "c"] (defScope s_inside_by_box) := ⟨rfl, rfl, rfl, by decide +kernel, rfl, by decide +kernel, by decide +kernel⟩
abbrev s_is_inside_box : Stmt := top 105
abbrev N_is_inside_box : List Str := ["b", "c"]
theorem sc_is_inside_box : FnScope N_is_inside_box ["b", "c"] (defScope s_is_inside_box) := ⟨rfl, rfl, rfl, by decide +kernel, rfl, by decide +kernel, by decide +kernel⟩
abbrev s_room_of : Stmt := top 106
abbrev N_room_of : List Str := ["b", "found", "s"]
theorem sc_room_of : FnScope N_room_of ["b"] (defScope s_room_of) := ⟨rfl, rfl, rfl, by decide +kernel, rfl, by decide +kernel, by decide +kernel⟩
abbrev s__law_draws : Stmt := top 108
abbrev N__law_draws : List Str := ["script", "draws", "cell", "number", "first", "k", "seed"]
theorem sc__law_draws : FnScope N__law_draws ["script"] (defScope s__law_draws) := ⟨rfl, rfl, rfl, by decide +kernel, rfl, by decide +kernel, by decide +kernel⟩
abbrev s__law_same : Stmt := top 109
abbrev N__law_same : List Str := ["actual", "due", "k", "key"]
theorem sc__law_same : FnScope N__law_same ["actual", "due"] (defScope s__law_same) := ⟨rfl, rfl, rfl, by decide +kernel, rfl, by decide +kernel, by decide +kernel⟩
abbrev s__law_take : Stmt := top 110
abbrev N__law_take : List Str := ["draws", "bound"]
theorem sc__law_take : FnScope N__law_take ["draws", "bound"] (defScope s__law_take) := ⟨rfl, rfl, rfl, by decide +kernel, rfl, by decide +kernel, by decide +kernel⟩
abbrev s__law_pick : Stmt := top 111
abbrev N__law_pick : List Str := ["draws", "some"]
theorem sc__law_pick : FnScope N__law_pick ["draws", "some"] (defScope s__law_pick) := ⟨rfl, rfl, rfl, by decide +kernel, rfl, by decide +kernel, by decide +kernel⟩
abbrev s__law_flag : Stmt := top 112
abbrev N__law_flag : List Str := ["error", "kinds", "k"]
theorem sc__law_flag : FnScope N__law_flag ["error"] (defScope s__law_flag) := ⟨rfl, rfl, rfl, by decide +kernel, rfl, by decide +kernel, by decide +kernel⟩
abbrev s__law_r : Stmt := top 113
abbrev N__law_r : List Str := ["n", "d", "a", "b", "turn"]
theorem sc__law_r : FnScope N__law_r ["n", "d"] (defScope s__law_r) := ⟨rfl, rfl, rfl, by decide +kernel, rfl, by decide +kernel, by decide +kernel⟩
abbrev s__law_add : Stmt := top 114
abbrev N__law_add : List Str := ["a", "b"]
theorem sc__law_add : FnScope N__law_add ["a", "b"] (defScope s__law_add) := ⟨rfl, rfl, rfl, by decide +kernel, rfl, by decide +kernel, by decide +kernel⟩
abbrev s__law_sub : Stmt := top 115
abbrev N__law_sub : List Str := ["a", "b"]
theorem sc__law_sub : FnScope N__law_sub ["a", "b"] (defScope s__law_sub) := ⟨rfl, rfl, rfl, by decide +kernel, rfl, by decide +kernel, by decide +kernel⟩
abbrev s__law_mul : Stmt := top 116
abbrev N__law_mul : List Str := ["a", "b"]
theorem sc__law_mul : FnScope N__law_mul ["a", "b"] (defScope s__law_mul) := ⟨rfl, rfl, rfl, by decide +kernel, rfl, by decide +kernel, by decide +kernel⟩
abbrev s__law_less : Stmt := top 117
abbrev N__law_less : List Str := ["a", "b"]
theorem sc__law_less : FnScope N__law_less ["a", "b"] (defScope s__law_less) := ⟨rfl, rfl, rfl, by decide +kernel, rfl, by decide +kernel, by decide +kernel⟩
abbrev s__law_twos : Stmt := top 118
abbrev N__law_twos : List Str := ["many", "found", "k"]
theorem sc__law_twos : FnScope N__law_twos ["many"] (defScope s__law_twos) := ⟨rfl, rfl, rfl, by decide +kernel, rfl, by decide +kernel, by decide +kernel⟩
abbrev s__law_any : Stmt := top 119
abbrev N__law_any : List Str := ["draws"]
theorem sc__law_any : FnScope N__law_any ["draws"] (defScope s__law_any) := ⟨rfl, rfl, rfl, by decide +kernel, rfl, by decide +kernel, by decide +kernel⟩
abbrev s__law_between : Stmt := top 120
abbrev N__law_between : List Str := ["draws", "low", "high", "part"]
theorem sc__law_between : FnScope N__law_between ["draws", "low", "high"] (defScope s__law_between) := ⟨rfl, rfl, rfl, by decide +kernel, rfl, by decide +kernel, by decide +kernel⟩
abbrev s__law_span : Stmt := top 121
abbrev N__law_span : List Str := ["draws", "a", "b"]
theorem sc__law_span : FnScope N__law_span ["draws"] (defScope s__law_span) := ⟨rfl, rfl, rfl, by decide +kernel, rfl, by decide +kernel, by decide +kernel⟩
abbrev s__law_hull : Stmt := top 122
abbrev N__law_hull : List Str := ["numbers", "low", "high", "number"]
theorem sc__law_hull : FnScope N__law_hull ["numbers"] (defScope s__law_hull) := ⟨rfl, rfl, rfl, by decide +kernel, rfl, by decide +kernel, by decide +kernel⟩
abbrev s__law_in : Stmt := top 123
abbrev N__law_in : List Str := ["s", "a"]
theorem sc__law_in : FnScope N__law_in ["s", "a"] (defScope s__law_in) := ⟨rfl, rfl, rfl, by decide +kernel, rfl, by decide +kernel, by decide +kernel⟩
abbrev s__law_power : Stmt := top 124
abbrev N__law_power : List Str := ["a", "n", "found", "k"]
theorem sc__law_power : FnScope N__law_power ["a", "n"] (defScope s__law_power) := ⟨rfl, rfl, rfl, by decide +kernel, rfl, by decide +kernel, by decide +kernel⟩
abbrev s__law_told : Stmt := top 125
abbrev N__law_told : List Str := ["which", "args", "one", "two", "error"]
theorem sc__law_told : FnScope N__law_told ["which", "args"] (defScope s__law_told) := ⟨rfl, rfl, rfl, by decide +kernel, rfl, by decide +kernel, by decide +kernel⟩
abbrev s__law_powers : Stmt := top 126
abbrev N__law_powers : List Str := ["s", "n", "ends", "a"]
theorem sc__law_powers : FnScope N__law_powers ["s", "n"] (defScope s__law_powers) := ⟨rfl, rfl, rfl, by decide +kernel, rfl, by decide +kernel, by decide +kernel⟩
abbrev s__law_are_spans_due : Stmt := top 127
abbrev N__law_are_spans_due : List Str := ["draws", "s", "t", "a", "n", "k", "middle", "sizes", "size", "sign", "due", "lesser_v", "greater_v", "both", "pairs", "quotients", "x", "y", "twos", "out", "more", "asks", "end", "which", "j"]
theorem sc__law_are_spans_due : FnScope N__law_are_spans_due ["draws"] (defScope s__law_are_spans_due) := ⟨rfl, rfl, rfl, by decide +kernel, rfl, by decide +kernel, by decide +kernel⟩
abbrev s__law_are_boxes_due : Stmt := top 128
abbrev N__law_are_boxes_due : List Str := ["draws", "names", "name", "one", "other", "widths", "widest", "room", "width", "middles", "low", "high", "found", "both", "within", "inside", "odd", "told", "own", "which"]
theorem sc__law_are_boxes_due : FnScope N__law_are_boxes_due ["draws"] (defScope s__law_are_boxes_due) := ⟨rfl, rfl, rfl, by decide +kernel, rfl, by decide +kernel, by decide +kernel⟩
abbrev s_law : Stmt := top 129
abbrev N_law : List Str := ["script", "draws", "turn", "a", "b", "s", "bad", "told", "which"]
theorem sc_law : FnScope N_law ["script"] (defScope s_law) := ⟨rfl, rfl, rfl, by decide +kernel, rfl, by decide +kernel, by decide +kernel⟩
/-- what the top has written -/
structure Txt (K : PySem.W.Frag) (mg : Str → Option Value) : Prop where
  h_is_integer : Has K mg "is_integer" s_is_integer ["value"]
  h_is_within : Has K mg "is_within" s_is_within ["value", "low", "high"]
  h_is_small : Has K mg "is_small" s_is_small ["sign"]
  h_is_name : Has K mg "is_name" s_is_name ["value"]
  h_check : Has K mg "check" s_check ["is_right"]
  h_shared : Has K mg "shared" s_shared ["a", "b"]
  h_made : Has K mg "made" s_made ["n", "d"]
  h_is_ratio : Has K mg "is_ratio" s_is_ratio ["value"]
  h_add : Has K mg "add" s_add ["a", "b"]
  h_opposite : Has K mg "opposite" s_opposite ["a"]
  h_less : Has K mg "less" s_less ["a", "b"]
  h_product : Has K mg "product" s_product ["a", "b"]
  h_share : Has K mg "share" s_share ["a", "b"]
  h_is_below : Has K mg "is_below" s_is_below ["a", "b"]
  h_lesser : Has K mg "lesser" s_lesser ["a", "b"]
  h_greater : Has K mg "greater" s_greater ["a", "b"]
  h_size_by : Has K mg "size_by" s_size_by ["a"]
  h_raised : Has K mg "raised" s_raised ["a", "n"]
  h_power_by : Has K mg "power_by" s_power_by ["a", "n"]
  h_of_bits : Has K mg "of_bits" s_of_bits ["n", "k"]
  h_down_by : Has K mg "down_by" s_down_by ["a", "k"]
  h_up_by : Has K mg "up_by" s_up_by ["a", "k"]
  h_is_span : Has K mg "is_span" s_is_span ["value"]
  h_check_spans : ∃ f fd, mg "check_spans" = some (.ref f) ∧ Fun K "check_spans" "check_spans" s_check_spans f fd
  h_check_ratio : Has K mg "check_ratio" s_check_ratio ["value"]
  h_point : Has K mg "point" s_point ["a"]
  h_span_by : Has K mg "span_by" s_span_by ["a", "b"]
  h_span_of : Has K mg "span_of" s_span_of ["a", "b"]
  h_width_by : Has K mg "width_by" s_width_by ["s"]
  h_width_of : Has K mg "width_of" s_width_of ["s"]
  h_middle_by : Has K mg "middle_by" s_middle_by ["s"]
  h_middle_of : Has K mg "middle_of" s_middle_of ["s"]
  h_size_of_span : Has K mg "size_of_span" s_size_of_span ["s"]
  h_size_of : Has K mg "size_of" s_size_of ["s"]
  h_has_by : Has K mg "has_by" s_has_by ["s", "a"]
  h_has : Has K mg "has" s_has ["s", "a"]
  h_within_by : Has K mg "within_by" s_within_by ["s", "t"]
  h_is_within_span : Has K mg "is_within_span" s_is_within_span ["s", "t"]
  h_inside_by : Has K mg "inside_by" s_inside_by ["s", "t"]
  h_is_inside : Has K mg "is_inside" s_is_inside ["s", "t"]
  h_add_spans : Has K mg "add_spans" s_add_spans ["s", "t"]
  h_added : Has K mg "added" s_added ["s", "t"]
  h_turn_span : Has K mg "turn_span" s_turn_span ["s"]
  h_turned : Has K mg "turned" s_turned ["s"]
  h_less_spans : Has K mg "less_spans" s_less_spans ["s", "t"]
  h_subtracted : Has K mg "subtracted" s_subtracted ["s", "t"]
  h_product_by : Has K mg "product_by" s_product_by ["s", "t"]
  h_scale_span : Has K mg "scale_span" s_scale_span ["s", "a"]
  h_scaled : Has K mg "scaled" s_scaled ["s", "a"]
  h_inverse_by : Has K mg "inverse_by" s_inverse_by ["s"]
  h_part_spans : Has K mg "part_spans" s_part_spans ["s", "t"]
  h_parted : Has K mg "parted" s_parted ["s", "t"]
  h_power_span : Has K mg "power_span" s_power_span ["s", "n"]
  h_powered : Has K mg "powered" s_powered ["s", "n"]
  h_size_span : Has K mg "size_span" s_size_span ["s"]
  h_sized : Has K mg "sized" s_sized ["s"]
  h_least_by : Has K mg "least_by" s_least_by ["s", "t"]
  h_least_two : Has K mg "least_two" s_least_two ["s", "t"]
  h_greatest_by : Has K mg "greatest_by" s_greatest_by ["s", "t"]
  h_greatest_two : Has K mg "greatest_two" s_greatest_two ["s", "t"]
  h_round_span : Has K mg "round_span" s_round_span ["s", "k"]
  h_rounded_out : Has K mg "rounded_out" s_rounded_out ["s", "k"]
  h_common_by : Has K mg "common_by" s_common_by ["s", "t"]
  h_common : Has K mg "common" s_common ["s", "t"]
  h_around_by : Has K mg "around_by" s_around_by ["s", "t"]
  h_around : Has K mg "around" s_around ["s", "t"]
  h_halve_span : Has K mg "halve_span" s_halve_span ["s"]
  h_halves_of : Has K mg "halves_of" s_halves_of ["s"]
  h_grow_span : Has K mg "grow_span" s_grow_span ["s", "a"]
  h_grown : Has K mg "grown" s_grown ["s", "a"]
  h_sign_by : Has K mg "sign_by" s_sign_by ["s"]
  h_sign_of : Has K mg "sign_of" s_sign_of ["s"]
  h_is_box : Has K mg "is_box" s_is_box ["value"]
  h_check_box : Has K mg "check_box" s_check_box ["value"]
  h_check_alike : Has K mg "check_alike" s_check_alike ["b", "c"]
  h_width_by_box : Has K mg "width_by_box" s_width_by_box ["b"]
  h_width_of_box : Has K mg "width_of_box" s_width_of_box ["b"]
  h_widest_name : Has K mg "widest_name" s_widest_name ["b"]
  h_put_span : Has K mg "put_span" s_put_span ["b", "name", "s"]
  h_halve_box : Has K mg "halve_box" s_halve_box ["b"]
  h_halves_of_box : Has K mg "halves_of_box" s_halves_of_box ["b"]
  h_middle_by_box : Has K mg "middle_by_box" s_middle_by_box ["b"]
  h_middle_of_box : Has K mg "middle_of_box" s_middle_of_box ["b"]
  h_common_by_box : Has K mg "common_by_box" s_common_by_box ["b", "c"]
  h_common_box : Has K mg "common_box" s_common_box ["b", "c"]
  h_within_by_box : Has K mg "within_by_box" s_within_by_box ["b", "c"]
  h_is_within_box : Has K mg "is_within_box" s_is_within_box ["b", "c"]
  h_inside_by_box : Has K mg "inside_by_box" s_inside_by_box ["b", "c"]
  h_is_inside_box : Has K mg "is_inside_box" s_is_inside_box ["b", "c"]
  h_room_of : Has K mg "room_of" s_room_of ["b"]
  h__law_draws : Has K mg "_law_draws" s__law_draws ["script"]
  h__law_same : Has K mg "_law_same" s__law_same ["actual", "due"]
  h__law_take : Has K mg "_law_take" s__law_take ["draws", "bound"]
  h__law_pick : Has K mg "_law_pick" s__law_pick ["draws", "some"]
  h__law_flag : Has K mg "_law_flag" s__law_flag ["error"]
  h__law_r : Has K mg "_law_r" s__law_r ["n", "d"]
  h__law_add : Has K mg "_law_add" s__law_add ["a", "b"]
  h__law_sub : Has K mg "_law_sub" s__law_sub ["a", "b"]
  h__law_mul : Has K mg "_law_mul" s__law_mul ["a", "b"]
  h__law_less : Has K mg "_law_less" s__law_less ["a", "b"]
  h__law_twos : Has K mg "_law_twos" s__law_twos ["many"]
  h__law_any : Has K mg "_law_any" s__law_any ["draws"]
  h__law_between : Has K mg "_law_between" s__law_between ["draws", "low", "high"]
  h__law_span : Has K mg "_law_span" s__law_span ["draws"]
  h__law_hull : Has K mg "_law_hull" s__law_hull ["numbers"]
  h__law_in : Has K mg "_law_in" s__law_in ["s", "a"]
  h__law_power : Has K mg "_law_power" s__law_power ["a", "n"]
  h__law_told : Has K mg "_law_told" s__law_told ["which", "args"]
  h__law_powers : Has K mg "_law_powers" s__law_powers ["s", "n"]
  h__law_are_spans_due : Has K mg "_law_are_spans_due" s__law_are_spans_due ["draws"]
  h__law_are_boxes_due : Has K mg "_law_are_boxes_due" s__law_are_boxes_due ["draws"]
  h_law : Has K mg "law" s_law ["script"]
  b_abs : mg "abs" = Option.none
  b_all : mg "all" = Option.none
  b_any : mg "any" = Option.none
  b_bool : mg "bool" = Option.none
  b_dict : mg "dict" = Option.none
  b_int : mg "int" = Option.none
  b_isinstance : mg "isinstance" = Option.none
  b_len : mg "len" = Option.none
  b_list : mg "list" = Option.none
  b_range : mg "range" = Option.none
  b_reversed : mg "reversed" = Option.none
  b_sorted : mg "sorted" = Option.none
  b_str : mg "str" = Option.none
  b_sum : mg "sum" = Option.none
  b_tuple : mg "tuple" = Option.none
  c_MOST_SIGNS : ∃ t, mg "MOST_SIGNS" = some (.int (12) t)
  c_MOST_BITS : ∃ t, mg "MOST_BITS" = some (.int (20000) t)
  c_MOST_DEGREE : ∃ t, mg "MOST_DEGREE" = some (.int (64) t)
  g_ZERO : KTup K mg "ZERO" [0, 1]
  g_ONE : KTup K mg "ONE" [1, 1]
  g_HALF : KTup K mg "HALF" [1, 2]
  x_NotRight : Er K mg "NotRight"
  x_NoAnswer : Er K mg "NoAnswer"
  x_Undefined : Er K mg "Undefined"
  x_Unclear : Er K mg "Unclear"
end K01

/-! K1: the program's small defs about ratios. -/
namespace K01
open PySem PySem.Spec PyProof.Rows DL
open L2 hiding Dp DpAll
section
variable {P : Program} {w : World} {K : PySem.W.Frag} {mg : Str → Option Value} {base : Heap}

/-! ### what isinstance says of data -/
def isI : D → Bool
  | .int _ => true
  | .bool _ => true
  | _ => false
def isB : D → Bool
  | .bool _ => true
  | _ => false
def isT : D → Bool
  | .tuple _ => true
  | _ => false
def isL : D → Bool
  | .list _ => true
  | _ => false
def isS : D → Bool
  | .str _ => true
  | _ => false
def isDc : D → Bool
  | .dict _ => true
  | _ => false
theorem kit_int : ∀ d : D, kitB (tyD d) "int" = some (isI d)
  | .none => (by decide +kernel : kitB "NoneType" "int" = some false)
  | .bool _ => (by decide +kernel : kitB "bool" "int" = some true)
  | .int _ => (by decide +kernel : kitB "int" "int" = some true)
  | .str _ => (by decide +kernel : kitB "str" "int" = some false)
  | .tuple _ => (by decide +kernel : kitB "tuple" "int" = some false)
  | .list _ => (by decide +kernel : kitB "list" "int" = some false)
  | .dict _ => (by decide +kernel : kitB "dict" "int" = some false)
theorem kit_bool : ∀ d : D, kitB (tyD d) "bool" = some (isB d)
  | .none => (by decide +kernel : kitB "NoneType" "bool" = some false)
  | .bool _ => (by decide +kernel : kitB "bool" "bool" = some true)
  | .int _ => (by decide +kernel : kitB "int" "bool" = some false)
  | .str _ => (by decide +kernel : kitB "str" "bool" = some false)
  | .tuple _ => (by decide +kernel : kitB "tuple" "bool" = some false)
  | .list _ => (by decide +kernel : kitB "list" "bool" = some false)
  | .dict _ => (by decide +kernel : kitB "dict" "bool" = some false)
theorem kit_tuple : ∀ d : D, kitB (tyD d) "tuple" = some (isT d)
  | .none => (by decide +kernel : kitB "NoneType" "tuple" = some false)
  | .bool _ => (by decide +kernel : kitB "bool" "tuple" = some false)
  | .int _ => (by decide +kernel : kitB "int" "tuple" = some false)
  | .str _ => (by decide +kernel : kitB "str" "tuple" = some false)
  | .tuple _ => (by decide +kernel : kitB "tuple" "tuple" = some true)
  | .list _ => (by decide +kernel : kitB "list" "tuple" = some false)
  | .dict _ => (by decide +kernel : kitB "dict" "tuple" = some false)
theorem kit_list : ∀ d : D, kitB (tyD d) "list" = some (isL d)
  | .none => (by decide +kernel : kitB "NoneType" "list" = some false)
  | .bool _ => (by decide +kernel : kitB "bool" "list" = some false)
  | .int _ => (by decide +kernel : kitB "int" "list" = some false)
  | .str _ => (by decide +kernel : kitB "str" "list" = some false)
  | .tuple _ => (by decide +kernel : kitB "tuple" "list" = some false)
  | .list _ => (by decide +kernel : kitB "list" "list" = some true)
  | .dict _ => (by decide +kernel : kitB "dict" "list" = some false)
theorem kit_str : ∀ d : D, kitB (tyD d) "str" = some (isS d)
  | .none => (by decide +kernel : kitB "NoneType" "str" = some false)
  | .bool _ => (by decide +kernel : kitB "bool" "str" = some false)
  | .int _ => (by decide +kernel : kitB "int" "str" = some false)
  | .str _ => (by decide +kernel : kitB "str" "str" = some true)
  | .tuple _ => (by decide +kernel : kitB "tuple" "str" = some false)
  | .list _ => (by decide +kernel : kitB "list" "str" = some false)
  | .dict _ => (by decide +kernel : kitB "dict" "str" = some false)
theorem kit_dict : ∀ d : D, kitB (tyD d) "dict" = some (isDc d)
  | .none => (by decide +kernel : kitB "NoneType" "dict" = some false)
  | .bool _ => (by decide +kernel : kitB "bool" "dict" = some false)
  | .int _ => (by decide +kernel : kitB "int" "dict" = some false)
  | .str _ => (by decide +kernel : kitB "str" "dict" = some false)
  | .tuple _ => (by decide +kernel : kitB "tuple" "dict" = some false)
  | .list _ => (by decide +kernel : kitB "list" "dict" = some false)
  | .dict _ => (by decide +kernel : kitB "dict" "dict" = some true)

/-! ### is_integer, is_within -/
def isInt : D → Bool
  | .int _ => true
  | _ => false
theorem isInt_eq (d : D) : (isI d && !isB d) = isInt d := by cases d <;> rfl
def R_is_integer : List D → D → Prop := fun ds d => ∃ v, ds = [v] ∧ d = .bool (isInt v)
theorem ok_is_integer (T : Txt K mg) : PFn P w K mg base 1 "is_integer" R_is_integer :=
  pfn_of T.h_is_integer sc_is_integer (fun ds d ⟨v, e, _⟩ => by rw [e]; rfl) fun cdv A outer s f H Q _ hr ds d G vs ⟨v, e, ed⟩ g hv q => by
    subst e ed
    obtain ⟨u, rfl, hu⟩ := all1 hv
    rw [← isInt_eq] at q
    exact s_ret (e_and2 (e_isi T.b_isinstance T.b_int (by decide +kernel) (e_var 0 hu) (kit_int v)) fun _ => e_not (e_isi T.b_isinstance T.b_bool (by decide +kernel) (e_var 0 hu) (kit_bool v))) g q
/-- an int in bounds -/
def within (a b : Int) : D → Bool
  | .int i => decide (a ≤ i) && decide (i ≤ b)
  | _ => false
def intOf : D → Int
  | .int i => i
  | _ => 0
theorem within_of {a b : Int} {v : D} (h : within a b v = true) : ∃ i, v = .int i ∧ a ≤ i ∧ i ≤ b := by
  cases v with
  | int i =>
    have h : (decide (a ≤ i) && decide (i ≤ b)) = true := h
    rw [Bool.and_eq_true, decide_eq_true_eq, decide_eq_true_eq] at h
    exact ⟨i, rfl, h.1, h.2⟩
  | _ => cases h
def R_is_within : List D → D → Prop := fun ds d => ∃ v a b, ds = [v, .int a, .int b] ∧ d = .bool (within a b v)
theorem ok_is_within (T : Txt K mg) : PFn P w K mg base 2 "is_within" R_is_within :=
  pfn_of T.h_is_within sc_is_within (fun ds d ⟨v, a, b, e, _⟩ => by rw [e]; rfl) fun cdv A outer s f H Q _ hr ds d G vs ⟨v, a, b, e, ed⟩ g hv q => by
    subst e ed
    obtain ⟨u, x, y, rfl, hu, hx, hy⟩ := all3 hv
    refine s_ret (e_and2 (l := within a b v) (e_call (ok_is_integer T) hr (a_cons (e_var 0 hu) a_nil) ⟨v, rfl, rfl⟩) fun hi => ?_) g ?_
    · cases v <;> first | cases hi | skip
      exact e_chain (f := fun i j => decide (i ≤ j)) (f' := fun i j => decide (i ≤ j)) op_le op_le (e_var 1 hx) (e_var 0 hu) (e_var 2 hy) fun h1 h2 h3 => pe_chain op_le op_le h1 h2 h3
    · intro v' G' H' n hd
      refine q v' G' H' n ?_
      cases v <;> exact hd

/-! ### check -/
def R_check : List D → Except Str D → Prop := fun ds r => ∃ k : Bool, ds = [.bool k] ∧ r = if k then .ok .none else .error "NotRight"
theorem ok_check (T : Txt K mg) : XFn P w K mg base 1 "check" R_check :=
  xfn_of T.h_check sc_check (fun ds d ⟨k, e, _⟩ => by rw [e]; rfl) fun cdv A outer s f H Q _ hr ds r G vs ⟨k, e, er⟩ g hv q1 q2 => by
    subst e
    obtain ⟨u, rfl, hu⟩ := all1 hv
    refine s_when (k := !k) (t_not (t_val (e_var 0 hu))) g (fun hk G' H' n => ?_) fun hk G' H' n => ?_
    · have hk : k = false := by simpa using hk
      subst hk
      exact s_raise rfl T.x_NotRight (L2N.takes_of rfl rfl rfl rfl) fun c hc => q2 "NotRight" c er hc G' H' n
    · have hk : k = true := by simpa using hk
      subst hk
      exact s_nil (q1 .none er .non G' H' n .non)

/-! ### shared, made -/
def R_shared : List D → D → Prop := fun ds d => ∃ a b : Nat, ds = [.int a, .int b] ∧ d = .int (Nat.gcd a b : Nat)
theorem ok_shared (T : Txt K mg) : PFn P w K mg base 1 "shared" R_shared :=
  pfn_of T.h_shared sc_shared (fun ds d ⟨a, b, e, _⟩ => by rw [e]; rfl) fun cdv A outer s f H Q _ hr ds d G vs ⟨a, b, e, ed⟩ g hv q => by
    subst e ed
    obtain ⟨u, x, rfl, hu, hx⟩ := all2 hv
    cases hu; cases hx
    refine s_while .never (fun m σ H1 => ∃ (x y : Nat) (G1 : Hp), m = y ∧ Nat.gcd x y = Nat.gcd a b ∧ σ = [some (.int x), some (.int y)] ∧ Nx G H G1 H1) b ⟨a, b, G, rfl, rfl, rfl, Nx.refl g⟩ ?_
    rintro y σ H1 ⟨x, _, G1, rfl, hg, rfl, n1⟩
    refine ⟨_, G1, n1.gh, t_gt (e_var 1 (.int _)) e_int, fun hk G2 H2 n2 => ?_, fun hk G2 H2 n2 => ?_⟩
    · have hy : 0 < y := by simpa using hk
      refine ⟨fun σ2 H2 => ∃ (x' y' : Nat) (G1 : Hp), y' < y ∧ Nat.gcd x' y' = Nat.gcd a b ∧ σ2 = [some (.int x'), some (.int y')] ∧ Nx G H G1 H2, fun σ2 H2 ⟨x', y', G1, l, h⟩ => ⟨y', l, x', y', G1, rfl, h⟩, ?_⟩
      refine s_par 0 1 rfl sc_shared.nd (a_cons (e_var 1 (.int _)) (a_cons (e_mod (e_var 0 (.int _)) (e_var 1 (.int _)) (by omega)) a_nil)) n2.gh fun u v G3 H3 n3 h1 h2 => s_nil ?_
      cases h1; cases h2
      refine ⟨y, x % y, G3, Nat.mod_lt _ hy, ?_, by rw [Int.natCast_emod]; rfl, (n1.trans n2).trans n3⟩
      rw [← hg, Nat.gcd_comm x y, Nat.gcd_rec y x, Nat.gcd_comm]
    · have hy : y = 0 := by simpa using hk
      subst hy
      refine s_ret (e_var 0 (.int _)) n2.gh fun v G3 H3 n3 hv => q v G3 H3 ((n1.trans n2).trans n3) ?_
      rw [← hg, Nat.gcd_zero_right]; exact hv
def R_made : List D → D → Prop := fun ds d => ∃ n e : Int, ds = [.int n, .int e] ∧ e ≠ 0 ∧ n.natAbs < 2 ^ 100000 ∧ e.natAbs < 2 ^ 8000 ∧ d = rd (Rat.divInt n e)
theorem ok_made (T : Txt K mg) : PFn P w K mg base 2 "made" R_made :=
  pfn_of T.h_made sc_made (fun ds d ⟨a, b, e, _⟩ => by rw [e]; rfl) fun cdv A outer s f H Q _ hr ds d G vs ⟨n, e, eds, he, hn, hd, ed⟩ g hv q => by
    subst eds ed
    obtain ⟨u, x, rfl, hu, hx⟩ := all2 hv
    cases hu; cases hx
    refine s_set 2 (e_call (ok_shared T) hr (a_cons (e_abs T.b_abs (e_var 0 (.int _))) (a_cons (e_abs T.b_abs (e_var 1 (.int _))) a_nil)) ⟨n.natAbs, e.natAbs, rfl, rfl⟩) g sc_made.nd fun v1 G1 H1 n1 h1 => ?_
    cases h1
    refine s_set 3 (d := .int (if 0 < e then 1 else -1)) (e_if (t_gt (e_var 1 (.int _)) e_int) (fun h => (e_is e_int (by rw [if_pos (by simpa using h)]))) fun h => e_is (e_neg e_int) (by rw [if_neg (by simpa using h)])) n1.gh sc_made.nd fun v2 G2 H2 n2 h2 => ?_
    cases h2
    have gp : 0 < ((Nat.gcd n.natAbs e.natAbs : Nat) : Int) := by
      have := Nat.gcd_pos_of_pos_right n.natAbs (show 0 < e.natAbs by omega)
      omega
    have gl : ((Nat.gcd n.natAbs e.natAbs : Nat) : Int).natAbs < 2 ^ 8000 := by
      rw [Int.natAbs_natCast]
      exact Nat.lt_of_le_of_lt (Nat.gcd_le_right _ (by omega)) hd
    have sg : (if 0 < e then (1 : Int) else -1).natAbs < 2 ^ 2 := by split <;> decide
    refine s_ret (e_tup (a_cons (e_div (e_mul (e_var 3 (.int _)) (e_var 0 (.int _)) (mulOK sg hn (by decide))) (e_var 2 (.int _)) (divOK gp gl (by decide))) (a_cons (e_div (e_mul (e_var 3 (.int _)) (e_var 1 (.int _)) (mulOK sg hd (by decide))) (e_var 2 (.int _)) (divOK gp gl (by decide))) a_nil))) n2.gh fun v G3 H3 n3 hv => ?_
    rw [rd_made n e he] at hv
    exact q v G3 H3 ((n1.trans n2).trans n3) hv
end
end K01

/-! K2: is_ratio, check_ratios, and what rests on them. -/
namespace K01
open PySem PySem.Spec PyProof.Rows DL
open L2 hiding Dp DpAll
section
variable {P : Program} {w : World} {K : PySem.W.Frag} {mg : Str → Option Value} {base : Heap}

def R_is_ratio : List D → D → Prop := fun ds d => ∃ v, ds = [v] ∧ d = .bool (isRatio v)
theorem isRatio_short {xs : List D} (h : xs.length ≠ 2) : isRatio (.tuple xs) = false := by
  unfold isRatio
  split
  · rename_i e; cases e; exact absurd rfl h
  · rfl
theorem isRatio_a {a b : D} (h : isInt a = false) : isRatio (.tuple [a, b]) = false := by
  unfold isRatio
  split
  · rename_i e; cases e; cases h
  · rfl
theorem isRatio_b {a b : D} (h : isInt b = false) : isRatio (.tuple [a, b]) = false := by
  unfold isRatio
  split
  · rename_i e; cases e; cases h
  · rfl
theorem isRatio_T {v : D} (h : isT v = false) : isRatio v = false := by cases v <;> first | rfl | cases h
theorem isInt_of {v : D} (h : isInt v = true) : ∃ i, v = .int i := by cases v <;> first | exact ⟨_, rfl⟩ | cases h
theorem isT_of {v : D} (h : isT v = true) : ∃ xs, v = .tuple xs := by cases v <;> first | exact ⟨_, rfl⟩ | cases h
theorem ok_is_ratio (T : Txt K mg) : PFn P w K mg base 2 "is_ratio" R_is_ratio :=
  pfn_of T.h_is_ratio sc_is_ratio (fun ds d ⟨v, e, _⟩ => by rw [e]; rfl) fun cdv A outer s f H Q _ hr ds d G vs ⟨v, e, ed⟩ g hv q => by
    subst e ed
    obtain ⟨u, rfl, hu⟩ := all1 hv
    cases hT : isT v with
    | false =>
      rw [isRatio_T hT] at q
      refine s_when (k := true) (t_of (tw_orT (t_is (t_not (t_val (e_isi T.b_isinstance T.b_tuple (by decide +kernel) (e_var 0 hu) (kit_tuple v)))) (by rw [hT]; rfl)))) g (fun _ G' H' n => ?_) (fun z => nomatch z)
      exact s_ret e_bl n.gh fun v G2 H2 n2 h2 => q v G2 H2 (n.trans n2) h2
    | true =>
      obtain ⟨xs, rfl⟩ := isT_of hT
      by_cases hl : xs.length = 2
      · obtain ⟨a, b, rfl⟩ : ∃ a b, xs = [a, b] := by
          match xs, hl with
          | [a, b], _ => exact ⟨a, b, rfl⟩
        have len2 : (!decide ((([a, b] : List D).length : Int) = 2)) = false := rfl
        cases ha : isInt a with
        | false =>
          rw [isRatio_a ha] at q
          refine s_when (k := true) (t_of (tw_orF (t_is (t_not (t_val (e_isi T.b_isinstance T.b_tuple (by decide +kernel) (e_var 0 hu) (kit_tuple _)))) (by rfl)) (tw_orF (t_is (t_neI (e_len T.b_len (e_var 0 hu) (.inl rfl)) e_int) len2)
            (tw_orT (t_is (t_not (t_val (e_call (ok_is_integer T) hr (a_cons (e_ixT (e_var 0 hu) e_int rfl) a_nil) ⟨_, rfl, rfl⟩))) (by rw [ha]; rfl)))))) g (fun _ G' H' n => ?_) (fun z => nomatch z)
          exact s_ret e_bl n.gh fun v G2 H2 n2 h2 => q v G2 H2 (n.trans n2) h2
        | true =>
          obtain ⟨i, rfl⟩ := isInt_of ha
          cases hb : isInt b with
          | false =>
            rw [isRatio_b hb] at q
            refine s_when (k := true) (t_of (tw_orF (t_is (t_not (t_val (e_isi T.b_isinstance T.b_tuple (by decide +kernel) (e_var 0 hu) (kit_tuple _)))) (by rfl)) (tw_orF (t_is (t_neI (e_len T.b_len (e_var 0 hu) (.inl rfl)) e_int) len2)
              (tw_orF (t_is (t_not (t_val (e_call (ok_is_integer T) hr (a_cons (e_ixT (e_var 0 hu) e_int rfl) a_nil) ⟨_, rfl, rfl⟩))) (by rfl))
              (tw_or1 (t_is (t_not (t_val (e_call (ok_is_integer T) hr (a_cons (e_ixT (e_var 0 hu) e_int rfl) a_nil) ⟨_, rfl, rfl⟩))) (by rw [hb]; rfl))))))) g (fun _ G' H' n => ?_) (fun z => nomatch z)
            exact s_ret e_bl n.gh fun v G2 H2 n2 h2 => q v G2 H2 (n.trans n2) h2
          | true =>
            obtain ⟨j, rfl⟩ := isInt_of hb
            refine s_when (k := false) (t_of (tw_orF (t_is (t_not (t_val (e_isi T.b_isinstance T.b_tuple (by decide +kernel) (e_var 0 hu) (kit_tuple _)))) (by rfl)) (tw_orF (t_is (t_neI (e_len T.b_len (e_var 0 hu) (.inl rfl)) e_int) len2)
              (tw_orF (t_is (t_not (t_val (e_call (ok_is_integer T) hr (a_cons (e_ixT (e_var 0 hu) e_int rfl) a_nil) ⟨_, rfl, rfl⟩))) (by rfl))
              (tw_or1 (t_is (t_not (t_val (e_call (ok_is_integer T) hr (a_cons (e_ixT (e_var 0 hu) e_int rfl) a_nil) ⟨_, rfl, rfl⟩))) (by rfl))))))) g (fun z => nomatch z) (fun _ G' H' n => ?_)
            refine s_ret (d := .bool (decide (0 < j) && decide (Nat.gcd i.natAbs j.natAbs = 1))) (e_and2 (e_gt (e_ixT (e_var 0 (Dp.mono n.g hu)) e_int rfl) e_int) fun h => ?_) n.gh fun v G2 H2 n2 h2 => q v G2 H2 (n.trans n2) h2
            have hj : 0 < j := by simpa using h
            refine e_is (e_eqI (e_call (ok_shared T) (hr.mono (by decide)) (a_cons (e_abs T.b_abs (e_ixT (e_var 0 (Dp.mono n.g hu)) e_int rfl)) (a_cons (e_ixT (e_var 0 (Dp.mono n.g hu)) e_int rfl) a_nil)) ⟨i.natAbs, j.natAbs, by rw [Int.natAbs_of_nonneg (by omega : 0 ≤ j)], rfl⟩) e_int) ?_
            congr 1
            by_cases hg : Nat.gcd i.natAbs j.natAbs = 1
            · rw [decide_eq_true hg, decide_eq_true (by omega)]
            · rw [decide_eq_false hg, decide_eq_false (by omega)]
      · rw [isRatio_short hl] at q
        refine s_when (k := true) (t_of (tw_orF (t_is (t_not (t_val (e_isi T.b_isinstance T.b_tuple (by decide +kernel) (e_var 0 hu) (kit_tuple _)))) (by rfl)) (tw_orT (t_is (t_neI (e_len T.b_len (e_var 0 hu) (.inl rfl)) e_int) (by rw [decide_eq_false (by omega)]; rfl))))) g (fun _ G' H' n => ?_) (fun z => nomatch z)
        exact s_ret e_bl n.gh fun v G2 H2 n2 h2 => q v G2 H2 (n.trans n2) h2

/-! ### check_ratios(*values) -/
end
end K01

/-! K3: sums, products, quotients, powers of ratios. -/
namespace K01
open PySem PySem.Spec PyProof.Rows DL
open L2 hiding Dp DpAll
section
variable {P : Program} {w : World} {K : PySem.W.Frag} {mg : Str → Option Value} {base : Heap}

theorem natI {n : Nat} {m : Nat} (h : n < m) : ((n : Int)).natAbs < m := by rw [Int.natAbs_natCast]; exact h
theorem decNat (a b : Nat) : decide ((a : Int) = (b : Int)) = decide (a = b) := by
  by_cases h : a = b
  · subst h; simp
  · rw [decide_eq_false h, decide_eq_false (by omega)]
def R_add : List D → D → Prop := fun ds d => ∃ a b : Rat, ds = [rd a, rd b] ∧ Sz 3000 a ∧ Sz 3000 b ∧ d = rd (a + b)
theorem ok_add (T : Txt K mg) : PFn P w K mg base 3 "add" R_add :=
  pfn_of T.h_add sc_add (fun ds d ⟨a, b, e, _⟩ => by rw [e]; rfl) fun cdv A outer s f H Q _ hr ds d G vs ⟨a, b, e, za, zb, ed⟩ g hv q => by
    subst e ed
    obtain ⟨u, x, rfl, hu, hx⟩ := all2 hv
    refine s_when (k := decide (a.den = b.den)) (t_is (t_eqI (e_ixT (e_var 0 hu) e_int rfl) (e_ixT (e_var 1 hx) e_int rfl)) (decNat _ _)) g (fun hk G1 H1 n1 => ?_) fun hk G1 H1 n1 => ?_
    · have hk : a.den = b.den := of_decide_eq_true hk
      refine s_ret (d := rd (a + b)) (e_if (k := decide (a.den = 1)) (t_is (t_eqI (e_ixT (e_var 0 (Dp.mono n1.g hu)) e_int rfl) e_int) (decNat a.den 1)) (fun h => ?_) fun h => ?_) n1.gh fun v G2 H2 n2 h2 => q v G2 H2 (n1.trans n2) h2
      · have h : a.den = 1 := of_decide_eq_true h
        refine e_is (e_tup (a_cons (e_add (e_ixT (e_var 0 (Dp.mono n1.g hu)) e_int rfl) (e_ixT (e_var 1 (Dp.mono n1.g hx)) e_int rfl)) (a_cons e_int a_nil))) ?_
        have e1 : a + b = ((a.num + b.num : Int) : Rat) := by
          conv => lhs; rw [of_den_one h, of_den_one (hk.symm.trans h)]
          rw [Rat.intCast_add]
        rw [e1]; rfl
      · refine e_call (ok_made T) hr (a_cons (e_add (e_ixT (e_var 0 (Dp.mono n1.g hu)) e_int rfl) (e_ixT (e_var 1 (Dp.mono n1.g hx)) e_int rfl)) (a_cons (e_ixT (e_var 0 (Dp.mono n1.g hu)) e_int rfl) a_nil))
          ⟨_, _, rfl, by have := den_pos' a; omega, add_lt za.1 zb.1 (by decide) (by decide), natI (lt_pow za.2 (by decide)), by rw [add_same a b hk]⟩
    · refine s_ret (e_call (ok_made T) hr (a_cons (e_add (e_mul (e_ixT (e_var 0 (Dp.mono n1.g hu)) e_int rfl) (e_ixT (e_var 1 (Dp.mono n1.g hx)) e_int rfl) (mulOK za.1 (natI zb.2) (by decide))) (e_mul (e_ixT (e_var 1 (Dp.mono n1.g hx)) e_int rfl) (e_ixT (e_var 0 (Dp.mono n1.g hu)) e_int rfl) (mulOK zb.1 (natI za.2) (by decide))))
          (a_cons (e_mul (e_ixT (e_var 0 (Dp.mono n1.g hu)) e_int rfl) (e_ixT (e_var 1 (Dp.mono n1.g hx)) e_int rfl) (mulOK (natI za.2) (natI zb.2) (by decide))) a_nil))
          ⟨_, _, rfl, ?_, add_lt (mul_lt za.1 (natI zb.2)) (mul_lt zb.1 (natI za.2)) (by decide) (by decide), lt_pow (mul_lt (natI za.2) (natI zb.2)) (by decide), by rw [add_divInt]⟩) n1.gh fun v G2 H2 n2 h2 => q v G2 H2 (n1.trans n2) h2
      exact Int.ne_of_gt (Int.mul_pos (den_pos' a) (den_pos' b))
theorem rd_neg (b : Rat) : PyData.tuple [.int (-b.num), .int (b.den : Int)] = rd (-b) := rfl
theorem Sz.neg {n : Nat} {b : Rat} (h : Sz n b) : Sz n (-b) := ⟨neg_lt h.1, h.2⟩
def R_less : List D → D → Prop := fun ds d => ∃ a b : Rat, ds = [rd a, rd b] ∧ Sz 3000 a ∧ Sz 3000 b ∧ d = rd (a - b)
theorem ok_less (T : Txt K mg) : PFn P w K mg base 4 "less" R_less :=
  pfn_of T.h_less sc_less (fun ds d ⟨a, b, e, _⟩ => by rw [e]; rfl) fun cdv A outer s f H Q _ hr ds d G vs ⟨a, b, e, za, zb, ed⟩ g hv q => by
    subst e ed
    obtain ⟨u, x, rfl, hu, hx⟩ := all2 hv
    exact s_ret (e_call (ok_add T) hr (a_cons (e_var 0 hu) (a_cons (e_is (e_tup (a_cons (e_neg (e_ixT (e_var 1 hx) e_int rfl)) (a_cons (e_ixT (e_var 1 hx) e_int rfl) a_nil))) (rd_neg b)) a_nil)) ⟨a, -b, rfl, za, Sz.neg zb, by rw [Rat.sub_eq_add_neg]⟩) g q
def R_product : List D → D → Prop := fun ds d => ∃ a b : Rat, ds = [rd a, rd b] ∧ Sz 3000 a ∧ Sz 3000 b ∧ d = rd (a * b)
theorem ok_product (T : Txt K mg) : PFn P w K mg base 3 "product" R_product :=
  pfn_of T.h_product sc_product (fun ds d ⟨a, b, e, _⟩ => by rw [e]; rfl) fun cdv A outer s f H Q _ hr ds d G vs ⟨a, b, e, za, zb, ed⟩ g hv q => by
    subst e ed
    obtain ⟨u, x, rfl, hu, hx⟩ := all2 hv
    refine s_ret (d := rd (a * b)) (e_if (k := decide (a.den = 1) && decide (b.den = 1)) (t_and (t_is (t_eqI (e_ixT (e_var 0 hu) e_int rfl) e_int) (decNat a.den 1)) fun _ => t_is (t_eqI (e_ixT (e_var 1 hx) e_int rfl) e_int) (decNat b.den 1)) (fun h => ?_) fun h => ?_) g q
    · rw [Bool.and_eq_true, decide_eq_true_eq, decide_eq_true_eq] at h
      refine e_is (e_tup (a_cons (e_mul (e_ixT (e_var 0 hu) e_int rfl) (e_ixT (e_var 1 hx) e_int rfl) (mulOK za.1 zb.1 (by decide))) (a_cons e_int a_nil))) ?_
      have e1 : a * b = ((a.num * b.num : Int) : Rat) := by
        conv => lhs; rw [of_den_one h.1, of_den_one h.2]
        rw [Rat.intCast_mul]
      rw [e1]; rfl
    · refine e_call (ok_made T) hr (a_cons (e_mul (e_ixT (e_var 0 hu) e_int rfl) (e_ixT (e_var 1 hx) e_int rfl) (mulOK za.1 zb.1 (by decide))) (a_cons (e_mul (e_ixT (e_var 0 hu) e_int rfl) (e_ixT (e_var 1 hx) e_int rfl) (mulOK (natI za.2) (natI zb.2) (by decide))) a_nil))
        ⟨_, _, rfl, Int.ne_of_gt (Int.mul_pos (den_pos' a) (den_pos' b)), lt_pow (mul_lt za.1 zb.1) (by decide), lt_pow (mul_lt (natI za.2) (natI zb.2)) (by decide), by rw [mul_divInt]⟩
theorem num_ne {b : Rat} (h : b ≠ 0) : b.num ≠ 0 := fun z => h (Rat.num_eq_zero.mp z)
def R_share : List D → D → Prop := fun ds d => ∃ a b : Rat, ds = [rd a, rd b] ∧ b ≠ 0 ∧ Sz 3000 a ∧ Sz 3000 b ∧ d = rd (a / b)
theorem ok_share (T : Txt K mg) : PFn P w K mg base 3 "share" R_share :=
  pfn_of T.h_share sc_share (fun ds d ⟨a, b, e, _⟩ => by rw [e]; rfl) fun cdv A outer s f H Q _ hr ds d G vs ⟨a, b, e, hb, za, zb, ed⟩ g hv q => by
    subst e ed
    obtain ⟨u, x, rfl, hu, hx⟩ := all2 hv
    exact s_ret (e_call (ok_made T) hr (a_cons (e_mul (e_ixT (e_var 0 hu) e_int rfl) (e_ixT (e_var 1 hx) e_int rfl) (mulOK za.1 (natI zb.2) (by decide))) (a_cons (e_mul (e_ixT (e_var 0 hu) e_int rfl) (e_ixT (e_var 1 hx) e_int rfl) (mulOK (natI za.2) zb.1 (by decide))) a_nil))
      ⟨_, _, rfl, Int.mul_ne_zero (Int.ne_of_gt (den_pos' a)) (num_ne hb), lt_pow (mul_lt za.1 (natI zb.2)) (by decide), lt_pow (mul_lt (natI za.2) zb.1) (by decide), by rw [div_divInt]⟩) g q
def R_is_below : List D → D → Prop := fun ds d => ∃ a b : Rat, ds = [rd a, rd b] ∧ Sz 3000 a ∧ Sz 3000 b ∧ d = .bool (decide (a < b))
theorem ok_is_below (T : Txt K mg) : PFn P w K mg base 1 "is_below" R_is_below :=
  pfn_of T.h_is_below sc_is_below (fun ds d ⟨a, b, e, _⟩ => by rw [e]; rfl) fun cdv A outer s f H Q _ hr ds d G vs ⟨a, b, e, za, zb, ed⟩ g hv q => by
    subst e ed
    obtain ⟨u, x, rfl, hu, hx⟩ := all2 hv
    rw [← lt_iff'] at q
    exact s_ret (e_lt (e_mul (e_ixT (e_var 0 hu) e_int rfl) (e_ixT (e_var 1 hx) e_int rfl) (mulOK za.1 (natI zb.2) (by decide))) (e_mul (e_ixT (e_var 1 hx) e_int rfl) (e_ixT (e_var 0 hu) e_int rfl) (mulOK zb.1 (natI za.2) (by decide)))) g q

/-! ### powers -/
theorem pow_lt {a : Int} {m n : Nat} (h : a.natAbs < 2 ^ m) (hm : 0 < m) : (a ^ n).natAbs < 2 ^ (m * n + 1) := by
  rw [Int.natAbs_pow]
  refine Nat.lt_of_le_of_lt (Nat.pow_le_pow_left (Nat.le_of_lt h) n) ?_
  rw [← Nat.pow_mul]
  exact Nat.pow_lt_pow_right (by decide) (by omega)
/-- the program's raised: a ^ n, both of bounded size -/
def R_raised : List D → D → Prop := fun ds d => ∃ (a : Int) (n : Nat) (m : Nat), ds = [.int a, .int n] ∧ a.natAbs < 2 ^ m ∧ 0 < m ∧ m * n ≤ 20000 ∧ d = .int (a ^ n)
theorem ok_raised (T : Txt K mg) : PFn P w K mg base 1 "raised" R_raised :=
  pfn_of T.h_raised sc_raised (fun ds d ⟨a, n, m, e, _⟩ => by rw [e]; rfl) fun cdv A outer s f H Q _ hr ds d G vs ⟨a, n, m, e, hm, hm0, hmn, ed⟩ g hv q => by
    subst e ed
    obtain ⟨u, x, rfl, hu, hx⟩ := all2 hv
    cases hu; cases hx
    refine s_set 2 e_int g sc_raised.nd fun v0 G0 H0 n0 h0 => ?_
    cases h0
    -- found * x ^ y = a ^ n; sizes: found below 2 ^ (1 + f), x below 2 ^ l, with f + l * y ≤ m * n + ..
    refine s_while .never (fun k σ H1 => ∃ (x : Int) (y : Nat) (z : Int) (f l : Nat) (G1 : Hp), k = y ∧ z * x ^ y = a ^ n ∧ z.natAbs < 2 ^ (f + 2) ∧ x.natAbs < 2 ^ l ∧ f + l * y ≤ m * n ∧ l ≤ 2 * m + 2 * (m * n) ∧ σ = [some (.int x), some (.int y), some (.int z)] ∧ Nx G H G1 H1) n
      ⟨a, n, 1, 0, m, G0, rfl, by simp, by decide, hm, by omega, by omega, rfl, n0⟩ ?_
    rintro y σ H1 ⟨x, _, z, f', l, G1, rfl, hz, zf, xl, hfl, hl, rfl, n1⟩
    refine ⟨_, G1, n1.gh, t_gt (e_var 1 (.int _)) e_int, fun hk G2 H2 n2 => ?_, fun hk G2 H2 n2 => ?_⟩
    · have hy : 0 < y := by simpa using hk
      have hly : l ≤ l * y := Nat.le_mul_of_pos_right l hy
      have halt : y / 2 < y := Nat.div_lt_self hy (by decide)
      refine ⟨fun σ2 H2 => ∃ (x' : Int) (y' : Nat) (z' : Int) (f l : Nat) (G1 : Hp), y' < y ∧ z' * x' ^ y' = a ^ n ∧ z'.natAbs < 2 ^ (f + 2) ∧ x'.natAbs < 2 ^ l ∧ f + l * y' ≤ m * n ∧ l ≤ 2 * m + 2 * (m * n) ∧ σ2 = [some (.int x'), some (.int y'), some (.int z')] ∧ Nx G H G1 H2,
        fun σ2 H2 ⟨x', y', z', f, l, G1, lt, h⟩ => ⟨y', lt, x', y', z', f, l, G1, rfl, h⟩, ?_⟩
      have body : ∀ (z2 : Int) (f2 : Nat) (G3 H3 : Hp), z2 * (x * x) ^ (y / 2) = a ^ n → z2.natAbs < 2 ^ (f2 + 2) → f2 + (2 * l) * (y / 2) ≤ m * n → Nx G H G3 H3 →
          ∃ (x' : Int) (y' : Nat) (z' : Int) (f l' : Nat), x * x = x' ∧ ((y : Int) / 2 = (y' : Int)) ∧ y' < y ∧ z' = z2 ∧ z' * x' ^ y' = a ^ n ∧ z'.natAbs < 2 ^ (f + 2) ∧ x'.natAbs < 2 ^ l' ∧ f + l' * y' ≤ m * n ∧ l' ≤ 2 * m + 2 * (m * n) := fun z2 f2 G3 H3 h1 h2 h3 h4 =>
        ⟨x * x, y / 2, z2, f2, 2 * l, rfl, by rw [Int.natCast_ediv]; rfl, halt, rfl, h1, h2, by rw [show 2 * l = l + l by omega]; exact mul_lt xl xl, h3, by omega⟩
      have l20 : l ≤ 20000 := by omega
      refine s_when (k := decide (y % 2 = 1)) (t_is (t_eqI (e_mod (e_var 1 (.int _)) e_int (by decide)) e_int) (by rw [← decNat, Int.natCast_emod]; rfl)) n2.gh (fun ho G3 H3 n3 => ?_) fun ho G3 H3 n3 => ?_
      · have ho : y % 2 = 1 := of_decide_eq_true ho
        refine s_set 2 (e_mul (e_var 2 (.int _)) (e_var 0 (.int _)) (mulOK zf xl (by omega))) n3.gh sc_raised.nd fun v4 G4 H4 n4 h4 => s_nil ?_
        cases h4
        have hzz : (z * x) * (x * x) ^ (y / 2) = a ^ n := by
          rw [← hz]
          have e1 : x ^ y = x * (x * x) ^ (y / 2) := by
            have e2 : y = 2 * (y / 2) + 1 := by omega
            conv => lhs; rw [e2]
            rw [Int.pow_succ, Int.pow_mul, Int.mul_comm]
            congr 1
            rw [Int.pow_succ, Int.pow_succ, Int.pow_zero, Int.one_mul]
          rw [e1, Int.mul_assoc]
        have hsum : (f' + l) + (2 * l) * (y / 2) ≤ m * n := by
          have e2 : l * y = l * (2 * (y / 2) + 1) := by congr 1; omega
          rw [Nat.mul_add, Nat.mul_one, ← Nat.mul_assoc, Nat.mul_comm l 2] at e2
          omega
        obtain ⟨x', y', z', f2, l', e1, e2, b1, e3, b2, b3, b4, b5, b6⟩ := body (z * x) (f' + l) G4 H4 hzz (by rw [show f' + l + 2 = (f' + 2) + l by omega]; exact mul_lt zf xl) hsum ((((n1.trans n2).trans n3)).trans n4)
        refine s_par 0 1 rfl sc_raised.nd (a_cons (e_mul (e_var 0 (.int _)) (e_var 0 (.int _)) (mulOK xl xl (by omega))) (a_cons (e_div (e_var 1 (.int _)) e_int (divOK (b := 2) (by decide) (by decide) (by decide))) a_nil)) n4.gh fun u5 v5 G5 H5 n5 h5 h6 => s_nil ?_
        cases h5; cases h6
        refine ⟨x', y', z', f2, l', G5, b1, b2, b3, b4, b5, b6, ?_, ((((n1.trans n2).trans n3)).trans n4).trans n5⟩
        rw [e1, e2, e3]; rfl
      · have ho : y % 2 = 0 := by have := of_decide_eq_false ho; omega
        have hzz : z * (x * x) ^ (y / 2) = a ^ n := by
          rw [← hz]
          congr 1
          have e2 : y = 2 * (y / 2) := by omega
          conv => rhs; rw [e2]
          rw [Int.pow_mul]
          congr 1
          rw [Int.pow_succ, Int.pow_succ, Int.pow_zero, Int.one_mul]
        have hsum : f' + (2 * l) * (y / 2) ≤ m * n := by
          have e2 : l * y = l * (2 * (y / 2)) := by congr 1; omega
          rw [← Nat.mul_assoc, Nat.mul_comm l 2] at e2
          omega
        obtain ⟨x', y', z', f2, l', e1, e2, b1, e3, b2, b3, b4, b5, b6⟩ := body z f' G3 H3 hzz zf hsum ((n1.trans n2).trans n3)
        refine s_par 0 1 rfl sc_raised.nd (a_cons (e_mul (e_var 0 (.int _)) (e_var 0 (.int _)) (mulOK xl xl (by omega))) (a_cons (e_div (e_var 1 (.int _)) e_int (divOK (b := 2) (by decide) (by decide) (by decide))) a_nil)) n3.gh fun u5 v5 G5 H5 n5 h5 h6 => s_nil ?_
        cases h5; cases h6
        refine ⟨x', y', z', f2, l', G5, b1, b2, b3, b4, b5, b6, ?_, ((n1.trans n2).trans n3).trans n5⟩
        rw [e1, e2, e3]; rfl
    · have hy : y = 0 := by simpa using hk
      subst hy
      rw [Int.pow_zero, Int.mul_one] at hz
      refine s_ret (e_var 2 (.int _)) n2.gh fun v G3 H3 n3 hv => q v G3 H3 ((n1.trans n2).trans n3) ?_
      rw [← hz]; exact hv
end
end K01

namespace K01
open PySem PySem.Spec PyProof.Rows DL
open L2 hiding Dp DpAll
section
variable {P : Program} {w : World} {K : PySem.W.Frag} {mg : Str → Option Value} {base : Heap}

def pw (a : Rat) (n : Int) : Rat := if 0 ≤ n then a ^ n.natAbs else (a ^ n.natAbs)⁻¹
theorem rd_pow (a : Rat) (n : Nat) : PyData.tuple [.int (a.num ^ n), .int ((a.den : Int) ^ n)] = rd (a ^ n) := by
  unfold rd; rw [Rat.num_pow, Rat.den_pow, Int.natCast_pow]
def R_power_by : List D → D → Prop := fun ds d => ∃ (a : Rat) (n : Int) (m : Nat), ds = [rd a, .int n] ∧ (n < 0 → a ≠ 0) ∧ Sz m a ∧ 0 < m ∧ m * n.natAbs ≤ 7000 ∧ d = rd (pw a n)
theorem ok_power_by (T : Txt K mg) : PFn P w K mg base 3 "power_by" R_power_by :=
  pfn_of T.h_power_by sc_power_by (fun ds d ⟨a, n, m, e, _⟩ => by rw [e]; rfl) fun cdv A outer s f H Q _ hr ds d G vs ⟨a, n, m, e, h0, za, hm, hmn, ed⟩ g hv q => by
    subst e ed
    obtain ⟨u, x, rfl, hu, hx⟩ := all2 hv
    refine s_ret (d := rd (pw a n)) (e_if (t_ge (e_var 1 hx) e_int) (fun h => ?_) fun h => ?_) g q
    · have h : 0 ≤ n := of_decide_eq_true h
      have en : n = (n.natAbs : Int) := by omega
      have hx : Dp K G x (.int (n.natAbs : Int)) := by rw [← en]; exact hx
      refine e_is (e_tup (a_cons (e_call (ok_raised T) (hr.mono (by decide)) (a_cons (e_ixT (e_var 0 hu) e_int rfl) (a_cons (e_var 1 hx) a_nil)) ⟨_, _, m, rfl, za.1, hm, by omega, rfl⟩)
        (a_cons (e_call (ok_raised T) (hr.mono (by decide)) (a_cons (e_ixT (e_var 0 hu) e_int rfl) (a_cons (e_var 1 hx) a_nil)) ⟨_, _, m, rfl, natI za.2, hm, by omega, rfl⟩) a_nil))) ?_
      unfold pw; rw [if_pos h]; exact rd_pow a n.natAbs
    · have h : ¬ 0 ≤ n := of_decide_eq_false h
      have en : -n = (n.natAbs : Int) := by omega
      have ha := h0 (by omega)
      have e1 : ∀ {p q : Pos} {X : Cx} {σ : L2.St}, True := fun {_ _ _ _} => trivial
      refine e_call (ok_made T) (hr.mono (by decide)) (a_cons (e_call (ok_raised T) (hr.mono (by decide)) (a_cons (e_ixT (e_var 0 hu) e_int rfl) (a_cons (e_is (e_neg (e_var 1 hx)) (by rw [en])) a_nil)) ⟨_, _, m, rfl, natI za.2, hm, by omega, rfl⟩)
        (a_cons (e_call (ok_raised T) (hr.mono (by decide)) (a_cons (e_ixT (e_var 0 hu) e_int rfl) (a_cons (e_is (e_neg (e_var 1 hx)) (by rw [en])) a_nil)) ⟨_, _, m, rfl, za.1, hm, by omega, rfl⟩) a_nil))
        ⟨_, _, rfl, Int.pow_ne_zero (num_ne ha), lt_pow (pow_lt (natI za.2) hm) (by omega), lt_pow (pow_lt za.1 hm) (by omega), ?_⟩
      unfold pw; rw [if_neg h, Rat.inv_def, Rat.num_pow, Rat.den_pow, Int.natCast_pow]
theorem e_globI' {X : Cx} {σ : L2.St} {G : Hp} {x : Str} {i : Int} {pos : Pos} (h : ∃ t, X.mg x = some (.int i t)) (hg : Gl X x := by rfl) (h1 : (x == ("__debug__" : Str)) = false := by decide) : E X (.Name x pos) σ G (.int i) := by
  obtain ⟨t, h⟩ := h
  exact e_globI h ⟨t, rfl⟩ hg h1
theorem two_pos (k : Nat) : (0 : Int) < 2 ^ k := Int.pow_pos (by decide)
theorem odd_gcd {n : Int} (k : Nat) (h : n % 2 = 1) : Nat.gcd n.natAbs ((2 : Int) ^ k).natAbs = 1 := by
  rw [Int.natAbs_pow]
  show Nat.Coprime n.natAbs (2 ^ k)
  refine Nat.Coprime.pow_right k ?_
  show Nat.gcd n.natAbs 2 = 1
  have h2 : n.natAbs % 2 = 1 := by omega
  rw [Nat.gcd_comm, Nat.gcd_rec, h2]; rfl
def R_of_bits : List D → D → Prop := fun ds d => ∃ (n : Int) (k : Nat), ds = [.int n, .int k] ∧ k ≤ 20000 ∧ d = rd (Rat.divInt n (2 ^ k))
theorem ok_of_bits (T : Txt K mg) : PFn P w K mg base 1 "of_bits" R_of_bits :=
  pfn_of T.h_of_bits sc_of_bits (fun ds d ⟨a, n, e, _⟩ => by rw [e]; rfl) fun cdv A outer s f H Q _ hr ds d G vs ⟨n, k, e, hk, ed⟩ g hv q => by
    subst e ed
    obtain ⟨u, x, rfl, hu, hx⟩ := all2 hv
    cases hu; cases hx
    refine s_while .never (fun j σ H1 => ∃ (x : Int) (y : Nat) (G1 : Hp), j = y ∧ y ≤ 20000 ∧ Rat.divInt x (2 ^ y) = Rat.divInt n (2 ^ k) ∧ σ = [some (.int x), some (.int y)] ∧ Nx G H G1 H1) k ⟨n, k, G, rfl, hk, rfl, rfl, Nx.refl g⟩ ?_
    rintro y σ H1 ⟨x, _, G1, rfl, hy, hq, rfl, n1⟩
    refine ⟨decide (0 < y) && decide (x % 2 = 0), G1, n1.gh, t_and (t_is (t_gt (e_var 1 (.int _)) e_int) (by by_cases h : 0 < y <;> simp [h])) fun _ => t_eqI (e_mod (e_var 0 (.int _)) e_int (by decide)) e_int, fun h G2 H2 n2 => ?_, fun h G2 H2 n2 => ?_⟩
    · rw [Bool.and_eq_true, decide_eq_true_eq, decide_eq_true_eq] at h
      obtain ⟨y', rfl⟩ : ∃ y', y = y' + 1 := ⟨y - 1, by omega⟩
      refine ⟨fun σ2 H2 => ∃ (x2 : Int) (y2 : Nat) (G1 : Hp), y2 < y' + 1 ∧ y2 ≤ 20000 ∧ Rat.divInt x2 (2 ^ y2) = Rat.divInt n (2 ^ k) ∧ σ2 = [some (.int x2), some (.int y2)] ∧ Nx G H G1 H2, fun σ2 H2 ⟨x2, y2, G1, l, h⟩ => ⟨y2, l, x2, y2, G1, rfl, h⟩, ?_⟩
      refine s_par 0 1 rfl sc_of_bits.nd (a_cons (e_div (e_var 0 (.int _)) e_int (divOK (b := 2) (by decide) (by decide) (by decide))) (a_cons (e_sub (e_var 1 (.int _)) e_int) a_nil)) n2.gh fun u v G3 H3 n3 h1 h2 => s_nil ?_
      cases h1; cases h2
      refine ⟨x / 2, y', G3, Nat.lt_succ_self _, by omega, ?_, by rw [show ((y' + 1 : Nat) : Int) - 1 = (y' : Int) by omega]; rfl, (n1.trans n2).trans n3⟩
      rw [← hq]
      have e1 : x = 2 * (x / 2) := by omega
      conv => rhs; rw [e1, Int.pow_succ, Int.mul_comm (2 ^ y') 2]
      rw [Rat.divInt_mul_left (by decide)]
    · refine s_ret (e_tup (a_cons (e_var 0 (.int _)) (a_cons (e_shl e_int (e_var 1 (.int _)) (shl_ok (n := 1) (by decide) (by omega))) a_nil))) n2.gh fun v G3 H3 n3 hv => q v G3 H3 ((n1.trans n2).trans n3) ?_
      rw [Int.one_mul, Int.toNat_natCast] at hv
      rw [← hq]
      have e1 : PyData.tuple [.int x, .int (2 ^ y)] = rd (Rat.divInt x (2 ^ y)) := by
        refine rd_of (two_pos y) ?_
        by_cases h0 : 0 < y
        · refine odd_gcd y ?_
          rw [decide_eq_true h0, Bool.true_and, decide_eq_false_iff_not] at h
          omega
        · have : y = 0 := by omega
          subst this
          rw [Int.pow_zero]; exact Nat.gcd_one_right _
      rw [← e1]; exact hv
def dn (a : Rat) (k : Nat) : Rat := Rat.divInt (a.num * 2 ^ k / a.den) (2 ^ k)
def upq (a : Rat) (k : Nat) : Rat := Rat.divInt (-(-a.num * 2 ^ k / a.den)) (2 ^ k)
def R_dby (f : Rat → Nat → Rat) : List D → D → Prop := fun ds d => ∃ (a : Rat) (k : Nat), ds = [rd a, .int k] ∧ k ≤ 20000 ∧ Sz 3000 a ∧ d = rd (f a k)
theorem ok_down_by (T : Txt K mg) : PFn P w K mg base 2 "down_by" (R_dby dn) :=
  pfn_of T.h_down_by sc_down_by (fun ds d ⟨a, n, e, _⟩ => by rw [e]; rfl) fun cdv A outer s f H Q _ hr ds d G vs ⟨a, k, e, hk, za, ed⟩ g hv q => by
    subst e ed
    obtain ⟨u, x, rfl, hu, hx⟩ := all2 hv
    refine s_ret (e_call (ok_of_bits T) hr (a_cons (e_div (e_shl (e_ixT (e_var 0 hu) e_int rfl) (e_var 1 hx) (shl_ok za.1 (by omega))) (e_ixT (e_var 0 hu) e_int rfl) (divOK (den_pos' a) (natI za.2) (by decide))) (a_cons (e_var 1 hx) a_nil)) ⟨_, k, rfl, hk, rfl⟩) g ?_
    rw [Int.toNat_natCast]; exact q
theorem ok_up_by (T : Txt K mg) : PFn P w K mg base 2 "up_by" (R_dby upq) :=
  pfn_of T.h_up_by sc_up_by (fun ds d ⟨a, n, e, _⟩ => by rw [e]; rfl) fun cdv A outer s f H Q _ hr ds d G vs ⟨a, k, e, hk, za, ed⟩ g hv q => by
    subst e ed
    obtain ⟨u, x, rfl, hu, hx⟩ := all2 hv
    refine s_ret (e_call (ok_of_bits T) hr (a_cons (e_neg (e_div (e_shl (e_neg (e_ixT (e_var 0 hu) e_int rfl)) (e_var 1 hx) (shl_ok (neg_lt za.1) (by omega))) (e_ixT (e_var 0 hu) e_int rfl) (divOK (den_pos' a) (natI za.2) (by decide)))) (a_cons (e_var 1 hx) a_nil)) ⟨_, k, rfl, hk, rfl⟩) g ?_
    rw [Int.toNat_natCast]; exact q
end
end K01

/-! S1: spans. -/
namespace K01
open PySem PySem.Spec PyProof.Rows DL SX
open L2 hiding Dp DpAll
/-- a span as data -/
def sp2 (a b : Rat) : D := .tuple [rd a, rd b]
def isSpan : D → Bool
  | .tuple [x, y] => isRatio x && isRatio y && !decide (qOf y < qOf x)
  | _ => false
def loS : D → Rat
  | .tuple [x, _] => qOf x
  | _ => 0
def hiS : D → Rat
  | .tuple [_, y] => qOf y
  | _ => 0
/-- its ends, if they are ratios, are not too long -/
def SpZ (n : Nat) : D → Prop
  | .tuple [x, y] => SzD n x ∧ SzD n y
  | _ => True
theorem sp_of {d : D} (h : isSpan d = true) : d = sp2 (loS d) (hiS d) ∧ loS d ≤ hiS d := by
  unfold isSpan at h
  split at h
  · rename_i x y
    rw [Bool.and_eq_true, Bool.and_eq_true, Bool.not_eq_true', decide_eq_false_iff_not] at h
    refine ⟨?_, Rat.not_lt.mp h.2⟩
    show PyData.tuple [x, y] = .tuple [rd (qOf x), rd (qOf y)]
    rw [← rd_qOf h.1.1, ← rd_qOf h.1.2]
  · cases h
theorem sp_sz {d : D} {n : Nat} (h : isSpan d = true) (z : SpZ n d) : Sz n (loS d) ∧ Sz n (hiS d) := by
  unfold isSpan at h
  split at h
  · rename_i x y
    rw [Bool.and_eq_true, Bool.and_eq_true] at h
    exact ⟨z.1 h.1.1, z.2 h.1.2⟩
  · cases h
theorem isSpan_sp {a b : Rat} (h : a ≤ b) : isSpan (sp2 a b) = true := by
  show (isRatio (rd a) && isRatio (rd b) && !decide (qOf (rd b) < qOf (rd a))) = true
  rw [isRatio_rd, isRatio_rd, qOf_rd, qOf_rd, decide_eq_false (Rat.not_lt.mpr h)]; rfl
theorem loS_sp (a b : Rat) : loS (sp2 a b) = a := qOf_rd a
theorem hiS_sp (a b : Rat) : hiS (sp2 a b) = b := qOf_rd b
theorem SpZ.sp {n : Nat} {a b : Rat} (ha : Sz n a) (hb : Sz n b) : SpZ n (sp2 a b) := ⟨SzD.rd ha, SzD.rd hb⟩
section
variable {P : Program} {w : World} {K : PySem.W.Frag} {mg : Str → Option Value} {base : Heap}
def R_is_span : List D → D → Prop := fun ds d => ∃ v, ds = [v] ∧ SpZ 3000 v ∧ d = .bool (isSpan v)
theorem isSpan_T {v : D} (h : isT v = false) : isSpan v = false := by cases v <;> first | rfl | cases h
theorem isSpan_short {xs : List D} (h : xs.length ≠ 2) : isSpan (.tuple xs) = false := by
  unfold isSpan
  split
  · rename_i e; cases e; exact absurd rfl h
  · rfl
theorem ok_is_span (T : Txt K mg) : PFn P w K mg base 3 "is_span" R_is_span :=
  pfn_of T.h_is_span sc_is_span (fun ds d ⟨v, e, _⟩ => by rw [e]; rfl) fun cdv A outer s f H Q xk hr ds d G vs ⟨v, e, hz, ed⟩ g hv q => by
    subst e ed
    obtain ⟨u, rfl, hu⟩ := all1 hv
    cases hT : isT v with
    | false =>
      rw [isSpan_T hT] at q
      refine s_when (k := true) (t_of (tw_orT (t_is (t_not (t_val (e_isi T.b_isinstance T.b_tuple (by decide +kernel) (e_var 0 hu) (kit_tuple v)))) (by rw [hT]; rfl)))) g (fun _ G' H' n => ?_) (fun z => nomatch z)
      exact s_ret e_bl n.gh fun v G2 H2 n2 h2 => q v G2 H2 (n.trans n2) h2
    | true =>
      obtain ⟨xs, rfl⟩ := isT_of hT
      by_cases hl : xs.length = 2
      · obtain ⟨a, b, rfl⟩ : ∃ a b, xs = [a, b] := by
          match xs, hl with
          | [a, b], _ => exact ⟨a, b, rfl⟩
        have len2 : (!decide ((([a, b] : List D).length : Int) = 2)) = false := rfl
        have key : isSpan (.tuple [a, b]) = (isRatio a && isRatio b && !decide (qOf b < qOf a)) := rfl
        cases ha : isRatio a with
        | false =>
          rw [key, ha] at q
          refine s_when (k := true) (t_of (tw_orF (t_is (t_not (t_val (e_isi T.b_isinstance T.b_tuple (by decide +kernel) (e_var 0 hu) (kit_tuple _)))) (by rfl)) (tw_orF (t_is (t_neI (e_len T.b_len (e_var 0 hu) (.inl rfl)) e_int) len2)
            (tw_orT (t_is (t_not (t_val (e_call (ok_is_ratio T) hr (a_cons (e_ixT (e_var 0 hu) e_int rfl) a_nil) ⟨_, rfl, rfl⟩))) (by rw [ha]; rfl)))))) g (fun _ G' H' n => ?_) (fun z => nomatch z)
          exact s_ret e_bl n.gh fun v G2 H2 n2 h2 => q v G2 H2 (n.trans n2) h2
        | true =>
          cases hb : isRatio b with
          | false =>
            rw [key, ha, hb] at q
            refine s_when (k := true) (t_of (tw_orF (t_is (t_not (t_val (e_isi T.b_isinstance T.b_tuple (by decide +kernel) (e_var 0 hu) (kit_tuple _)))) (by rfl)) (tw_orF (t_is (t_neI (e_len T.b_len (e_var 0 hu) (.inl rfl)) e_int) len2)
              (tw_orF (t_is (t_not (t_val (e_call (ok_is_ratio T) hr (a_cons (e_ixT (e_var 0 hu) e_int rfl) a_nil) ⟨_, rfl, rfl⟩))) (by rw [ha]; rfl))
              (tw_or1 (t_is (t_not (t_val (e_call (ok_is_ratio T) hr (a_cons (e_ixT (e_var 0 hu) e_int rfl) a_nil) ⟨_, rfl, rfl⟩))) (by rw [hb]; rfl))))))) g (fun _ G' H' n => ?_) (fun z => nomatch z)
            exact s_ret e_bl n.gh fun v G2 H2 n2 h2 => q v G2 H2 (n.trans n2) h2
          | true =>
            rw [key, ha, hb] at q
            refine s_when (k := false) (t_of (tw_orF (t_is (t_not (t_val (e_isi T.b_isinstance T.b_tuple (by decide +kernel) (e_var 0 hu) (kit_tuple _)))) (by rfl)) (tw_orF (t_is (t_neI (e_len T.b_len (e_var 0 hu) (.inl rfl)) e_int) len2)
              (tw_orF (t_is (t_not (t_val (e_call (ok_is_ratio T) hr (a_cons (e_ixT (e_var 0 hu) e_int rfl) a_nil) ⟨_, rfl, rfl⟩))) (by rw [ha]; rfl))
              (tw_or1 (t_is (t_not (t_val (e_call (ok_is_ratio T) hr (a_cons (e_ixT (e_var 0 hu) e_int rfl) a_nil) ⟨_, rfl, rfl⟩))) (by rw [hb]; rfl))))))) g (fun z => nomatch z) (fun _ G' H' n => ?_)
            have hu2 := Dp.mono n.g hu
            refine s_ret (e_not (e_call (ok_is_below T) (hr.mono (by decide)) (a_cons (e_is (e_ixT (d := b) (e_var 0 hu2) e_int rfl) (rd_qOf hb)) (a_cons (e_is (e_ixT (d := a) (e_var 0 hu2) e_int rfl) (rd_qOf ha)) a_nil)) ⟨qOf b, qOf a, rfl, hz.2 hb, hz.1 ha, rfl⟩)) n.gh fun v G2 H2 n2 h2 => q v G2 H2 (n.trans n2) h2
      · rw [isSpan_short hl] at q
        refine s_when (k := true) (t_of (tw_orF (t_is (t_not (t_val (e_isi T.b_isinstance T.b_tuple (by decide +kernel) (e_var 0 hu) (kit_tuple _)))) (by rfl)) (tw_orT (t_is (t_neI (e_len T.b_len (e_var 0 hu) (.inl rfl)) e_int) (by rw [decide_eq_false (by omega)]; rfl))))) g (fun _ G' H' n => ?_) (fun z => nomatch z)
        exact s_ret e_bl n.gh fun v G2 H2 n2 h2 => q v G2 H2 (n.trans n2) h2
end
end K01

/-! S2: what is checked. -/
namespace K01
open PySem PySem.Spec PyProof.Rows DL SX
open L2 hiding Dp DpAll
section
variable {P : Program} {w : World} {K : PySem.W.Frag} {mg : Str → Option Value} {base : Heap}
def R_check_spans : List D → Except Str D → Prop := fun ds r => ds.length ≤ 1000 ∧ (∀ d ∈ ds, SpZ 3000 d) ∧ r = if ds.all isSpan then .ok .none else .error "NotRight"
theorem ok_check_spans (T : Txt K mg) : XFn P w K mg base 4 "check_spans" R_check_spans := by
  obtain ⟨f, fd, hm, F⟩ := T.h_check_spans
  obtain ⟨oc, od, kV, doc, pm, an, cdv, ct, osl, rfl, lk, hcd⟩ := F.ex
  refine ⟨f, hm, F.kp, FnR.imp (StX.fn_star (ps := []) (pv := "values") (k := 3) (CX := L2N.CX P w) (sp := spX K mg fun ds r => ∃ xs, ds = [.tuple xs] ∧ R_check_spans xs r) lk hcd sc_check_spans cxUpN (fun us rest hl => ?_) fun A outer s H vs Q E hr ⟨ds, r, G, ⟨xs, eds, hl, hz, er⟩, g, hv, q1, q2⟩ => ?_)
    fun vs H Q E ⟨ds, r, G, hR, g, hv, q1, q2⟩ => ⟨[], vs, rfl, rfl, by rw [DpAll.len hv]; exact Evl.sz_of (by have := hR.1; omega), fun p hp => ?_⟩⟩
  · match us, hl with
    | [], _ =>
      cases rest with
      | nil => rfl
      | cons r rs => rfl
  · subst eds
    obtain ⟨u, rfl, hu⟩ := all1 hv
    have ed : (xs.map isSpan).all id = xs.all isSpan := by rw [List.all_map]; rfl
    refine ⟨_, pss_w, s_callX (ok_check T) (hr.mono (by decide)) (L2N.takes_of rfl rfl rfl rfl) (a_cons (e_is (e_allB (bs := xs.map isSpan) rfl T.b_all ?_) (by rw [ed])) a_nil) ⟨xs.all isSpan, rfl, rfl⟩ g ?_ ?_⟩
    · refine e_is (e_lcS (scope := _) (x := "value") (j := 1) (xs := xs) (n := xs.length) (tt := tYes) (c := fun _ => true) (f := fun i => .bool (isSpan (xs.getD i .none))) rfl sc_check_spans.nd (e_var 0 hu) (.inr rfl) rfl (by omega) (blkOk_by (N := N_check_spans) (sc := defScope s_check_spans) (by decide +kernel)) (fun _ _ _ _ _ => pg_name (i := 1) sc_check_spans.nd rfl (Or.inl rfl)) (fun _ _ _ _ _ => pts_nil)
        (fun i v d G' hd gg hv G1 H1 _ gh Q q => q G1 H1 (Nx.refl gh)) (fun i v d G' hd gg hv _ s H0 C cl fp => ?_) (fun _ => rfl) (pi_list pe_w) (pi_tup pe_w)) ?_
      · refine e_call (ok_is_span T) (hr.mono (by decide)) (a_cons (e_var 1 hv) a_nil) ⟨d, rfl, hz d (List.mem_of_getElem? hd), ?_⟩
        rw [List.getD_eq_getElem?_getD, hd]; rfl
      · rw [kept_all]
        congr 1
        rw [List.map_map, map_range_getD xs (fun d => PyData.bool (isSpan d))]; rfl
    · intro d hd G' H' n
      refine s_nil (q1 .none ?_ .non G' H' n .non)
      cases h : xs.all isSpan with
      | true => rw [er, h]; rfl
      | false => rw [h] at hd; cases hd
    · intro nm c hc hmc G' H' n
      exact q2 nm c (er.trans hc) hmc G' H' n
  · have nx := Nx.new (o := .tup vs) g hp
    exact ⟨_, r, upd G p (.tup vs), ⟨ds, rfl, hR⟩, nx.gh, .cons (.tup (Evl.st_of upd_same) (DpAll.mono nx.g hv)) .nil, fun d hd v G' H' n => q1 d hd v G' H' (nx.trans n), fun nm c hc hmc G' H' n => q2 nm c hc hmc G' H' (nx.trans n)⟩

theorem ite_ok {c : Bool} {α : Type} {n : Str} {a b : α} (h : (if c then Except.ok a else Except.error n) = Except.ok b) : c = true ∧ a = b := by
  cases c with
  | true => exact ⟨rfl, by injection h⟩
  | false => cases h
theorem ite_err {c : Bool} {α : Type} {n m : Str} {a : α} (h : (if c then Except.ok a else Except.error n) = (Except.error m : Except Str α)) : c = false ∧ n = m := by
  cases c with
  | true => cases h
  | false => exact ⟨rfl, by injection h⟩
section
variable {X : Cx} {σ : L2.St} {G H : Hp} {rest : List Stmt} {Z : Ends} {W : WX} {pos p pos' : Pos} {e1 e2 : Expr}
/-- check(test) -/
theorem s_chk {k : Bool} (T : Txt X.K X.mg) (hr : Room 1 X.A) (tk : L2N.Takes X W) (h1 : E X e1 σ G (.bool k)) (gh : Ex G H) (ok : k = true → ∀ G' H', Nx G H G' H' → wB X rest Z σ H')
    (er : k = false → ∀ c, X.mg "NotRight" = some (.ref c) → ∀ G' H', Nx G H G' H' → W (.ref c) Option.none σ H') (hg : Gl X "check" := by rfl)
    (he : starEach [e1] X.env = (false, eval e1 X.env) :: starEach [] X.env := by rfl) (hpl : (backTo pos (starEach [] X.env)).any (·.1) = false := by rfl)
    (hs : swapsWith (.Call (.Name "check" p) [e1] [] pos) Option.none pos'.line X.env = pure false := by rfl) : wB X (.Expr (.Call (.Name "check" p) [e1] [] pos) pos' :: rest) Z σ H := by
  refine s_callX (ok_check T) hr tk (a_cons h1 a_nil he) ⟨k, rfl, rfl⟩ gh (fun d hd => ok (ite_ok hd).1) (fun n c hn hc => ?_) hg (by decide) he hpl hs
  have z := ite_err hn
  rw [← z.2] at hc
  exact er z.1 c hc
/-- check_spans(s, t) -/
theorem s_sp2 {x y : D} (T : Txt X.K X.mg) (hr : Room 4 X.A) (tk : L2N.Takes X W) (h1 : E X e1 σ G x) (h2 : E X e2 σ G y) (zx : SpZ 3000 x) (zy : SpZ 3000 y) (gh : Ex G H) (ok : isSpan x = true → isSpan y = true → ∀ G' H', Nx G H G' H' → wB X rest Z σ H')
    (er : (isSpan x && isSpan y) = false → ∀ c, X.mg "NotRight" = some (.ref c) → ∀ G' H', Nx G H G' H' → W (.ref c) Option.none σ H') (hg : Gl X "check_spans" := by rfl)
    (he : starEach [e1, e2] X.env = (false, eval e1 X.env) :: starEach [e2] X.env := by rfl) (he2 : starEach [e2] X.env = (false, eval e2 X.env) :: starEach [] X.env := by rfl) (hpl : (backTo pos (starEach [e2] X.env)).any (·.1) = false := by rfl)
    (hs : swapsWith (.Call (.Name "check_spans" p) [e1, e2] [] pos) Option.none pos'.line X.env = pure false := by rfl) : wB X (.Expr (.Call (.Name "check_spans" p) [e1, e2] [] pos) pos' :: rest) Z σ H := by
  have ea : [x, y].all isSpan = (isSpan x && isSpan y) := by simp
  refine s_callX (ok_check_spans T) hr tk (a_cons h1 (a_cons h2 a_nil he2) he) ⟨by simp, fun d hd => by simp at hd; rcases hd with rfl | rfl <;> assumption, rfl⟩ gh (fun d hd => ?_) (fun n c hn hc => ?_) hg (by decide) he hpl hs
  · have z := (ite_ok hd).1
    rw [ea, Bool.and_eq_true] at z
    exact ok z.1 z.2
  · have z := ite_err hn
    rw [← z.2] at hc
    exact er (by rw [← ea]; exact z.1) c hc
/-- check_spans(s) -/
theorem s_sp1 {x : D} (T : Txt X.K X.mg) (hr : Room 4 X.A) (tk : L2N.Takes X W) (h1 : E X e1 σ G x) (zx : SpZ 3000 x) (gh : Ex G H) (ok : isSpan x = true → ∀ G' H', Nx G H G' H' → wB X rest Z σ H')
    (er : isSpan x = false → ∀ c, X.mg "NotRight" = some (.ref c) → ∀ G' H', Nx G H G' H' → W (.ref c) Option.none σ H') (hg : Gl X "check_spans" := by rfl)
    (he : starEach [e1] X.env = (false, eval e1 X.env) :: starEach [] X.env := by rfl) (hpl : (backTo pos (starEach [] X.env)).any (·.1) = false := by rfl)
    (hs : swapsWith (.Call (.Name "check_spans" p) [e1] [] pos) Option.none pos'.line X.env = pure false := by rfl) : wB X (.Expr (.Call (.Name "check_spans" p) [e1] [] pos) pos' :: rest) Z σ H := by
  have ea : [x].all isSpan = isSpan x := by simp
  refine s_callX (ok_check_spans T) hr tk (a_cons h1 a_nil he) ⟨by simp, fun d hd => by simp at hd; rcases hd with rfl; assumption, rfl⟩ gh (fun d hd => ?_) (fun n c hn hc => ?_) hg (by decide) he hpl hs
  · have z := (ite_ok hd).1
    rw [ea] at z
    exact ok z
  · have z := ite_err hn
    rw [← z.2] at hc
    exact er (by rw [← ea]; exact z.1) c hc
end
def R_check_ratio : List D → Except Str D → Prop := fun ds r => ∃ v, ds = [v] ∧ r = if isRatio v then .ok .none else .error "NotRight"
theorem ok_check_ratio (T : Txt K mg) : XFn P w K mg base 3 "check_ratio" R_check_ratio :=
  xfn_of T.h_check_ratio sc_check_ratio (fun ds d ⟨v, e, _⟩ => by rw [e]; rfl) fun cdv A outer s f H Q xk hr ds r G vs ⟨v, e, er⟩ g hv q1 q2 => by
    subst e
    obtain ⟨u, rfl, hu⟩ := all1 hv
    exact s_chk (k := isRatio v) T (hr.mono (by decide)) (L2N.takes_of rfl rfl rfl rfl) (e_call (ok_is_ratio T) hr (a_cons (e_var 0 hu) a_nil) ⟨v, rfl, rfl⟩) g (fun h G1 H1 n1 => s_nil (q1 .none (by rw [er, h]; rfl) .non G1 H1 n1 .non)) fun h c hc G1 H1 n1 => q2 "NotRight" c (by rw [er, h]; rfl) hc G1 H1 n1
end
end K01

/-! D14: comprehensions that a name gets; two sources. -/
namespace DL
open PySem PySem.Spec PyProof.Rows SX
open L2 hiding Dp DpAll
/-- a value as an expression, and as what a name gets -/
structure CmpR (X : Cx) (e : Expr) (t : TE) : Prop where
  pe : PE X e t
  ps : ∀ (i : Nat) (y : Str) (py spos : Pos), X.N[i]? = some y → X.env.scope.names.lookup y = some .local → swapsWith e (some (.Name y py)) spos.line X.env = pure true → PS X (.Assign [.Name y py] e spos) (tAsg t (gName i))
def EC (X : Cx) (e : Expr) (σ : L2.St) (G : Hp) (d : D) : Prop :=
  ∃ t, CmpR X e t ∧ ∀ G1 H1, Ex G G1 → Ex G1 H1 → ∀ Q : VK, (∀ v G2 H2, Nx G1 H1 G2 H2 → Dp X.K G2 v d → Q v H2) → t σ H1 Q
section
variable {X : Cx} {σ : L2.St} {G H : Hp} {elt iter e : Expr} {pos tpos p : Pos} {x : Str} {j : Nat} {scope : Scope} {d : D} {rest : List Stmt} {Z : Ends}
theorem e_ofC (h : EC X e σ G d) : E X e σ G d := fun G1 H1 g gh Q q => by
  obtain ⟨t, c, h⟩ := h
  exact ⟨t, c.pe, h G1 H1 g gh Q q⟩
theorem ec_is {d' : D} (h : EC X e σ G d) (q : d = d') : EC X e σ G d' := q ▸ h
theorem s_setC (i : Nat) {pos' : Pos} (h : EC X e σ G d) (gh : Ex G H) (q : ∀ v G' H', Nx G H G' H' → Dp X.K G' v d → wB X rest Z (σ.set i (some v)) H') (hi : X.N[i]? = some x := by rfl) (hx : X.env.scope.names.lookup x = some .local := by rfl)
    (hs : swapsWith e (some (.Name x pos')) pos.line X.env = pure true := by rfl) : wB X (.Assign [.Name x pos'] e pos :: rest) Z σ H := by
  obtain ⟨t, c, h⟩ := h
  exact s_cons ⟨_, c.ps i x pos' pos hi hx hs, h G H (Evl.Ex.refl _) gh _ q⟩
theorem pe_wBE (s : Shared) (H : Hp) (C : Addr) (cl : List (Str × Addr)) (fp : List Addr) : PE (blkX X scope s H C cl fp) e (wBE X scope e) := ⟨fun pins s' σ' H' Q' I h => (pe_w (X := blkX X scope s H C cl fp)).run pins s' σ' H' Q' I (h s H C cl fp)⟩
/-- [elt for x in xs], [.. if c]: over a list or a tuple that is known -/
theorem ec_lcS {xs : List D} {n : Nat} {dx : D} {ifs : List Expr} {tt : TT} {c : Nat → Bool} {f : Nat → D} (hcalm : X.calm = true) (hN : X.N.Nodup) (ha : E X iter σ G dx) (hdx : dx = .list xs ∨ dx = .tuple xs) (hn : xs.length = n) (hn2 : n ≤ 100000) (ok : BlkOk X.N X.env.scope scope [(x, j)])
    (hg : ∀ s H C cl fp, PG (blkX X scope s H C cl fp) (.Name x tpos) (gName j)) (hpt : ∀ s H C cl fp, PTs (blkX X scope s H C cl fp) ifs tt)
    (ht : ∀ i v d G', xs[i]? = some d → Ex G G' → Dp X.K G' v d → ∀ G1 H1, Ex G' G1 → Ex G1 H1 → ∀ Q : Bool → Hp → Prop, (∀ G2 H2, Nx G1 H1 G2 H2 → Q (c i) H2) → tt (σ.set j (some v)) H1 Q)
    (he : ∀ i v d G', xs[i]? = some d → Ex G G' → Dp X.K G' v d → c i = true → ∀ s H0 C cl fp, E (blkX X scope s H0 C cl fp) elt (σ.set j (some v)) G' (f i))
    (hs : ∀ y, foldedSetIterable iter X.env y = pure y := by intro _; rfl) (hpl : PI X (.Name x tpos) iter (iList X.K (wE X iter))) (hpt2 : PI X (.Name x tpos) iter (iTup X.K (wE X iter))) {lpos : Pos} :
    EC X (.ListComp elt [⟨.Name x tpos, iter, ifs, 0⟩] scope lpos) σ G (.list (kept n c f)) := by
  have turn : ∀ (G2 H2 : Hp) (Dl : Addr) (vx : List V) (i : Nat) (v : V) (H' : Hp), Ex G G2 → DpAll X.K G2 vx xs → vx[i]? = some v → (∃ G' vs, Lcl G2 H2 Dl G' H' vs ∧ DpAll X.K G' vs (kept i c f)) →
      tt ((wipe σ [j]).set j (some v)) H' fun b H3 => if b = true then wBE X scope elt ((wipe σ [j]).set j (some v)) H3 fun y H4 => ∃ acc, H4 Dl = some (.lst acc) ∧ acc.length < sizeLine ∧ (∃ G' vs, Lcl G2 H2 Dl G' (upd H4 Dl (.lst (acc ++ [y]))) vs ∧ DpAll X.K G' vs (kept (i + 1) c f))
        else ∃ G' vs, Lcl G2 H2 Dl G' H3 vs ∧ DpAll X.K G' vs (kept (i + 1) c f) := fun G2 H2 Dl vx i v H' hG hv hi Pi => by
    obtain ⟨d, hd, dv⟩ := DpAll.getV hv hi
    have hlt : i < n := by rw [← hn]; exact (List.getElem?_eq_some_iff.mp hd).1
    exact lc_turn (σ := σ) (j := j) (G := G2) (ifs := ifs) hlt hn2 (Evl.Ex.refl _) Pi (fun _ _ => trivial) (ht i v d G2 hd hG dv) (he i v d G2 hd hG dv)
  rcases hdx with rfl | rfl
  · refine ⟨_, ⟨pe_lc (own := [(x, j)]) (te := wBE X scope elt) hcalm hN hpl ok hg hpt pe_wBE hs, fun i y py spos hi hy hw => ps_setLc (own := [(x, j)]) (te := wBE X scope elt) hcalm hN hi hy hw hpl ok hg hpt pe_wBE hs⟩, fun G1 H1 g gh Q q => ha G1 H1 g gh _ fun u G2 H2 n2 hu => ?_⟩
    obtain ⟨a, vx, rfl, hl, hv⟩ := Dp.lst_inv hu
    have hlen : vx.length = n := by rw [DpAll.len hv, hn]
    refine ⟨a, rfl, ⟨vx, Evl.ex_l n2.gh hl⟩, fun Dl hD => lc_list (xs := vx) (fun i H' => ∃ G' vs, Lcl G2 H2 Dl G' H' vs ∧ DpAll X.K G' vs (kept i c f)) ⟨G2, [], Lcl.start n2.gh hD, .nil⟩ (fun i H' _ ⟨G', vs, L, _⟩ => Evl.ex_l (L.g.trans L.gh) hl)
      (fun i v H' hi Pi => ⟨wipe1 σ j _, turn G2 H2 Dl vx i v H' (g.trans n2.g) hv hi Pi⟩) fun H' ⟨G', vs, L, dv⟩ => ?_⟩
    rw [hlen] at dv
    exact q _ _ _ (n2.trans L.done) (.lst (Evl.sq_of upd_same) (DpAll.mono (Evl.Ex.new L.gl) dv))
  · refine ⟨_, ⟨pe_lc (own := [(x, j)]) (te := wBE X scope elt) hcalm hN hpt2 ok hg hpt pe_wBE hs, fun i y py spos hi hy hw => ps_setLc (own := [(x, j)]) (te := wBE X scope elt) hcalm hN hi hy hw hpt2 ok hg hpt pe_wBE hs⟩, fun G1 H1 g gh Q q => ha G1 H1 g gh _ fun u G2 H2 n2 hu => ?_⟩
    obtain ⟨a, vx, rfl, hl, hv⟩ := Dp.tup_inv hu
    have hlen : vx.length = n := by rw [DpAll.len hv, hn]
    refine ⟨a, rfl, ⟨vx, Evl.ex_t n2.gh hl⟩, fun Dl hD => lc_tup (xs := vx) (fun i H' => ∃ G' vs, Lcl G2 H2 Dl G' H' vs ∧ DpAll X.K G' vs (kept i c f)) ⟨G2, [], Lcl.start n2.gh hD, .nil⟩ (fun i H' _ ⟨G', vs, L, _⟩ => Evl.ex_t (L.g.trans L.gh) hl)
      (fun i v H' hi Pi => ⟨wipe1 σ j _, turn G2 H2 Dl vx i v H' (g.trans n2.g) hv hi Pi⟩) fun H' ⟨G', vs, L, dv⟩ => ?_⟩
    rw [hlen] at dv
    exact q _ _ _ (n2.trans L.done) (.lst (Evl.sq_of upd_same) (DpAll.mono (Evl.Ex.new L.gl) dv))
/-! ### two sources -/
theorem tyes {σ : L2.St} {H : Hp} {A B : Hp → Prop} (h : A H) : tYes σ H (fun b H3 => if b = true then A H3 else B H3) := by
  show (if true = true then A H else B H)
  rw [if_pos rfl]; exact h
def rows2 (n1 : Nat) (f : Nat → Nat → D) : Nat → List D
  | 0 => []
  | i + 1 => rows2 n1 f i ++ (List.range n1).map (f i)
theorem rows2_len (n1 : Nat) (f : Nat → Nat → D) : ∀ i, (rows2 n1 f i).length = i * n1
  | 0 => by rw [Nat.zero_mul]; rfl
  | i + 1 => by rw [rows2, List.length_append, rows2_len, List.length_map, List.length_range, Nat.succ_mul]
variable {x1 : Str} {j1 : Nat} {tpos1 : Pos} {iter1 : Expr}
theorem ec_lc2 {xs ys : List D} {f : Nat → Nat → D} (hcalm : X.calm = true) (hN : X.N.Nodup) (hj : j ≠ j1) (ha : E X iter σ G (.tuple xs)) (hz : xs.length * ys.length ≤ 100000) (ok : BlkOk X.N X.env.scope scope [(x, j), (x1, j1)])
    (hg : ∀ s H C cl fp, PG (blkX X scope s H C cl fp) (.Name x tpos) (gName j)) (hg1 : ∀ s H C cl fp, PG (blkX X scope s H C cl fp) (.Name x1 tpos1) (gName j1))
    (hb : ∀ (i : Nat) (v : V) (d : D) (G' : Hp), xs[i]? = some d → Ex G G' → Dp X.K G' v d → ∀ s H0 C cl fp, E (blkX X scope s H0 C cl fp) iter1 ((σ.set j (some v)).set j1 Option.none) G' (.tuple ys))
    (he : ∀ (i : Nat) (v : V) (d : D) (i1 : Nat) (v1 : V) (d1 : D) (G' : Hp), xs[i]? = some d → ys[i1]? = some d1 → Ex G G' → Dp X.K G' v d → Dp X.K G' v1 d1 → ∀ s H0 C cl fp, E (blkX X scope s H0 C cl fp) elt ((σ.set j (some v)).set j1 (some v1)) G' (f i i1))
    (hs : ∀ y, foldedSetIterable iter X.env y = pure y := by intro _; rfl) (hs1 : ∀ env y, foldedSetIterable iter1 env y = pure y := by intro _ _; rfl) (hpt2 : PI X (.Name x tpos) iter (iTup X.K (wE X iter)))
    (hpt3 : ∀ s H C cl fp, PI (blkX X scope s H C cl fp) (.Name x1 tpos1) iter1 (iTup X.K (wBE X scope iter1))) {lpos : Pos} :
    EC X (.ListComp elt [⟨.Name x tpos, iter, [], 0⟩, ⟨.Name x1 tpos1, iter1, [], 0⟩] scope lpos) σ G (.list (rows2 ys.length f xs.length)) := by
  have w1 : ∀ v : Option V, (wipe σ [j, j1]).set j v = (σ.set j v).set j1 Option.none := fun v => by
    show ((σ.set j1 Option.none).set j Option.none).set j v = _
    rw [List.set_set, List.set_comm _ _ (fun z => hj z.symm)]
  have w2 : ∀ v v1 : Option V, (wipe ((wipe σ [j, j1]).set j v) [j1]).set j1 v1 = (σ.set j v).set j1 v1 := fun v v1 => by
    rw [w1]
    show (((σ.set j v).set j1 Option.none).set j1 Option.none).set j1 v1 = _
    rw [List.set_set, List.set_set]
  have w3 : ∀ v : Option V, wipe ((wipe σ [j, j1]).set j v) [j, j1] = wipe σ [j, j1] := fun v => by
    rw [w1]
    show (((σ.set j v).set j1 Option.none).set j1 Option.none).set j Option.none = (σ.set j1 Option.none).set j Option.none
    rw [List.set_set, List.set_comm _ _ hj, List.set_set, List.set_comm _ _ (fun z => hj z.symm)]
  have w4 : ∀ v v1 : Option V, wipe ((wipe ((wipe σ [j, j1]).set j v) [j1]).set j1 v1) [j1] = wipe ((wipe σ [j, j1]).set j v) [j1] := fun v v1 => by
    show (((((wipe σ [j, j1]).set j v).set j1 Option.none).set j1 v1).set j1 Option.none) = (((wipe σ [j, j1]).set j v).set j1 Option.none)
    rw [List.set_set, List.set_set]
  refine ⟨_, ⟨pe_lc2 (own := [(x, j), (x1, j1)]) (vs1 := [j1]) (te := wBE X scope elt) hcalm hN hpt2 ok (by simp) hg (fun _ _ _ _ _ => pts_nil) hpt3 hg1 (fun _ _ _ _ _ => pts_nil) pe_wBE hs hs1,
    fun i y py spos hi hy hw => ps_setLc2 (own := [(x, j), (x1, j1)]) (vs1 := [j1]) (te := wBE X scope elt) hcalm hN hi hy hw hpt2 ok (by simp) hg (fun _ _ _ _ _ => pts_nil) hpt3 hg1 (fun _ _ _ _ _ => pts_nil) pe_wBE hs hs1⟩, fun G1 H1 g gh Q q => ha G1 H1 g gh _ fun u G2 H2 n2 hu => ?_⟩
  obtain ⟨a, vx, rfl, hl, hv⟩ := Dp.tup_inv hu
  have hlen : vx.length = xs.length := DpAll.len hv
  refine ⟨a, rfl, ⟨vx, Evl.ex_t n2.gh hl⟩, fun Dl hD => ⟨fun i m H' => m = vx.length - i ∧ i ≤ vx.length ∧ ∃ G' vs, Lcl G2 H2 Dl G' H' vs ∧ DpAll X.K G' vs (rows2 ys.length f i), ⟨_, rfl, Nat.zero_le _, G2, [], Lcl.start n2.gh hD, .nil⟩, ?_⟩⟩
  rintro i m H3 ⟨rfl, hi, G3, vs, L, dv⟩
  have hl3 : SqT X.K H3 a vx := Evl.ex_t (L.g.trans L.gh) hl
  by_cases hlt : i < vx.length
  · refine .inr ⟨⟨vx, vx[i], hl3, by simp [hlt]⟩, fun H' => ∃ G' vs, Lcl G2 H2 Dl G' H' vs ∧ DpAll X.K G' vs (rows2 ys.length f (i + 1)), fun H' p' => ⟨_, by omega, rfl, hlt, p'⟩, fun v H' yy => ?_⟩
    obtain ⟨eH, yy⟩ := yy
    subst eH
    have hvi := yy vx hl3
    obtain ⟨d, hd, dd⟩ := DpAll.getV hv hvi
    refine ⟨w3 _, ?_⟩
    refine tyes ?_
    show iTup X.K (wBE X scope iter1) _ H' _
    refine fun s H0 C cl fp => ?_
    rw [show List.map (fun x : Str × Nat => x.snd) [(x, j), (x1, j1)] = [j, j1] from rfl, w1]
    refine hb i v d G3 hd ((g.trans n2.g).trans L.g) (Dp.mono L.g dd) s H0 C cl fp G3 H' (Evl.Ex.refl _) L.gh _ fun u4 G4 H4 n4 hu4 => ?_
    obtain ⟨a4, vy, rfl, hl4, hv4⟩ := Dp.tup_inv hu4
    have L4 := L.step n4
    have hlen4 : vy.length = ys.length := DpAll.len hv4
    refine ⟨a4, rfl, ⟨vy, Evl.ex_t n4.gh hl4⟩, fun k m H' => m = vy.length - k ∧ k ≤ vy.length ∧ ∃ G' vs, Lcl G2 H2 Dl G' H' vs ∧ Ex G4 G' ∧ DpAll X.K G' vs (rows2 ys.length f i ++ (List.range k).map (f i)), ⟨_, rfl, Nat.zero_le _, G4, vs, L4, Evl.Ex.refl _, by simpa using DpAll.mono n4.g dv⟩, ?_⟩
    rintro k m H5 ⟨rfl, hk, G5, vs5, L5, g45, dv5⟩
    have hl5 : SqT X.K H5 a4 vy := Evl.ex_t (g45.trans L5.gh) hl4
    by_cases hlt4 : k < vy.length
    · refine .inr ⟨⟨vy, vy[k], hl5, by simp [hlt4]⟩, fun H' => ∃ G' vs, Lcl G2 H2 Dl G' H' vs ∧ Ex G4 G' ∧ DpAll X.K G' vs (rows2 ys.length f i ++ (List.range (k + 1)).map (f i)), fun H' p' => ⟨_, by omega, rfl, hlt4, p'⟩, fun v5 H' yy5 => ?_⟩
      obtain ⟨eH, yy5⟩ := yy5
      subst eH
      have hvi5 := yy5 vy hl5
      obtain ⟨d5, hd5, dd5⟩ := DpAll.getV hv4 hvi5
      refine ⟨by rw [← w1]; exact w4 _ _, ?_⟩
      refine tyes ?_
      refine fun s H0 C cl fp => ?_
      rw [show (wipe ((σ.set j (some v)).set j1 Option.none) [j1]).set j1 (some v5) = (σ.set j (some v)).set j1 (some v5) by rw [← w1]; exact w2 _ _]
      refine he i v d k v5 d5 G5 hd hd5 (((g.trans n2.g).trans L.g).trans (n4.g.trans g45)) (Dp.mono g45 (Dp.mono n4.g (Dp.mono L.g dd))) (Dp.mono g45 dd5) s H0 C cl fp G5 H' (Evl.Ex.refl _) L5.gh _ fun y6 G6 H6 n6 hy6 => ?_
      have L6 := L5.step n6
      refine ⟨vs5, L6.hl, ?_, G6, vs5 ++ [y6], L6.put, g45.trans n6.g, ?_⟩
      · rw [DpAll.len dv5, List.length_append, rows2_len, List.length_map, List.length_range]
        have h1 : (i + 1) * ys.length ≤ xs.length * ys.length := Nat.mul_le_mul_right _ (by omega)
        rw [Nat.succ_mul] at h1
        exact Evl.sz_lt (by omega)
      · rw [List.range_succ, List.map_append, ← List.append_assoc]
        exact DpAll.append (DpAll.mono n6.g dv5) (.cons hy6 .nil)
    · have e : k = vy.length := by omega
      subst e
      refine .inl ⟨⟨vy, hl5, Nat.le_refl _⟩, G5, vs5, L5, ?_⟩
      rw [hlen4] at dv5
      exact dv5
  · have e : i = vx.length := by omega
    subst e
    rw [hlen] at dv
    exact .inl ⟨⟨vx, hl3, Nat.le_refl _⟩, q _ _ _ (n2.trans L.done) (.lst (Evl.sq_of upd_same) (DpAll.mono (Evl.Ex.new L.gl) dv))⟩
end
end DL

/-! S3: ends of spans. -/
namespace K01
open PySem PySem.Spec PyProof.Rows DL SX
open L2 hiding Dp DpAll
def ls (a b : Rat) : Rat := if b < a then b else a
def gr (a b : Rat) : Rat := if a < b then b else a
def ab (a : Rat) : Rat := if a.num < 0 then -a else a
theorem Sz.ls {n : Nat} {a b : Rat} (ha : Sz n a) (hb : Sz n b) : Sz n (ls a b) := by unfold K01.ls; split <;> assumption
theorem Sz.gr {n : Nat} {a b : Rat} (ha : Sz n a) (hb : Sz n b) : Sz n (gr a b) := by unfold K01.gr; split <;> assumption
theorem Sz.ab {n : Nat} {a : Rat} (ha : Sz n a) : Sz n (ab a) := by
  unfold K01.ab; split
  · exact Sz.neg ha
  · exact ha
theorem rd_ab (a : Rat) : PyData.tuple [.int (a.num.natAbs : Int), .int (a.den : Int)] = rd (ab a) := by
  unfold ab
  split
  · rename_i h
    rw [← rd_neg]
    rw [show (a.num.natAbs : Int) = -a.num by omega]
  · rename_i h
    rw [show (a.num.natAbs : Int) = a.num by omega]; rfl

theorem SzD.up {m n : Nat} {d : D} (h : SzD m d) (k : m ≤ n) : SzD n d := fun z => Sz.mono (h z) k
theorem SpZ.up {m n : Nat} {d : D} (h : SpZ m d) (k : m ≤ n) : SpZ n d := by
  unfold SpZ at *
  split
  · exact ⟨SzD.up h.1 k, SzD.up h.2 k⟩
  · trivial
section
variable {P : Program} {w : World} {K : PySem.W.Frag} {mg : Str → Option Value} {base : Heap}
def R1 (f : Rat → Rat) : List D → D → Prop := fun ds d => ∃ a, ds = [rd a] ∧ d = rd (f a)
def R2r (f : Rat → Rat → Rat) : List D → D → Prop := fun ds d => ∃ a b, ds = [rd a, rd b] ∧ Sz 3000 a ∧ Sz 3000 b ∧ d = rd (f a b)
theorem ok_opposite (T : Txt K mg) : PFn P w K mg base 1 "opposite" (R1 fun a => -a) :=
  pfn_of T.h_opposite sc_opposite (fun ds d ⟨a, e, _⟩ => by rw [e]; rfl) fun cdv A outer s f H Q _ hr ds d G vs ⟨a, e, ed⟩ g hv q => by
    subst e ed
    obtain ⟨u, rfl, hu⟩ := all1 hv
    exact s_ret (e_is (e_tup (a_cons (e_neg (e_ixT (e_var 0 hu) e_int rfl)) (a_cons (e_ixT (e_var 0 hu) e_int rfl) a_nil))) (rd_neg a)) g q
theorem ok_size_by (T : Txt K mg) : PFn P w K mg base 1 "size_by" (R1 ab) :=
  pfn_of T.h_size_by sc_size_by (fun ds d ⟨a, e, _⟩ => by rw [e]; rfl) fun cdv A outer s f H Q _ hr ds d G vs ⟨a, e, ed⟩ g hv q => by
    subst e ed
    obtain ⟨u, rfl, hu⟩ := all1 hv
    exact s_ret (e_is (e_tup (a_cons (e_abs T.b_abs (e_ixT (e_var 0 hu) e_int rfl)) (a_cons (e_ixT (e_var 0 hu) e_int rfl) a_nil))) (rd_ab a)) g q
theorem ok_lesser (T : Txt K mg) : PFn P w K mg base 2 "lesser" (R2r ls) :=
  pfn_of T.h_lesser sc_lesser (fun ds d ⟨a, b, e, _⟩ => by rw [e]; rfl) fun cdv A outer s f H Q _ hr ds d G vs ⟨a, b, e, za, zb, ed⟩ g hv q => by
    subst e ed
    obtain ⟨u, x, rfl, hu, hx⟩ := all2 hv
    refine s_ret (d := rd (ls a b)) (e_if (t_val (e_call (ok_is_below T) (hr.mono (by decide)) (a_cons (e_var 1 hx) (a_cons (e_var 0 hu) a_nil)) ⟨b, a, rfl, zb, za, rfl⟩)) (fun h => ?_) fun h => ?_) g q
    · exact e_is (e_var 1 hx) (by unfold ls; rw [if_pos (of_decide_eq_true h)])
    · exact e_is (e_var 0 hu) (by unfold ls; rw [if_neg (of_decide_eq_false h)])
theorem ok_greater (T : Txt K mg) : PFn P w K mg base 2 "greater" (R2r gr) :=
  pfn_of T.h_greater sc_greater (fun ds d ⟨a, b, e, _⟩ => by rw [e]; rfl) fun cdv A outer s f H Q _ hr ds d G vs ⟨a, b, e, za, zb, ed⟩ g hv q => by
    subst e ed
    obtain ⟨u, x, rfl, hu, hx⟩ := all2 hv
    refine s_ret (d := rd (gr a b)) (e_if (t_val (e_call (ok_is_below T) (hr.mono (by decide)) (a_cons (e_var 0 hu) (a_cons (e_var 1 hx) a_nil)) ⟨a, b, rfl, za, zb, rfl⟩)) (fun h => ?_) fun h => ?_) g q
    · exact e_is (e_var 1 hx) (by unfold gr; rw [if_pos (of_decide_eq_true h)])
    · exact e_is (e_var 0 hu) (by unfold gr; rw [if_neg (of_decide_eq_false h)])

/-! ### of spans -/
def RS1 (g : Rat → Rat → D) : List D → D → Prop := fun ds d => ∃ a b, ds = [sp2 a b] ∧ a ≤ b ∧ Sz 1000 a ∧ Sz 1000 b ∧ d = g a b
def RS2 (g : Rat → Rat → Rat → Rat → D) : List D → D → Prop := fun ds d => ∃ a b x y, ds = [sp2 a b, sp2 x y] ∧ a ≤ b ∧ x ≤ y ∧ Sz 1000 a ∧ Sz 1000 b ∧ Sz 1000 x ∧ Sz 1000 y ∧ d = g a b x y
def RSr (g : Rat → Rat → Rat → D) : List D → D → Prop := fun ds d => ∃ a b x, ds = [sp2 a b, rd x] ∧ a ≤ b ∧ Sz 1000 a ∧ Sz 1000 b ∧ Sz 1000 x ∧ d = g a b x
def q_width (a b : Rat) : D := rd (b - a)
def half : Rat := 1 / 2
def mid (a b : Rat) : Rat := (a + b) * half
def q_middle (a b : Rat) : D := rd (mid a b)
def q_size (a b : Rat) : D := rd (gr (ab a) (ab b))
theorem half_num : half.num = 1 := by decide +kernel
theorem half_den : half.den = 2 := by decide +kernel
theorem half_rd : PyData.tuple ([(1 : Int), 2].map PyData.int) = rd half := by unfold rd; rw [half_num, half_den]; rfl
theorem zero_rd : PyData.tuple ([(0 : Int), 1].map PyData.int) = rd 0 := rfl
theorem one_rd : PyData.tuple ([(1 : Int), 1].map PyData.int) = rd 1 := rfl
theorem sz_half {n : Nat} (h : 2 ≤ n) : Sz n half := by
  unfold Sz; rw [half_num, half_den]
  exact ⟨lt_pow (a := 2) (by decide) h, lt_pow (a := 2) (by decide) h⟩
theorem sz_divInt {n e : Int} {k : Nat} (he : e ≠ 0) (h1 : n.natAbs < 2 ^ k) (h2 : e.natAbs < 2 ^ k) : Sz k (Rat.divInt n e) := by
  refine ⟨?_, ?_⟩
  · rw [← made_num n e he]
    refine Nat.lt_of_le_of_lt (Int.natAbs_ediv_le_natAbs _ _) ?_
    rw [Int.natAbs_mul]
    split
    · rw [show (1 : Int).natAbs = 1 from rfl, Nat.one_mul]; exact h1
    · rw [show (-1 : Int).natAbs = 1 from rfl, Nat.one_mul]; exact h1
  · rw [Rat.den_divInt, if_neg he]
    exact Nat.lt_of_le_of_lt (Nat.div_le_self _ _) h2
theorem sz_add {a b : Rat} {m n k : Nat} (ha : Sz m a) (hb : Sz n b) (h : m + n + 1 ≤ k) : Sz k (a + b) := by
  rw [← add_divInt]
  refine (sz_divInt (k := m + n + 1) (Int.ne_of_gt (Int.mul_pos (den_pos' a) (den_pos' b))) (add_lt (mul_lt ha.1 (natI hb.2)) (mul_lt hb.1 (natI ha.2)) (by omega) (by omega)) (lt_pow (mul_lt (natI ha.2) (natI hb.2)) (by omega))).mono h
theorem sz_sub {a b : Rat} {m n k : Nat} (ha : Sz m a) (hb : Sz n b) (h : m + n + 1 ≤ k) : Sz k (a - b) := by
  rw [Rat.sub_eq_add_neg]; exact sz_add ha (Sz.neg hb) h
theorem sz_mul {a b : Rat} {m n k : Nat} (ha : Sz m a) (hb : Sz n b) (h : m + n ≤ k) : Sz k (a * b) := by
  rw [← mul_divInt]
  exact (sz_divInt (k := m + n) (Int.ne_of_gt (Int.mul_pos (den_pos' a) (den_pos' b))) (mul_lt ha.1 hb.1) (mul_lt (natI ha.2) (natI hb.2))).mono h
theorem sz_div {a b : Rat} {m n k : Nat} (h0 : b ≠ 0) (ha : Sz m a) (hb : Sz n b) (h : m + n ≤ k) : Sz k (a / b) := by
  rw [← div_divInt]
  exact (sz_divInt (k := m + n) (Int.mul_ne_zero (Int.ne_of_gt (den_pos' a)) (num_ne h0)) (mul_lt ha.1 (natI hb.2)) (mul_lt (natI ha.2) hb.1)).mono h
theorem sz_0 {n : Nat} (h : 1 ≤ n) : Sz n 0 := ⟨lt_pow (a := 1) (by decide) h, lt_pow (a := 1) (by decide) h⟩
theorem sz_1 {n : Nat} (h : 1 ≤ n) : Sz n 1 := ⟨lt_pow (a := 1) (by decide) h, lt_pow (a := 1) (by decide) h⟩
end
end K01

/-! S4: what is reckoned of spans. -/
namespace K01
open PySem PySem.Spec PyProof.Rows DL SX
open L2 hiding Dp DpAll
def spq (a b : Rat) : D := if b < a then sp2 b a else sp2 a b
def q_within (a b x y : Rat) : D := .bool (!decide (a < x) && !decide (y < b))
def q_inside (a b x y : Rat) : D := .bool (decide (x < a) && decide (b < y))
def q_has (a b x : Rat) : D := .bool (!decide (x < a) && !decide (b < x))
def q_add (a b x y : Rat) : D := sp2 (a + x) (b + y)
def q_turn (a b : Rat) : D := sp2 (-b) (-a)
def q_sub (a b x y : Rat) : D := sp2 (a - y) (b - x)
def q_scale (a b x : Rat) : D := spq (a * x) (b * x)
def q_sized (a b : Rat) : D := if 0 ≤ a.num then sp2 a b else if b.num ≤ 0 then sp2 (-b) (-a) else sp2 0 (gr (-a) b)
def q_least (a b x y : Rat) : D := sp2 (ls a x) (ls b y)
def q_greatest (a b x y : Rat) : D := sp2 (gr a x) (gr b y)
def q_common (a b x y : Rat) : D := if ls b y < gr a x then .none else sp2 (gr a x) (ls b y)
def q_around (a b x y : Rat) : D := sp2 (ls a x) (gr b y)
def q_halves (a b : Rat) : D := .tuple [sp2 a (mid a b), sp2 (mid a b) b]
def q_grow (a b x : Rat) : D := sp2 (a - x) (b + x)
def q_sign (a b : Rat) : D := if 0 < a.num then .int 1 else if b.num < 0 then .int (-1) else if a = 0 ∧ b = 0 then .int 0 else .none
section
variable {P : Program} {w : World} {K : PySem.W.Frag} {mg : Str → Option Value} {base : Heap}
theorem ok_width_by (T : Txt K mg) : PFn P w K mg base 5 "width_by" (RS1 q_width) :=
  pfn_of T.h_width_by sc_width_by (fun ds d ⟨a, b, e, _⟩ => by rw [e]; rfl) fun cdv A outer s f H Q _ hr ds d G vs ⟨a, b, e, hab, za, zb, ed⟩ g hv q => by
    subst e ed
    obtain ⟨u, rfl, hu⟩ := all1 hv
    exact s_ret (e_call (ok_less T) (hr.mono (by decide)) (a_cons (e_ixT (e_var 0 hu) e_int rfl) (a_cons (e_ixT (e_var 0 hu) e_int rfl) a_nil)) ⟨b, a, rfl, (zb.mono (by decide)), (za.mono (by decide)), rfl⟩) g q
theorem ok_middle_by (T : Txt K mg) : PFn P w K mg base 4 "middle_by" (RS1 q_middle) :=
  pfn_of T.h_middle_by sc_middle_by (fun ds d ⟨a, b, e, _⟩ => by rw [e]; rfl) fun cdv A outer s f H Q _ hr ds d G vs ⟨a, b, e, hab, za, zb, ed⟩ g hv q => by
    subst e ed
    obtain ⟨u, rfl, hu⟩ := all1 hv
    exact s_ret (e_call (ok_product T) (hr.mono (by decide)) (a_cons (e_call (ok_add T) (hr.mono (by decide)) (a_cons (e_ixT (e_var 0 hu) e_int rfl) (a_cons (e_ixT (e_var 0 hu) e_int rfl) a_nil)) ⟨a, b, rfl, (za.mono (by decide)), (zb.mono (by decide)), rfl⟩) (a_cons (e_is (e_globT T.g_HALF) half_rd) a_nil)) ⟨a + b, half, rfl, sz_add za zb (by decide), sz_half (by decide), rfl⟩) g q
theorem ok_size_of_span (T : Txt K mg) : PFn P w K mg base 3 "size_of_span" (RS1 q_size) :=
  pfn_of T.h_size_of_span sc_size_of_span (fun ds d ⟨a, b, e, _⟩ => by rw [e]; rfl) fun cdv A outer s f H Q _ hr ds d G vs ⟨a, b, e, hab, za, zb, ed⟩ g hv q => by
    subst e ed
    obtain ⟨u, rfl, hu⟩ := all1 hv
    exact s_ret (e_call (ok_greater T) (hr.mono (by decide)) (a_cons (e_call (ok_size_by T) (hr.mono (by decide)) (a_cons (e_ixT (e_var 0 hu) e_int rfl) a_nil) ⟨a, rfl, rfl⟩) (a_cons (e_call (ok_size_by T) (hr.mono (by decide)) (a_cons (e_ixT (e_var 0 hu) e_int rfl) a_nil) ⟨b, rfl, rfl⟩) a_nil)) ⟨ab a, ab b, rfl, (Sz.ab za).mono (by decide), (Sz.ab zb).mono (by decide), rfl⟩) g q
theorem ok_has_by (T : Txt K mg) : PFn P w K mg base 2 "has_by" (RSr q_has) :=
  pfn_of T.h_has_by sc_has_by (fun ds d ⟨a, b, x, e, _⟩ => by rw [e]; rfl) fun cdv A outer s f H Q _ hr ds d G vs ⟨a, b, x, e, hab, za, zb, zx, ed⟩ g hv q => by
    subst e ed
    obtain ⟨u, t, rfl, hu, ht⟩ := all2 hv
    exact s_ret (e_and2 (e_not (e_call (ok_is_below T) (hr.mono (by decide)) (a_cons (e_var 1 ht) (a_cons (e_ixT (e_var 0 hu) e_int rfl) a_nil)) ⟨x, a, rfl, (zx.mono (by decide)), (za.mono (by decide)), rfl⟩)) fun _ => e_not (e_call (ok_is_below T) (hr.mono (by decide)) (a_cons (e_ixT (e_var 0 hu) e_int rfl) (a_cons (e_var 1 ht) a_nil)) ⟨b, x, rfl, (zb.mono (by decide)), (zx.mono (by decide)), rfl⟩)) g q
theorem ok_within_by (T : Txt K mg) : PFn P w K mg base 2 "within_by" (RS2 q_within) :=
  pfn_of T.h_within_by sc_within_by (fun ds d ⟨a, b, x, y, e, _⟩ => by rw [e]; rfl) fun cdv A outer s f H Q _ hr ds d G vs ⟨a, b, x, y, e, hab, hxy, za, zb, zx, zy, ed⟩ g hv q => by
    subst e ed
    obtain ⟨u, t, rfl, hu, ht⟩ := all2 hv
    exact s_ret (e_and2 (e_not (e_call (ok_is_below T) (hr.mono (by decide)) (a_cons (e_ixT (e_var 0 hu) e_int rfl) (a_cons (e_ixT (e_var 1 ht) e_int rfl) a_nil)) ⟨a, x, rfl, (za.mono (by decide)), (zx.mono (by decide)), rfl⟩)) fun _ => e_not (e_call (ok_is_below T) (hr.mono (by decide)) (a_cons (e_ixT (e_var 1 ht) e_int rfl) (a_cons (e_ixT (e_var 0 hu) e_int rfl) a_nil)) ⟨y, b, rfl, (zy.mono (by decide)), (zb.mono (by decide)), rfl⟩)) g q
theorem ok_inside_by (T : Txt K mg) : PFn P w K mg base 2 "inside_by" (RS2 q_inside) :=
  pfn_of T.h_inside_by sc_inside_by (fun ds d ⟨a, b, x, y, e, _⟩ => by rw [e]; rfl) fun cdv A outer s f H Q _ hr ds d G vs ⟨a, b, x, y, e, hab, hxy, za, zb, zx, zy, ed⟩ g hv q => by
    subst e ed
    obtain ⟨u, t, rfl, hu, ht⟩ := all2 hv
    exact s_ret (e_and2 (e_call (ok_is_below T) (hr.mono (by decide)) (a_cons (e_ixT (e_var 1 ht) e_int rfl) (a_cons (e_ixT (e_var 0 hu) e_int rfl) a_nil)) ⟨x, a, rfl, (zx.mono (by decide)), (za.mono (by decide)), rfl⟩) fun _ => (e_call (ok_is_below T) (hr.mono (by decide)) (a_cons (e_ixT (e_var 0 hu) e_int rfl) (a_cons (e_ixT (e_var 1 ht) e_int rfl) a_nil)) ⟨b, y, rfl, (zb.mono (by decide)), (zy.mono (by decide)), rfl⟩)) g q
theorem ok_add_spans (T : Txt K mg) : PFn P w K mg base 4 "add_spans" (RS2 q_add) :=
  pfn_of T.h_add_spans sc_add_spans (fun ds d ⟨a, b, x, y, e, _⟩ => by rw [e]; rfl) fun cdv A outer s f H Q _ hr ds d G vs ⟨a, b, x, y, e, hab, hxy, za, zb, zx, zy, ed⟩ g hv q => by
    subst e ed
    obtain ⟨u, t, rfl, hu, ht⟩ := all2 hv
    exact s_ret (e_tup (a_cons (e_call (ok_add T) (hr.mono (by decide)) (a_cons (e_ixT (e_var 0 hu) e_int rfl) (a_cons (e_ixT (e_var 1 ht) e_int rfl) a_nil)) ⟨a, x, rfl, (za.mono (by decide)), (zx.mono (by decide)), rfl⟩) (a_cons (e_call (ok_add T) (hr.mono (by decide)) (a_cons (e_ixT (e_var 0 hu) e_int rfl) (a_cons (e_ixT (e_var 1 ht) e_int rfl) a_nil)) ⟨b, y, rfl, (zb.mono (by decide)), (zy.mono (by decide)), rfl⟩) a_nil))) g q
theorem ok_turn_span (T : Txt K mg) : PFn P w K mg base 2 "turn_span" (RS1 q_turn) :=
  pfn_of T.h_turn_span sc_turn_span (fun ds d ⟨a, b, e, _⟩ => by rw [e]; rfl) fun cdv A outer s f H Q _ hr ds d G vs ⟨a, b, e, hab, za, zb, ed⟩ g hv q => by
    subst e ed
    obtain ⟨u, rfl, hu⟩ := all1 hv
    exact s_ret (e_tup (a_cons (e_call (ok_opposite T) (hr.mono (by decide)) (a_cons (e_ixT (e_var 0 hu) e_int rfl) a_nil) ⟨b, rfl, rfl⟩) (a_cons (e_call (ok_opposite T) (hr.mono (by decide)) (a_cons (e_ixT (e_var 0 hu) e_int rfl) a_nil) ⟨a, rfl, rfl⟩) a_nil))) g q
theorem ok_less_spans (T : Txt K mg) : PFn P w K mg base 5 "less_spans" (RS2 q_sub) :=
  pfn_of T.h_less_spans sc_less_spans (fun ds d ⟨a, b, x, y, e, _⟩ => by rw [e]; rfl) fun cdv A outer s f H Q _ hr ds d G vs ⟨a, b, x, y, e, hab, hxy, za, zb, zx, zy, ed⟩ g hv q => by
    subst e ed
    obtain ⟨u, t, rfl, hu, ht⟩ := all2 hv
    exact s_ret (e_tup (a_cons (e_call (ok_less T) (hr.mono (by decide)) (a_cons (e_ixT (e_var 0 hu) e_int rfl) (a_cons (e_ixT (e_var 1 ht) e_int rfl) a_nil)) ⟨a, y, rfl, (za.mono (by decide)), (zy.mono (by decide)), rfl⟩) (a_cons (e_call (ok_less T) (hr.mono (by decide)) (a_cons (e_ixT (e_var 0 hu) e_int rfl) (a_cons (e_ixT (e_var 1 ht) e_int rfl) a_nil)) ⟨b, x, rfl, (zb.mono (by decide)), (zx.mono (by decide)), rfl⟩) a_nil))) g q
theorem ok_span_by (T : Txt K mg) : PFn P w K mg base 2 "span_by" (fun ds d => ∃ a b, ds = [rd a, rd b] ∧ Sz 3000 a ∧ Sz 3000 b ∧ d = spq a b) :=
  pfn_of T.h_span_by sc_span_by (fun ds d ⟨a, b, e, _⟩ => by rw [e]; rfl) fun cdv A outer s f H Q _ hr ds d G vs ⟨a, b, e, za, zb, ed⟩ g hv q => by
    subst e ed
    obtain ⟨u, t, rfl, hu, ht⟩ := all2 hv
    refine s_ret (d := spq a b) (e_if (t_val (e_call (ok_is_below T) (hr.mono (by decide)) (a_cons (e_var 1 ht) (a_cons (e_var 0 hu) a_nil)) ⟨b, a, rfl, zb, za, rfl⟩)) (fun h => ?_) fun h => ?_) g q
    · exact e_is (e_tup (a_cons (e_var 1 ht) (a_cons (e_var 0 hu) a_nil))) (by unfold spq; rw [if_pos (of_decide_eq_true h)]; rfl)
    · exact e_is (e_tup (a_cons (e_var 0 hu) (a_cons (e_var 1 ht) a_nil))) (by unfold spq; rw [if_neg (of_decide_eq_false h)]; rfl)
theorem ok_scale_span (T : Txt K mg) : PFn P w K mg base 4 "scale_span" (RSr q_scale) :=
  pfn_of T.h_scale_span sc_scale_span (fun ds d ⟨a, b, x, e, _⟩ => by rw [e]; rfl) fun cdv A outer s f H Q _ hr ds d G vs ⟨a, b, x, e, hab, za, zb, zx, ed⟩ g hv q => by
    subst e ed
    obtain ⟨u, t, rfl, hu, ht⟩ := all2 hv
    exact s_ret (e_call (ok_span_by T) (hr.mono (by decide)) (a_cons (e_call (ok_product T) (hr.mono (by decide)) (a_cons (e_ixT (e_var 0 hu) e_int rfl) (a_cons (e_var 1 ht) a_nil)) ⟨a, x, rfl, (za.mono (by decide)), (zx.mono (by decide)), rfl⟩) (a_cons (e_call (ok_product T) (hr.mono (by decide)) (a_cons (e_ixT (e_var 0 hu) e_int rfl) (a_cons (e_var 1 ht) a_nil)) ⟨b, x, rfl, (zb.mono (by decide)), (zx.mono (by decide)), rfl⟩) a_nil)) ⟨a * x, b * x, rfl, sz_mul za zx (by decide), sz_mul zb zx (by decide), rfl⟩) g q
theorem ok_size_span (T : Txt K mg) : PFn P w K mg base 3 "size_span" (RS1 q_sized) :=
  pfn_of T.h_size_span sc_size_span (fun ds d ⟨a, b, e, _⟩ => by rw [e]; rfl) fun cdv A outer s f H Q _ hr ds d G vs ⟨a, b, e, hab, za, zb, ed⟩ g hv q => by
    subst e ed
    obtain ⟨u, rfl, hu⟩ := all1 hv
    refine s_when (k := decide (0 ≤ a.num)) (t_ge (e_ixT (e_ixT (e_var 0 hu) e_int rfl) e_int rfl) e_int) g (fun h G1 H1 n1 => ?_) fun h G1 H1 n1 => ?_
    · exact s_ret (e_is (e_var 0 (Dp.mono n1.g hu)) (by unfold q_sized; rw [if_pos (of_decide_eq_true h)])) n1.gh fun v G2 H2 n2 h2 => q v G2 H2 (n1.trans n2) h2
    · have h := of_decide_eq_false h
      have hu := Dp.mono n1.g hu
      refine s_ret (d := q_sized a b) (e_if (k := decide (b.num ≤ 0)) (t_le (e_ixT (e_ixT (e_var 0 hu) e_int rfl) e_int rfl) e_int) (fun h2 => ?_) fun h2 => ?_) n1.gh fun v G2 H2 n2 h2 => q v G2 H2 (n1.trans n2) h2
      · exact e_is (e_call (ok_turn_span T) (hr.mono (by decide)) (a_cons (e_var 0 hu) a_nil) ⟨a, b, rfl, hab, za, zb, rfl⟩) (by unfold q_sized; rw [if_neg h, if_pos (of_decide_eq_true h2)]; rfl)
      · exact e_is (e_tup (a_cons (e_is (e_globT T.g_ZERO) zero_rd) (a_cons (e_call (ok_greater T) (hr.mono (by decide)) (a_cons (e_call (ok_opposite T) (hr.mono (by decide)) (a_cons (e_ixT (e_var 0 hu) e_int rfl) a_nil) ⟨a, rfl, rfl⟩) (a_cons (e_ixT (e_var 0 hu) e_int rfl) a_nil)) ⟨-a, b, rfl, (Sz.neg za).mono (by decide), zb.mono (by decide), rfl⟩) a_nil))) (by unfold q_sized; rw [if_neg h, if_neg (of_decide_eq_false h2)]; rfl)
theorem ok_least_by (T : Txt K mg) : PFn P w K mg base 3 "least_by" (RS2 q_least) :=
  pfn_of T.h_least_by sc_least_by (fun ds d ⟨a, b, x, y, e, _⟩ => by rw [e]; rfl) fun cdv A outer s f H Q _ hr ds d G vs ⟨a, b, x, y, e, hab, hxy, za, zb, zx, zy, ed⟩ g hv q => by
    subst e ed
    obtain ⟨u, t, rfl, hu, ht⟩ := all2 hv
    exact s_ret (e_tup (a_cons (e_call (ok_lesser T) (hr.mono (by decide)) (a_cons (e_ixT (e_var 0 hu) e_int rfl) (a_cons (e_ixT (e_var 1 ht) e_int rfl) a_nil)) ⟨a, x, rfl, (za.mono (by decide)), (zx.mono (by decide)), rfl⟩) (a_cons (e_call (ok_lesser T) (hr.mono (by decide)) (a_cons (e_ixT (e_var 0 hu) e_int rfl) (a_cons (e_ixT (e_var 1 ht) e_int rfl) a_nil)) ⟨b, y, rfl, (zb.mono (by decide)), (zy.mono (by decide)), rfl⟩) a_nil))) g q
theorem ok_greatest_by (T : Txt K mg) : PFn P w K mg base 3 "greatest_by" (RS2 q_greatest) :=
  pfn_of T.h_greatest_by sc_greatest_by (fun ds d ⟨a, b, x, y, e, _⟩ => by rw [e]; rfl) fun cdv A outer s f H Q _ hr ds d G vs ⟨a, b, x, y, e, hab, hxy, za, zb, zx, zy, ed⟩ g hv q => by
    subst e ed
    obtain ⟨u, t, rfl, hu, ht⟩ := all2 hv
    exact s_ret (e_tup (a_cons (e_call (ok_greater T) (hr.mono (by decide)) (a_cons (e_ixT (e_var 0 hu) e_int rfl) (a_cons (e_ixT (e_var 1 ht) e_int rfl) a_nil)) ⟨a, x, rfl, (za.mono (by decide)), (zx.mono (by decide)), rfl⟩) (a_cons (e_call (ok_greater T) (hr.mono (by decide)) (a_cons (e_ixT (e_var 0 hu) e_int rfl) (a_cons (e_ixT (e_var 1 ht) e_int rfl) a_nil)) ⟨b, y, rfl, (zb.mono (by decide)), (zy.mono (by decide)), rfl⟩) a_nil))) g q
theorem ok_around_by (T : Txt K mg) : PFn P w K mg base 3 "around_by" (RS2 q_around) :=
  pfn_of T.h_around_by sc_around_by (fun ds d ⟨a, b, x, y, e, _⟩ => by rw [e]; rfl) fun cdv A outer s f H Q _ hr ds d G vs ⟨a, b, x, y, e, hab, hxy, za, zb, zx, zy, ed⟩ g hv q => by
    subst e ed
    obtain ⟨u, t, rfl, hu, ht⟩ := all2 hv
    exact s_ret (e_tup (a_cons (e_call (ok_lesser T) (hr.mono (by decide)) (a_cons (e_ixT (e_var 0 hu) e_int rfl) (a_cons (e_ixT (e_var 1 ht) e_int rfl) a_nil)) ⟨a, x, rfl, (za.mono (by decide)), (zx.mono (by decide)), rfl⟩) (a_cons (e_call (ok_greater T) (hr.mono (by decide)) (a_cons (e_ixT (e_var 0 hu) e_int rfl) (a_cons (e_ixT (e_var 1 ht) e_int rfl) a_nil)) ⟨b, y, rfl, (zb.mono (by decide)), (zy.mono (by decide)), rfl⟩) a_nil))) g q
theorem ok_common_by (T : Txt K mg) : PFn P w K mg base 3 "common_by" (RS2 q_common) :=
  pfn_of T.h_common_by sc_common_by (fun ds d ⟨a, b, x, y, e, _⟩ => by rw [e]; rfl) fun cdv A outer s f H Q _ hr ds d G vs ⟨a, b, x, y, e, hab, hxy, za, zb, zx, zy, ed⟩ g hv q => by
    subst e ed
    obtain ⟨u, t, rfl, hu, ht⟩ := all2 hv
    refine s_par 2 3 rfl sc_common_by.nd (a_cons (e_call (ok_greater T) (hr.mono (by decide)) (a_cons (e_ixT (e_var 0 hu) e_int rfl) (a_cons (e_ixT (e_var 1 ht) e_int rfl) a_nil)) ⟨a, x, rfl, (za.mono (by decide)), (zx.mono (by decide)), rfl⟩) (a_cons (e_call (ok_lesser T) (hr.mono (by decide)) (a_cons (e_ixT (e_var 0 hu) e_int rfl) (a_cons (e_ixT (e_var 1 ht) e_int rfl) a_nil)) ⟨b, y, rfl, (zb.mono (by decide)), (zy.mono (by decide)), rfl⟩) a_nil)) g fun u1 v1 G1 H1 n1 h1 h2 => ?_
    refine s_ret (d := q_common a b x y) (e_if (t_val (e_call (ok_is_below T) (hr.mono (by decide)) (a_cons (e_var 3 h2) (a_cons (e_var 2 h1) a_nil)) ⟨ls b y, gr a x, rfl, (Sz.ls zb zy).mono (by decide), (Sz.gr za zx).mono (by decide), rfl⟩)) (fun h => ?_) fun h => ?_) n1.gh fun v G2 H2 n2 h2 => q v G2 H2 (n1.trans n2) h2
    · exact e_is e_non (by unfold q_common; rw [if_pos (of_decide_eq_true h)])
    · exact e_is (e_tup (a_cons (e_var 2 h1) (a_cons (e_var 3 h2) a_nil))) (by unfold q_common; rw [if_neg (of_decide_eq_false h)]; rfl)
theorem ok_halve_span (T : Txt K mg) : PFn P w K mg base 5 "halve_span" (RS1 q_halves) :=
  pfn_of T.h_halve_span sc_halve_span (fun ds d ⟨a, b, e, _⟩ => by rw [e]; rfl) fun cdv A outer s f H Q _ hr ds d G vs ⟨a, b, e, hab, za, zb, ed⟩ g hv q => by
    subst e ed
    obtain ⟨u, rfl, hu⟩ := all1 hv
    refine s_set 1 (e_call (ok_middle_by T) (hr.mono (by decide)) (a_cons (e_var 0 hu) a_nil) ⟨a, b, rfl, hab, za, zb, rfl⟩) g sc_halve_span.nd fun v1 G1 H1 n1 h1 => ?_
    have hu := Dp.mono n1.g hu
    exact s_ret (e_tup (a_cons (e_tup (a_cons (e_ixT (e_var 0 hu) e_int rfl) (a_cons (e_var 1 h1) a_nil))) (a_cons (e_tup (a_cons (e_var 1 h1) (a_cons (e_ixT (e_var 0 hu) e_int rfl) a_nil))) a_nil))) n1.gh fun v G2 H2 n2 h2 => q v G2 H2 (n1.trans n2) h2
theorem ok_grow_span (T : Txt K mg) : PFn P w K mg base 5 "grow_span" (RSr q_grow) :=
  pfn_of T.h_grow_span sc_grow_span (fun ds d ⟨a, b, x, e, _⟩ => by rw [e]; rfl) fun cdv A outer s f H Q _ hr ds d G vs ⟨a, b, x, e, hab, za, zb, zx, ed⟩ g hv q => by
    subst e ed
    obtain ⟨u, t, rfl, hu, ht⟩ := all2 hv
    exact s_ret (e_tup (a_cons (e_call (ok_less T) (hr.mono (by decide)) (a_cons (e_ixT (e_var 0 hu) e_int rfl) (a_cons (e_var 1 ht) a_nil)) ⟨a, x, rfl, (za.mono (by decide)), (zx.mono (by decide)), rfl⟩) (a_cons (e_call (ok_add T) (hr.mono (by decide)) (a_cons (e_ixT (e_var 0 hu) e_int rfl) (a_cons (e_var 1 ht) a_nil)) ⟨b, x, rfl, (zb.mono (by decide)), (zx.mono (by decide)), rfl⟩) a_nil))) g q
end
end K01

/-! S5: products, quotients, powers of spans. -/
namespace K01
open PySem PySem.Spec PyProof.Rows DL SX
open L2 hiding Dp DpAll
def loL (l : List Rat) : Rat := l.foldl ls (l.headD 0)
def hiL (l : List Rat) : Rat := l.foldl gr (l.headD 0)
def hull (l : List Rat) : D := sp2 (loL l) (hiL l)
theorem two_ix {l : List D} {p r d : D} {i : Nat} (e : l = [p, r]) (h : l[i]? = some d) : (i = 0 ∧ d = p) ∨ (i = 1 ∧ d = r) := by
  subst e
  match i, h with
  | 0, h => exact .inl ⟨rfl, by injection h with h; exact h.symm⟩
  | 1, h => exact .inr ⟨rfl, by injection h with h; exact h.symm⟩
theorem take_succ_foldl {α β : Type} (f : β → α → β) (b : β) (l : List α) (k : Nat) (x : α) (h : l[k]? = some x) : (l.take (k + 1)).foldl f b = f ((l.take k).foldl f b) x := by
  rw [List.take_add_one, h, List.foldl_append]; rfl
def q_prod (a b x y : Rat) : D := if 0 ≤ a.num ∧ 0 ≤ x.num then sp2 (a * x) (b * y) else hull [a * x, a * y, b * x, b * y]
def q_inv (a b : Rat) : Except Str D := if a = 0 ∧ b = 0 then .error "Undefined" else if a.num ≤ 0 ∧ 0 ≤ b.num then .error "Unclear" else .ok (sp2 (1 / b) (1 / a))
theorem eqv_rd (a b : Rat) : PyData.eqv (rd a) (rd b) = decide (a = b) := by
  show (a.num == b.num && ((a.den : Int) == (b.den : Int) && true)) = _
  by_cases h : a = b
  · subst h; simp
  · rw [decide_eq_false h, Bool.and_true]
    by_cases h1 : a.num = b.num
    · by_cases h2 : a.den = b.den
      · exact absurd (Rat.ext h1 h2) h
      · have : ((a.den : Int) == (b.den : Int)) = false := by rw [beq_eq_false_iff_ne]; omega
        rw [this, Bool.and_false]
    · have : (a.num == b.num) = false := by rw [beq_eq_false_iff_ne]; exact h1
      rw [this, Bool.false_and]
theorem eqv_sp (a b x y : Rat) : PyData.eqv (sp2 a b) (sp2 x y) = decide (a = x ∧ b = y) := by
  show (PyData.eqv (rd a) (rd x) && (PyData.eqv (rd b) (rd y) && true)) = _
  rw [eqv_rd, eqv_rd, Bool.and_true, Bool.decide_and]
section
variable {P : Program} {w : World} {K : PySem.W.Frag} {mg : Str → Option Value} {base : Heap}
theorem ok_product_by (T : Txt K mg) : PFn P w K mg base 4 "product_by" (fun ds d => ∃ a b x y, ds = [sp2 a b, sp2 x y] ∧ Sz 1001 a ∧ Sz 1001 b ∧ Sz 1001 x ∧ Sz 1001 y ∧ d = q_prod a b x y) :=
  pfn_of T.h_product_by sc_product_by (fun ds d ⟨a, b, x, y, e, _⟩ => by rw [e]; rfl) fun cdv A outer s f H Q _ hr ds d G vs ⟨a, b, x, y, e, za, zb, zx, zy, ed⟩ g hv q => by
    subst e ed
    obtain ⟨u, t, rfl, hu, ht⟩ := all2 hv
    refine s_when (k := decide (0 ≤ a.num) && decide (0 ≤ x.num)) (t_and (t_ge (e_ixT (e_ixT (e_var 0 hu) e_int rfl) e_int rfl) e_int) fun _ => t_ge (e_ixT (e_ixT (e_var 1 ht) e_int rfl) e_int rfl) e_int) g (fun h G1 H1 n1 => ?_) fun h G1 H1 n1 => ?_
    · rw [Bool.and_eq_true, decide_eq_true_eq, decide_eq_true_eq] at h
      have hu := Dp.mono n1.g hu
      have ht := Dp.mono n1.g ht
      exact s_ret (e_is (e_tup (a_cons (e_call (ok_product T) (hr.mono (by decide)) (a_cons (e_ixT (e_var 0 hu) e_int rfl) (a_cons (e_ixT (e_var 1 ht) e_int rfl) a_nil)) ⟨a, x, rfl, za.mono (by decide), zx.mono (by decide), rfl⟩) (a_cons (e_call (ok_product T) (hr.mono (by decide)) (a_cons (e_ixT (e_var 0 hu) e_int rfl) (a_cons (e_ixT (e_var 1 ht) e_int rfl) a_nil)) ⟨b, y, rfl, zb.mono (by decide), zy.mono (by decide), rfl⟩) a_nil)))
        (by unfold q_prod; rw [if_pos h]; rfl)) n1.gh fun v G2 H2 n2 h2 => q v G2 H2 (n1.trans n2) h2
    · have h : ¬ (0 ≤ a.num ∧ 0 ≤ x.num) := fun z => by rw [Bool.and_eq_false_iff, decide_eq_false_iff_not, decide_eq_false_iff_not] at h; rcases h with h | h; exact h z.1; exact h z.2
      have hu := Dp.mono n1.g hu
      have ht := Dp.mono n1.g ht
      have eq : q_prod a b x y = hull [a * x, a * y, b * x, b * y] := by unfold q_prod; rw [if_neg h]
      rw [eq] at q
      have zs : ∀ r ∈ [a * x, a * y, b * x, b * y], Sz 3000 r := fun r hr => by
        simp only [List.mem_cons, List.not_mem_nil, or_false] at hr
        rcases hr with rfl | rfl | rfl | rfl
        · exact sz_mul za zx (by decide)
        · exact sz_mul za zy (by decide)
        · exact sz_mul zb zx (by decide)
        · exact sz_mul zb zy (by decide)
      generalize hl : [a * x, a * y, b * x, b * y] = l at zs
      have hds : l.map rd = [rd (a * x), rd (a * y), rd (b * x), rd (b * y)] := by rw [← hl]; rfl
      have h0 : l[0]? = some (a * x) := by rw [← hl]; rfl
      have hh : l.headD 0 = a * x := by rw [← hl]; rfl
      refine s_setC 2 (d := .list (l.map rd)) (ec_is (ec_lc2 (x := "a") (x1 := "b") (j := 6) (j1 := 7) (xs := [rd a, rd b]) (ys := [rd x, rd y]) (f := fun i j => rd ((if i = 0 then a else b) * (if j = 0 then x else y))) rfl sc_product_by.nd (by decide) (e_var 0 hu) (show 4 ≤ 100000 by decide)
        (blkOk_by (N := N_product_by) (sc := defScope s_product_by) (by decide +kernel)) (fun _ _ _ _ _ => pg_name (i := 6) sc_product_by.nd rfl (Or.inl rfl)) (fun _ _ _ _ _ => pg_name (i := 7) sc_product_by.nd rfl (Or.inl rfl))
        (fun i v d G' hd gg hv s H0 C cl fp => e_var 1 (Dp.mono gg ht)) (fun i v d i1 v1 d1 G' hd hd1 gg hv hv1 s H0 C cl fp => ?_) (fun _ => rfl) (fun _ _ => rfl) (pi_tup pe_w) (fun _ _ _ _ _ => pi_tup (pe_wBE _ _ _ _ _))) ?_) n1.gh (fun v2 G2 H2 n2 h2 => ?_)
      · rcases two_ix rfl hd with ⟨rfl, rfl⟩ | ⟨rfl, rfl⟩ <;> rcases two_ix rfl hd1 with ⟨rfl, rfl⟩ | ⟨rfl, rfl⟩
        · exact e_call (ok_product T) (hr.mono (by decide)) (a_cons (e_var 6 hv) (a_cons (e_var 7 hv1) a_nil)) ⟨a, x, rfl, za.mono (by decide), zx.mono (by decide), rfl⟩
        · exact e_call (ok_product T) (hr.mono (by decide)) (a_cons (e_var 6 hv) (a_cons (e_var 7 hv1) a_nil)) ⟨a, y, rfl, za.mono (by decide), zy.mono (by decide), rfl⟩
        · exact e_call (ok_product T) (hr.mono (by decide)) (a_cons (e_var 6 hv) (a_cons (e_var 7 hv1) a_nil)) ⟨b, x, rfl, zb.mono (by decide), zx.mono (by decide), rfl⟩
        · exact e_call (ok_product T) (hr.mono (by decide)) (a_cons (e_var 6 hv) (a_cons (e_var 7 hv1) a_nil)) ⟨b, y, rfl, zb.mono (by decide), zy.mono (by decide), rfl⟩
      · rw [hds]; rfl
      · have a0 : atI (l.map rd) 0 = some (rd (a * x)) := by rw [hds]; rfl
        refine s_par 3 4 rfl sc_product_by.nd (a_cons (e_ixL (e_var 2 h2) e_int a0) (a_cons (e_ixL (e_var 2 h2) e_int a0) a_nil)) n2.gh fun u3 v3 G3 H3 n3 h3 h4 => ?_
        refine s_forL 5 .never rfl sc_product_by.nd (e_var 2 (Dp.mono n3.g h2)) n3.gh (fun G4 H4 vx n4 hvx => ⟨fun k σ' H' => ∃ u5 v5 e5 G5, σ' = [some u, some t, some v2, some u5, some v5, e5, Option.none, Option.none] ∧ Nx G4 H4 G5 H' ∧ Dp K G5 u5 (rd ((l.take k).foldl ls (a * x))) ∧ Dp K G5 v5 (rd ((l.take k).foldl gr (a * x))) ∧ Sz 3000 ((l.take k).foldl ls (a * x)) ∧ Sz 3000 ((l.take k).foldl gr (a * x)),
          ⟨u3, v3, Option.none, G4, rfl, Nx.refl n4.gh, Dp.mono n4.g h3, Dp.mono n4.g h4, zs _ (List.mem_of_getElem? h0), zs _ (List.mem_of_getElem? h0)⟩, fun k σ' H' ⟨_, _, _, G5, _, n5, _⟩ => n5.g.trans n5.gh, fun k v d σ' H' hd hv ⟨u5, v5, e5, G5, eσ, n5, d5, d6, z5, z6⟩ => ?_, fun σ' H' ⟨u5, v5, e5, G5, eσ, n5, d5, d6, z5, z6⟩ => ?_⟩) (pi_list pe_w) <;> (subst eσ)
        · rw [List.getElem?_map] at hd
          obtain ⟨r, hr1, hr2⟩ := Option.map_eq_some_iff.mp hd
          subst hr2
          have hv := Dp.mono n5.g hv
          have zr := zs r (List.mem_of_getElem? hr1)
          refine s_par 3 4 rfl sc_product_by.nd (a_cons (e_call (ok_lesser T) (hr.mono (by decide)) (a_cons (e_var 3 d5) (a_cons (e_var 5 hv) a_nil)) ⟨_, r, rfl, z5, zr, rfl⟩) (a_cons (e_call (ok_greater T) (hr.mono (by decide)) (a_cons (e_var 4 d6) (a_cons (e_var 5 hv) a_nil)) ⟨_, r, rfl, z6, zr, rfl⟩) a_nil)) n5.gh fun u7 v7 G7 H7 n7 h7 h8 => s_nil ?_
          refine ⟨u7, v7, some v, G7, rfl, n5.trans n7, ?_, ?_, ?_, ?_⟩
          · rw [take_succ_foldl _ _ _ _ _ hr1]; exact h7
          · rw [take_succ_foldl _ _ _ _ _ hr1]; exact h8
          · rw [take_succ_foldl _ _ _ _ _ hr1]; exact Sz.ls z5 zr
          · rw [take_succ_foldl _ _ _ _ _ hr1]; exact Sz.gr z6 zr
        · rw [List.length_map, List.take_length] at d5 d6
          refine s_ret (e_is (e_tup (a_cons (e_var 3 d5) (a_cons (e_var 4 d6) a_nil))) (d' := hull l) ?_) n5.gh fun v G8 H8 n8 h8 => q v G8 H8 (n1.trans (n2.trans (n3.trans (n4.trans (n5.trans n8))))) ?_
          · unfold hull loL hiL; rw [hh]; rfl
          · rw [← hl] at h8; exact h8
end
end K01

/-! S6: inverses, powers, signs of spans; rounding. -/
namespace K01
open PySem PySem.Spec PyProof.Rows DL SX
open L2 hiding Dp DpAll
theorem num_le0 {a : Rat} : a.num ≤ 0 ↔ a ≤ 0 := by
  have h := Rat.lt_iff 0 a
  rw [show (0 : Rat).num = 0 from rfl, show (0 : Rat).den = 1 from rfl, Int.zero_mul] at h
  rw [← Rat.not_lt, h]
  have : a.num * ((1 : Nat) : Int) = a.num := Int.mul_one _
  omega
theorem t_eqD {X : Cx} {σ : L2.St} {G : Hp} {a b : Expr} {pos : Pos} {da db : D} (hu : X.A.units + 64 < cLine) (ha : E X a σ G da) (hb : E X b σ G db) (s1 : SeqAt.shaped da = true) (s2 : SeqAt.shaped db = true) (n1 : noDc da = true := by first | rfl | decide +kernel) (n2 : noDc db = true := by first | rfl | decide +kernel) : T X (.Compare a [.Eq] [b] pos) σ G (PyData.eqv da db) :=
  t_cmp (op_eqD hu) (nomark _) ha hb fun u v G1 H1 _ gh hu hv Q q => ⟨da, db, Dp.old (Dp.mono gh hu) n1, Dp.old (Dp.mono gh hv) n2, s1, s2, q⟩
theorem t_chain {X : Cx} {σ : L2.St} {G : Hp} {a b c : Expr} {pos : Pos} {i j : Int} {op op' : CmpOp} {f f' : Int → Int → Bool} {z : Int} (ho : OpR X (compareOp op) (rI0 fun i j => .bl (f i j))) (ho' : OpR X (compareOp op') (rI0 fun i j => .bl (f' i j))) (ha : E X a σ G (.int i)) (hb : E X b σ G (.int j)) (hc : E X c σ G (.int z))
    (h : ∀ {ta tb tc : TE}, PE X a ta → PE X b tb → PE X c tc → PT X (.Compare a [op, op'] [b, c] pos) (tTest (tChain (rI0 fun i j => .bl (f i j)) (rI0 fun i j => .bl (f' i j)) ta tb tc))) : T X (.Compare a [op, op'] [b, c] pos) σ G (f i j && f' j z) := fun G1 H1 g gh Q q =>
  ⟨_, h pe_w pe_w pe_w, ha G1 H1 g gh _ fun u G2 H2 n hu => hb G2 H2 (g.trans n.g) n.gh _ fun v G3 H3 n2 hv => by
    cases hu; cases hv
    refine ⟨i, j, rfl, rfl, f i j, rfl, ?_⟩
    cases e : f i j with
    | true => exact iteT (hc G3 H3 ((g.trans n.g).trans n2.g) n2.gh _ fun w G4 H4 n4 hw => by
        cases hw
        exact ⟨j, z, rfl, rfl, _, rfl, by rw [e] at q; exact q G4 H4 ((n.trans n2).trans n4)⟩)
    | false => exact iteF ⟨_, rfl, by rw [e] at q; exact q G3 H3 (n.trans n2)⟩⟩
theorem roomU {k : Nat} {A : Around} (h : Room k A) : A.units + 64 < cLine := by have := h.un; omega
theorem num_ge0 {a : Rat} : 0 ≤ a.num ↔ 0 ≤ a := Rat.num_nonneg
def p0 (a b : Rat) (n : Nat) : Rat × Rat := if n = 0 then (1, 1) else if n % 2 = 1 ∨ 0 ≤ a.num then (a ^ n, b ^ n) else if b.num ≤ 0 then (b ^ n, a ^ n) else (0, gr (a ^ n) (b ^ n))
def q_pow (a b : Rat) (n : Int) : Except Str D := if n < 0 then (if 0 < a.num * b.num then q_inv (p0 a b n.natAbs).1 (p0 a b n.natAbs).2 else q_inv a b) else .ok (sp2 (p0 a b n.natAbs).1 (p0 a b n.natAbs).2)
def q_part (a b x y : Rat) : Except Str D := if x = 0 ∧ y = 0 then .error "Undefined" else if x.num ≤ 0 ∧ 0 ≤ y.num then .error "Unclear" else .ok (q_prod a b (1 / y) (1 / x))
def q_round (a b : Rat) (k : Nat) : D := sp2 (dn a k) (upq b k)
theorem pw_nat (a : Rat) (n : Nat) : pw a (n : Int) = a ^ n := by unfold pw; rw [if_pos (Int.natCast_nonneg n), Int.natAbs_natCast]
section
variable {P : Program} {w : World} {K : PySem.W.Frag} {mg : Str → Option Value} {base : Heap}
theorem ok_round_span (T : Txt K mg) : PFn P w K mg base 3 "round_span" (fun ds d => ∃ a b k, ds = [sp2 a b, .int (k : Nat)] ∧ k ≤ 20000 ∧ Sz 1000 a ∧ Sz 1000 b ∧ d = q_round a b k) :=
  pfn_of T.h_round_span sc_round_span (fun ds d ⟨a, b, k, e, _⟩ => by rw [e]; rfl) fun cdv A outer s f H Q _ hr ds d G vs ⟨a, b, k, e, hk, za, zb, ed⟩ g hv q => by
    subst e ed
    obtain ⟨u, t, rfl, hu, ht⟩ := all2 hv
    exact s_ret (e_tup (a_cons (e_call (ok_down_by T) (hr.mono (by decide)) (a_cons (e_ixT (e_var 0 hu) e_int rfl) (a_cons (e_var 1 ht) a_nil)) ⟨a, k, rfl, hk, za.mono (by decide), rfl⟩) (a_cons (e_call (ok_up_by T) (hr.mono (by decide)) (a_cons (e_ixT (e_var 0 hu) e_int rfl) (a_cons (e_var 1 ht) a_nil)) ⟨b, k, rfl, hk, zb.mono (by decide), rfl⟩) a_nil))) g q
theorem ok_sign_by (T : Txt K mg) : PFn P w K mg base 1 "sign_by" (RS1 q_sign) :=
  pfn_of T.h_sign_by sc_sign_by (fun ds d ⟨a, b, e, _⟩ => by rw [e]; rfl) fun cdv A outer s f H Q _ hr ds d G vs ⟨a, b, e, hab, za, zb, ed⟩ g hv q => by
    subst e ed
    obtain ⟨u, rfl, hu⟩ := all1 hv
    refine s_when (k := decide (0 < a.num)) (t_gt (e_ixT (e_ixT (e_var 0 hu) e_int rfl) e_int rfl) e_int) g (fun h G1 H1 n1 => ?_) fun h G1 H1 n1 => ?_
    · exact s_ret (e_is e_int (by unfold q_sign; rw [if_pos (of_decide_eq_true h)])) n1.gh fun v G2 H2 n2 h2 => q v G2 H2 (n1.trans n2) h2
    · have h := of_decide_eq_false h
      have hu := Dp.mono n1.g hu
      refine s_when (k := decide (b.num < 0)) (t_lt (e_ixT (e_ixT (e_var 0 hu) e_int rfl) e_int rfl) e_int) n1.gh (fun h2 G2 H2 n2 => ?_) fun h2 G2 H2 n2 => ?_
      · exact s_ret (e_is (e_neg e_int) (by unfold q_sign; rw [if_neg h, if_pos (of_decide_eq_true h2)])) n2.gh fun v G3 H3 n3 h3 => q v G3 H3 (n1.trans (n2.trans n3)) h3
      · have h2 := of_decide_eq_false h2
        have hu := Dp.mono n2.g hu
        refine s_ret (d := q_sign a b) (e_if (k := decide (a = 0 ∧ b = 0)) (t_is (t_eqD (da := sp2 a b) (db := sp2 0 0) (roomU hr) (e_var 0 hu) (e_tup (a_cons (e_is (e_globT T.g_ZERO) zero_rd) (a_cons (e_is (e_globT T.g_ZERO) zero_rd) a_nil))) rfl rfl) (eqv_sp a b 0 0)) (fun h3 => ?_) fun h3 => ?_) n2.gh fun v G3 H3 n3 h3 => q v G3 H3 (n1.trans (n2.trans n3)) h3
        · exact e_is e_int (by unfold q_sign; rw [if_neg h, if_neg h2, if_pos (of_decide_eq_true h3)])
        · exact e_is e_non (by unfold q_sign; rw [if_neg h, if_neg h2, if_neg (of_decide_eq_false h3)])
def R_inv : List D → Except Str D → Prop := fun ds r => ∃ a b, ds = [sp2 a b] ∧ Sz 1001 a ∧ Sz 1001 b ∧ (¬ (a.num ≤ 0 ∧ 0 ≤ b.num) → a ≠ 0 ∧ b ≠ 0) ∧ r = q_inv a b
theorem ok_inverse_by (T : Txt K mg) : XFn P w K mg base 4 "inverse_by" R_inv :=
  xfn_of T.h_inverse_by sc_inverse_by (fun ds d ⟨a, b, e, _⟩ => by rw [e]; rfl) fun cdv A outer s f H Q xk hr ds r G vs ⟨a, b, e, za, zb, hne, er⟩ g hv q1 q2 => by
    subst e
    obtain ⟨u, rfl, hu⟩ := all1 hv
    refine s_when (k := decide (a = 0 ∧ b = 0)) (t_is (t_eqD (da := sp2 a b) (db := sp2 0 0) (roomU hr) (e_var 0 hu) (e_tup (a_cons (e_is (e_globT T.g_ZERO) zero_rd) (a_cons (e_is (e_globT T.g_ZERO) zero_rd) a_nil))) rfl rfl) (eqv_sp a b 0 0)) g (fun h G1 H1 n1 => ?_) fun h G1 H1 n1 => ?_
    · exact s_raise rfl T.x_Undefined (L2N.takes_of rfl rfl rfl rfl) fun c hc => q2 "Undefined" c (by rw [er]; unfold q_inv; rw [if_pos (of_decide_eq_true h)]) hc G1 H1 n1
    · have h := of_decide_eq_false h
      have hu := Dp.mono n1.g hu
      refine s_when (k := decide (a.num ≤ 0) && decide (0 ≤ b.num)) (t_chain (f := fun i j => decide (i ≤ j)) (f' := fun i j => decide (i ≤ j)) op_le op_le (e_ixT (e_ixT (e_var 0 hu) e_int rfl) e_int rfl) e_int (e_ixT (e_ixT (e_var 0 hu) e_int rfl) e_int rfl) fun h1 h2 h3 => pt_chain op_le op_le h1 h2 h3) n1.gh (fun h2 G2 H2 n2 => ?_) fun h2 G2 H2 n2 => ?_
      · rw [Bool.and_eq_true, decide_eq_true_eq, decide_eq_true_eq] at h2
        exact s_raise rfl T.x_Unclear (L2N.takes_of rfl rfl rfl rfl) fun c hc => q2 "Unclear" c (by rw [er]; unfold q_inv; rw [if_neg h, if_pos h2]) hc G2 H2 (n1.trans n2)
      · have h2 : ¬ (a.num ≤ 0 ∧ 0 ≤ b.num) := fun z => by rw [Bool.and_eq_false_iff, decide_eq_false_iff_not, decide_eq_false_iff_not] at h2; rcases h2 with h | h; exact h z.1; exact h z.2
        obtain ⟨ha, hb⟩ := hne h2
        have hu := Dp.mono n2.g hu
        exact s_ret (e_tup (a_cons (e_call (ok_share T) (hr.mono (by decide)) (a_cons (e_is (e_globT T.g_ONE) one_rd) (a_cons (e_ixT (d := rd b) (e_var 0 hu) e_int rfl) a_nil)) ⟨1, b, rfl, hb, sz_1 (by decide), zb.mono (by decide), rfl⟩) (a_cons (e_call (ok_share T) (hr.mono (by decide)) (a_cons (e_is (e_globT T.g_ONE) one_rd) (a_cons (e_ixT (d := rd a) (e_var 0 hu) e_int rfl) a_nil)) ⟨1, a, rfl, ha, sz_1 (by decide), za.mono (by decide), rfl⟩) a_nil))) n2.gh fun v G3 H3 n3 h3 =>
          q1 (sp2 (1 / b) (1 / a)) (by rw [er]; unfold q_inv; rw [if_neg h, if_neg h2]) v G3 H3 (n1.trans (n2.trans n3)) h3
theorem span_ne {a b : Rat} (h : a ≤ b) : ¬ (a.num ≤ 0 ∧ 0 ≤ b.num) → a ≠ 0 ∧ b ≠ 0 := fun z => by
  rw [num_le0, num_ge0] at z
  constructor
  · rintro rfl; exact z ⟨Rat.le_refl, h⟩
  · rintro rfl; exact z ⟨h, Rat.le_refl⟩
theorem inv_ok {a b : Rat} {d : D} (h : q_inv a b = .ok d) : ¬ (a.num ≤ 0 ∧ 0 ≤ b.num) ∧ d = sp2 (1 / b) (1 / a) := by
  unfold q_inv at h
  split at h
  · cases h
  · split at h
    · cases h
    · rename_i h2
      exact ⟨h2, by injection h with h; exact h.symm⟩
theorem ok_part_spans (T : Txt K mg) : XFn P w K mg base 5 "part_spans" (fun ds r => ∃ a b x y, ds = [sp2 a b, sp2 x y] ∧ x ≤ y ∧ Sz 1000 a ∧ Sz 1000 b ∧ Sz 1000 x ∧ Sz 1000 y ∧ r = q_part a b x y) :=
  xfn_of T.h_part_spans sc_part_spans (fun ds d ⟨a, b, x, y, e, _⟩ => by rw [e]; rfl) fun cdv A outer s f H Q xk hr ds r G vs ⟨a, b, x, y, e, hxy, za, zb, zx, zy, er⟩ g hv q1 q2 => by
    subst e
    obtain ⟨u, t, rfl, hu, ht⟩ := all2 hv
    refine s_retX (W := _) (r := r) (ex_callP (ok_product_by T) (hr.mono (by decide)) (ax_cons (ex_of (e_var 0 hu)) (ax_cons (ex_call (r := q_inv x y) (ok_inverse_by T) (hr.mono (by decide)) (L2N.takes_of rfl rfl rfl rfl) (ax_cons (ex_of (e_var 1 ht)) ax_nil) (fun ds hd => ?_) fun n hn => by cases hn) ax_nil)) (fun ds hd => ?_) fun n hn => ?_) g q1 q2
    · cases hd; exact ⟨x, y, rfl, zx.mono (by decide), zy.mono (by decide), span_ne hxy, rfl⟩
    · cases hi : q_inv x y with
      | error n => rw [hi] at hd; cases hd
      | ok d =>
        rw [hi] at hd
        cases hd
        obtain ⟨h1, rfl⟩ := inv_ok hi
        obtain ⟨hx, hy⟩ := span_ne hxy h1
        refine ⟨_, ⟨a, b, 1 / y, 1 / x, rfl, za.mono (by decide), zb.mono (by decide), sz_div hy (sz_1 (n := 1) (by decide)) zy (by decide), sz_div hx (sz_1 (n := 1) (by decide)) zx (by decide), rfl⟩, ?_⟩
        rw [er]; unfold q_part; rw [if_neg (fun z => hx z.1), if_neg h1]
    · cases hi : q_inv x y with
      | ok d => rw [hi] at hn; cases hn
      | error m =>
        rw [hi] at hn
        cases hn
        rw [er]
        unfold q_inv at hi
        unfold q_part
        split at hi
        · rename_i h; rw [if_pos h]; injection hi with hi; rw [hi]
        · rename_i h
          split at hi
          · rename_i h2; rw [if_neg h, if_pos h2]; injection hi with hi; rw [hi]
          · cases hi
end
end K01

/-! S7: powers of spans. -/
namespace K01
open PySem PySem.Spec PyProof.Rows DL SX
open L2 hiding Dp DpAll
theorem sz_pow {a : Rat} {m k : Nat} (z : Sz m a) (h : 0 < k) : Sz (m * k) (a ^ k) := by
  refine ⟨?_, ?_⟩
  · rw [Rat.num_pow, Int.natAbs_pow, Nat.pow_mul]
    exact Nat.pow_lt_pow_left z.1 (by omega)
  · rw [Rat.den_pow, Nat.pow_mul]
    exact Nat.pow_lt_pow_left z.2 (by omega)
theorem sz_pow' {a : Rat} {m k n : Nat} (z : Sz m a) (h : m * k ≤ n) (h1 : 1 ≤ n) : Sz n (a ^ k) := by
  by_cases hk : k = 0
  · subst hk; rw [Rat.pow_zero]; exact sz_1 h1
  · exact (sz_pow z (Nat.pos_of_ne_zero hk)).mono h
theorem sz_p0 {a b : Rat} {m k n : Nat} (za : Sz m a) (zb : Sz m b) (h : m * k ≤ n) (h1 : 1 ≤ n) : Sz n (p0 a b k).1 ∧ Sz n (p0 a b k).2 := by
  unfold p0
  split
  · exact ⟨sz_1 h1, sz_1 h1⟩
  · split
    · exact ⟨sz_pow' za h h1, sz_pow' zb h h1⟩
    · split
      · exact ⟨sz_pow' zb h h1, sz_pow' za h h1⟩
      · exact ⟨sz_0 h1, Sz.gr (sz_pow' za h h1) (sz_pow' zb h h1)⟩
theorem pow_ne {a : Rat} (h : a ≠ 0) (k : Nat) : a ^ k ≠ 0 := fun z => by
  have := congrArg Rat.num z
  rw [Rat.num_pow] at this
  exact Int.pow_ne_zero (num_ne h) this
theorem p0_ne {a b : Rat} {k : Nat} (h : 0 < a.num * b.num) (hab : a ≤ b) : (p0 a b k).1 ≠ 0 ∧ (p0 a b k).2 ≠ 0 := by
  have ha : a ≠ 0 := fun z => by subst z; simp at h
  have hb : b ≠ 0 := fun z => by subst z; simp at h
  unfold p0
  split
  · exact ⟨by decide +kernel, by decide +kernel⟩
  · split
    · exact ⟨pow_ne ha k, pow_ne hb k⟩
    · rename_i h2
      rw [if_pos]
      · exact ⟨pow_ne hb k, pow_ne ha k⟩
      · by_cases h3 : b.num ≤ 0
        · exact h3
        · have h4 : a.num < 0 := Int.not_le.mp fun z => h2 (.inr z)
          have h5 := Int.mul_neg_of_neg_of_pos h4 (Int.not_le.mp h3)
          omega
section
variable {P : Program} {w : World} {K : PySem.W.Frag} {mg : Str → Option Value} {base : Heap}
def R_pow (neg : Bool) : List D → Except Str D → Prop := fun ds r => ∃ a b n m, ds = [sp2 a b, .int n] ∧ a ≤ b ∧ 0 < m ∧ Sz m a ∧ Sz m b ∧ m ≤ 1000 ∧ m * n.natAbs ≤ 1000 ∧ (neg = false → 0 ≤ n) ∧ r = q_pow a b n
theorem q_pow_nn {a b : Rat} {n : Nat} : q_pow a b (n : Int) = .ok (sp2 (p0 a b n).1 (p0 a b n).2) := by
  unfold q_pow; rw [if_neg (Int.not_lt.mpr (Int.natCast_nonneg n)), Int.natAbs_natCast]
theorem pow_body (T : Txt K mg) (neg : Bool) (k : Nat) (hk : 3 ≤ k) (hk2 : neg = true → 4 ≤ k) (rec : neg = true → XFn P w K mg base 4 "power_span" (R_pow false)) : XFn P w K mg base (k + 1) "power_span" (R_pow neg) :=
  xfn_of T.h_power_span sc_power_span (fun ds d ⟨a, b, n, m, e, _⟩ => by rw [e]; rfl) fun cdv A outer s f H Q xk hr ds r G vs ⟨a, b, n, m, e, hab, hm, za, zb, hm1, hmn, hneg, er⟩ g hv q1 q2 => by
    subst e
    obtain ⟨u, t, rfl, hu, ht⟩ := all2 hv
    refine s_when (k := decide (n < 0)) (t_lt (e_var 1 ht) e_int) g (fun h G1 H1 n1 => ?_) fun h G1 H1 n1 => ?_
    · have h := of_decide_eq_true h
      have hn : neg = true := by cases neg with
        | true => rfl
        | false => exact absurd (hneg rfl) (by omega)
      have hu := Dp.mono n1.g hu
      have ht := Dp.mono n1.g ht
      have en : -n = ((n.natAbs : Nat) : Int) := by omega
      have z := sz_p0 za zb (n := 1000) hmn (by decide)
      refine s_retX (W := fun v u _ H => xk v u H) (r := r) (ex_if (k := decide (0 < a.num * b.num)) (t_gt (e_mul (e_ixT (e_ixT (e_var 0 hu) e_int rfl) e_int rfl) (e_ixT (e_ixT (e_var 0 hu) e_int rfl) e_int rfl) (mulOK za.1 zb.1 (by omega))) e_int) (fun h2 => ?_) fun h2 => ?_) n1.gh (fun d hd v G2 H2 n2 h2 => q1 d hd v G2 H2 (n1.trans n2) h2) (fun nm c hn hc G2 H2 n2 => q2 nm c hn hc G2 H2 (n1.trans n2))
      · have h2 := of_decide_eq_true h2
        refine ex_call (r := r) (ok_inverse_by T) (hr.mono (hk2 hn)) (L2N.takes_of rfl rfl rfl rfl) (ax_cons (ex_call (r := .ok (sp2 (p0 a b n.natAbs).1 (p0 a b n.natAbs).2)) (rec hn) (hr.mono (hk2 hn)) (L2N.takes_of rfl rfl rfl rfl) (ax_cons (ex_of (e_var 0 hu)) (ax_cons (ex_of (e_is (e_neg (e_var 1 ht)) (by rw [en]))) ax_nil)) (fun ds hd => ?_) fun m hn => by cases hn) ax_nil) (fun ds hd => ?_) fun m hn => by cases hn
        · cases hd
          exact ⟨a, b, _, m, rfl, hab, hm, za, zb, hm1, by rw [Int.natAbs_natCast]; exact hmn, fun _ => Int.natCast_nonneg _, q_pow_nn.symm⟩
        · cases hd
          exact ⟨_, _, rfl, z.1.mono (by decide), z.2.mono (by decide), fun _ => p0_ne h2 hab, by rw [er]; unfold q_pow; rw [if_pos h, if_pos h2]⟩
      · refine ex_call (r := r) (ok_inverse_by T) (hr.mono (hk2 hn)) (L2N.takes_of rfl rfl rfl rfl) (ax_cons (ex_of (e_var 0 hu)) ax_nil) (fun ds hd => ?_) fun m hn => by cases hn
        cases hd
        exact ⟨a, b, rfl, za.mono (by omega), zb.mono (by omega), span_ne hab, by rw [er]; unfold q_pow; rw [if_pos h, if_neg (of_decide_eq_false h2)]⟩
    · have h := of_decide_eq_false h
      obtain ⟨N, rfl⟩ := Int.eq_ofNat_of_zero_le (Int.not_lt.mp h)
      rw [q_pow_nn] at er
      rw [Int.natAbs_natCast] at hmn
      have hu := Dp.mono n1.g hu
      have ht := Dp.mono n1.g ht
      refine s_when (k := decide (N = 0)) (t_is (t_eqI (e_var 1 ht) e_int) (decNat N 0)) n1.gh (fun h2 G2 H2 n2 => ?_) fun h2 G2 H2 n2 => ?_
      · have h2 := of_decide_eq_true h2
        exact s_ret (e_tup (a_cons (e_is (e_globT T.g_ONE) one_rd) (a_cons (e_is (e_globT T.g_ONE) one_rd) a_nil))) n2.gh fun v G3 H3 n3 h3 => q1 (sp2 1 1) (by rw [er]; unfold p0; rw [if_pos h2]) v G3 H3 (n1.trans (n2.trans n3)) h3
      · have h2 := of_decide_eq_false h2
        have hu := Dp.mono n2.g hu
        have ht := Dp.mono n2.g ht
        refine s_par 2 3 rfl sc_power_span.nd (a_cons (e_is (e_call (ok_power_by T) (hr.mono hk) (a_cons (e_ixT (d := rd a) (e_var 0 hu) e_int rfl) (a_cons (e_var 1 ht) a_nil)) ⟨a, _, m, rfl, fun z => absurd z h, za, hm, by rw [Int.natAbs_natCast]; omega, rfl⟩) (by rw [pw_nat]))
          (a_cons (e_is (e_call (ok_power_by T) (hr.mono hk) (a_cons (e_ixT (d := rd b) (e_var 0 hu) e_int rfl) (a_cons (e_var 1 ht) a_nil)) ⟨b, _, m, rfl, fun z => absurd z h, zb, hm, by rw [Int.natAbs_natCast]; omega, rfl⟩) (by rw [pw_nat])) a_nil)) n2.gh fun u3 v3 G3 H3 n3 h3 h4 => ?_
        have hu := Dp.mono n3.g hu
        have ht := Dp.mono n3.g ht
        refine s_when (k := decide (N % 2 = 1) || decide (0 ≤ a.num)) (t_or (t_is (t_eqI (e_mod (e_var 1 ht) e_int (by decide)) e_int) (by rw [← decNat, Int.natCast_emod]; rfl)) fun _ => t_ge (e_ixT (e_ixT (e_var 0 hu) e_int rfl) e_int rfl) e_int) n3.gh (fun h5 G4 H4 n4 => ?_) fun h5 G4 H4 n4 => ?_
        · rw [Bool.or_eq_true, decide_eq_true_eq, decide_eq_true_eq] at h5
          exact s_ret (e_tup (a_cons (e_var 2 (Dp.mono n4.g h3)) (a_cons (e_var 3 (Dp.mono n4.g h4)) a_nil))) n4.gh fun v G5 H5 n5 h6 => q1 (sp2 (a ^ N) (b ^ N)) (by rw [er]; unfold p0; rw [if_neg h2, if_pos h5]) v G5 H5 (n1.trans (n2.trans (n3.trans (n4.trans n5)))) h6
        · have h5 : ¬ (N % 2 = 1 ∨ 0 ≤ a.num) := fun z => by
            rw [Bool.or_eq_false_iff, decide_eq_false_iff_not, decide_eq_false_iff_not] at h5
            rcases z with z | z
            · exact h5.1 z
            · exact h5.2 z
          have hu := Dp.mono n4.g hu
          refine s_when (k := decide (b.num ≤ 0)) (t_le (e_ixT (e_ixT (e_var 0 hu) e_int rfl) e_int rfl) e_int) n4.gh (fun h6 G5 H5 n5 => ?_) fun h6 G5 H5 n5 => ?_
          · exact s_ret (e_tup (a_cons (e_var 3 (Dp.mono n5.g (Dp.mono n4.g h4))) (a_cons (e_var 2 (Dp.mono n5.g (Dp.mono n4.g h3))) a_nil))) n5.gh fun v G6 H6 n6 h7 => q1 (sp2 (b ^ N) (a ^ N)) (by rw [er]; unfold p0; rw [if_neg h2, if_neg h5, if_pos (of_decide_eq_true h6)]) v G6 H6 (n1.trans (n2.trans (n3.trans (n4.trans (n5.trans n6))))) h7
          · exact s_ret (e_tup (a_cons (e_is (e_globT T.g_ZERO) zero_rd) (a_cons (e_call (ok_greater T) (hr.mono (by omega)) (a_cons (e_var 2 (Dp.mono n5.g (Dp.mono n4.g h3))) (a_cons (e_var 3 (Dp.mono n5.g (Dp.mono n4.g h4))) a_nil)) ⟨a ^ N, b ^ N, rfl, sz_pow' za (by omega) (by decide), sz_pow' zb (by omega) (by decide), rfl⟩) a_nil))) n5.gh fun v G6 H6 n6 h7 =>
              q1 (sp2 0 (gr (a ^ N) (b ^ N))) (by rw [er]; unfold p0; rw [if_neg h2, if_neg h5, if_neg (of_decide_eq_false h6)]) v G6 H6 (n1.trans (n2.trans (n3.trans (n4.trans (n5.trans n6))))) h7
theorem ok_power_span (T : Txt K mg) : XFn P w K mg base 5 "power_span" (R_pow true) :=
  pow_body T true 4 (by decide) (fun _ => by decide) fun _ => pow_body T false 3 (by decide) (fun z => nomatch z) (fun z => nomatch z)
end
end K01

/-! S8: the checked defs of spans (printed by pS8.py). -/
namespace K01
open PySem PySem.Spec PyProof.Rows DL SX
open L2 hiding Dp DpAll
def NR : Except Str D := .error "NotRight"
def RX1 (g : Rat → Rat → D) : List D → Except Str D → Prop := fun ds r => ∃ v, ds = [v] ∧ SpZ 1000 v ∧ r = if isSpan v then .ok (g (loS v) (hiS v)) else NR
def RX2 (g : Rat → Rat → Rat → Rat → Except Str D) : List D → Except Str D → Prop := fun ds r => ∃ v w, ds = [v, w] ∧ SpZ 1000 v ∧ SpZ 1000 w ∧ r = if isSpan v && isSpan w then g (loS v) (hiS v) (loS w) (hiS w) else NR
def RXr (g : Rat → Rat → Rat → D) : List D → Except Str D → Prop := fun ds r => ∃ v w, ds = [v, w] ∧ SpZ 1000 v ∧ SzD 1000 w ∧ r = if isSpan v && isRatio w then .ok (g (loS v) (hiS v) (qOf w)) else NR
theorem errS {c : Bool} {a r : Except Str D} (h : c = false) (e : r = if c then a else NR) : r = .error "NotRight" := by rw [e, h]; rfl
section
variable {X : Cx} {σ : L2.St} {G H : Hp} {rest : List Stmt} {Z : Ends} {W : WX} {pos p pos' : Pos} {e1 e2 : Expr} {K : PySem.W.Frag} {mg : Str → Option Value}
/-- check_ratio(a) -/
theorem s_cr {x : D} (T : Txt X.K X.mg) (hr : Room 3 X.A) (tk : L2N.Takes X W) (h1 : E X e1 σ G x) (gh : Ex G H) (ok : isRatio x = true → ∀ G' H', Nx G H G' H' → wB X rest Z σ H')
    (er : isRatio x = false → ∀ c, X.mg "NotRight" = some (.ref c) → ∀ G' H', Nx G H G' H' → W (.ref c) Option.none σ H') (hg : Gl X "check_ratio" := by rfl)
    (he : starEach [e1] X.env = (false, eval e1 X.env) :: starEach [] X.env := by rfl) (hpl : (backTo pos (starEach [] X.env)).any (·.1) = false := by rfl)
    (hs : swapsWith (.Call (.Name "check_ratio" p) [e1] [] pos) Option.none pos'.line X.env = pure false := by rfl) : wB X (.Expr (.Call (.Name "check_ratio" p) [e1] [] pos) pos' :: rest) Z σ H := by
  refine s_callX (ok_check_ratio T) hr tk (a_cons h1 a_nil he) ⟨x, rfl, rfl⟩ gh (fun d hd => ok (ite_ok hd).1) (fun n c hn hc => ?_) hg (by decide) he hpl hs
  have z := ite_err hn
  rw [← z.2] at hc
  exact er z.1 c hc
end
section
variable {P : Program} {w : World} {K : PySem.W.Frag} {mg : Str → Option Value} {base : Heap}
theorem ok_width_of (T : Txt K mg) : XFn P w K mg base 8 "width_of" (RX1 q_width) :=
  xfn_of T.h_width_of sc_width_of (fun ds d ⟨v, e, _⟩ => by rw [e]; rfl) fun cdv A outer s f H Q xk hr ds r G vs ⟨v, e, z, er⟩ g hv q1 q2 => by
    subst e
    obtain ⟨u, rfl, hu⟩ := all1 hv
    refine s_sp1 T (hr.mono (by decide)) (L2N.takes_of rfl rfl rfl rfl) (e_var 0 hu) (z.up (by decide)) g (fun h G1 H1 n1 => ?_) fun h c hc G1 H1 n1 => q2 "NotRight" c (errS h er) hc G1 H1 n1
    obtain ⟨ev, hle⟩ := sp_of h
    obtain ⟨z1, z2⟩ := sp_sz h z
    exact s_ret (e_call (ok_width_by T) (hr.mono (by decide)) (a_cons (e_is (e_var 0 (Dp.mono n1.g hu)) ev) a_nil) ⟨_, _, rfl, hle, z1, z2, rfl⟩) n1.gh fun v G2 H2 n2 h2 => q1 _ (by rw [er, h]; rfl) v G2 H2 (n1.trans n2) h2
theorem ok_middle_of (T : Txt K mg) : XFn P w K mg base 8 "middle_of" (RX1 q_middle) :=
  xfn_of T.h_middle_of sc_middle_of (fun ds d ⟨v, e, _⟩ => by rw [e]; rfl) fun cdv A outer s f H Q xk hr ds r G vs ⟨v, e, z, er⟩ g hv q1 q2 => by
    subst e
    obtain ⟨u, rfl, hu⟩ := all1 hv
    refine s_sp1 T (hr.mono (by decide)) (L2N.takes_of rfl rfl rfl rfl) (e_var 0 hu) (z.up (by decide)) g (fun h G1 H1 n1 => ?_) fun h c hc G1 H1 n1 => q2 "NotRight" c (errS h er) hc G1 H1 n1
    obtain ⟨ev, hle⟩ := sp_of h
    obtain ⟨z1, z2⟩ := sp_sz h z
    exact s_ret (e_call (ok_middle_by T) (hr.mono (by decide)) (a_cons (e_is (e_var 0 (Dp.mono n1.g hu)) ev) a_nil) ⟨_, _, rfl, hle, z1, z2, rfl⟩) n1.gh fun v G2 H2 n2 h2 => q1 _ (by rw [er, h]; rfl) v G2 H2 (n1.trans n2) h2
theorem ok_size_of (T : Txt K mg) : XFn P w K mg base 8 "size_of" (RX1 q_size) :=
  xfn_of T.h_size_of sc_size_of (fun ds d ⟨v, e, _⟩ => by rw [e]; rfl) fun cdv A outer s f H Q xk hr ds r G vs ⟨v, e, z, er⟩ g hv q1 q2 => by
    subst e
    obtain ⟨u, rfl, hu⟩ := all1 hv
    refine s_sp1 T (hr.mono (by decide)) (L2N.takes_of rfl rfl rfl rfl) (e_var 0 hu) (z.up (by decide)) g (fun h G1 H1 n1 => ?_) fun h c hc G1 H1 n1 => q2 "NotRight" c (errS h er) hc G1 H1 n1
    obtain ⟨ev, hle⟩ := sp_of h
    obtain ⟨z1, z2⟩ := sp_sz h z
    exact s_ret (e_call (ok_size_of_span T) (hr.mono (by decide)) (a_cons (e_is (e_var 0 (Dp.mono n1.g hu)) ev) a_nil) ⟨_, _, rfl, hle, z1, z2, rfl⟩) n1.gh fun v G2 H2 n2 h2 => q1 _ (by rw [er, h]; rfl) v G2 H2 (n1.trans n2) h2
theorem ok_turned (T : Txt K mg) : XFn P w K mg base 8 "turned" (RX1 q_turn) :=
  xfn_of T.h_turned sc_turned (fun ds d ⟨v, e, _⟩ => by rw [e]; rfl) fun cdv A outer s f H Q xk hr ds r G vs ⟨v, e, z, er⟩ g hv q1 q2 => by
    subst e
    obtain ⟨u, rfl, hu⟩ := all1 hv
    refine s_sp1 T (hr.mono (by decide)) (L2N.takes_of rfl rfl rfl rfl) (e_var 0 hu) (z.up (by decide)) g (fun h G1 H1 n1 => ?_) fun h c hc G1 H1 n1 => q2 "NotRight" c (errS h er) hc G1 H1 n1
    obtain ⟨ev, hle⟩ := sp_of h
    obtain ⟨z1, z2⟩ := sp_sz h z
    exact s_ret (e_call (ok_turn_span T) (hr.mono (by decide)) (a_cons (e_is (e_var 0 (Dp.mono n1.g hu)) ev) a_nil) ⟨_, _, rfl, hle, z1, z2, rfl⟩) n1.gh fun v G2 H2 n2 h2 => q1 _ (by rw [er, h]; rfl) v G2 H2 (n1.trans n2) h2
theorem ok_sized (T : Txt K mg) : XFn P w K mg base 8 "sized" (RX1 q_sized) :=
  xfn_of T.h_sized sc_sized (fun ds d ⟨v, e, _⟩ => by rw [e]; rfl) fun cdv A outer s f H Q xk hr ds r G vs ⟨v, e, z, er⟩ g hv q1 q2 => by
    subst e
    obtain ⟨u, rfl, hu⟩ := all1 hv
    refine s_sp1 T (hr.mono (by decide)) (L2N.takes_of rfl rfl rfl rfl) (e_var 0 hu) (z.up (by decide)) g (fun h G1 H1 n1 => ?_) fun h c hc G1 H1 n1 => q2 "NotRight" c (errS h er) hc G1 H1 n1
    obtain ⟨ev, hle⟩ := sp_of h
    obtain ⟨z1, z2⟩ := sp_sz h z
    exact s_ret (e_call (ok_size_span T) (hr.mono (by decide)) (a_cons (e_is (e_var 0 (Dp.mono n1.g hu)) ev) a_nil) ⟨_, _, rfl, hle, z1, z2, rfl⟩) n1.gh fun v G2 H2 n2 h2 => q1 _ (by rw [er, h]; rfl) v G2 H2 (n1.trans n2) h2
theorem ok_halves_of (T : Txt K mg) : XFn P w K mg base 8 "halves_of" (RX1 q_halves) :=
  xfn_of T.h_halves_of sc_halves_of (fun ds d ⟨v, e, _⟩ => by rw [e]; rfl) fun cdv A outer s f H Q xk hr ds r G vs ⟨v, e, z, er⟩ g hv q1 q2 => by
    subst e
    obtain ⟨u, rfl, hu⟩ := all1 hv
    refine s_sp1 T (hr.mono (by decide)) (L2N.takes_of rfl rfl rfl rfl) (e_var 0 hu) (z.up (by decide)) g (fun h G1 H1 n1 => ?_) fun h c hc G1 H1 n1 => q2 "NotRight" c (errS h er) hc G1 H1 n1
    obtain ⟨ev, hle⟩ := sp_of h
    obtain ⟨z1, z2⟩ := sp_sz h z
    exact s_ret (e_call (ok_halve_span T) (hr.mono (by decide)) (a_cons (e_is (e_var 0 (Dp.mono n1.g hu)) ev) a_nil) ⟨_, _, rfl, hle, z1, z2, rfl⟩) n1.gh fun v G2 H2 n2 h2 => q1 _ (by rw [er, h]; rfl) v G2 H2 (n1.trans n2) h2
theorem ok_sign_of (T : Txt K mg) : XFn P w K mg base 8 "sign_of" (RX1 q_sign) :=
  xfn_of T.h_sign_of sc_sign_of (fun ds d ⟨v, e, _⟩ => by rw [e]; rfl) fun cdv A outer s f H Q xk hr ds r G vs ⟨v, e, z, er⟩ g hv q1 q2 => by
    subst e
    obtain ⟨u, rfl, hu⟩ := all1 hv
    refine s_sp1 T (hr.mono (by decide)) (L2N.takes_of rfl rfl rfl rfl) (e_var 0 hu) (z.up (by decide)) g (fun h G1 H1 n1 => ?_) fun h c hc G1 H1 n1 => q2 "NotRight" c (errS h er) hc G1 H1 n1
    obtain ⟨ev, hle⟩ := sp_of h
    obtain ⟨z1, z2⟩ := sp_sz h z
    exact s_ret (e_call (ok_sign_by T) (hr.mono (by decide)) (a_cons (e_is (e_var 0 (Dp.mono n1.g hu)) ev) a_nil) ⟨_, _, rfl, hle, z1, z2, rfl⟩) n1.gh fun v G2 H2 n2 h2 => q1 _ (by rw [er, h]; rfl) v G2 H2 (n1.trans n2) h2
theorem ok_added (T : Txt K mg) : XFn P w K mg base 8 "added" (RX2 (fun a b x y => .ok (q_add a b x y))) :=
  xfn_of T.h_added sc_added (fun ds d ⟨v, w, e, _⟩ => by rw [e]; rfl) fun cdv A outer s f H Q xk hr ds r G vs ⟨v, w, e, zv, zw, er⟩ g hv q1 q2 => by
    subst e
    obtain ⟨u, t, rfl, hu, ht⟩ := all2 hv
    refine s_sp2 T (hr.mono (by decide)) (L2N.takes_of rfl rfl rfl rfl) (e_var 0 hu) (e_var 1 ht) (zv.up (by decide)) (zw.up (by decide)) g (fun h h' G1 H1 n1 => ?_) fun h c hc G1 H1 n1 => q2 "NotRight" c (errS h er) hc G1 H1 n1
    obtain ⟨ev, hle⟩ := sp_of h
    obtain ⟨z1, z2⟩ := sp_sz h zv
    obtain ⟨ew, hle2⟩ := sp_of h'
    obtain ⟨z3, z4⟩ := sp_sz h' zw
    exact s_ret (e_call (ok_add_spans T) (hr.mono (by decide)) (a_cons (e_is (e_var 0 (Dp.mono n1.g hu)) ev) (a_cons (e_is (e_var 1 (Dp.mono n1.g ht)) ew) a_nil)) ⟨_, _, _, _, rfl, hle, hle2, z1, z2, z3, z4, rfl⟩) n1.gh fun v G2 H2 n2 h2 => q1 _ (by rw [er, h, h']; rfl) v G2 H2 (n1.trans n2) h2
theorem ok_subtracted (T : Txt K mg) : XFn P w K mg base 8 "subtracted" (RX2 (fun a b x y => .ok (q_sub a b x y))) :=
  xfn_of T.h_subtracted sc_subtracted (fun ds d ⟨v, w, e, _⟩ => by rw [e]; rfl) fun cdv A outer s f H Q xk hr ds r G vs ⟨v, w, e, zv, zw, er⟩ g hv q1 q2 => by
    subst e
    obtain ⟨u, t, rfl, hu, ht⟩ := all2 hv
    refine s_sp2 T (hr.mono (by decide)) (L2N.takes_of rfl rfl rfl rfl) (e_var 0 hu) (e_var 1 ht) (zv.up (by decide)) (zw.up (by decide)) g (fun h h' G1 H1 n1 => ?_) fun h c hc G1 H1 n1 => q2 "NotRight" c (errS h er) hc G1 H1 n1
    obtain ⟨ev, hle⟩ := sp_of h
    obtain ⟨z1, z2⟩ := sp_sz h zv
    obtain ⟨ew, hle2⟩ := sp_of h'
    obtain ⟨z3, z4⟩ := sp_sz h' zw
    exact s_ret (e_call (ok_less_spans T) (hr.mono (by decide)) (a_cons (e_is (e_var 0 (Dp.mono n1.g hu)) ev) (a_cons (e_is (e_var 1 (Dp.mono n1.g ht)) ew) a_nil)) ⟨_, _, _, _, rfl, hle, hle2, z1, z2, z3, z4, rfl⟩) n1.gh fun v G2 H2 n2 h2 => q1 _ (by rw [er, h, h']; rfl) v G2 H2 (n1.trans n2) h2
theorem ok_parted (T : Txt K mg) : XFn P w K mg base 8 "parted" (RX2 q_part) :=
  xfn_of T.h_parted sc_parted (fun ds d ⟨v, w, e, _⟩ => by rw [e]; rfl) fun cdv A outer s f H Q xk hr ds r G vs ⟨v, w, e, zv, zw, er⟩ g hv q1 q2 => by
    subst e
    obtain ⟨u, t, rfl, hu, ht⟩ := all2 hv
    refine s_sp2 T (hr.mono (by decide)) (L2N.takes_of rfl rfl rfl rfl) (e_var 0 hu) (e_var 1 ht) (zv.up (by decide)) (zw.up (by decide)) g (fun h h' G1 H1 n1 => ?_) fun h c hc G1 H1 n1 => q2 "NotRight" c (errS h er) hc G1 H1 n1
    obtain ⟨ev, hle⟩ := sp_of h
    obtain ⟨z1, z2⟩ := sp_sz h zv
    obtain ⟨ew, hle2⟩ := sp_of h'
    obtain ⟨z3, z4⟩ := sp_sz h' zw
    exact s_retX (W := fun v u _ H => xk v u H) (r := r) (ex_call (ok_part_spans T) (hr.mono (by decide)) (L2N.takes_of rfl rfl rfl rfl) (ax_of (a_cons (e_is (e_var 0 (Dp.mono n1.g hu)) ev) (a_cons (e_is (e_var 1 (Dp.mono n1.g ht)) ew) a_nil))) (fun ds hd => by cases hd; exact ⟨_, _, _, _, rfl, hle2, z1, z2, z3, z4, by rw [er, h, h']; rfl⟩) fun n hn => by cases hn) n1.gh (fun d hd v G2 H2 n2 h2 => q1 d hd v G2 H2 (n1.trans n2) h2) fun nm c hn hc G2 H2 n2 => q2 nm c hn hc G2 H2 (n1.trans n2)
theorem ok_least_two (T : Txt K mg) : XFn P w K mg base 8 "least_two" (RX2 (fun a b x y => .ok (q_least a b x y))) :=
  xfn_of T.h_least_two sc_least_two (fun ds d ⟨v, w, e, _⟩ => by rw [e]; rfl) fun cdv A outer s f H Q xk hr ds r G vs ⟨v, w, e, zv, zw, er⟩ g hv q1 q2 => by
    subst e
    obtain ⟨u, t, rfl, hu, ht⟩ := all2 hv
    refine s_sp2 T (hr.mono (by decide)) (L2N.takes_of rfl rfl rfl rfl) (e_var 0 hu) (e_var 1 ht) (zv.up (by decide)) (zw.up (by decide)) g (fun h h' G1 H1 n1 => ?_) fun h c hc G1 H1 n1 => q2 "NotRight" c (errS h er) hc G1 H1 n1
    obtain ⟨ev, hle⟩ := sp_of h
    obtain ⟨z1, z2⟩ := sp_sz h zv
    obtain ⟨ew, hle2⟩ := sp_of h'
    obtain ⟨z3, z4⟩ := sp_sz h' zw
    exact s_ret (e_call (ok_least_by T) (hr.mono (by decide)) (a_cons (e_is (e_var 0 (Dp.mono n1.g hu)) ev) (a_cons (e_is (e_var 1 (Dp.mono n1.g ht)) ew) a_nil)) ⟨_, _, _, _, rfl, hle, hle2, z1, z2, z3, z4, rfl⟩) n1.gh fun v G2 H2 n2 h2 => q1 _ (by rw [er, h, h']; rfl) v G2 H2 (n1.trans n2) h2
theorem ok_greatest_two (T : Txt K mg) : XFn P w K mg base 8 "greatest_two" (RX2 (fun a b x y => .ok (q_greatest a b x y))) :=
  xfn_of T.h_greatest_two sc_greatest_two (fun ds d ⟨v, w, e, _⟩ => by rw [e]; rfl) fun cdv A outer s f H Q xk hr ds r G vs ⟨v, w, e, zv, zw, er⟩ g hv q1 q2 => by
    subst e
    obtain ⟨u, t, rfl, hu, ht⟩ := all2 hv
    refine s_sp2 T (hr.mono (by decide)) (L2N.takes_of rfl rfl rfl rfl) (e_var 0 hu) (e_var 1 ht) (zv.up (by decide)) (zw.up (by decide)) g (fun h h' G1 H1 n1 => ?_) fun h c hc G1 H1 n1 => q2 "NotRight" c (errS h er) hc G1 H1 n1
    obtain ⟨ev, hle⟩ := sp_of h
    obtain ⟨z1, z2⟩ := sp_sz h zv
    obtain ⟨ew, hle2⟩ := sp_of h'
    obtain ⟨z3, z4⟩ := sp_sz h' zw
    exact s_ret (e_call (ok_greatest_by T) (hr.mono (by decide)) (a_cons (e_is (e_var 0 (Dp.mono n1.g hu)) ev) (a_cons (e_is (e_var 1 (Dp.mono n1.g ht)) ew) a_nil)) ⟨_, _, _, _, rfl, hle, hle2, z1, z2, z3, z4, rfl⟩) n1.gh fun v G2 H2 n2 h2 => q1 _ (by rw [er, h, h']; rfl) v G2 H2 (n1.trans n2) h2
theorem ok_common (T : Txt K mg) : XFn P w K mg base 8 "common" (RX2 (fun a b x y => .ok (q_common a b x y))) :=
  xfn_of T.h_common sc_common (fun ds d ⟨v, w, e, _⟩ => by rw [e]; rfl) fun cdv A outer s f H Q xk hr ds r G vs ⟨v, w, e, zv, zw, er⟩ g hv q1 q2 => by
    subst e
    obtain ⟨u, t, rfl, hu, ht⟩ := all2 hv
    refine s_sp2 T (hr.mono (by decide)) (L2N.takes_of rfl rfl rfl rfl) (e_var 0 hu) (e_var 1 ht) (zv.up (by decide)) (zw.up (by decide)) g (fun h h' G1 H1 n1 => ?_) fun h c hc G1 H1 n1 => q2 "NotRight" c (errS h er) hc G1 H1 n1
    obtain ⟨ev, hle⟩ := sp_of h
    obtain ⟨z1, z2⟩ := sp_sz h zv
    obtain ⟨ew, hle2⟩ := sp_of h'
    obtain ⟨z3, z4⟩ := sp_sz h' zw
    exact s_ret (e_call (ok_common_by T) (hr.mono (by decide)) (a_cons (e_is (e_var 0 (Dp.mono n1.g hu)) ev) (a_cons (e_is (e_var 1 (Dp.mono n1.g ht)) ew) a_nil)) ⟨_, _, _, _, rfl, hle, hle2, z1, z2, z3, z4, rfl⟩) n1.gh fun v G2 H2 n2 h2 => q1 _ (by rw [er, h, h']; rfl) v G2 H2 (n1.trans n2) h2
theorem ok_around (T : Txt K mg) : XFn P w K mg base 8 "around" (RX2 (fun a b x y => .ok (q_around a b x y))) :=
  xfn_of T.h_around sc_around (fun ds d ⟨v, w, e, _⟩ => by rw [e]; rfl) fun cdv A outer s f H Q xk hr ds r G vs ⟨v, w, e, zv, zw, er⟩ g hv q1 q2 => by
    subst e
    obtain ⟨u, t, rfl, hu, ht⟩ := all2 hv
    refine s_sp2 T (hr.mono (by decide)) (L2N.takes_of rfl rfl rfl rfl) (e_var 0 hu) (e_var 1 ht) (zv.up (by decide)) (zw.up (by decide)) g (fun h h' G1 H1 n1 => ?_) fun h c hc G1 H1 n1 => q2 "NotRight" c (errS h er) hc G1 H1 n1
    obtain ⟨ev, hle⟩ := sp_of h
    obtain ⟨z1, z2⟩ := sp_sz h zv
    obtain ⟨ew, hle2⟩ := sp_of h'
    obtain ⟨z3, z4⟩ := sp_sz h' zw
    exact s_ret (e_call (ok_around_by T) (hr.mono (by decide)) (a_cons (e_is (e_var 0 (Dp.mono n1.g hu)) ev) (a_cons (e_is (e_var 1 (Dp.mono n1.g ht)) ew) a_nil)) ⟨_, _, _, _, rfl, hle, hle2, z1, z2, z3, z4, rfl⟩) n1.gh fun v G2 H2 n2 h2 => q1 _ (by rw [er, h, h']; rfl) v G2 H2 (n1.trans n2) h2
theorem ok_is_within_span (T : Txt K mg) : XFn P w K mg base 8 "is_within_span" (RX2 (fun a b x y => .ok (q_within a b x y))) :=
  xfn_of T.h_is_within_span sc_is_within_span (fun ds d ⟨v, w, e, _⟩ => by rw [e]; rfl) fun cdv A outer s f H Q xk hr ds r G vs ⟨v, w, e, zv, zw, er⟩ g hv q1 q2 => by
    subst e
    obtain ⟨u, t, rfl, hu, ht⟩ := all2 hv
    refine s_sp2 T (hr.mono (by decide)) (L2N.takes_of rfl rfl rfl rfl) (e_var 0 hu) (e_var 1 ht) (zv.up (by decide)) (zw.up (by decide)) g (fun h h' G1 H1 n1 => ?_) fun h c hc G1 H1 n1 => q2 "NotRight" c (errS h er) hc G1 H1 n1
    obtain ⟨ev, hle⟩ := sp_of h
    obtain ⟨z1, z2⟩ := sp_sz h zv
    obtain ⟨ew, hle2⟩ := sp_of h'
    obtain ⟨z3, z4⟩ := sp_sz h' zw
    exact s_ret (e_call (ok_within_by T) (hr.mono (by decide)) (a_cons (e_is (e_var 0 (Dp.mono n1.g hu)) ev) (a_cons (e_is (e_var 1 (Dp.mono n1.g ht)) ew) a_nil)) ⟨_, _, _, _, rfl, hle, hle2, z1, z2, z3, z4, rfl⟩) n1.gh fun v G2 H2 n2 h2 => q1 _ (by rw [er, h, h']; rfl) v G2 H2 (n1.trans n2) h2
theorem ok_is_inside (T : Txt K mg) : XFn P w K mg base 8 "is_inside" (RX2 (fun a b x y => .ok (q_inside a b x y))) :=
  xfn_of T.h_is_inside sc_is_inside (fun ds d ⟨v, w, e, _⟩ => by rw [e]; rfl) fun cdv A outer s f H Q xk hr ds r G vs ⟨v, w, e, zv, zw, er⟩ g hv q1 q2 => by
    subst e
    obtain ⟨u, t, rfl, hu, ht⟩ := all2 hv
    refine s_sp2 T (hr.mono (by decide)) (L2N.takes_of rfl rfl rfl rfl) (e_var 0 hu) (e_var 1 ht) (zv.up (by decide)) (zw.up (by decide)) g (fun h h' G1 H1 n1 => ?_) fun h c hc G1 H1 n1 => q2 "NotRight" c (errS h er) hc G1 H1 n1
    obtain ⟨ev, hle⟩ := sp_of h
    obtain ⟨z1, z2⟩ := sp_sz h zv
    obtain ⟨ew, hle2⟩ := sp_of h'
    obtain ⟨z3, z4⟩ := sp_sz h' zw
    exact s_ret (e_call (ok_inside_by T) (hr.mono (by decide)) (a_cons (e_is (e_var 0 (Dp.mono n1.g hu)) ev) (a_cons (e_is (e_var 1 (Dp.mono n1.g ht)) ew) a_nil)) ⟨_, _, _, _, rfl, hle, hle2, z1, z2, z3, z4, rfl⟩) n1.gh fun v G2 H2 n2 h2 => q1 _ (by rw [er, h, h']; rfl) v G2 H2 (n1.trans n2) h2
theorem ok_scaled (T : Txt K mg) : XFn P w K mg base 8 "scaled" (RXr q_scale) :=
  xfn_of T.h_scaled sc_scaled (fun ds d ⟨v, w, e, _⟩ => by rw [e]; rfl) fun cdv A outer s f H Q xk hr ds r G vs ⟨v, w, e, zv, zw, er⟩ g hv q1 q2 => by
    subst e
    obtain ⟨u, t, rfl, hu, ht⟩ := all2 hv
    refine s_sp1 T (hr.mono (by decide)) (L2N.takes_of rfl rfl rfl rfl) (e_var 0 hu) (zv.up (by decide)) g (fun h G1 H1 n1 => ?_) fun h c hc G1 H1 n1 => q2 "NotRight" c (by rw [er, h]; rfl) hc G1 H1 n1
    obtain ⟨ev, hle⟩ := sp_of h
    obtain ⟨z1, z2⟩ := sp_sz h zv
    refine s_cr T (hr.mono (by decide)) (L2N.takes_of rfl rfl rfl rfl) (e_var 1 (Dp.mono n1.g ht)) n1.gh (fun h' G2 H2 n2 => ?_) fun h' c hc G2 H2 n2 => q2 "NotRight" c (by rw [er, h, h']; rfl) hc G2 H2 (n1.trans n2)
    exact s_ret (e_call (ok_scale_span T) (hr.mono (by decide)) (a_cons (e_is (e_var 0 (Dp.mono n2.g (Dp.mono n1.g hu))) ev) (a_cons (e_is (e_var 1 (Dp.mono n2.g (Dp.mono n1.g ht))) (rd_qOf h')) a_nil)) ⟨_, _, _, rfl, hle, z1, z2, zw h', rfl⟩) n2.gh fun v G3 H3 n3 h3 => q1 _ (by rw [er, h, h']; rfl) v G3 H3 (n1.trans (n2.trans n3)) h3
theorem ok_has (T : Txt K mg) : XFn P w K mg base 8 "has" (RXr q_has) :=
  xfn_of T.h_has sc_has (fun ds d ⟨v, w, e, _⟩ => by rw [e]; rfl) fun cdv A outer s f H Q xk hr ds r G vs ⟨v, w, e, zv, zw, er⟩ g hv q1 q2 => by
    subst e
    obtain ⟨u, t, rfl, hu, ht⟩ := all2 hv
    refine s_sp1 T (hr.mono (by decide)) (L2N.takes_of rfl rfl rfl rfl) (e_var 0 hu) (zv.up (by decide)) g (fun h G1 H1 n1 => ?_) fun h c hc G1 H1 n1 => q2 "NotRight" c (by rw [er, h]; rfl) hc G1 H1 n1
    obtain ⟨ev, hle⟩ := sp_of h
    obtain ⟨z1, z2⟩ := sp_sz h zv
    refine s_cr T (hr.mono (by decide)) (L2N.takes_of rfl rfl rfl rfl) (e_var 1 (Dp.mono n1.g ht)) n1.gh (fun h' G2 H2 n2 => ?_) fun h' c hc G2 H2 n2 => q2 "NotRight" c (by rw [er, h, h']; rfl) hc G2 H2 (n1.trans n2)
    exact s_ret (e_call (ok_has_by T) (hr.mono (by decide)) (a_cons (e_is (e_var 0 (Dp.mono n2.g (Dp.mono n1.g hu))) ev) (a_cons (e_is (e_var 1 (Dp.mono n2.g (Dp.mono n1.g ht))) (rd_qOf h')) a_nil)) ⟨_, _, _, rfl, hle, z1, z2, zw h', rfl⟩) n2.gh fun v G3 H3 n3 h3 => q1 _ (by rw [er, h, h']; rfl) v G3 H3 (n1.trans (n2.trans n3)) h3
def R_powered : List D → Except Str D → Prop := fun ds r => ∃ v w m, ds = [v, w] ∧ 0 < m ∧ m ≤ 1000 ∧ SpZ m v ∧ (within (-64) 64 w = true → m * (intOf w).natAbs ≤ 1000) ∧ r = if isSpan v && within (-64) 64 w then q_pow (loS v) (hiS v) (intOf w) else NR
def R_round : List D → Except Str D → Prop := fun ds r => ∃ v w, ds = [v, w] ∧ SpZ 1000 v ∧ True ∧ r = if isSpan v && within 0 20000 w then .ok (q_round (loS v) (hiS v) (intOf w).toNat) else NR
def nnR (w : D) : Bool := isRatio w && decide (0 ≤ (qOf w).num)
def R_grown : List D → Except Str D → Prop := fun ds r => ∃ v w, ds = [v, w] ∧ SpZ 1000 v ∧ SzD 1000 w ∧ r = if isSpan v && nnR w then .ok (q_grow (loS v) (hiS v) (qOf w)) else NR
theorem ok_powered (T : Txt K mg) : XFn P w K mg base 8 "powered" R_powered :=
  xfn_of T.h_powered sc_powered (fun ds d ⟨v, w, _, e, _⟩ => by rw [e]; rfl) fun cdv A outer s f H Q xk hr ds r G vs ⟨v, w, m, e, hm, hm2, zv, zw, er⟩ g hv q1 q2 => by
    subst e
    obtain ⟨u, t, rfl, hu, ht⟩ := all2 hv
    refine s_sp1 T (hr.mono (by decide)) (L2N.takes_of rfl rfl rfl rfl) (e_var 0 hu) (zv.up (by omega)) g (fun h G1 H1 n1 => ?_) fun h c hc G1 H1 n1 => q2 "NotRight" c (by rw [er, h]; rfl) hc G1 H1 n1
    obtain ⟨ev, hle⟩ := sp_of h
    obtain ⟨z1, z2⟩ := sp_sz h zv
    have hu := Dp.mono n1.g hu
    have ht := Dp.mono n1.g ht
    refine s_chk (k := within (-64) 64 w) T (hr.mono (by decide)) (L2N.takes_of rfl rfl rfl rfl) (e_call (ok_is_within T) (hr.mono (by decide)) (a_cons (e_var 1 ht) (a_cons (e_neg (e_globI' T.c_MOST_DEGREE)) (a_cons (e_globI' T.c_MOST_DEGREE) a_nil))) ⟨w, _, _, rfl, rfl⟩) n1.gh (fun h2 G2 H2 n2 => ?_) fun h2 c hc G2 H2 n2 => q2 "NotRight" c (by rw [er, h, h2]; rfl) hc G2 H2 (n1.trans n2)
    have hu := Dp.mono n2.g hu
    have ht := Dp.mono n2.g ht
    obtain ⟨i, rfl, hi1, hi2⟩ := within_of h2
    exact s_retX (W := fun v u _ H => xk v u H) (r := r) (ex_call (ok_power_span T) (hr.mono (by decide)) (L2N.takes_of rfl rfl rfl rfl) (ax_of (a_cons (e_is (e_var 0 hu) ev) (a_cons (e_var 1 ht) a_nil))) (fun ds hd => by cases hd; exact ⟨_, _, _, m, rfl, hle, hm, z1, z2, hm2, zw h2, (fun z => nomatch z), by rw [er, h, h2]; rfl⟩) fun n hn => by cases hn) n2.gh (fun d hd v G3 H3 n3 h3 => q1 d hd v G3 H3 (n1.trans (n2.trans n3)) h3) fun nm c hn hc G3 H3 n3 => q2 nm c hn hc G3 H3 (n1.trans (n2.trans n3))
theorem ok_rounded_out (T : Txt K mg) : XFn P w K mg base 8 "rounded_out" R_round :=
  xfn_of T.h_rounded_out sc_rounded_out (fun ds d ⟨v, w, e, _⟩ => by rw [e]; rfl) fun cdv A outer s f H Q xk hr ds r G vs ⟨v, w, e, zv, zw, er⟩ g hv q1 q2 => by
    subst e
    obtain ⟨u, t, rfl, hu, ht⟩ := all2 hv
    refine s_sp1 T (hr.mono (by decide)) (L2N.takes_of rfl rfl rfl rfl) (e_var 0 hu) (zv.up (by decide)) g (fun h G1 H1 n1 => ?_) fun h c hc G1 H1 n1 => q2 "NotRight" c (by rw [er, h]; rfl) hc G1 H1 n1
    obtain ⟨ev, hle⟩ := sp_of h
    obtain ⟨z1, z2⟩ := sp_sz h zv
    have hu := Dp.mono n1.g hu
    have ht := Dp.mono n1.g ht
    refine s_chk (k := within 0 20000 w) T (hr.mono (by decide)) (L2N.takes_of rfl rfl rfl rfl) (e_call (ok_is_within T) (hr.mono (by decide)) (a_cons (e_var 1 ht) (a_cons e_int (a_cons (e_globI' T.c_MOST_BITS) a_nil))) ⟨w, _, _, rfl, rfl⟩) n1.gh (fun h2 G2 H2 n2 => ?_) fun h2 c hc G2 H2 n2 => q2 "NotRight" c (by rw [er, h, h2]; rfl) hc G2 H2 (n1.trans n2)
    have hu := Dp.mono n2.g hu
    have ht := Dp.mono n2.g ht
    obtain ⟨i, rfl, hi1, hi2⟩ := within_of h2
    obtain ⟨k, rfl⟩ := Int.eq_ofNat_of_zero_le hi1
    exact s_ret (e_call (ok_round_span T) (hr.mono (by decide)) (a_cons (e_is (e_var 0 hu) ev) (a_cons (e_var 1 ht) a_nil)) ⟨_, _, k, rfl, by omega, z1, z2, rfl⟩) n2.gh fun v G3 H3 n3 h3 => q1 _ (by rw [er, h, h2]; rfl) v G3 H3 (n1.trans (n2.trans n3)) h3
theorem ok_grown (T : Txt K mg) : XFn P w K mg base 8 "grown" R_grown :=
  xfn_of T.h_grown sc_grown (fun ds d ⟨v, w, e, _⟩ => by rw [e]; rfl) fun cdv A outer s f H Q xk hr ds r G vs ⟨v, w, e, zv, zw, er⟩ g hv q1 q2 => by
    subst e
    obtain ⟨u, t, rfl, hu, ht⟩ := all2 hv
    refine s_sp1 T (hr.mono (by decide)) (L2N.takes_of rfl rfl rfl rfl) (e_var 0 hu) (zv.up (by decide)) g (fun h G1 H1 n1 => ?_) fun h c hc G1 H1 n1 => q2 "NotRight" c (by rw [er, h]; rfl) hc G1 H1 n1
    obtain ⟨ev, hle⟩ := sp_of h
    obtain ⟨z1, z2⟩ := sp_sz h zv
    have hu := Dp.mono n1.g hu
    have ht := Dp.mono n1.g ht
    refine s_chk (k := nnR w) T (hr.mono (by decide)) (L2N.takes_of rfl rfl rfl rfl) (e_and2 (l := decide (0 ≤ (qOf w).num)) (e_call (ok_is_ratio T) (hr.mono (by decide)) (a_cons (e_var 1 ht) a_nil) ⟨w, rfl, rfl⟩) fun hw => e_ge (e_ixT (e_is (e_var 1 ht) (rd_qOf hw)) e_int rfl) e_int) n1.gh (fun h2 G2 H2 n2 => ?_) fun h2 c hc G2 H2 n2 => q2 "NotRight" c (by rw [er, h, h2]; rfl) hc G2 H2 (n1.trans n2)
    have hu := Dp.mono n2.g hu
    have ht := Dp.mono n2.g ht
    have hw : isRatio w = true := by unfold nnR at h2; rw [Bool.and_eq_true] at h2; exact h2.1
    exact s_ret (e_call (ok_grow_span T) (hr.mono (by decide)) (a_cons (e_is (e_var 0 hu) ev) (a_cons (e_is (e_var 1 ht) (rd_qOf hw)) a_nil)) ⟨_, _, _, rfl, hle, z1, z2, zw hw, rfl⟩) n2.gh fun v G3 H3 n3 h3 => q1 _ (by rw [er, h, h2]; rfl) v G3 H3 (n1.trans (n2.trans n3)) h3
def R_point : List D → Except Str D → Prop := fun ds r => ∃ v, ds = [v] ∧ r = if isRatio v then .ok (.tuple [v, v]) else NR
theorem ok_point (T : Txt K mg) : XFn P w K mg base 8 "point" R_point :=
  xfn_of T.h_point sc_point (fun ds d ⟨v, e, _⟩ => by rw [e]; rfl) fun cdv A outer s f H Q xk hr ds r G vs ⟨v, e, er⟩ g hv q1 q2 => by
    subst e
    obtain ⟨u, rfl, hu⟩ := all1 hv
    refine s_cr T (hr.mono (by decide)) (L2N.takes_of rfl rfl rfl rfl) (e_var 0 hu) g (fun h G1 H1 n1 => ?_) fun h c hc G1 H1 n1 => q2 "NotRight" c (errS h er) hc G1 H1 n1
    have hu := Dp.mono n1.g hu
    exact s_ret (e_tup (a_cons (e_var 0 hu) (a_cons (e_var 0 hu) a_nil))) n1.gh fun v G2 H2 n2 h2 => q1 _ (by rw [er, h]; rfl) v G2 H2 (n1.trans n2) h2
def R_span_of : List D → Except Str D → Prop := fun ds r => ∃ v w, ds = [v, w] ∧ SzD 3000 v ∧ SzD 3000 w ∧ r = if isRatio v && isRatio w then .ok (spq (qOf v) (qOf w)) else NR
theorem ok_span_of (T : Txt K mg) : XFn P w K mg base 8 "span_of" R_span_of :=
  xfn_of T.h_span_of sc_span_of (fun ds d ⟨v, w, e, _⟩ => by rw [e]; rfl) fun cdv A outer s f H Q xk hr ds r G vs ⟨v, w, e, zv, zw, er⟩ g hv q1 q2 => by
    subst e
    obtain ⟨u, t, rfl, hu, ht⟩ := all2 hv
    refine s_cr T (hr.mono (by decide)) (L2N.takes_of rfl rfl rfl rfl) (e_var 0 hu) g (fun h G1 H1 n1 => ?_) fun h c hc G1 H1 n1 => q2 "NotRight" c (by rw [er, h]; rfl) hc G1 H1 n1
    have hu := Dp.mono n1.g hu
    have ht := Dp.mono n1.g ht
    refine s_cr T (hr.mono (by decide)) (L2N.takes_of rfl rfl rfl rfl) (e_var 1 ht) n1.gh (fun h2 G2 H2 n2 => ?_) fun h2 c hc G2 H2 n2 => q2 "NotRight" c (by rw [er, h, h2]; rfl) hc G2 H2 (n1.trans n2)
    exact s_ret (e_call (ok_span_by T) (hr.mono (by decide)) (a_cons (e_is (e_var 0 (Dp.mono n2.g hu)) (rd_qOf h)) (a_cons (e_is (e_var 1 (Dp.mono n2.g ht)) (rd_qOf h2)) a_nil)) ⟨_, _, rfl, zv h, zw h2, rfl⟩) n2.gh fun v G3 H3 n3 h3 => q1 _ (by rw [er, h, h2]; rfl) v G3 H3 (n1.trans (n2.trans n3)) h3
end
end K01

/-! D15: dicts. -/
namespace DL
open PySem PySem.Spec PyProof.Rows SX
open L2 hiding Dp DpAll
def mkD (kvs : List (Key × D)) : D := .dict (kvs.map fun p => (kD p.1, p.2))
def getK (kvs : List (Key × D)) (k : Key) : Option D := (kvs.find? fun kv => decide (kv.1 = k)).map (·.2)
theorem kD_inj {a b : Key} (h : kD a = kD b) : a = b := by
  cases a <;> cases b <;> first | (injection h with h; rw [h]) | cases h
theorem getK_pos {p : Key × D} {r : List (Key × D)} {k : Key} (e : p.1 = k) : getK (p :: r) k = some p.2 := by simp [getK, List.find?_cons, e]
theorem getK_neg {p : Key × D} {r : List (Key × D)} {k : Key} (e : ¬ p.1 = k) : getK (p :: r) k = getK r k := by simp [getK, List.find?_cons, e]
section
variable {K : PySem.W.Frag} {H : Hp}
theorem DpKV.cons_inv {xs : List (Key × V)} {k : Key} {d : D} {ds : List (D × D)} (h : DpKV K H xs ((kD k, d) :: ds)) : ∃ v r, xs = (k, v) :: r ∧ Dp K H v d ∧ DpKV K H r ds := by
  generalize e : ((kD k, d) :: ds) = l at h
  cases h with
  | nil => cases e
  | cons h r =>
    injection e with e1 e2
    injection e1 with e3 e4
    rw [← e4] at h
    rw [← e2] at r
    exact ⟨_, _, by rw [kD_inj e3], h, r⟩
theorem DpKV.inv : ∀ {kvs : List (Key × D)} {xs : List (Key × V)}, DpKV K H xs (kvs.map fun p => (kD p.1, p.2)) → xs.map (·.1) = kvs.map (·.1) ∧ DpAll K H (xs.map (·.2)) (kvs.map (·.2))
  | [], xs, h => by cases h; exact ⟨rfl, .nil⟩
  | p :: kvs, xs, h => by
    obtain ⟨v, r, rfl, hv, hr⟩ := DpKV.cons_inv (k := p.1) (d := p.2) h
    obtain ⟨h1, h2⟩ := DpKV.inv hr
    exact ⟨by rw [List.map_cons, List.map_cons, h1], .cons hv h2⟩
theorem DpKV.mk' : ∀ {kvs : List (Key × D)} {xs : List (Key × V)}, xs.map (·.1) = kvs.map (·.1) → DpAll K H (xs.map (·.2)) (kvs.map (·.2)) → DpKV K H xs (kvs.map fun p => (kD p.1, p.2))
  | [], [], _, _ => .nil
  | p :: kvs, x :: xs, h, a => by
    rw [List.map_cons, List.map_cons] at h
    injection h with h1 h2
    cases a with
    | cons hv hr =>
      rw [List.map_cons, ← h1]
      exact .cons hv (DpKV.mk' h2 hr)
theorem DpKV.get : ∀ {kvs : List (Key × D)} {xs : List (Key × V)} (k : Key), DpKV K H xs (kvs.map fun p => (kD p.1, p.2)) → (getK kvs k = Option.none ∧ valV xs k = Option.none) ∨ ∃ v d, getK kvs k = some d ∧ valV xs k = some v ∧ Dp K H v d
  | [], xs, k, h => by cases h; exact .inl ⟨rfl, rfl⟩
  | p :: kvs, xs, k, h => by
    obtain ⟨v, r, rfl, hv, hr⟩ := DpKV.cons_inv (k := p.1) (d := p.2) h
    by_cases e : p.1 = k
    · exact .inr ⟨v, p.2, getK_pos e, valV_pos e, hv⟩
    · rw [getK_neg e, valV_neg (p := (p.1, v)) e]
      exact DpKV.get k hr
theorem Dp.mk_inv {v : V} {kvs : List (Key × D)} (h : Dp K H v (mkD kvs)) : ∃ a o xs, v = .ref a ∧ H a = some (.frz o (.dK xs)) ∧ DpKV K H xs (kvs.map fun p => (kD p.1, p.2)) := Dp.dic_inv h
theorem Dp.key {v : V} {k : Key} (h : Dp K H v (kD k)) : v = kV k := by
  cases k <;> (cases h; rfl)
theorem Dp.ofKey (k : Key) : Dp K H (kV k) (kD k) := by
  cases k with
  | inl i => exact .int i
  | inr x => exact .str x
end
section
variable {X : Cx} {σ : L2.St} {G H : Hp} {a b e : Expr} {es : List Expr} {pos p : Pos} {d : D} {kvs : List (Key × D)} {k : Key}
theorem ex_frz {o : Obj} {u : HO} {p : Addr} {G H : Hp} (g : Ex G H) (h : G p = some (.frz o u)) : H p = some (.frz o u) := g _ _ h
/-- d[k] -/
theorem e_dget (hu : X.A.units + 64 < cLine) (ha : E X a σ G (mkD kvs)) (hb : E X b σ G (kD k)) (h : getK kvs k = some d) (hs : NoSl b := by exact fun _ _ => rfl) : E X (.Subscript a b pos) σ G d := fun G1 H1 g gh Q q =>
  ⟨_, pe_dget (by omega) pe_w pe_w hs, ha G1 H1 g gh _ fun u G2 H2 n2 hu => hb G2 H2 (g.trans n2.g) n2.gh _ fun v G3 H3 n3 hv => by
    obtain ⟨p, o, xs, rfl, hp, hx⟩ := Dp.mk_inv hu
    obtain rfl := Dp.key hv
    rcases DpKV.get k hx with ⟨z, _⟩ | ⟨w, d', h1, h2, h3⟩
    · rw [h] at z; cases z
    · rw [h] at h1
      cases h1
      exact ⟨p, w, rfl, .inl ⟨xs, k, .inr ⟨o, n3.gh _ _ (n3.g _ _ hp)⟩, rfl, h2.symm⟩, q w G3 H3 (n2.trans n3) (Dp.mono n3.g h3)⟩⟩
/-- k in d -/
theorem e_din (hu : X.A.units + 64 < cLine) (ha : E X a σ G (kD k)) (hb : E X b σ G (mkD kvs)) (h1 : PC X .In a b (tDIn (wE X a) (wE X b)) → PE X (.Compare a [.In] [b] pos) (tDIn (wE X a) (wE X b))) : E X (.Compare a [.In] [b] pos) σ G (.bool (getK kvs k).isSome) := fun G1 H1 g gh Q q =>
  ⟨_, h1 (pc_din (by omega) pe_w pe_w), ha G1 H1 g gh _ fun u G2 H2 n2 hu => hb G2 H2 (g.trans n2.g) n2.gh _ fun v G3 H3 n3 hv => by
    obtain ⟨p, o, xs, rfl, hp, hx⟩ := Dp.mk_inv hv
    obtain rfl := Dp.key hu
    rcases DpKV.get k hx with ⟨z, z2⟩ | ⟨w, d', h1, h2, h3⟩
    · rw [z] at q
      exact ⟨p, Option.none, rfl, .inl ⟨xs, k, .inr ⟨o, n3.gh _ _ hp⟩, rfl, z2.symm⟩, q _ G3 H3 (n2.trans n3) (.bl _)⟩
    · rw [h1] at q
      exact ⟨p, some w, rfl, .inl ⟨xs, k, .inr ⟨o, n3.gh _ _ hp⟩, rfl, h2.symm⟩, q _ G3 H3 (n2.trans n3) (.bl _)⟩⟩
/-- len(d) -/
theorem call_lenR : CallR X (.builtin "len") (fun xs H Q => ∃ a kvs, xs = [V.ref a] ∧ Rd H a (.dK kvs) ∧ Q (.int kvs.length) H) := by
  intro pins s σ H xs us Q I r h
  obtain ⟨a, kvs, rfl, ha, q⟩ := h
  obtain ⟨u, rfl, ru⟩ := vals1 r
  cases ru
  exact d_len I ha fun t s' I' => ⟨.int kvs.length, H, I', ⟨t, rfl⟩, q⟩
theorem e_lenD (hm : X.mg "len" = Option.none) (ha : E X a σ G (mkD kvs)) (hg : Gl X "len" := by rfl) (he : starEach [a] X.env = (false, eval a X.env) :: starEach [] X.env := by rfl) (hpl : (backTo pos (starEach [] X.env)).any (·.1) = false := by rfl) : E X (.Call (.Name "len" p) [a] [] pos) σ G (.int kvs.length) :=
  e_callB call_lenR hm (by decide +kernel) (a_cons ha a_nil he) (fun us G1 H1 _ gh hu Q q => by
    obtain ⟨u, rfl, h⟩ := all1 hu
    obtain ⟨p, o, xs, rfl, hp, hx⟩ := Dp.mk_inv h
    have hl : xs.length = kvs.length := by have := congrArg List.length (DpKV.inv hx).1; simpa using this
    exact ⟨p, xs, rfl, .inr ⟨o, gh _ _ hp⟩, by rw [hl]; exact q _ G1 H1 (Nx.refl gh) (.int _)⟩) hg (by decide) (by decide) he hpl
/-- list(d): its keys (a frozen one too) -/
theorem call_list_dR (hc : X.calm = true) : CallR X (.type "list") (fun xs H Q => ∃ p kvs, xs = [.ref p] ∧ Rd H p (.dK kvs) ∧ ∀ q, H q = none → Q (.ref q) (upd H q (.lst (kvs.map fun kv => kV kv.1)))) := by
  intro pins s σ H xs us Q I r h
  obtain ⟨p, kvs, e, hk, q⟩ := h
  subst e
  obtain ⟨u, eu, rx⟩ := vals1 r
  subst eu
  obtain rfl : u = Value.ref p := rx
  obtain ⟨z, lo, vs, rk, hd⟩ := dk_rd I.hok hk
  obtain ⟨ep, hat⟩ := hd.dictAt
  have hl : kvs.length = vs.length := Paired.length rk
  refine PySem.W.kdl_call (PySem.W.kdl_dict (knd := mixKind X.prog X.w) (kvs := vs) (ep := ep) lo) (I.ok.hd hc) hat (by rw [← hl]; exact z) fun h' tk acc' c' hkeep hS hacc => ?_
  refine ⟨.ref s.heap.objs.size, upd H s.heap.objs.size (.lst (kvs.map fun kv => kV kv.1)), I.laid hkeep (Nat.le_refl _) (show ObjOk X.prog X.w _ _ _ (.lst (kvs.map fun kv => kV kv.1)) from ⟨?_, acc'.toList, c', ?_, ?_⟩), rfl, q _ (I.hok.fresh (Nat.le_refl _))⟩
  · rw [List.length_map]; exact z
  · have el : acc'.toList.length = acc'.size := by simp
    refine vals_of_at (by rw [List.length_map, el, hacc.1, hl]) fun j x w h1 h2 => ?_
    obtain ⟨k, y, hky, hi⟩ := hacc.2 j w (by rw [← Array.getElem?_toList]; exact h2)
    have e1 : (kvs.map (·.1))[j]? = some k := by rw [KV.keys rk, List.getElem?_map, hky]; rfl
    have e2 : (kvs.map fun kv => kV kv.1)[j]? = some (kV k) := by
      have e3 : (kvs.map fun kv => kV kv.1) = (kvs.map (·.1)).map kV := by rw [List.map_map]; rfl
      rw [e3, List.getElem?_map, e1]; rfl
    rw [e2] at h1
    cases h1
    exact keyIs_rel hi
  · rw [Array.toArray_toList]; exact hS
theorem DpAll.keys {K : PySem.W.Frag} {H : Hp} : ∀ ks : List Key, DpAll K H (ks.map kV) (ks.map kD)
  | [] => .nil
  | k :: ks => .cons (Dp.ofKey k) (DpAll.keys ks)
theorem e_listD (hc : X.calm = true) (hm : X.mg "list" = Option.none) (ha : E X a σ G (mkD kvs)) (hg : Gl X "list" := by rfl) (he : starEach [a] X.env = (false, eval a X.env) :: starEach [] X.env := by rfl) (hpl : (backTo pos (starEach [] X.env)).any (·.1) = false := by rfl) : E X (.Call (.Name "list" p) [a] [] pos) σ G (.list (kvs.map fun kv => kD kv.1)) :=
  e_callTy (call_list_dR hc) hm (by decide +kernel) (a_cons ha a_nil he) (fun us G1 H1 _ gh hu Q q => by
    obtain ⟨u, rfl, h⟩ := all1 hu
    obtain ⟨p, o, xs, rfl, hp, hx⟩ := Dp.mk_inv h
    refine ⟨p, xs, rfl, .inr ⟨o, gh _ _ hp⟩, fun r hr => ?_⟩
    have nx := Nx.new (o := .lst (xs.map fun kv => kV kv.1)) gh hr
    refine q _ _ _ nx (.lst (Evl.sq_of upd_same) ?_)
    have e1 : (xs.map fun kv => kV kv.1) = (xs.map (·.1)).map kV := by rw [List.map_map]; rfl
    have e2 : (kvs.map fun kv => kD kv.1) = (kvs.map (·.1)).map kD := by rw [List.map_map]; rfl
    rw [e1, e2, (DpKV.inv hx).1]
    exact DpAll.keys _) hg (by decide) (by decide) he hpl
/-- sorted(d), its keys texts -/
theorem e_sortD {ks zs : List Str} (hc : X.calm = true) (hm : X.mg "sorted" = Option.none) (ha : E X a σ G (mkD kvs)) (hks : kvs.map (·.1) = ks.map Sum.inr) (h64 : ks.length < 64) (hz : ∀ ys : List Str, ys.Perm ks → sortedS ys = true → ys = zs) (hg : Gl X "sorted" := by rfl) (he : starEach [a] X.env = (false, eval a X.env) :: starEach [] X.env := by rfl) (hpl : (backTo pos (starEach [] X.env)).any (·.1) = false := by rfl) : E X (.Call (.Name "sorted" p) [a] [] pos) σ G (.list (zs.map PyData.str)) :=
  e_callB (call_sortedD hc) hm (by decide +kernel) (a_cons ha a_nil he) (fun us G1 H1 _ gh hu Q q => by
    obtain ⟨u, rfl, h⟩ := all1 hu
    obtain ⟨p, o, xs, rfl, hp, hx⟩ := Dp.mk_inv h
    refine ⟨p, xs, ks, rfl, .inr ⟨o, gh _ _ hp⟩, by rw [(DpKV.inv hx).1, hks], h64, fun ys r hy hs hr => ?_⟩
    obtain rfl := hz ys hy hs
    have nx := Nx.new (o := .lst (ys.map V.str)) gh hr
    refine q _ _ _ nx (.lst (Evl.sq_of upd_same) ?_)
    have := DpAll.keys (K := X.K) (H := upd G1 r (.lst (ys.map V.str))) (ys.map Sum.inr)
    rw [List.map_map, List.map_map] at this
    exact this) hg (by decide) (by decide) he hpl
end
end DL

/-! D16: loops and comprehensions over whatever can be gone through. -/
namespace DL
open PySem PySem.Spec PyProof.Rows SX
open L2 hiding Dp DpAll
/-- J goes through vx, as long as what is known stays -/
structure ItOf (J : It) (G : Hp) (vx : List V) : Prop where
  go : ∀ i H, Ex G H → i < vx.length → J.go i H
  stop : ∀ H, Ex G H → J.stop vx.length H
  yld : ∀ i H x H', Ex G H → J.yld i H x H' → H' = H ∧ vx[i]? = some x
def Over (X : Cx) (tg iter : Expr) (σ : L2.St) (G : Hp) (xs : List D) : Prop :=
  ∃ wi, PI X tg iter wi ∧ ∀ G1 H1, Ex G G1 → Ex G1 H1 → ∀ R : It → Hp → Prop, (∀ J G2 H2 vx, Nx G1 H1 G2 H2 → DpAll X.K G2 vx xs → ItOf J G2 vx → R J H2) → wi σ H1 R
section
variable {X : Cx} {σ : L2.St} {G H : Hp} {tg elt kx iter e : Expr} {pos tpos p : Pos} {x : Str} {j : Nat} {scope : Scope} {d : D} {rest body : List Stmt} {Z : Ends} {xs : List D} {kvs : List (Key × D)}
theorem getI {l : List V} {i : Nat} (h : i < l.length) : ∃ x, l[i]? = some x := ⟨l[i], by simp [h]⟩
theorem ov_list (h : E X e σ G (.list xs)) : Over X tg e σ G xs := ⟨_, pi_list pe_w, fun G1 H1 g gh R q => h G1 H1 g gh _ fun u G2 H2 n2 hu => by
  obtain ⟨a, vx, rfl, hl, hv⟩ := Dp.lst_inv hu
  refine ⟨a, rfl, ⟨vx, Evl.ex_l n2.gh hl⟩, q _ G2 H2 vx n2 hv ⟨fun i H g hi => ?_, fun H g => ⟨vx, Evl.ex_l g hl, Nat.le_refl _⟩, fun i H x H' g y => ⟨y.1, y.2 vx (Evl.ex_l g hl)⟩⟩⟩
  obtain ⟨x, hx⟩ := getI hi
  exact ⟨vx, x, Evl.ex_l g hl, hx⟩⟩
theorem ov_tup (h : E X e σ G (.tuple xs)) : Over X tg e σ G xs := ⟨_, pi_tup pe_w, fun G1 H1 g gh R q => h G1 H1 g gh _ fun u G2 H2 n2 hu => by
  obtain ⟨a, vx, rfl, hl, hv⟩ := Dp.tup_inv hu
  refine ⟨a, rfl, ⟨vx, Evl.ex_t n2.gh hl⟩, q _ G2 H2 vx n2 hv ⟨fun i H g hi => ?_, fun H g => ⟨vx, Evl.ex_t g hl, Nat.le_refl _⟩, fun i H x H' g y => ⟨y.1, y.2 vx (Evl.ex_t g hl)⟩⟩⟩
  obtain ⟨x, hx⟩ := getI hi
  exact ⟨vx, x, Evl.ex_t g hl, hx⟩⟩
theorem ov_keys (h : E X e σ G (mkD kvs)) : Over X tg e σ G (kvs.map fun kv => kD kv.1) := ⟨_, pi_keys pe_w, fun G1 H1 g gh R q => h G1 H1 g gh _ fun u G2 H2 n2 hu => by
  obtain ⟨a, o, vx, rfl, hl, hv⟩ := Dp.mk_inv hu
  refine ⟨a, o, rfl, .inl ⟨vx, n2.gh _ _ hl, q _ G2 H2 (vx.map fun kv => kV kv.1) n2 ?_ ⟨fun i H g hi => ⟨g _ _ hl, by simpa using hi⟩, fun H g => ⟨g _ _ hl, by simp⟩, fun i H x H' g y => ?_⟩⟩⟩
  · have e1 : (vx.map fun kv => kV kv.1) = (vx.map (·.1)).map kV := by rw [List.map_map]; rfl
    have e2 : (kvs.map fun kv => kD kv.1) = (kvs.map (·.1)).map kD := by rw [List.map_map]; rfl
    rw [e1, e2, (DpKV.inv hv).1]
    exact DpAll.keys _
  · obtain ⟨e, k, v, hk, rfl⟩ := y
    exact ⟨e, by rw [List.getElem?_map, hk]; rfl⟩⟩
theorem ov_vals {apos cpos : Pos} (h : E X e σ G (mkD kvs)) (hbase : attributeBase e "values" X.env (eval e X.env) = eval e X.env := by rfl) (hline : (apos.endLine == cpos.line) = true := by rfl) : Over X tg (.Call (.Attribute e "values" apos) [] [] cpos) σ G (kvs.map fun kv => kv.2) := ⟨_, pi_values pe_w hbase hline, fun G1 H1 g gh R q => h G1 H1 g gh _ fun u G2 H2 n2 hu => by
  obtain ⟨a, o, vx, rfl, hl, hv⟩ := Dp.mk_inv hu
  refine ⟨a, o, vx, rfl, n2.gh _ _ hl, q _ G2 H2 (vx.map fun kv => kv.2) n2 (DpKV.inv hv).2 ⟨fun i H g hi => ⟨g _ _ hl, by simpa using hi⟩, fun H g => ⟨g _ _ hl, by simp⟩, fun i H x H' g y => ?_⟩⟩
  obtain ⟨e, k, hk⟩ := y
  exact ⟨e, by rw [List.getElem?_map, hk]; rfl⟩⟩
/-- one turn over any iterator -/
theorem lc_gen {J : It} {n : Nat} {val : Nat → V → Prop} {g : TG} {tt : TT} {te : TE} {vs : List Nat} {H1 : Hp} {Dl : Addr} {Qd : Hp → Prop} (Pv : Nat → Hp → Prop) (h0 : Pv 0 (upd H1 Dl (.lst []))) (hgo : ∀ i H, i < n → Pv i H → J.go i H) (hst : ∀ H, Pv n H → J.stop n H)
    (hy : ∀ i H x H', i < n → Pv i H → J.yld i H x H' → H' = H ∧ val i x)
    (hs : ∀ i x H, i < n → val i x → Pv i H → g x (wipe σ vs) H fun σ2 H2 => wipe σ2 vs = wipe σ vs ∧ tt σ2 H2 fun b H3 =>
      if b = true then te σ2 H3 fun y H4 => ∃ acc, H4 Dl = some (.lst acc) ∧ acc.length < sizeLine ∧ Pv (i + 1) (upd H4 Dl (.lst (acc ++ [y]))) else Pv (i + 1) H3) (hd : ∀ H, Pv n H → Qd H) :
    ∃ W : Nat → Nat → Hp → Prop, (∃ m, W 0 m (upd H1 Dl (.lst []))) ∧ ∀ i m H, W i m H →
      (J.stop i H ∧ Qd H) ∨ (J.go i H ∧ ∃ Nx : Hp → Prop, (∀ H', Nx H' → ∃ m', m' < m ∧ W (i + 1) m' H') ∧ ∀ x H', J.yld i H x H' → g x (wipe σ vs) H' fun σ2 H2 => wipe σ2 vs = wipe σ vs ∧ tt σ2 H2 fun b H3 =>
        if b = true then te σ2 H3 fun y H4 => ∃ acc, H4 Dl = some (.lst acc) ∧ acc.length < sizeLine ∧ Nx (upd H4 Dl (.lst (acc ++ [y]))) else Nx H3) := by
  refine ⟨fun i m H => m = n - i ∧ i ≤ n ∧ Pv i H, ⟨n, rfl, Nat.zero_le _, h0⟩, ?_⟩
  rintro i m H ⟨rfl, hi, pv⟩
  by_cases hlt : i < n
  · refine .inr ⟨hgo i H hlt pv, Pv (i + 1), fun H' p' => ⟨n - (i + 1), by omega, rfl, hlt, p'⟩, fun x H' y => ?_⟩
    obtain ⟨e, y2⟩ := hy i H x H' hlt pv y
    rw [e]
    exact hs i x _ hlt y2 pv
  · have e : i = n := by omega
    subst e
    exact .inl ⟨hst H pv, hd H pv⟩
/-- [elt for x in ..], [.. if c] -/
theorem ec_lcO {n : Nat} {ifs : List Expr} {tt : TT} {c : Nat → Bool} {f : Nat → D} (hcalm : X.calm = true) (hN : X.N.Nodup) (ov : Over X (.Name x tpos) iter σ G xs) (hn : xs.length = n) (hn2 : n ≤ 100000) (ok : BlkOk X.N X.env.scope scope [(x, j)])
    (hg : ∀ s H C cl fp, PG (blkX X scope s H C cl fp) (.Name x tpos) (gName j)) (hpt : ∀ s H C cl fp, PTs (blkX X scope s H C cl fp) ifs tt)
    (ht : ∀ (i : Nat) (v : V) (d : D) (G' : Hp), xs[i]? = some d → Ex G G' → Dp X.K G' v d → ∀ G1 H1, Ex G' G1 → Ex G1 H1 → ∀ Q : Bool → Hp → Prop, (∀ G2 H2, Nx G1 H1 G2 H2 → Q (c i) H2) → tt (σ.set j (some v)) H1 Q)
    (he : ∀ (i : Nat) (v : V) (d : D) (G' : Hp), xs[i]? = some d → Ex G G' → Dp X.K G' v d → c i = true → ∀ s H0 C cl fp, E (blkX X scope s H0 C cl fp) elt (σ.set j (some v)) G' (f i))
    (hs : ∀ y, foldedSetIterable iter X.env y = pure y := by intro _; rfl) {lpos : Pos} :
    EC X (.ListComp elt [⟨.Name x tpos, iter, ifs, 0⟩] scope lpos) σ G (.list (kept n c f)) := by
  obtain ⟨wi, hpi, ov⟩ := ov
  refine ⟨_, ⟨pe_lc (own := [(x, j)]) (te := wBE X scope elt) hcalm hN hpi ok hg hpt pe_wBE hs, fun i y py spos hi hy hw => ps_setLc (own := [(x, j)]) (te := wBE X scope elt) hcalm hN hi hy hw hpi ok hg hpt pe_wBE hs⟩, fun G1 H1 g gh Q q => ov G1 H1 g gh _ fun J G2 H2 vx n2 hv io Dl hD => ?_⟩
  have hlen : vx.length = n := by rw [DpAll.len hv, hn]
  refine lc_gen (n := n) (val := fun i x => vx[i]? = some x) (fun i H' => ∃ G' vs, Lcl G2 H2 Dl G' H' vs ∧ DpAll X.K G' vs (kept i c f)) ⟨G2, [], Lcl.start n2.gh hD, .nil⟩ (fun i H' hi ⟨G', vs, L, _⟩ => io.go i H' (L.g.trans L.gh) (by omega)) (fun H' ⟨G', vs, L, _⟩ => by have := io.stop H' (L.g.trans L.gh); rw [hlen] at this; exact this)
    (fun i H' y H'' hi ⟨G', vs, L, _⟩ yy => io.yld i H' y H'' (L.g.trans L.gh) yy) (fun i v H' hi hvi Pi => ⟨wipe1 σ j _, ?_⟩) fun H' ⟨G', vs, L, dv⟩ => ?_
  · obtain ⟨d, hd, dv⟩ := DpAll.getV hv hvi
    exact lc_turn (σ := σ) (j := j) (G := G2) (ifs := ifs) hi hn2 (Evl.Ex.refl _) Pi (fun _ _ => trivial) (ht i v d G2 hd (g.trans n2.g) dv) (he i v d G2 hd (g.trans n2.g) dv)
  · exact q _ _ _ (n2.trans L.done) (.lst (Evl.sq_of upd_same) (DpAll.mono (Evl.Ex.new L.gl) dv))
/-- for x in ..: -/
theorem s_forO (i : Nat) {px : Pos} (hp : PassesOwn (model X.prog X.w) X.A X.env X.xe) (hcalm : X.calm = true) (hN : X.N.Nodup) (ov : Over X (.Name x px) e σ G xs) (gh : Ex G H)
    (hk : ∀ G1 H1 vx, Nx G H G1 H1 → DpAll X.K G1 vx xs → ∃ Pv : Nat → L2.St → Hp → Prop, Pv 0 σ H1 ∧ (∀ k σ' H', Pv k σ' H' → Ex G1 H') ∧
      (∀ k v d σ' H', xs[k]? = some d → Dp X.K G1 v d → Pv k σ' H' → wB X body { Z with nx := Pv (k + 1), ct := Pv (k + 1), bk := wB X rest Z } (σ'.set i (some v)) H') ∧ (∀ σ' H', Pv xs.length σ' H' → wB X rest Z σ' H'))
    (hs0 : ∀ y, foldedSetIterable e X.env y = pure y := by intro _; rfl) (hi : X.N[i]? = some x := by rfl) (hx : L2.Loc X.env.scope x := by first | exact Or.inl rfl | exact Or.inr rfl) (hf : X.fn x = true ∨ X.env.scope.names.lookup x = some .local := by first | exact .inl rfl | exact .inr rfl | assumption) :
    wB X (.For (.Name x px) e body [] pos :: rest) Z σ H := by
  obtain ⟨wi, hpi, ov⟩ := ov
  refine s_cons ⟨_, ps_for hp hcalm hpi (pg_name hN hi hx hf) pss_w hs0, ov G H (Evl.Ex.refl _) gh _ fun J G1 H1 vx n hv io => ?_⟩
  obtain ⟨Pv, h0, hG, hs, hd⟩ := hk G1 H1 vx n hv
  have hlen := DpAll.len hv
  refine ⟨fun i m σ H => m = vx.length - i ∧ i ≤ vx.length ∧ Pv i σ H, ⟨vx.length, by simp, Nat.zero_le _, h0⟩, ?_⟩
  rintro k m σ' H' ⟨rfl, hi', pv⟩
  by_cases hlt : k < vx.length
  · refine .inr ⟨io.go k H' (hG _ _ _ pv) hlt, Pv (k + 1), fun σ2 H2 p' => ⟨vx.length - (k + 1), by omega, rfl, hlt, p'⟩, fun y H2 yy => ?_⟩
    obtain ⟨e, y2⟩ := io.yld k H' y H2 (hG _ _ _ pv) yy
    rw [e]
    obtain ⟨d, hd', dv⟩ := DpAll.getV hv y2
    exact hs k y d σ' _ hd' dv pv
  · have e : k = vx.length := by omega
    subst e
    exact .inl ⟨io.stop H' (hG _ _ _ pv), hd σ' H' (by rw [← hlen]; exact pv)⟩
end
end DL

/-! D17: dicts made, and then never changed. -/
namespace DL
open PySem PySem.Spec PyProof.Rows SX
open L2 hiding Dp DpAll
/-- an object of one's own, beside what is known -/
structure Own (G H : Hp) (l : Addr) (G' H' : Hp) (u : HO) : Prop where
  g : Ex G G'
  h : Ex H H'
  gl : G' l = Option.none
  gh : Ex G' H'
  fr : ∀ a, G' a ≠ Option.none → G a ≠ Option.none ∨ H a = Option.none
  hl : H' l = some u
  h0 : H l = Option.none
section
variable {G H G' H' G'' H'' : Hp} {l : Addr} {u w : HO}
theorem Own.start (e : Ex G H) (hl : H l = Option.none) : Own G H l G (upd H l u) u :=
  ⟨Evl.Ex.refl _, Evl.Ex.new hl, Evl.fresh_back e hl, e.trans (Evl.Ex.new hl), fun _ h => .inl h, upd_same, hl⟩
theorem Own.step (x : Own G H l G' H' u) (n : Nx G' H' G'' H'') : Own G H l G'' H'' u :=
  ⟨x.g.trans n.g, x.h.trans n.h, (n.beside x.gl x.hl).1, n.gh, fun a q => by
    rcases n.fr a q with z | z
    · exact x.fr a z
    · exact .inr (Evl.fresh_back x.h z), (n.beside x.gl x.hl).2, x.h0⟩
theorem Own.put (x : Own G H l G' H' u) : Own G H l G' (upd H' l w) w :=
  ⟨x.g, Evl.Ex.mut x.h x.h0, x.gl, fun a u q => by
    rw [upd_ne (fun z => by rw [z, x.gl] at q; cases q)]
    exact x.gh a u q, x.fr, upd_same, x.h0⟩
theorem Own.done (x : Own G H l G' H' u) : Nx G H (upd G' l u) H' :=
  ⟨x.g.trans (Evl.Ex.new x.gl), x.h, fun a u q => by
    by_cases z : a = l
    · subst z; rw [upd_same] at q; rw [← q]; exact x.hl
    · rw [upd_ne z] at q; exact x.gh a u q, fun a q => by
    by_cases z : a = l
    · subst z; exact .inr x.h0
    · rw [upd_ne z] at q; exact x.fr a q⟩
end
/-- frozen from now on -/
def Frz (Q : Hp → Prop) (H : Hp) : Prop := ∃ a kvs, H a = some (.dK kvs) ∧ ∀ o, Q (upd H a (.frz o (.dK kvs)))
section
variable {X : Cx}
theorem pe_frz {e : Expr} {t : TE} (h : PE X e t) : PE X e (fun σ H Q => t σ H fun v H1 => Frz (Q v) H1) := by
  refine ⟨fun pins s σ H Q I hw => ?_⟩
  refine thn (h.run pins s σ H _ I hw) fun v s1 ⟨x, H1, I2, r, a, kvs, e2, q⟩ => ?_
  obtain ⟨od, I3⟩ := I2.lock e2 trivial
  exact ⟨x, _, I3, r, q od⟩
theorem ps_frz {st : Stmt} {t : TS} (h : PS X st t) : PS X st (fun Z σ H => t { Z with nx := fun σ' H' => Frz (Z.nx σ') H' } σ H) := by
  refine ⟨fun pins s σ H D I hw => ?_⟩
  refine thn (h.run pins s σ H _ I hw) fun f s1 q => ?_
  cases f with
  | next =>
    obtain ⟨σ', H', I2, a, kvs, e2, q⟩ := q
    obtain ⟨od, I3⟩ := I2.lock e2 trivial
    exact ⟨σ', _, I3, q od⟩
  | brk => exact q
  | cont => exact q
  | ret v => exact q
theorem wB_frz {st : List Stmt} {Z : Ends} {σ : L2.St} {H : Hp} (h : Frz (wB X st Z σ) H) : wB X st Z σ H := by
  refine ⟨fun Z σ H => Frz (wB X st Z σ) H, ⟨fun pins s σ H Z I hw => ?_⟩, h⟩
  obtain ⟨a, kvs, e, q⟩ := hw
  obtain ⟨od, I2⟩ := I.lock e trivial
  exact (pss_w (X := X)).run pins s σ _ Z I2 (q od)
/-- a dict comprehension that a name gets -/
theorem ps_setDc {i : Nat} {y : Str} {py : Pos} {kx vx tg iter : Expr} {ifs : List Expr} {scope : Scope} {own : List (Str × Nat)} {pos spos : Pos} {wi : TI} {g : TG} {tt : TT} {tk tv : TE} (hc : X.calm = true) (hN : X.N.Nodup) (hy : X.N[i]? = some y) (hyl : X.env.scope.names.lookup y = some .local)
    (hsw : swapsWith (.DictComp kx vx [⟨tg, iter, ifs, 0⟩] scope pos) (some (.Name y py)) spos.line X.env = pure true) (hi : PI X tg iter wi) (ok : BlkOk X.N X.env.scope scope own)
    (hg : ∀ s H C cl fp, PG (blkX X scope s H C cl fp) tg g) (ht : ∀ s H C cl fp, PTs (blkX X scope s H C cl fp) ifs tt)
    (hk : ∀ s H C cl fp, PE (blkX X scope s H C cl fp) kx tk) (he : ∀ s H C cl fp, PE (blkX X scope s H C cl fp) vx tv) (hs : ∀ x, foldedSetIterable iter X.env x = pure x := by intro _; rfl) :
    PS X (.Assign [.Name y py] (.DictComp kx vx [⟨tg, iter, ifs, 0⟩] scope pos) spos) (tAsg (tDc wi g tt tk tv (own.map (·.2))) (gName i)) := by
  refine ⟨fun pins s σ H D I h => ?_⟩
  rw [exec_Assign_Name_used _ _ _ _ hsw]
  refine wpAny_bind (wpAny_standAt (wpAny_bind ?_))
  show wpAny _ X.A (do let _ ← comprehension (.DictComp kx vx [⟨tg, iter, ifs, 0⟩] scope pos) scope X.env (firstIterPos [⟨tg, iter, ifs, 0⟩] pos) newDict false (eval iter X.env) (some (assign (.Name y py) X.env))) _ _ s
  have h : tDc wi g tt tk tv (own.map (·.2)) σ H (fun x H1 => gName i x σ H1 D.nx) := h
  refine wpAny_bind (thn (dc_core (Qf := fun _ s' => SP X pins D .next s') hc hN I hi ok hg ht hk he hs h fun L C s' m H' I' q hn f => ?_) fun _ s' hq => wpAny_pure (wpAny_pure hq))
  show wpAny _ _ (assign (.Name y py) X.env (.ref L)) _ _ _
  refine wpAny_assign_Name (store_ok2 (v := V.ref L) I' hN hy (.inl hyl) rfl (fun s2 I2 ⟨a, sb, ha⟩ => ?_) (.inr hyl))
  obtain ⟨f0, f1, f2, f3, f4, f5⟩ := f
  have haC : C ≠ a := by
    rcases ha with z | z
    · rw [z]; exact f1
    · exact fun e => f4 y a z e.symm
  refine ⟨m, hn.sameBut sb haC, fun h3 sb3 => ⟨_, H', I2.turned (t' := s2.toks) (fun b o hb e => (sb3.2 b hb).trans e) f0 f1 f3 f4 f5, q⟩⟩
end
end DL

/-! D18: dict comprehensions. -/
namespace DL
open PySem PySem.Spec PyProof.Rows SX
open L2 hiding Dp DpAll
theorem valV_none {kvs : List (Key × V)} {k : Key} (h : ¬ k ∈ kvs.map (·.1)) : valV kvs k = Option.none := by
  cases e : valV kvs k with
  | none => rfl
  | some v => exact absurd (valV_in e) h
section
variable {X : Cx} {σ : L2.St} {G H : Hp} {kx vx iter : Expr} {pos tpos : Pos} {x : Str} {j : Nat} {scope : Scope} {xs : List D}
theorem dc_gen {J : It} {n : Nat} {val : Nat → V → Prop} {g : TG} {tt : TT} {tk tv : TE} {vs : List Nat} {H1 : Hp} {Dl : Addr} {Qd : Hp → Prop} (Pv : Nat → Hp → Prop) (h0 : Pv 0 (upd H1 Dl (.dK []))) (hgo : ∀ i H, i < n → Pv i H → J.go i H) (hst : ∀ H, Pv n H → J.stop n H)
    (hy : ∀ i H x H', i < n → Pv i H → J.yld i H x H' → H' = H ∧ val i x)
    (hs : ∀ i x H, i < n → val i x → Pv i H → g x (wipe σ vs) H fun σ2 H2 => wipe σ2 vs = wipe σ vs ∧ tt σ2 H2 fun b H3 =>
      if b = true then tk σ2 H3 fun y H4 => tv σ2 H4 fun z H5 => ∃ kvs k, y = kV k ∧ H5 Dl = some (.dK kvs) ∧ kvs.length < sizeLine ∧ Pv (i + 1) (upd H5 Dl (.dK (putK kvs k z))) else Pv (i + 1) H3) (hd : ∀ H, Pv n H → Qd H) :
    ∃ W : Nat → Nat → Hp → Prop, (∃ m, W 0 m (upd H1 Dl (.dK []))) ∧ ∀ i m H, W i m H →
      (J.stop i H ∧ Qd H) ∨ (J.go i H ∧ ∃ Nx : Hp → Prop, (∀ H', Nx H' → ∃ m', m' < m ∧ W (i + 1) m' H') ∧ ∀ x H', J.yld i H x H' → g x (wipe σ vs) H' fun σ2 H2 => wipe σ2 vs = wipe σ vs ∧ tt σ2 H2 fun b H3 =>
        if b = true then tk σ2 H3 fun y H4 => tv σ2 H4 fun z H5 => ∃ kvs k, y = kV k ∧ H5 Dl = some (.dK kvs) ∧ kvs.length < sizeLine ∧ Nx (upd H5 Dl (.dK (putK kvs k z))) else Nx H3) := by
  refine ⟨fun i m H => m = n - i ∧ i ≤ n ∧ Pv i H, ⟨n, rfl, Nat.zero_le _, h0⟩, ?_⟩
  rintro i m H ⟨rfl, hi, pv⟩
  by_cases hlt : i < n
  · refine .inr ⟨hgo i H hlt pv, Pv (i + 1), fun H' p' => ⟨n - (i + 1), by omega, rfl, hlt, p'⟩, fun x H' y => ?_⟩
    obtain ⟨e, y2⟩ := hy i H x H' hlt pv y
    rw [e]
    exact hs i x _ hlt y2 pv
  · have e : i = n := by omega
    subst e
    exact .inl ⟨hst H pv, hd H pv⟩
/-- {kx: vx for x in ..} -/
theorem ec_dcO {n : Nat} {ks : Nat → Key} {f : Nat → D} (hcalm : X.calm = true) (hN : X.N.Nodup) (ov : Over X (.Name x tpos) iter σ G xs) (hn : xs.length = n) (hn2 : n ≤ 100000) (ok : BlkOk X.N X.env.scope scope [(x, j)])
    (hg : ∀ s H C cl fp, PG (blkX X scope s H C cl fp) (.Name x tpos) (gName j)) (hd : ∀ i i', i < n → i' < n → ks i = ks i' → i = i')
    (he : ∀ (i : Nat) (v : V) (d : D) (G' : Hp), xs[i]? = some d → Ex G G' → Dp X.K G' v d → (∀ s H0 C cl fp, E (blkX X scope s H0 C cl fp) kx (σ.set j (some v)) G' (kD (ks i))) ∧ ∀ s H0 C cl fp, E (blkX X scope s H0 C cl fp) vx (σ.set j (some v)) G' (f i))
    (hs : ∀ y, foldedSetIterable iter X.env y = pure y := by intro _; rfl) {lpos : Pos} :
    EC X (.DictComp kx vx [⟨.Name x tpos, iter, [], 0⟩] scope lpos) σ G (mkD ((List.range n).map fun i => (ks i, f i))) := by
  obtain ⟨wi, hpi, ov⟩ := ov
  refine ⟨_, ⟨pe_frz (pe_dc (own := [(x, j)]) (tk := wBE X scope kx) (tv := wBE X scope vx) hcalm hN hpi ok hg (fun _ _ _ _ _ => pts_nil) pe_wBE pe_wBE hs), fun i y py spos hi hy hw => ps_frz (ps_setDc (own := [(x, j)]) (tk := wBE X scope kx) (tv := wBE X scope vx) hcalm hN hi hy hw hpi ok hg (fun _ _ _ _ _ => pts_nil) pe_wBE pe_wBE hs)⟩, fun G1 H1 g gh Q q => ov G1 H1 g gh _ fun J G2 H2 vs n2 hv io Dl hD => ?_⟩
  have hlen : vs.length = n := by rw [DpAll.len hv, hn]
  refine dc_gen (n := n) (val := fun i x => vs[i]? = some x) (fun i H' => ∃ G' kvs, Own G2 H2 Dl G' H' (.dK kvs) ∧ kvs.map (·.1) = (List.range i).map ks ∧ DpAll X.K G' (kvs.map (·.2)) ((List.range i).map f)) ⟨G2, [], Own.start n2.gh hD, rfl, .nil⟩ (fun i H' hi ⟨G', kvs, L, _⟩ => io.go i H' (L.g.trans L.gh) (by omega)) (fun H' ⟨G', kvs, L, _⟩ => by have := io.stop H' (L.g.trans L.gh); rw [hlen] at this; exact this)
    (fun i H' y H'' hi ⟨G', kvs, L, _⟩ yy => io.yld i H' y H'' (L.g.trans L.gh) yy) (fun i v H' hi hvi Pi => ⟨wipe1 σ j _, ?_⟩) fun H' ⟨G', kvs, L, ek, dv⟩ => ?_
  · obtain ⟨d, hd1, dv⟩ := DpAll.getV hv hvi
    obtain ⟨G', kvs, L, ek, dk⟩ := Pi
    refine tyes ?_
    rw [show List.map (fun x : Str × Nat => x.snd) [(x, j)] = [j] from rfl, wipeset]
    refine fun s H0 C cl fp => ((he i v d G' hd1 ((g.trans n2.g).trans L.g) (Dp.mono L.g dv)).1 s H0 C cl fp) G' H' (Evl.Ex.refl _) L.gh _ fun y G3 H3 n3 hy => ?_
    refine fun s H0 C cl fp => ((he i v d G' hd1 ((g.trans n2.g).trans L.g) (Dp.mono L.g dv)).2 s H0 C cl fp) G3 H3 n3.g n3.gh _ fun z G4 H4 n4 hz => ?_
    have L4 := (L.step n3).step n4
    obtain rfl := Dp.key hy
    have hl : kvs.length = i := by have := congrArg List.length ek; simpa using this
    have hnew : valV kvs (ks i) = Option.none := valV_none fun m => by
      rw [ek] at m
      obtain ⟨i', hi', e⟩ := List.mem_map.mp m
      have hi'' := List.mem_range.mp hi'
      have := hd i' i (by omega) hi e
      omega
    refine ⟨kvs, ks i, rfl, L4.hl, Evl.sz_lt (by omega), G4, kvs ++ [(ks i, z)], ?_, ?_, ?_⟩
    · rw [putK_new z hnew]; exact L4.put
    · rw [List.map_append, ek, List.range_succ, List.map_append]; rfl
    · rw [List.map_append, List.range_succ, List.map_append]
      exact DpAll.append (DpAll.mono n4.g (DpAll.mono n3.g dk)) (.cons hz .nil)
  · refine ⟨Dl, kvs, L.hl, fun o => ?_⟩
    have L2 := L.put (w := .frz o (.dK kvs))
    refine q _ _ _ (n2.trans L2.done) (.dic (o := o) (kvs := kvs) upd_same (DpKV.mk' ?_ ?_))
    · rw [ek, List.map_map]; rfl
    · rw [List.map_map]; exact DpAll.mono (Evl.Ex.new L.gl) dv
end
end DL

/-! D19: texts compared, gone through. -/
namespace DL
open PySem PySem.Spec PyProof.Rows SX
open L2 hiding Dp DpAll
def leS (i j : Str) : Bool := !decide (j.cps.toList < i.cps.toList)
section
variable {X : Cx} {σ : L2.St} {G H : Hp} {a b c e : Expr} {pos p : Pos} {i j z : Str} {tg : Expr}
def rLeS : R2 := fun x y H Q => ∃ i j, x = .str i ∧ y = .str j ∧ Q (.bl (!decide (j.cps.toList < i.cps.toList))) H
theorem e_chainS (ha : E X a σ G (.str i)) (hb : E X b σ G (.str j)) (hc : E X c σ G (.str z)) (h : ∀ {ta tb tc : TE}, PE X a ta → PE X b tb → PE X c tc → PE X (.Compare a [.LtE, .LtE] [b, c] pos) (tChain rLeS rLeS ta tb tc)) : E X (.Compare a [.LtE, .LtE] [b, c] pos) σ G (.bool (leS i j && leS j z)) := fun G1 H1 g gh Q q =>
  ⟨_, h pe_w pe_w pe_w, ha G1 H1 g gh _ fun u G2 H2 n hu => hb G2 H2 (g.trans n.g) n.gh _ fun v G3 H3 n2 hv => by
    cases hu; cases hv
    refine ⟨i, j, rfl, rfl, leS i j, rfl, ?_⟩
    cases e : leS i j with
    | true => exact iteT (hc G3 H3 ((g.trans n.g).trans n2.g) n2.gh _ fun w G4 H4 n4 hw => by
        cases hw
        exact ⟨j, z, rfl, rfl, by rw [e] at q; exact q _ G4 H4 ((n.trans n2).trans n4) (.bl _)⟩)
    | false => exact iteF (by rw [e] at q; exact q _ G3 H3 (n.trans n2) (.bl false))⟩
theorem t_chainS (ha : E X a σ G (.str i)) (hb : E X b σ G (.str j)) (hc : E X c σ G (.str z)) (h : ∀ {ta tb tc : TE}, PE X a ta → PE X b tb → PE X c tc → PT X (.Compare a [.LtE, .LtE] [b, c] pos) (tTest (tChain rLeS rLeS ta tb tc))) : T X (.Compare a [.LtE, .LtE] [b, c] pos) σ G (leS i j && leS j z) := fun G1 H1 g gh Q q =>
  ⟨_, h pe_w pe_w pe_w, ha G1 H1 g gh _ fun u G2 H2 n hu => hb G2 H2 (g.trans n.g) n.gh _ fun v G3 H3 n2 hv => by
    cases hu; cases hv
    refine ⟨i, j, rfl, rfl, leS i j, rfl, ?_⟩
    cases e : leS i j with
    | true => exact iteT (hc G3 H3 ((g.trans n.g).trans n2.g) n2.gh _ fun w G4 H4 n4 hw => by
        cases hw
        exact ⟨j, z, rfl, rfl, _, rfl, by rw [e] at q; exact q G4 H4 ((n.trans n2).trans n4)⟩)
    | false => exact iteF ⟨_, rfl, by rw [e] at q; exact q G3 H3 (n.trans n2)⟩⟩
/-- the sgns of a text -/
def sgns (s : Str) : List Str := s.cps.toList.map fun c => ⟨#[c]⟩
theorem DpAll.strs {K : PySem.W.Frag} {H : Hp} : ∀ l : List Str, DpAll K H (l.map V.str) (l.map PyData.str)
  | [] => .nil
  | k :: ks => .cons (.str k) (DpAll.strs ks)
theorem ov_str (h : E X e σ G (.str i)) : Over X tg e σ G ((sgns i).map PyData.str) := ⟨_, pi_str pe_w, fun G1 H1 g gh R q => h G1 H1 g gh _ fun u G2 H2 n2 hu => by
  cases hu
  have hl : ((sgns i).map V.str).length = i.cps.size := by simp [sgns]
  refine ⟨i, rfl, q _ G2 H2 ((sgns i).map V.str) n2 (DpAll.strs _) ⟨fun k H g hi => ?_, fun H g => ?_, fun k H x H' g y => ?_⟩⟩
  · rw [hl] at hi; exact hi
  · rw [hl]; exact Nat.le_refl _
  · obtain ⟨e, c, hc, rfl⟩ := y
    refine ⟨e, ?_⟩
    unfold sgns
    rw [List.map_map, List.getElem?_map, Array.getElem?_toList, hc]; rfl⟩
/-- s[0] -/
theorem e_ixS {c : Nat} (ha : E X a σ G (.str i)) (hb : E X b σ G (.int 0)) (hc : i.cps[0]? = some c) (hs : PlainIxT b := by exact fun _ _ => rfl) : E X (.Subscript a b pos) σ G (.str ⟨#[c]⟩) := fun G1 H1 g gh Q q =>
  ⟨_, pe_item_str pe_w pe_w hs, ha G1 H1 g gh _ fun u G2 H2 n hu => hb G2 H2 (g.trans n.g) n.gh _ fun v G3 H3 n2 hv => by
    cases hu; cases hv
    refine ⟨i, 0, c, rfl, rfl, by decide, by decide, ?_, hc, q _ G3 H3 (n.trans n2) (.str _)⟩
    have h : 0 < i.cps.size := (Array.getElem?_eq_some_iff.mp hc).1
    show (0 : Int) < (i.cps.size : Int)
    omega⟩
end
end DL

/-! D20: a pair taken apart. -/
namespace DL
open PySem PySem.Spec PyProof.Rows SX
open L2 hiding Dp DpAll
section
variable {X : Cx} {σ : L2.St} {G H : Hp} {e : Expr} {pos pt : Pos} {x : Str} {rest : List Stmt} {Z : Ends} {d1 d2 : D}
/-- x, y = e, e comes to a pair that is known -/
theorem s_unp (i j : Nat) {y : Str} {px py : Pos} {kt : Nat} (h : E X e σ G (.tuple [d1, d2])) (gh : Ex G H) (hcalm : X.calm = true) (hN : X.N.Nodup) (q : ∀ u v G' H', Nx G H G' H' → Dp X.K G' u d1 → Dp X.K G' v d2 → wB X rest Z ((σ.set i (some u)).set j (some v)) H')
    (hi : X.N[i]? = some x := by rfl) (hj : X.N[j]? = some y := by rfl) (hx : L2.Loc X.env.scope x := by first | exact Or.inl rfl | exact Or.inr rfl) (hy : L2.Loc X.env.scope y := by first | exact Or.inl rfl | exact Or.inr rfl)
    (fx : X.fn x = true ∨ X.env.scope.names.lookup x = some .local := by first | exact .inl rfl | exact .inr rfl | assumption) (fy : X.fn y = true ∨ X.env.scope.names.lookup y = some .local := by first | exact .inl rfl | exact .inr rfl | assumption)
    (hs : swapsWithSole [.Tuple [.Name x px, .Name y py] kt pt] e pos.line X.env = pure false := by rfl) (hw : swappedStores [.Tuple [.Name x px, .Name y py] kt pt] e X.env = pure Option.none := by rfl)
    (h1 : (assignEach [.Tuple [.Name x px, .Name y py] kt pt] X.env).map (·.2) = [assign (.Tuple [.Name x px, .Name y py] kt pt) X.env] := by rfl)
    (h2 : (assignEach [.Name x px, .Name y py] X.env).map (·.2) = assign (.Name x px) X.env :: (assignEach [.Name y py] X.env).map (·.2) := by rfl) (h3 : (assignEach [.Name y py] X.env).map (·.2) = assign (.Name y py) X.env :: (assignEach [] X.env).map (·.2) := by rfl)
    (h4 : (assignEach [.Name x px, .Name y py] X.env).length = 2 := by rfl) (h5 : (assignEach [.Name x px, .Name y py] X.env).findIdx? (·.1) = Option.none := by rfl) : wB X (.Assign [.Tuple [.Name x px, .Name y py] kt pt] e pos :: rest) Z σ H :=
  s_cons ⟨_, ps_asg pe_w (pg_tup hcalm (pgs_cons (pg_name hN hi hx fx) (pgs_cons (pg_name hN hj hy fy) pgs_nil h3) h2) h4 h5) hs hw h1, h G H (Evl.Ex.refl _) gh _ fun w G' H' n hd => by
    obtain ⟨a, xs, rfl, hl, hv⟩ := Dp.tup_inv hd
    obtain ⟨u, v, rfl, hu, hv⟩ := all2 hv
    exact ⟨a, [u, v], rfl, Evl.ex_t n.gh hl, rfl, u, [v], rfl, v, [], rfl, rfl, q u v G' H' n hu hv⟩⟩
end
end DL

/-! B1: names. -/
namespace K01
open PySem PySem.Spec PyProof.Rows DL SX
open L2 hiding Dp DpAll
def smallOk (c : Str) : Bool := (leS "a" c && leS c "z") || ((leS "0" c && leS c "9") || decide (V.str c = V.str "_"))
def firstOk (s : Str) : Bool := match s.cps[0]? with
  | some c => leS "a" ⟨#[c]⟩ && leS ⟨#[c]⟩ "z"
  | Option.none => false
def lenOk (s : Str) : Bool := decide ((1 : Int) ≤ s.length) && decide ((s.length : Int) ≤ 12)
def nameOk (s : Str) : Bool := lenOk s && firstOk s && (sgns s).all smallOk
section
variable {P : Program} {w : World} {K : PySem.W.Frag} {mg : Str → Option Value} {base : Heap}
def R_is_small : List D → D → Prop := fun ds d => ∃ c : Str, ds = [.str c] ∧ d = .bool (smallOk c)
theorem ok_is_small (T : Txt K mg) : PFn P w K mg base 1 "is_small" R_is_small :=
  pfn_of T.h_is_small sc_is_small (fun ds d ⟨c, e, _⟩ => by rw [e]; rfl) fun cdv A outer s f H Q xk hr ds d G vs ⟨c, e, ed⟩ g hv q => by
    subst e ed
    obtain ⟨u, rfl, hu⟩ := all1 hv
    exact s_ret (e_or (e_chainS e_str (e_var 0 hu) e_str fun h1 h2 h3 => pe_chain op_le_str op_le_str h1 h2 h3) fun _ => e_or (e_chainS e_str (e_var 0 hu) e_str fun h1 h2 h3 => pe_chain op_le_str op_le_str h1 h2 h3) fun _ => e_one (e_eq (e_var 0 hu) e_str rfl rfl rfl)) g q
def R_is_name : List D → D → Prop := fun ds d => ∃ c : Str, ds = [.str c] ∧ c.length ≤ 1000 ∧ d = .bool (nameOk c)
theorem ok_is_name (T : Txt K mg) : PFn P w K mg base 2 "is_name" R_is_name :=
  pfn_of T.h_is_name sc_is_name (fun ds d ⟨c, e, _⟩ => by rw [e]; rfl) fun cdv A outer s f H Q xk hr ds d G vs ⟨c, e, hz, ed⟩ g hv q => by
    subst e ed
    obtain ⟨u, rfl, hu⟩ := all1 hv
    have big : c.length ≤ sizeLine := by rw [sizeLine_eq]; omega
    refine s_when (k := !lenOk c || !firstOk c) (t_of (tw_orF (t_is (t_not (t_val (e_isi T.b_isinstance T.b_str (by decide +kernel) (e_var 0 hu) (kit_str (.str c))))) rfl) (tw_or (t_not (t_chain (f := fun i j => decide (i ≤ j)) (f' := fun i j => decide (i ≤ j)) op_le op_le e_int (e_lenS T.b_len (e_var 0 hu) big) (e_globI' T.c_MOST_SIGNS) fun h1 h2 h3 => pt_chain op_le op_le h1 h2 h3)) fun hl => tw_or1 ?_))) g (fun h G1 H1 n1 => ?_) fun h G1 H1 n1 => ?_
    · have hl : lenOk c = true := by
        simpa using hl
      obtain ⟨c0, hc0⟩ : ∃ c0, c.cps[0]? = some c0 := by
        unfold lenOk at hl
        rw [Bool.and_eq_true, decide_eq_true_eq] at hl
        have h1 : 0 < c.cps.size := by
          have := hl.1
          show 0 < c.length
          omega
        exact ⟨c.cps[0], by simp [h1]⟩
      have ef : firstOk c = (leS "a" ⟨#[c0]⟩ && leS ⟨#[c0]⟩ "z") := by unfold firstOk; rw [hc0]
      exact t_is (t_not (t_chainS e_str (e_ixS (e_var 0 hu) e_int hc0) e_str fun h1 h2 h3 => pt_chain op_le_str op_le_str h1 h2 h3)) (by rw [ef])
    · refine s_ret e_bl n1.gh fun v G2 H2 n2 h2 => q v G2 H2 (n1.trans n2) ?_
      have e1 : nameOk c = false := by
        unfold nameOk
        cases h1 : lenOk c <;> cases h2 : firstOk c <;> first | rfl | (rw [h1, h2] at h; cases h)
      rw [e1]; exact h2
    · have hu := Dp.mono n1.g hu
      have e1 : nameOk c = ((sgns c).map smallOk).all id := by
        unfold nameOk
        rw [List.all_map]
        cases h1 : lenOk c <;> cases h2 : firstOk c <;> first | rfl | (rw [h1, h2] at h; cases h)
      rw [e1] at q
      have hlen : (sgns c).length ≤ 1000 := by
        have e : (sgns c).length = c.length := by simp [sgns]; rfl
        rw [e]; exact hz
      refine s_ret (e_allB (bs := (sgns c).map smallOk) rfl T.b_all (e_is (e_ofC (ec_lcO (scope := _) (x := "sign") (j := 1) (xs := (sgns c).map PyData.str) (n := (sgns c).length) (tt := tYes) (c := fun _ => true) (f := fun i => .bool (smallOk ((sgns c).getD i ""))) rfl sc_is_name.nd (ov_str (e_var 0 hu)) (by simp) (by omega) (blkOk_by (N := N_is_name) (sc := defScope s_is_name) (by decide +kernel)) (fun _ _ _ _ _ => pg_name (i := 1) sc_is_name.nd rfl (Or.inl rfl)) (fun _ _ _ _ _ => pts_nil)
        (fun i v d G' hd gg hv G1 H1 _ gh Q q => q G1 H1 (Nx.refl gh)) fun i v d G' hd gg hv _ s H0 C cl fp => ?_)) ?_)) n1.gh fun v G2 H2 n2 h2 => q v G2 H2 (n1.trans n2) h2
      · rw [List.getElem?_map] at hd
        obtain ⟨r, hr1, hr2⟩ := Option.map_eq_some_iff.mp hd
        subst hr2
        exact e_is (e_call (ok_is_small T) (hr.mono (by decide)) (a_cons (e_var 1 hv) a_nil) ⟨r, rfl, rfl⟩) (by rw [List.getD_eq_getElem?_getD, hr1]; rfl)
      · rw [kept_all]
        congr 1
        rw [List.map_map]
        apply List.ext_getElem
        · simp
        · intro i h1 h2
          simp at h1 h2
          simp [h2]
end
end K01

/-! B2: what is a box. -/
namespace K01
open PySem PySem.Spec PyProof.Rows DL SX
open L2 hiding Dp DpAll
/-- a dict of names -/
def bxD (l : List (Str × D)) : D := mkD (l.map fun p => (Sum.inr p.1, p.2))
def keysL (l : List (Str × D)) : D := .list (l.map fun p => .str p.1)
def boxOk (l : List (Str × D)) (zs : List Str) : Bool := (l.map fun p => nameOk p.1 && isSpan p.2).all id && PyData.eqv (keysL l) (.list (zs.map PyData.str))
structure BxIn (l : List (Str × D)) (zs : List Str) : Prop where
  nd : (l.map (·.1)).Nodup
  len : l.length < 64
  sz : ∀ p ∈ l, p.1.length ≤ 1000 ∧ SpZ 1000 p.2
  srt : ∀ ys : List Str, ys.Perm (l.map (·.1)) → sortedS ys = true → ys = zs
  sh : SeqAt.shaped (keysL l) = true
  sh2 : SeqAt.shaped (.list (zs.map PyData.str)) = true
  nz : noDc (keysL l) = true
  nz2 : noDc (.list (zs.map PyData.str)) = true
theorem getK_at {l : List (Str × D)} (nd : (l.map (·.1)).Nodup) {i : Nat} {p : Str × D} (h : l[i]? = some p) : getK (l.map fun p => (Sum.inr p.1, p.2)) (Sum.inr p.1) = some p.2 := by
  induction l generalizing i with
  | nil => cases h
  | cons r l ih =>
    rw [List.map_cons, List.nodup_cons] at nd
    cases i with
    | zero =>
      have e : r = p := by injection h
      subst e
      exact getK_pos rfl
    | succ i =>
      have h : l[i]? = some p := h
      have hm : p.1 ∈ l.map (·.1) := List.mem_map.mpr ⟨p, List.mem_of_getElem? h, rfl⟩
      rw [List.map_cons, getK_neg (fun z => nd.1 (by injection z with z; rw [z]; exact hm))]
      exact ih nd.2 h
section
variable {P : Program} {w : World} {K : PySem.W.Frag} {mg : Str → Option Value} {base : Heap}
def R_is_box : List D → D → Prop := fun ds d => ∃ v, ds = [v] ∧ ((isDc v = false ∧ d = .bool false) ∨ ∃ l zs, v = bxD l ∧ BxIn l zs ∧ d = .bool (boxOk l zs))
theorem ok_is_box (T : Txt K mg) : PFn P w K mg base 4 "is_box" R_is_box :=
  pfn_of T.h_is_box sc_is_box (fun ds d ⟨c, e, _⟩ => by rw [e]; rfl) fun cdv A outer s f H Q xk hr ds d G vs ⟨c, e, ed⟩ g hv q => by
    subst e
    obtain ⟨u, rfl, hu⟩ := all1 hv
    rcases ed with ⟨hc, rfl⟩ | ⟨l, zs, rfl, B, rfl⟩
    · refine s_when (k := true) (t_of (tw_orT (t_is (t_not (t_val (e_isi T.b_isinstance T.b_dict (by decide +kernel) (e_var 0 hu) (kit_dict _)))) (by rw [hc]; rfl)))) g (fun _ G' H' n => ?_) (fun z => nomatch z)
      exact s_ret e_bl n.gh fun v G2 H2 n2 h2 => q v G2 H2 (n.trans n2) h2
    · refine s_when (k := !((l.map fun p => nameOk p.1 && isSpan p.2).all id)) (t_of (tw_orF (t_is (t_not (t_val (e_isi T.b_isinstance T.b_dict (by decide +kernel) (e_var 0 hu) (kit_dict _)))) rfl) (tw_or1 (t_not (t_val (e_allB (bs := l.map fun p => nameOk p.1 && isSpan p.2) rfl T.b_all (e_is (e_ofC (ec_lcO (scope := _) (x := "name") (j := 1) (n := l.length) (tt := tYes) (c := fun _ => true) (f := fun i => ((l.map fun p => PyData.bool (nameOk p.1 && isSpan p.2))).getD i .none) rfl sc_is_box.nd (ov_keys (e_var 0 hu)) (by simp) (by have := B.len; omega) (blkOk_by (N := N_is_box) (sc := defScope s_is_box) (by decide +kernel)) (fun _ _ _ _ _ => pg_name (i := 1) sc_is_box.nd rfl (Or.inl rfl)) (fun _ _ _ _ _ => pts_nil)
        (fun i v d G' hd gg hv G1 H1 _ gh Q q => q G1 H1 (Nx.refl gh)) fun i v d G' hd gg hv _ s H0 C cl fp => ?_)) ?_))))))) g (fun h G1 H1 n1 => ?_) fun h G1 H1 n1 => ?_
      · rw [List.map_map, List.getElem?_map] at hd
        obtain ⟨r, hr1, hr2⟩ := Option.map_eq_some_iff.mp hd
        subst hr2
        have hz := B.sz r (List.mem_of_getElem? hr1)
        refine e_is (e_and2 (e_call (ok_is_name T) (hr.mono (by decide)) (a_cons (e_var 1 hv) a_nil) ⟨r.1, rfl, hz.1, rfl⟩) fun _ => e_call (ok_is_span T) (hr.mono (by decide)) (a_cons (e_dget (roomU hr) (e_var 0 (Dp.mono gg hu)) (e_var 1 hv) (getK_at B.nd hr1)) a_nil) ⟨r.2, rfl, hz.2.up (by decide), rfl⟩) ?_
        rw [List.getD_eq_getElem?_getD, List.getElem?_map, hr1]; rfl
      · rw [kept_all, List.map_map]
        congr 1
        apply List.ext_getElem
        · simp
        · intro i h1 h2
          simp at h1 h2
          simp [h2]
      · refine s_ret e_bl n1.gh fun v G2 H2 n2 h2 => q v G2 H2 (n1.trans n2) ?_
        have e1 : boxOk l zs = false := by
          unfold boxOk
          rw [Bool.not_eq_true'] at h
          rw [h, Bool.false_and]
        rw [e1]; exact h2
      · have hu := Dp.mono n1.g hu
        have e1 : boxOk l zs = PyData.eqv (keysL l) (.list (zs.map PyData.str)) := by
          unfold boxOk
          rw [Bool.not_eq_false'] at h
          rw [h, Bool.true_and]
        rw [e1] at q
        have hks : (l.map fun p => ((Sum.inr p.1 : Key), p.2)).map (·.1) = (l.map (·.1)).map Sum.inr := by rw [List.map_map, List.map_map]; rfl
        exact s_ret (e_eqD (da := keysL l) (db := .list (zs.map PyData.str)) (roomU hr) (e_is (e_listD rfl T.b_list (e_var 0 hu)) (by rw [List.map_map]; rfl)) (e_sortD rfl T.b_sorted (e_var 0 hu) hks (by simpa using B.len) B.srt) B.sh B.sh2 B.nz B.nz2) n1.gh fun v G2 H2 n2 h2 => q v G2 H2 (n1.trans n2) h2
end
end K01

/-! B3: boxes whose values are spans; their width, room. -/
namespace K01
open PySem PySem.Spec PyProof.Rows DL SX
open L2 hiding Dp DpAll
abbrev BX := List (Str × Rat × Rat)
def bxL (l : BX) : List (Str × D) := l.map fun p => (p.1, sp2 p.2.1 p.2.2)
def bx (l : BX) : D := bxD (bxL l)
structure BxOk (l : BX) : Prop where
  nd : (l.map (·.1)).Nodup
  len : l.length ≤ 30
  sz : ∀ p ∈ l, p.2.1 ≤ p.2.2 ∧ Sz 40 p.2.1 ∧ Sz 40 p.2.2
theorem bxL_nd {l : BX} (h : BxOk l) : ((bxL l).map (·.1)).Nodup := by
  have := h.nd
  unfold bxL
  rw [List.map_map]; exact this
theorem bx_vals (l : BX) : ((bxL l).map fun p => ((Sum.inr p.1 : Key), p.2)).map (fun kv => kv.2) = l.map fun p => sp2 p.2.1 p.2.2 := by
  unfold bxL; rw [List.map_map, List.map_map]; rfl
theorem bx_keys (l : BX) : ((bxL l).map fun p => ((Sum.inr p.1 : Key), p.2)).map (fun kv => kD kv.1) = l.map fun p => .str p.1 := by
  unfold bxL; rw [List.map_map, List.map_map]; rfl
theorem bx_get {l : BX} (h : BxOk l) {i : Nat} {p : Str × Rat × Rat} (hi : l[i]? = some p) : getK ((bxL l).map fun p => (Sum.inr p.1, p.2)) (Sum.inr p.1) = some (sp2 p.2.1 p.2.2) :=
  getK_at (p := (p.1, sp2 p.2.1 p.2.2)) (bxL_nd h) (i := i) (by unfold bxL; rw [List.getElem?_map, hi]; rfl)
theorem gr_pos {a b : Rat} (h : a < b) : gr a b = b := by unfold gr; rw [if_pos h]
theorem gr_neg {a b : Rat} (h : ¬ a < b) : gr a b = a := by unfold gr; rw [if_neg h]
theorem ov_is {X : Cx} {tg iter : Expr} {σ : L2.St} {G : Hp} {xs ys : List D} (h : Over X tg iter σ G xs) (e : xs = ys) : Over X tg iter σ G ys := e ▸ h
def wid (p : Str × Rat × Rat) : Rat := p.2.2 - p.2.1
def q_wbox (l : BX) : Rat := (l.map wid).foldl gr 0
def q_room (l : BX) : Rat := (l.map wid).foldl (· * ·) 1
section
variable {P : Program} {w : World} {K : PySem.W.Frag} {mg : Str → Option Value} {base : Heap}
def RB1 (g : BX → D) : List D → D → Prop := fun ds d => ∃ l, ds = [bx l] ∧ BxOk l ∧ d = g l
theorem ok_width_by_box (T : Txt K mg) : PFn P w K mg base 6 "width_by_box" (RB1 fun l => rd (q_wbox l)) :=
  pfn_of T.h_width_by_box sc_width_by_box (fun ds d ⟨c, e, _⟩ => by rw [e]; rfl) fun cdv A outer s f H Q xk hr ds d G vs ⟨l, e, B, ed⟩ g hv q => by
    subst e ed
    obtain ⟨u, rfl, hu⟩ := all1 hv
    refine s_set 1 (e_is (e_globT T.g_ZERO) zero_rd) g sc_width_by_box.nd fun v1 G1 H1 n1 h1 => ?_
    have hu := Dp.mono n1.g hu
    refine s_forO 2 .never rfl sc_width_by_box.nd (ov_is (ov_vals (e_var 0 hu)) (bx_vals l)) n1.gh (fun G2 H2 vx n2 hvx => ⟨fun k σ' H' => ∃ v e2 e3 G', σ' = [some u, some v, e2, e3] ∧ Nx G2 H2 G' H' ∧ Dp K G' v (rd (((l.take k).map wid).foldl gr 0)) ∧ Sz 3000 (((l.take k).map wid).foldl gr 0), ⟨v1, Option.none, Option.none, G2, rfl, Nx.refl n2.gh, Dp.mono n2.g h1, sz_0 (by decide)⟩, fun k σ' H' ⟨_, _, _, G', _, n, _⟩ => n.g.trans n.gh, fun k v d σ' H' hd hv ⟨v3, e2, e3, G', eσ, n, d3, z3⟩ => ?_, fun σ' H' ⟨v3, e2, e3, G', eσ, n, d3, z3⟩ => ?_⟩) <;> (subst eσ)
    · rw [List.getElem?_map] at hd
      obtain ⟨r, hr1, hr2⟩ := Option.map_eq_some_iff.mp hd
      subst hr2
      obtain ⟨hle, z1, z2⟩ := B.sz r (List.mem_of_getElem? hr1)
      have zw : Sz 3000 (wid r) := sz_sub z2 z1 (by decide)
      have e1 : ((l.take (k + 1)).map wid).foldl gr 0 = gr (((l.take k).map wid).foldl gr 0) (wid r) := by
        rw [List.map_take, List.map_take, take_succ_foldl _ _ _ _ (wid r) (by rw [List.getElem?_map, hr1]; rfl)]
      refine s_set 3 (d := rd (wid r)) (e_call (ok_width_by T) (hr.mono (by decide)) (a_cons (e_var 2 (Dp.mono n.g hv)) a_nil) ⟨_, _, rfl, hle, z1.mono (by decide), z2.mono (by decide), rfl⟩) n.gh sc_width_by_box.nd fun v4 G4 H4 n4 h4 => ?_
      have d3 := Dp.mono n4.g d3
      refine s_set 1 (d := rd (gr (((l.take k).map wid).foldl gr 0) (wid r))) (e_if (t_val (e_call (ok_is_below T) (hr.mono (by decide)) (a_cons (e_var 1 d3) (a_cons (e_var 3 h4) a_nil)) ⟨_, _, rfl, z3, zw, rfl⟩)) (fun h => ?_) fun h => ?_) n4.gh sc_width_by_box.nd fun v5 G5 H5 n5 h5 => s_nil ?_
      · exact e_is (e_var 3 h4) (by rw [gr_pos (of_decide_eq_true h)])
      · exact e_is (e_var 1 d3) (by rw [gr_neg (of_decide_eq_false h)])
      · exact ⟨v5, some v, some v4, G5, rfl, n.trans (n4.trans n5), by rw [e1]; exact h5, by rw [e1]; exact Sz.gr z3 zw⟩
    · rw [List.length_map, List.take_length] at d3
      exact s_ret (e_var 1 d3) n.gh fun v G8 H8 n8 h8 => q v G8 H8 (n1.trans (n2.trans (n.trans n8))) h8
end
end K01

/-! B4: boxes checked. -/
namespace K01
open PySem PySem.Spec PyProof.Rows DL SX
open L2 hiding Dp DpAll
section
variable {P : Program} {w : World} {K : PySem.W.Frag} {mg : Str → Option Value} {base : Heap}
def R_check_box : List D → Except Str D → Prop := fun ds r => ∃ v k, ds = [v] ∧ R_is_box [v] (.bool k) ∧ r = if k then .ok .none else .error "NotRight"
theorem ok_check_box (T : Txt K mg) : XFn P w K mg base 5 "check_box" R_check_box :=
  xfn_of T.h_check_box sc_check_box (fun ds d ⟨v, k, e, _⟩ => by rw [e]; rfl) fun cdv A outer s f H Q xk hr ds r G vs ⟨v, k, e, hb, er⟩ g hv q1 q2 => by
    subst e
    obtain ⟨u, rfl, hu⟩ := all1 hv
    exact s_chk (k := k) T (hr.mono (by decide)) (L2N.takes_of rfl rfl rfl rfl) (e_call (ok_is_box T) hr (a_cons (e_var 0 hu) a_nil) hb) g (fun h G1 H1 n1 => s_nil (q1 .none (by rw [er, h]; rfl) .non G1 H1 n1 .non)) fun h c hc G1 H1 n1 => q2 "NotRight" c (by rw [er, h]; rfl) hc G1 H1 n1
end
section
variable {X : Cx} {σ : L2.St} {G H : Hp} {rest : List Stmt} {Z : Ends} {W : WX} {pos p pos' : Pos} {e1 e2 : Expr} {K : PySem.W.Frag} {mg : Str → Option Value}
/-- check_box(b) -/
theorem s_cb {x : D} {k : Bool} (T : Txt X.K X.mg) (hr : Room 5 X.A) (tk : L2N.Takes X W) (h1 : E X e1 σ G x) (hb : R_is_box [x] (.bool k)) (gh : Ex G H) (ok : k = true → ∀ G' H', Nx G H G' H' → wB X rest Z σ H')
    (er : k = false → ∀ c, X.mg "NotRight" = some (.ref c) → ∀ G' H', Nx G H G' H' → W (.ref c) Option.none σ H') (hg : Gl X "check_box" := by rfl)
    (he : starEach [e1] X.env = (false, eval e1 X.env) :: starEach [] X.env := by rfl) (hpl : (backTo pos (starEach [] X.env)).any (·.1) = false := by rfl)
    (hs : swapsWith (.Call (.Name "check_box" p) [e1] [] pos) Option.none pos'.line X.env = pure false := by rfl) : wB X (.Expr (.Call (.Name "check_box" p) [e1] [] pos) pos' :: rest) Z σ H := by
  refine s_callX (ok_check_box T) hr tk (a_cons h1 a_nil he) ⟨x, k, rfl, hb, rfl⟩ gh (fun d hd => ok (ite_ok hd).1) (fun n c hn hc => ?_) hg (by decide) he hpl hs
  have z := ite_err hn
  rw [← z.2] at hc
  exact er z.1 c hc
end
end K01

/-! B5: the room of a box, its widest name. -/
namespace K01
open PySem PySem.Spec PyProof.Rows DL SX
open L2 hiding Dp DpAll
theorem sz_room {l : BX} (B : BxOk l) : ∀ k, Sz (81 * k + 1) (((l.take k).map wid).foldl (· * ·) 1)
  | 0 => sz_1 (by decide)
  | k + 1 => by
    by_cases h : k < l.length
    · have hr : l[k]? = some l[k] := by simp [h]
      obtain ⟨_, z1, z2⟩ := B.sz _ (List.mem_of_getElem? hr)
      rw [List.map_take, take_succ_foldl _ _ _ _ (wid l[k]) (by rw [List.getElem?_map, hr]; rfl), ← List.map_take]
      exact sz_mul (sz_room B k) (sz_sub z2 z1 (k := 81) (by decide)) (by omega)
    · have e : l.take (k + 1) = l.take k := by rw [List.take_of_length_le (by omega), List.take_of_length_le (by omega)]
      rw [e]; exact (sz_room B k).mono (by omega)
section
variable {P : Program} {w : World} {K : PySem.W.Frag} {mg : Str → Option Value} {base : Heap}
/-- a def of one box, checked -/
def RXb (g : BX → Except Str D) : List D → Except Str D → Prop := fun ds r => ∃ v, ds = [v] ∧ ((R_is_box [v] (.bool false) ∧ r = NR) ∨ ∃ l, v = bx l ∧ BxOk l ∧ R_is_box [v] (.bool true) ∧ r = g l)
theorem ok_room_of (T : Txt K mg) : XFn P w K mg base 8 "room_of" (RXb fun l => .ok (rd (q_room l))) :=
  xfn_of T.h_room_of sc_room_of (fun ds d ⟨c, e, _⟩ => by rw [e]; rfl) fun cdv A outer s f H Q xk hr ds r G vs ⟨v, e, er⟩ g hv q1 q2 => by
    subst e
    obtain ⟨u, rfl, hu⟩ := all1 hv
    rcases er with ⟨hb, rfl⟩ | ⟨l, rfl, B, hb, rfl⟩
    · exact s_cb (k := false) T (hr.mono (by decide)) (L2N.takes_of rfl rfl rfl rfl) (e_var 0 hu) hb g (fun h => nomatch h) fun h c hc G1 H1 n1 => q2 "NotRight" c rfl hc G1 H1 n1
    · refine s_cb (k := true) T (hr.mono (by decide)) (L2N.takes_of rfl rfl rfl rfl) (e_var 0 hu) hb g (fun _ G1 H1 n1 => ?_) fun h => nomatch h
      have hu := Dp.mono n1.g hu
      refine s_set 1 (e_is (e_globT T.g_ONE) one_rd) n1.gh sc_room_of.nd fun v1 G2 H2 n2 h1 => ?_
      have hu := Dp.mono n2.g hu
      refine s_forO 2 .leaving rfl sc_room_of.nd (ov_is (ov_vals (e_var 0 hu)) (bx_vals l)) n2.gh (fun G3 H3 vx n3 hvx => ⟨fun k σ' H' => k ≤ l.length ∧ ∃ v e2 G', σ' = [some u, some v, e2] ∧ Nx G3 H3 G' H' ∧ Dp K G' v (rd (((l.take k).map wid).foldl (· * ·) 1)), ⟨Nat.zero_le _, v1, Option.none, G3, rfl, Nx.refl n3.gh, Dp.mono n3.g h1⟩, fun k σ' H' ⟨_, _, _, G', _, n, _⟩ => n.g.trans n.gh, fun k v d σ' H' hd hv ⟨hk, v3, e2, G', eσ, n, d3⟩ => ?_, fun σ' H' ⟨hk, v3, e2, G', eσ, n, d3⟩ => ?_⟩) <;> (subst eσ)
      · rw [List.getElem?_map] at hd
        obtain ⟨r, hr1, hr2⟩ := Option.map_eq_some_iff.mp hd
        subst hr2
        obtain ⟨hle, z1, z2⟩ := B.sz r (List.mem_of_getElem? hr1)
        have zw : Sz 3000 (wid r) := sz_sub z2 z1 (by decide)
        have hkl := (List.getElem?_eq_some_iff.mp hr1).1
        have hL := B.len
        have e1 : ((l.take (k + 1)).map wid).foldl (· * ·) 1 = (((l.take k).map wid).foldl (· * ·) 1) * (wid r) := by
          rw [List.map_take, List.map_take, take_succ_foldl _ _ _ _ (wid r) (by rw [List.getElem?_map, hr1]; rfl)]
        refine s_set 1 (d := rd ((((l.take k).map wid).foldl (· * ·) 1) * wid r)) (e_call (ok_product T) (hr.mono (by decide)) (a_cons (e_var 1 d3) (a_cons (e_call (ok_width_by T) (hr.mono (by decide)) (a_cons (e_var 2 (Dp.mono n.g hv)) a_nil) ⟨_, _, rfl, hle, z1.mono (by decide), z2.mono (by decide), rfl⟩) a_nil)) ⟨_, _, rfl, (sz_room B k).mono (by omega), zw, rfl⟩) n.gh sc_room_of.nd fun v4 G4 H4 n4 h4 => s_nil ?_
        exact ⟨hkl, v4, some v, G4, rfl, n.trans n4, by rw [e1]; exact h4⟩
      · rw [List.length_map, List.take_length] at d3
        exact s_ret (e_var 1 d3) n.gh fun v G8 H8 n8 h8 => q1 _ rfl v G8 H8 (n1.trans (n2.trans (n3.trans (n.trans n8)))) h8
theorem ok_width_of_box (T : Txt K mg) : XFn P w K mg base 8 "width_of_box" (RXb fun l => .ok (rd (q_wbox l))) :=
  xfn_of T.h_width_of_box sc_width_of_box (fun ds d ⟨c, e, _⟩ => by rw [e]; rfl) fun cdv A outer s f H Q xk hr ds r G vs ⟨v, e, er⟩ g hv q1 q2 => by
    subst e
    obtain ⟨u, rfl, hu⟩ := all1 hv
    rcases er with ⟨hb, rfl⟩ | ⟨l, rfl, B, hb, rfl⟩
    · exact s_cb (k := false) T (hr.mono (by decide)) (L2N.takes_of rfl rfl rfl rfl) (e_var 0 hu) hb g (fun h => nomatch h) fun h c hc G1 H1 n1 => q2 "NotRight" c rfl hc G1 H1 n1
    · refine s_cb (k := true) T (hr.mono (by decide)) (L2N.takes_of rfl rfl rfl rfl) (e_var 0 hu) hb g (fun _ G1 H1 n1 => ?_) fun h => nomatch h
      exact s_ret (e_call (ok_width_by_box T) (hr.mono (by decide)) (a_cons (e_var 0 (Dp.mono n1.g hu)) a_nil) ⟨l, rfl, B, rfl⟩) n1.gh fun v G2 H2 n2 h2 => q1 _ rfl v G2 H2 (n1.trans n2) h2
end
end K01

/-! B6: the widest name. -/
namespace K01
open PySem PySem.Spec PyProof.Rows DL SX
open L2 hiding Dp DpAll
def stepW (o : Option (Str × Rat × Rat)) (p : Str × Rat × Rat) : Option (Str × Rat × Rat) := match o with
  | Option.none => some p
  | some r => if wid r < wid p then some p else some r
def nmD : Option (Str × Rat × Rat) → D
  | Option.none => .none
  | some p => .str p.1
def widest (l : BX) : Option (Str × Rat × Rat) := l.foldl stepW Option.none
section
variable {P : Program} {w : World} {K : PySem.W.Frag} {mg : Str → Option Value} {base : Heap}
theorem ok_widest_name (T : Txt K mg) : PFn P w K mg base 6 "widest_name" (RB1 fun l => nmD (widest l)) :=
  pfn_of T.h_widest_name sc_widest_name (fun ds d ⟨c, e, _⟩ => by rw [e]; rfl) fun cdv A outer s f H Q xk hr ds d G vs ⟨l, e, B, ed⟩ g hv q => by
    subst e ed
    obtain ⟨u, rfl, hu⟩ := all1 hv
    refine s_set 1 e_non g sc_widest_name.nd fun v1 G1 H1 n1 h1 => ?_
    have hu := Dp.mono n1.g hu
    refine s_forO 2 .never rfl sc_widest_name.nd (ov_is (ov_keys (e_var 0 hu)) (bx_keys l)) n1.gh (fun G2 H2 vx n2 hvx => ⟨fun k σ' H' => ∃ v e2 G', σ' = [some u, some v, e2] ∧ Nx G2 H2 G' H' ∧ Dp K G' v (nmD ((l.take k).foldl stepW Option.none)) ∧ ∀ r, (l.take k).foldl stepW Option.none = some r → r ∈ l, ⟨v1, Option.none, G2, rfl, Nx.refl n2.gh, Dp.mono n2.g h1, fun r z => nomatch z⟩, fun k σ' H' ⟨_, _, G', _, n, _⟩ => n.g.trans n.gh, fun k v d σ' H' hd hv ⟨v3, e2, G', eσ, n, d3, m3⟩ => ?_, fun σ' H' ⟨v3, e2, G', eσ, n, d3, m3⟩ => ?_⟩) <;> (subst eσ)
    · rw [List.getElem?_map] at hd
      obtain ⟨r, hr1, hr2⟩ := Option.map_eq_some_iff.mp hd
      subst hr2
      have hu := Dp.mono n.g (Dp.mono n2.g hu)
      have hv := Dp.mono n.g hv
      obtain ⟨hle, z1, z2⟩ := B.sz r (List.mem_of_getElem? hr1)
      have e1 := take_succ_foldl stepW Option.none l k r hr1
      have fin : ∀ (b : Bool) (G4 H4 : Hp), Nx G' H' G4 H4 → True := fun _ _ _ _ => trivial
      generalize ho : (l.take k).foldl stepW Option.none = o at d3 m3 e1
      cases o with
      | none =>
        refine s_when (k := true) (t_of (tw_orT (t_is (t_isN (e_var 1 d3)) rfl))) n.gh (fun _ G4 H4 n4 => ?_) (fun z => nomatch z)
        exact s_set 1 (e_var 2 (Dp.mono n4.g hv)) n4.gh sc_widest_name.nd fun v5 G5 H5 n5 h5 => s_nil (s_nil ⟨v5, some v, G5, rfl, n.trans (n4.trans n5), by rw [e1]; exact h5, fun r' z => by rw [e1] at z; injection z with z; rw [← z]; exact List.mem_of_getElem? hr1⟩)
      | some p =>
        obtain ⟨i, hi⟩ := List.getElem?_of_mem (m3 p rfl)
        obtain ⟨hle', z1', z2'⟩ := B.sz p (m3 p rfl)
        refine s_when (k := decide (wid p < wid r)) (t_of (tw_orF (t_is (t_isN (e_var 1 d3)) rfl) (tw_or1 (t_val (e_call (ok_is_below T) (hr.mono (by decide)) (a_cons (e_call (ok_width_by T) (hr.mono (by decide)) (a_cons (e_dget (k := Sum.inr p.1) (roomU hr) (e_var 0 hu) (e_var 1 d3) (bx_get B hi)) a_nil) ⟨_, _, rfl, hle', z1'.mono (by decide), z2'.mono (by decide), rfl⟩) (a_cons (e_call (ok_width_by T) (hr.mono (by decide)) (a_cons (e_dget (k := Sum.inr r.1) (roomU hr) (e_var 0 hu) (e_var 2 hv) (bx_get B hr1)) a_nil) ⟨_, _, rfl, hle, z1.mono (by decide), z2.mono (by decide), rfl⟩) a_nil)) ⟨wid p, wid r, rfl, sz_sub z2' z1' (by decide), sz_sub z2 z1 (by decide), rfl⟩))))) n.gh (fun h G4 H4 n4 => ?_) fun h G4 H4 n4 => ?_
        · have h := of_decide_eq_true h
          have e2 : stepW (some p) r = some r := by show (if wid p < wid r then some r else some p) = some r; rw [if_pos h]
          exact s_set 1 (e_var 2 (Dp.mono n4.g hv)) n4.gh sc_widest_name.nd fun v5 G5 H5 n5 h5 => s_nil (s_nil ⟨v5, some v, G5, rfl, n.trans (n4.trans n5), by rw [e1, e2]; exact h5, fun r' z => by rw [e1, e2] at z; injection z with z; rw [← z]; exact List.mem_of_getElem? hr1⟩)
        · have h := of_decide_eq_false h
          have e2 : stepW (some p) r = some p := by show (if wid p < wid r then some r else some p) = some p; rw [if_neg h]
          exact s_nil ⟨v3, some v, G4, rfl, n.trans n4, by rw [e1, e2]; exact Dp.mono n4.g d3, fun r' z => by rw [e1, e2] at z; exact m3 r' z⟩
    · rw [List.length_map, List.take_length] at d3
      exact s_ret (e_var 1 d3) n.gh fun v G8 H8 n8 h8 => q v G8 H8 (n1.trans (n2.trans (n.trans n8))) h8
end
end K01

/-! B7: a box with one span put; its middles; its halves. -/
namespace K01
open PySem PySem.Spec PyProof.Rows DL SX
open L2 hiding Dp DpAll
/-- the box of the same names, each with what f tells -/
def bxF (l : BX) (f : Str × Rat × Rat → D) : D := bxD (l.map fun p => (p.1, f p))
theorem bxF_eq (l : BX) (f : Str × Rat × Rat → D) : mkD ((List.range l.length).map fun i => ((Sum.inr (l.getD i ("", 0, 0)).1 : Key), f (l.getD i ("", 0, 0)))) = bxF l f := by
  unfold bxF bxD
  congr 1
  rw [List.map_map]
  apply List.ext_getElem
  · simp
  · intro i h1 h2
    simp at h1 h2
    simp [h2]
theorem nd_at {l : BX} (B : BxOk l) {i i' : Nat} (h : i < l.length) (h' : i' < l.length) (e : (Sum.inr (l.getD i ("", 0, 0)).1 : Key) = Sum.inr (l.getD i' ("", 0, 0)).1) : i = i' := by
  have e : (l.getD i ("", 0, 0)).1 = (l.getD i' ("", 0, 0)).1 := by injection e
  have n := B.nd
  have e1 : (l.map (·.1))[i]'(by simpa using h) = (l.map (·.1))[i']'(by simpa using h') := by
    simp [List.getD_eq_getElem?_getD, h, h'] at e
    simpa using e
  exact (List.getElem_inj n).mp e1
section
variable {P : Program} {w : World} {K : PySem.W.Frag} {mg : Str → Option Value} {base : Heap}
theorem ok_middle_by_box (T : Txt K mg) : PFn P w K mg base 6 "middle_by_box" (RB1 fun l => bxF l fun p => q_middle p.2.1 p.2.2) :=
  pfn_of T.h_middle_by_box sc_middle_by_box (fun ds d ⟨c, e, _⟩ => by rw [e]; rfl) fun cdv A outer s f H Q xk hr ds d G vs ⟨l, e, B, ed⟩ g hv q => by
    subst e ed
    obtain ⟨u, rfl, hu⟩ := all1 hv
    refine s_ret (e_is (e_ofC (ec_dcO (scope := _) (x := "name") (j := 1) (n := l.length) (ks := fun i => Sum.inr (l.getD i ("", 0, 0)).1) (f := fun i => (fun p : Str × Rat × Rat => q_middle p.2.1 p.2.2) (l.getD i ("", 0, 0))) rfl sc_middle_by_box.nd (ov_is (ov_keys (e_var 0 hu)) (bx_keys l)) (by simp) (by have := B.len; omega) (blkOk_by (N := N_middle_by_box) (sc := defScope s_middle_by_box) (by decide +kernel)) (fun _ _ _ _ _ => pg_name (i := 1) sc_middle_by_box.nd rfl (Or.inl rfl)) (fun i i' h h' e => nd_at B h h' e) fun i v d G' hd gg hv => ?_)) (bxF_eq l fun p => q_middle p.2.1 p.2.2)) g q
    rw [List.getElem?_map] at hd
    obtain ⟨r, hr1, hr2⟩ := Option.map_eq_some_iff.mp hd
    subst hr2
    obtain ⟨hle, z1, z2⟩ := B.sz r (List.mem_of_getElem? hr1)
    have er : l.getD i ("", 0, 0) = r := by rw [List.getD_eq_getElem?_getD, hr1]; rfl
    rw [er]
    exact ⟨fun s H0 C cl fp => e_var 1 hv, fun s H0 C cl fp => e_call (ok_middle_by T) (hr.mono (by decide)) (a_cons (e_dget (k := Sum.inr r.1) (roomU hr) (e_var 0 (Dp.mono gg hu)) (e_var 1 hv) (bx_get B hr1)) a_nil) ⟨_, _, rfl, hle, z1.mono (by decide), z2.mono (by decide), rfl⟩⟩
end
end K01

/-! B8: a box with one span put; its halves. -/
namespace K01
open PySem PySem.Spec PyProof.Rows DL SX
open L2 hiding Dp DpAll
def putS (l : BX) (nm : Str) (s : D) : D := bxF l fun p => if decide (V.str p.1 = V.str nm) = true then s else sp2 p.2.1 p.2.2
section
variable {P : Program} {w : World} {K : PySem.W.Frag} {mg : Str → Option Value} {base : Heap}
theorem ok_put_span (T : Txt K mg) : PFn P w K mg base 2 "put_span" (fun ds d => ∃ l nm s, ds = [bx l, .str nm, s] ∧ BxOk l ∧ d = putS l nm s) :=
  pfn_of T.h_put_span sc_put_span (fun ds d ⟨l, nm, s, e, _⟩ => by rw [e]; rfl) fun cdv A outer s0 f H Q xk hr ds d G vs ⟨l, nm, s, e, B, ed⟩ g hv q => by
    subst e ed
    obtain ⟨u, t, y, rfl, hu, ht, hy⟩ := all3 hv
    refine s_ret (e_is (e_ofC (ec_dcO (scope := _) (x := "own") (j := 3) (n := l.length) (ks := fun i => Sum.inr (l.getD i ("", 0, 0)).1) (f := fun i => (fun p : Str × Rat × Rat => if decide (V.str p.1 = V.str nm) = true then s else sp2 p.2.1 p.2.2) (l.getD i ("", 0, 0))) rfl sc_put_span.nd (ov_is (ov_keys (e_var 0 hu)) (bx_keys l)) (by simp) (by have := B.len; omega) (blkOk_by (N := N_put_span) (sc := defScope s_put_span) (by decide +kernel)) (fun _ _ _ _ _ => pg_name (i := 3) sc_put_span.nd rfl (Or.inl rfl)) (fun i i' h h' e => nd_at B h h' e) fun i v d G' hd gg hv => ?_)) (bxF_eq l fun p => if decide (V.str p.1 = V.str nm) = true then s else sp2 p.2.1 p.2.2)) g q
    rw [List.getElem?_map] at hd
    obtain ⟨r, hr1, hr2⟩ := Option.map_eq_some_iff.mp hd
    subst hr2
    have er : l.getD i ("", 0, 0) = r := by rw [List.getD_eq_getElem?_getD, hr1]; rfl
    rw [er]
    refine ⟨fun s H0 C cl fp => e_var 3 hv, fun s1 H0 C cl fp => e_if (k := decide (V.str r.1 = V.str nm)) (t_eq (da := .str r.1) (db := .str nm) (e_var 3 hv) (e_var 1 (Dp.mono gg ht)) rfl rfl rfl) (fun h => ?_) fun h => ?_⟩
    · exact e_is (e_var 2 (Dp.mono gg hy)) (by show s = if decide (V.str r.1 = V.str nm) = true then s else _; rw [if_pos h])
    · exact e_is (e_dget (k := Sum.inr r.1) (roomU hr) (e_var 0 (Dp.mono gg hu)) (e_var 3 hv) (bx_get B hr1)) (by show _ = if decide (V.str r.1 = V.str nm) = true then s else _; rw [if_neg (by rw [h]; decide)])
end
end K01

/-! B9: halves and middles of boxes, checked. -/
namespace K01
open PySem PySem.Spec PyProof.Rows DL SX
open L2 hiding Dp DpAll
def q_halveB (l : BX) : D := match widest l with
  | some p => .tuple [putS l p.1 (sp2 p.2.1 (mid p.2.1 p.2.2)), putS l p.1 (sp2 (mid p.2.1 p.2.2) p.2.2)]
  | Option.none => .none
theorem widest_mem {l : BX} : ∀ {o : Option (Str × Rat × Rat)} {p : Str × Rat × Rat}, l.foldl stepW o = some p → o = some p ∨ p ∈ l := by
  induction l with
  | nil => exact fun h => .inl h
  | cons r l ih =>
    intro o p h
    rcases ih h with e | m
    · cases o with
      | none => injection e with e; rw [← e]; exact .inr (List.mem_cons_self ..)
      | some q =>
        have e : (if wid q < wid r then some r else some q) = some p := e
        split at e
        · injection e with e; rw [← e]; exact .inr (List.mem_cons_self ..)
        · exact .inl e
    · exact .inr (List.mem_cons_of_mem _ m)
theorem widest_some {l : BX} (h : l ≠ []) : ∃ p, widest l = some p ∧ p ∈ l := by
  have : ∀ (l : BX) (q : Str × Rat × Rat), ∃ p, l.foldl stepW (some q) = some p := fun l => by
    induction l with
    | nil => exact fun q => ⟨q, rfl⟩
    | cons r l ih =>
      intro q
      show ∃ p, l.foldl stepW (if wid q < wid r then some r else some q) = some p
      split
      · exact ih r
      · exact ih q
  cases l with
  | nil => exact absurd rfl h
  | cons r l =>
    obtain ⟨p, hp⟩ := this l r
    have hw : widest (r :: l) = some p := hp
    rcases widest_mem (l := r :: l) (o := Option.none) hw with e | m
    · cases e
    · exact ⟨p, hw, m⟩
section
variable {P : Program} {w : World} {K : PySem.W.Frag} {mg : Str → Option Value} {base : Heap}
theorem ok_halve_box (T : Txt K mg) : PFn P w K mg base 7 "halve_box" (fun ds d => ∃ l, ds = [bx l] ∧ l ≠ [] ∧ BxOk l ∧ d = q_halveB l) :=
  pfn_of T.h_halve_box sc_halve_box (fun ds d ⟨l, e, _⟩ => by rw [e]; rfl) fun cdv A outer s0 f H Q xk hr ds d G vs ⟨l, e, hne, B, ed⟩ g hv q => by
    subst e ed
    obtain ⟨u, rfl, hu⟩ := all1 hv
    obtain ⟨p, hp, hm⟩ := widest_some hne
    obtain ⟨i, hi⟩ := List.getElem?_of_mem hm
    obtain ⟨hle, z1, z2⟩ := B.sz p hm
    refine s_set 1 (d := .str p.1) (e_is (e_call (ok_widest_name T) hr (a_cons (e_var 0 hu) a_nil) ⟨l, rfl, B, rfl⟩) (by show nmD (widest l) = _; rw [hp]; rfl)) g sc_halve_box.nd fun v1 G1 H1 n1 h1 => ?_
    have hu := Dp.mono n1.g hu
    refine s_unp 2 3 (d1 := sp2 p.2.1 (mid p.2.1 p.2.2)) (d2 := sp2 (mid p.2.1 p.2.2) p.2.2) (e_call (ok_halve_span T) (hr.mono (by decide)) (a_cons (e_dget (k := Sum.inr p.1) (roomU hr) (e_var 0 hu) (e_var 1 h1) (bx_get B hi)) a_nil) ⟨_, _, rfl, hle, z1.mono (by decide), z2.mono (by decide), rfl⟩) n1.gh rfl sc_halve_box.nd fun u2 v2 G2 H2 n2 h2 h3 => ?_
    have hu := Dp.mono n2.g hu
    have h1 := Dp.mono n2.g h1
    exact s_ret (e_is (e_tup (a_cons (e_call (ok_put_span T) (hr.mono (by decide)) (a_cons (e_var 0 hu) (a_cons (e_var 1 h1) (a_cons (e_var 2 h2) a_nil))) ⟨l, p.1, _, rfl, B, rfl⟩) (a_cons (e_call (ok_put_span T) (hr.mono (by decide)) (a_cons (e_var 0 hu) (a_cons (e_var 1 h1) (a_cons (e_var 3 h3) a_nil))) ⟨l, p.1, _, rfl, B, rfl⟩) a_nil))) (by unfold q_halveB; rw [hp])) n2.gh fun v G3 H3 n3 h3 => q v G3 H3 (n1.trans (n2.trans n3)) h3
theorem ok_halves_of_box (T : Txt K mg) : XFn P w K mg base 8 "halves_of_box" (RXb fun l => if l.length = 0 then .error "NoAnswer" else .ok (q_halveB l)) :=
  xfn_of T.h_halves_of_box sc_halves_of_box (fun ds d ⟨c, e, _⟩ => by rw [e]; rfl) fun cdv A outer s f H Q xk hr ds r G vs ⟨v, e, er⟩ g hv q1 q2 => by
    subst e
    obtain ⟨u, rfl, hu⟩ := all1 hv
    rcases er with ⟨hb, rfl⟩ | ⟨l, rfl, B, hb, er⟩
    · exact s_cb (k := false) T (hr.mono (by decide)) (L2N.takes_of rfl rfl rfl rfl) (e_var 0 hu) hb g (fun h => nomatch h) fun h c hc G1 H1 n1 => q2 "NotRight" c rfl hc G1 H1 n1
    · have er : r = if l.length = 0 then .error "NoAnswer" else .ok (q_halveB l) := er
      refine s_cb (k := true) T (hr.mono (by decide)) (L2N.takes_of rfl rfl rfl rfl) (e_var 0 hu) hb g (fun _ G1 H1 n1 => ?_) fun h => nomatch h
      have hu := Dp.mono n1.g hu
      refine s_when (k := decide (l.length = 0)) (t_is (t_eqI (e_lenD T.b_len (e_var 0 hu)) e_int) (by rw [List.length_map]; unfold bxL; rw [List.length_map]; exact decNat l.length 0)) n1.gh (fun h G2 H2 n2 => ?_) fun h G2 H2 n2 => ?_
      · exact s_raise rfl T.x_NoAnswer (L2N.takes_of rfl rfl rfl rfl) fun c hc => q2 "NoAnswer" c (by rw [er, if_pos (of_decide_eq_true h)]) hc G2 H2 (n1.trans n2)
      · have h := of_decide_eq_false h
        exact s_ret (e_call (ok_halve_box T) hr (a_cons (e_var 0 (Dp.mono n2.g hu)) a_nil) ⟨l, rfl, fun z => h (by rw [z]; rfl), B, rfl⟩) n2.gh fun v G3 H3 n3 h3 => q1 _ (by rw [er, if_neg h]) v G3 H3 (n1.trans (n2.trans n3)) h3
theorem ok_middle_of_box (T : Txt K mg) : XFn P w K mg base 8 "middle_of_box" (RXb fun l => .ok (bxF l fun p => q_middle p.2.1 p.2.2)) :=
  xfn_of T.h_middle_of_box sc_middle_of_box (fun ds d ⟨c, e, _⟩ => by rw [e]; rfl) fun cdv A outer s f H Q xk hr ds r G vs ⟨v, e, er⟩ g hv q1 q2 => by
    subst e
    obtain ⟨u, rfl, hu⟩ := all1 hv
    rcases er with ⟨hb, rfl⟩ | ⟨l, rfl, B, hb, rfl⟩
    · exact s_cb (k := false) T (hr.mono (by decide)) (L2N.takes_of rfl rfl rfl rfl) (e_var 0 hu) hb g (fun h => nomatch h) fun h c hc G1 H1 n1 => q2 "NotRight" c rfl hc G1 H1 n1
    · refine s_cb (k := true) T (hr.mono (by decide)) (L2N.takes_of rfl rfl rfl rfl) (e_var 0 hu) hb g (fun _ G1 H1 n1 => ?_) fun h => nomatch h
      exact s_ret (e_call (ok_middle_by_box T) (hr.mono (by decide)) (a_cons (e_var 0 (Dp.mono n1.g hu)) a_nil) ⟨l, rfl, B, rfl⟩) n1.gh fun v G2 H2 n2 h2 => q1 _ rfl v G2 H2 (n1.trans n2) h2
end
end K01

/-! B10: two boxes of the same names. -/
namespace DL
open PySem PySem.Spec PyProof.Rows SX
open L2 hiding Dp DpAll
section
variable {X : Cx} {σ : L2.St} {G H : Hp} {a : Expr} {pos p : Pos}
theorem e_anyB {bs : List Bool} (hcalm : X.calm = true) (hm : X.mg "any" = Option.none) (ha : E X a σ G (.list (bs.map PyData.bool))) (hg : Gl X "any" := by rfl) (he : starEach [a] X.env = (false, eval a X.env) :: starEach [] X.env := by rfl) (hpl : (backTo pos (starEach [] X.env)).any (·.1) = false := by rfl) :
    E X (.Call (.Name "any" p) [a] [] pos) σ G (.bool (bs.any id)) :=
  e_callB (cr_any hcalm) hm (by decide +kernel) (a_cons ha a_nil he) (fun us G1 H1 _ gh hu Q q => by
    obtain ⟨u, rfl, h⟩ := all1 hu
    obtain ⟨l, xs, rfl, hl, hx⟩ := Dp.lst_inv h
    rw [DpAll.bls_inv hx] at hl
    exact ⟨l, bs, rfl, Evl.ex_l gh hl, q _ G1 H1 (Nx.refl gh) (.bl _)⟩) hg (by decide) (by decide) he hpl
end
theorem kept_getD (xs : List D) {n : Nat} (h : xs.length = n) : kept n (fun _ => true) (fun i => xs.getD i .none) = xs := by
  rw [kept_all]
  apply List.ext_getElem
  · simp [h]
  · intro i h1 h2
    simp at h1
    simp [h1, h2]
end DL
namespace K01
open PySem PySem.Spec PyProof.Rows DL SX
open L2 hiding Dp DpAll
/-- the same names -/
def Al (l l' : BX) : Prop := l.map (·.1) = l'.map (·.1)
theorem Al.len {l l' : BX} (h : Al l l') : l.length = l'.length := by have := congrArg List.length h; simpa using this
theorem Al.at {l l' : BX} (h : Al l l') {i : Nat} {r : Str × Rat × Rat} (hi : l[i]? = some r) : ∃ r', l'[i]? = some r' ∧ r'.1 = r.1 := by
  have e : (l.map (·.1))[i]? = (l'.map (·.1))[i]? := by rw [h]
  rw [List.getElem?_map, List.getElem?_map, hi] at e
  cases hz : l'[i]? with
  | none => rw [hz] at e; cases e
  | some r' => rw [hz] at e; exact ⟨r', rfl, by injection e with e; exact e.symm⟩
theorem zip_at {l l' : BX} {i : Nat} {r r' : Str × Rat × Rat} (h : l[i]? = some r) (h' : l'[i]? = some r') : (l.zip l')[i]? = some (r, r') := by
  rw [List.getElem?_zip_eq_some]; exact ⟨h, h'⟩
def w_within (p : (Str × Rat × Rat) × Str × Rat × Rat) : Bool := !decide (p.1.2.1 < p.2.2.1) && !decide (p.2.2.2 < p.1.2.2)
def w_inside (p : (Str × Rat × Rat) × Str × Rat × Rat) : Bool := decide (p.2.2.1 < p.1.2.1) && decide (p.1.2.2 < p.2.2.2)
def comD (l l' : BX) : List (Str × D) := (l.zip l').map fun p => (p.1.1, q_common p.1.2.1 p.1.2.2 p.2.2.1 p.2.2.2)
def q_comB (l l' : BX) : D := if (comD l l').any (fun p => isN p.2) then .none else bxD (comD l l')
theorem comD_at {l l' : BX} {i : Nat} {r r' : Str × Rat × Rat} (h : l[i]? = some r) (h' : l'[i]? = some r') : (comD l l')[i]? = some (r.1, q_common r.2.1 r.2.2 r'.2.1 r'.2.2) := by
  unfold comD; rw [List.getElem?_map, zip_at h h']; rfl
theorem comD_len {l l' : BX} (h : Al l l') : (comD l l').length = l.length := by
  unfold comD; rw [List.length_map, List.length_zip, ← h.len]; exact Nat.min_self _
theorem comD_keys {l l' : BX} (h : Al l l') : (comD l l').map (·.1) = l.map (·.1) := by
  apply List.ext_getElem?
  intro i
  rw [List.getElem?_map, List.getElem?_map]
  cases hi : l[i]? with
  | none =>
    have : (comD l l')[i]? = Option.none := by
      rw [List.getElem?_eq_none_iff] at hi ⊢
      rw [comD_len h]; exact hi
    rw [this]; rfl
  | some r =>
    obtain ⟨r', h', e⟩ := h.at hi
    rw [comD_at hi h']; rfl
theorem comD_eq {l l' : BX} (h : Al l l') : mkD ((List.range l.length).map fun i => ((Sum.inr (l.getD i ("", 0, 0)).1 : Key), (fun p q : Str × Rat × Rat => q_common p.2.1 p.2.2 q.2.1 q.2.2) (l.getD i ("", 0, 0)) (l'.getD i ("", 0, 0)))) = bxD (comD l l') := by
  unfold bxD
  congr 1
  apply List.ext_getElem?
  intro i
  rw [List.getElem?_map, List.getElem?_map]
  by_cases hi : i < l.length
  · have hi1 : l[i]? = some l[i] := by simp [hi]
    obtain ⟨r', h', e⟩ := h.at hi1
    rw [comD_at hi1 h', List.getElem?_range hi]
    show some _ = some _
    simp [List.getD_eq_getElem?_getD, hi1, h']
  · have h1 : (comD l l')[i]? = Option.none := by rw [List.getElem?_eq_none_iff, comD_len h]; omega
    have h2 : (List.range l.length)[i]? = Option.none := by rw [List.getElem?_eq_none_iff, List.length_range]; omega
    rw [h1, h2]; rfl
section
variable {P : Program} {w : World} {K : PySem.W.Frag} {mg : Str → Option Value} {base : Heap}
def RB2 (g : BX → BX → D) : List D → D → Prop := fun ds d => ∃ l l', ds = [bx l, bx l'] ∧ BxOk l ∧ BxOk l' ∧ Al l l' ∧ d = g l l'
theorem ok_within_by_box (T : Txt K mg) : PFn P w K mg base 3 "within_by_box" (RB2 fun l l' => .bool (((l.zip l').map w_within).all id)) :=
  pfn_of T.h_within_by_box sc_within_by_box (fun ds d ⟨_, _, e, _⟩ => by rw [e]; rfl) fun cdv A outer s f H Q xk hr ds d G vs ⟨l, l', e, B, B', al, ed⟩ g hv q => by
    subst e ed
    obtain ⟨u, t, rfl, hu, ht⟩ := all2 hv
    have hL := al.len
    refine s_ret (e_allB (bs := (l.zip l').map w_within) rfl T.b_all (e_is (e_ofC (ec_lcO (scope := _) (x := "name") (j := 2) (n := l.length) (tt := tYes) (c := fun _ => true) (f := fun i => (((l.zip l').map w_within).map PyData.bool).getD i .none) rfl sc_within_by_box.nd (ov_is (ov_keys (e_var 0 hu)) (bx_keys l)) (by simp) (by have := B.len; omega) (blkOk_by (N := N_within_by_box) (sc := defScope s_within_by_box) (by decide +kernel)) (fun _ _ _ _ _ => pg_name (i := 2) sc_within_by_box.nd rfl (Or.inl rfl)) (fun _ _ _ _ _ => pts_nil)
        (fun i v d G' hd gg hv G1 H1 _ gh Q q => q G1 H1 (Nx.refl gh)) fun i v d G' hd gg hv _ s H0 C cl fp => ?_)) (congrArg PyData.list (kept_getD _ (by simp [hL]))))) g q
    rw [List.getElem?_map] at hd
    obtain ⟨r, hr1, hr2⟩ := Option.map_eq_some_iff.mp hd
    subst hr2
    obtain ⟨r', hr1', er⟩ := al.at hr1
    obtain ⟨hle, z1, z2⟩ := B.sz r (List.mem_of_getElem? hr1)
    obtain ⟨hle', z1', z2'⟩ := B'.sz r' (List.mem_of_getElem? hr1')
    have hg := bx_get B' hr1'
    rw [er] at hg
    refine e_is (e_call (ok_within_by T) (hr.mono (by decide)) (a_cons (e_dget (k := Sum.inr r.1) (roomU hr) (e_var 0 (Dp.mono gg hu)) (e_var 2 hv) (bx_get B hr1)) (a_cons (e_dget (k := Sum.inr r.1) (roomU hr) (e_var 1 (Dp.mono gg ht)) (e_var 2 hv) hg) a_nil)) ⟨_, _, _, _, rfl, hle, hle', z1.mono (by decide), z2.mono (by decide), z1'.mono (by decide), z2'.mono (by decide), rfl⟩) ?_
    rw [List.getD_eq_getElem?_getD, List.getElem?_map, List.getElem?_map, zip_at hr1 hr1']; rfl
theorem ok_inside_by_box (T : Txt K mg) : PFn P w K mg base 3 "inside_by_box" (RB2 fun l l' => .bool (((l.zip l').map w_inside).all id)) :=
  pfn_of T.h_inside_by_box sc_inside_by_box (fun ds d ⟨_, _, e, _⟩ => by rw [e]; rfl) fun cdv A outer s f H Q xk hr ds d G vs ⟨l, l', e, B, B', al, ed⟩ g hv q => by
    subst e ed
    obtain ⟨u, t, rfl, hu, ht⟩ := all2 hv
    have hL := al.len
    refine s_ret (e_allB (bs := (l.zip l').map w_inside) rfl T.b_all (e_is (e_ofC (ec_lcO (scope := _) (x := "name") (j := 2) (n := l.length) (tt := tYes) (c := fun _ => true) (f := fun i => (((l.zip l').map w_inside).map PyData.bool).getD i .none) rfl sc_inside_by_box.nd (ov_is (ov_keys (e_var 0 hu)) (bx_keys l)) (by simp) (by have := B.len; omega) (blkOk_by (N := N_inside_by_box) (sc := defScope s_inside_by_box) (by decide +kernel)) (fun _ _ _ _ _ => pg_name (i := 2) sc_inside_by_box.nd rfl (Or.inl rfl)) (fun _ _ _ _ _ => pts_nil)
        (fun i v d G' hd gg hv G1 H1 _ gh Q q => q G1 H1 (Nx.refl gh)) fun i v d G' hd gg hv _ s H0 C cl fp => ?_)) (congrArg PyData.list (kept_getD _ (by simp [hL]))))) g q
    rw [List.getElem?_map] at hd
    obtain ⟨r, hr1, hr2⟩ := Option.map_eq_some_iff.mp hd
    subst hr2
    obtain ⟨r', hr1', er⟩ := al.at hr1
    obtain ⟨hle, z1, z2⟩ := B.sz r (List.mem_of_getElem? hr1)
    obtain ⟨hle', z1', z2'⟩ := B'.sz r' (List.mem_of_getElem? hr1')
    have hg := bx_get B' hr1'
    rw [er] at hg
    refine e_is (e_call (ok_inside_by T) (hr.mono (by decide)) (a_cons (e_dget (k := Sum.inr r.1) (roomU hr) (e_var 0 (Dp.mono gg hu)) (e_var 2 hv) (bx_get B hr1)) (a_cons (e_dget (k := Sum.inr r.1) (roomU hr) (e_var 1 (Dp.mono gg ht)) (e_var 2 hv) hg) a_nil)) ⟨_, _, _, _, rfl, hle, hle', z1.mono (by decide), z2.mono (by decide), z1'.mono (by decide), z2'.mono (by decide), rfl⟩) ?_
    rw [List.getD_eq_getElem?_getD, List.getElem?_map, List.getElem?_map, zip_at hr1 hr1']; rfl
theorem ok_common_by_box (T : Txt K mg) : PFn P w K mg base 4 "common_by_box" (RB2 q_comB) :=
  pfn_of T.h_common_by_box sc_common_by_box (fun ds d ⟨_, _, e, _⟩ => by rw [e]; rfl) fun cdv A outer s f H Q xk hr ds d G vs ⟨l, l', e, B, B', al, ed⟩ g hv q => by
    subst e ed
    obtain ⟨u, t, rfl, hu, ht⟩ := all2 hv
    have hL := al.len
    refine s_set 2 (e_is (e_ofC (ec_dcO (scope := _) (x := "name") (j := 3) (n := l.length) (ks := fun i => Sum.inr (l.getD i ("", 0, 0)).1) (f := fun i => (fun p q : Str × Rat × Rat => q_common p.2.1 p.2.2 q.2.1 q.2.2) (l.getD i ("", 0, 0)) (l'.getD i ("", 0, 0))) rfl sc_common_by_box.nd (ov_is (ov_keys (e_var 0 hu)) (bx_keys l)) (by simp) (by have := B.len; omega) (blkOk_by (N := N_common_by_box) (sc := defScope s_common_by_box) (by decide +kernel)) (fun _ _ _ _ _ => pg_name (i := 3) sc_common_by_box.nd rfl (Or.inl rfl)) (fun i i' h h' e => nd_at B h h' e) fun i v d G' hd gg hv => ?_)) (comD_eq al)) g sc_common_by_box.nd fun v1 G1 H1 n1 h1 => ?_
    · rw [List.getElem?_map] at hd
      obtain ⟨r, hr1, hr2⟩ := Option.map_eq_some_iff.mp hd
      subst hr2
      obtain ⟨r', hr1', er⟩ := al.at hr1
      obtain ⟨hle, z1, z2⟩ := B.sz r (List.mem_of_getElem? hr1)
      obtain ⟨hle', z1', z2'⟩ := B'.sz r' (List.mem_of_getElem? hr1')
      have hg := bx_get B' hr1'
      rw [er] at hg
      have ea : l.getD i ("", 0, 0) = r := by rw [List.getD_eq_getElem?_getD, hr1]; rfl
      have eb : l'.getD i ("", 0, 0) = r' := by rw [List.getD_eq_getElem?_getD, hr1']; rfl
      rw [ea, eb]
      exact ⟨fun s H0 C cl fp => e_var 3 hv, fun s H0 C cl fp => e_call (ok_common_by T) (hr.mono (by decide)) (a_cons (e_dget (k := Sum.inr r.1) (roomU hr) (e_var 0 (Dp.mono gg hu)) (e_var 3 hv) (bx_get B hr1)) (a_cons (e_dget (k := Sum.inr r.1) (roomU hr) (e_var 1 (Dp.mono gg ht)) (e_var 3 hv) hg) a_nil)) ⟨_, _, _, _, rfl, hle, hle', z1.mono (by decide), z2.mono (by decide), z1'.mono (by decide), z2'.mono (by decide), rfl⟩⟩
    · have hnd : ((comD l l').map (·.1)).Nodup := by rw [comD_keys al]; exact B.nd
      refine s_ret (e_if (k := ((comD l l').map fun p => isN p.2).any id) (t_val (e_anyB (bs := (comD l l').map fun p => isN p.2) rfl T.b_any (e_is (e_ofC (ec_lcO (scope := _) (x := "name") (j := 3) (n := (comD l l').length) (tt := tYes) (c := fun _ => true) (f := fun i => (((comD l l').map fun p => isN p.2).map PyData.bool).getD i .none) rfl sc_common_by_box.nd (ov_keys (e_var 2 h1)) (by simp) (by rw [comD_len al]; have := B.len; omega) (blkOk_by (N := N_common_by_box) (sc := defScope s_common_by_box) (by decide +kernel)) (fun _ _ _ _ _ => pg_name (i := 3) sc_common_by_box.nd rfl (Or.inl rfl)) (fun _ _ _ _ _ => pts_nil)
        (fun i v d G' hd gg hv G1 H1 _ gh Q q => q G1 H1 (Nx.refl gh)) fun i v d G' hd gg hv _ s H0 C cl fp => ?_)) (congrArg PyData.list (kept_getD _ (by simp)))))) (fun h => e_is e_non ?_) fun h => e_is (e_var 2 h1) ?_) n1.gh fun v G2 H2 n2 h2 => q v G2 H2 (n1.trans n2) h2
      · rw [List.map_map, List.getElem?_map] at hd
        obtain ⟨r, hr1, hr2⟩ := Option.map_eq_some_iff.mp hd
        subst hr2
        refine e_is (e_isN (da := r.2) ?_) ?_
        · exact e_dget (k := Sum.inr r.1) (roomU hr) (e_var 2 (Dp.mono gg h1)) (e_var 3 hv) (getK_at hnd hr1)
        rw [List.getD_eq_getElem?_getD, List.getElem?_map, List.getElem?_map, hr1]; rfl
      · rw [List.any_map] at h
        have h : (comD l l').any (fun p => isN p.2) = true := h
        unfold q_comB
        rw [if_pos h]
      · rw [List.any_map] at h
        unfold q_comB
        rw [if_neg (by intro z; have h : (comD l l').any (fun p => isN p.2) = false := h; rw [z] at h; cases h)]
end
end K01

/-! B11: two boxes, checked. -/
namespace K01
open PySem PySem.Spec PyProof.Rows DL SX
open L2 hiding Dp DpAll
/-- two values: no boxes, boxes of other names, boxes of the same names -/
def RBX2 (g : BX → BX → Except Str D) : List D → Except Str D → Prop := fun ds r => ∃ v v', ds = [v, v'] ∧
  ((R_is_box [v] (.bool false) ∧ r = NR) ∨ (R_is_box [v] (.bool true) ∧ R_is_box [v'] (.bool false) ∧ r = NR) ∨
   ∃ l l', v = bx l ∧ v' = bx l' ∧ R_is_box [v] (.bool true) ∧ R_is_box [v'] (.bool true) ∧ SeqAt.shaped (keysL (bxL l)) = true ∧ SeqAt.shaped (keysL (bxL l')) = true ∧ noDc (keysL (bxL l)) = true ∧ noDc (keysL (bxL l')) = true ∧
     ((PyData.eqv (keysL (bxL l)) (keysL (bxL l')) = false ∧ r = NR) ∨ (PyData.eqv (keysL (bxL l)) (keysL (bxL l')) = true ∧ BxOk l ∧ BxOk l' ∧ Al l l' ∧ r = g l l')))
section
variable {P : Program} {w : World} {K : PySem.W.Frag} {mg : Str → Option Value} {base : Heap}
theorem ok_check_alike (T : Txt K mg) : XFn P w K mg base 6 "check_alike" (RBX2 fun _ _ => .ok .none) :=
  xfn_of T.h_check_alike sc_check_alike (fun ds d ⟨_, _, e, _⟩ => by rw [e]; rfl) fun cdv A outer s f H Q xk hr ds r G vs ⟨v, v', e, er⟩ g hv q1 q2 => by
    subst e
    obtain ⟨u, t, rfl, hu, ht⟩ := all2 hv
    rcases er with ⟨hb, rfl⟩ | ⟨hb, hb', rfl⟩ | ⟨l, l', rfl, rfl, hb, hb', s1, s2, d1, d2, er⟩
    · exact s_cb (k := false) T (hr.mono (by decide)) (L2N.takes_of rfl rfl rfl rfl) (e_var 0 hu) hb g (fun h => nomatch h) fun h c hc G1 H1 n1 => q2 "NotRight" c rfl hc G1 H1 n1
    · refine s_cb (k := true) T (hr.mono (by decide)) (L2N.takes_of rfl rfl rfl rfl) (e_var 0 hu) hb g (fun _ G1 H1 n1 => ?_) fun h => nomatch h
      exact s_cb (k := false) T (hr.mono (by decide)) (L2N.takes_of rfl rfl rfl rfl) (e_var 1 (Dp.mono n1.g ht)) hb' n1.gh (fun h => nomatch h) fun h c hc G2 H2 n2 => q2 "NotRight" c rfl hc G2 H2 (n1.trans n2)
    · refine s_cb (k := true) T (hr.mono (by decide)) (L2N.takes_of rfl rfl rfl rfl) (e_var 0 hu) hb g (fun _ G1 H1 n1 => ?_) fun h => nomatch h
      refine s_cb (k := true) T (hr.mono (by decide)) (L2N.takes_of rfl rfl rfl rfl) (e_var 1 (Dp.mono n1.g ht)) hb' n1.gh (fun _ G2 H2 n2 => ?_) fun h => nomatch h
      have hu := Dp.mono n2.g (Dp.mono n1.g hu)
      have ht := Dp.mono n2.g (Dp.mono n1.g ht)
      have ee : ∀ l : BX, keysL (bxL l) = .list (((bxL l).map fun p => ((Sum.inr p.1 : Key), p.2)).map fun kv => kD kv.1) := fun l => by unfold keysL; rw [List.map_map]; rfl
      refine s_chk (k := PyData.eqv (keysL (bxL l)) (keysL (bxL l'))) T (hr.mono (by decide)) (L2N.takes_of rfl rfl rfl rfl) (e_eqD (da := keysL (bxL l)) (db := keysL (bxL l')) (roomU hr) (e_is (e_listD rfl T.b_list (e_var 0 hu)) (ee l).symm) (e_is (e_listD rfl T.b_list (e_var 1 ht)) (ee l').symm) s1 s2 d1 d2) n2.gh (fun h G3 H3 n3 => s_nil ?_) fun h c hc G3 H3 n3 => ?_
      · rcases er with ⟨z, _⟩ | ⟨_, _, _, _, rfl⟩
        · rw [h] at z; cases z
        · exact q1 .none rfl .non G3 H3 (n1.trans (n2.trans n3)) .non
      · rcases er with ⟨_, rfl⟩ | ⟨z, _⟩
        · exact q2 "NotRight" c rfl hc G3 H3 (n1.trans (n2.trans n3))
        · rw [h] at z; cases z
section
variable {X : Cx} {σ : L2.St} {G H : Hp} {rest : List Stmt} {Z : Ends} {W : WX} {pos p pos' : Pos} {e1 e2 : Expr} {K : PySem.W.Frag} {mg : Str → Option Value}
/-- check_alike(b, c) -/
theorem s_ca {g : BX → BX → Except Str D} {r : Except Str D} {v v' : D} (T : Txt X.K X.mg) (hr : Room 6 X.A) (tk : L2N.Takes X W) (h1 : E X e1 σ G v) (h2 : E X e2 σ G v') (hR : RBX2 g [v, v'] r) (gh : Ex G H) (ok : ∀ l l', v = bx l → v' = bx l' → BxOk l → BxOk l' → Al l l' → r = g l l' → ∀ G' H', Nx G H G' H' → wB X rest Z σ H')
    (er : r = NR → ∀ c, X.mg "NotRight" = some (.ref c) → ∀ G' H', Nx G H G' H' → W (.ref c) Option.none σ H') (hg : Gl X "check_alike" := by rfl)
    (he : starEach [e1, e2] X.env = (false, eval e1 X.env) :: starEach [e2] X.env := by rfl) (he2 : starEach [e2] X.env = (false, eval e2 X.env) :: starEach [] X.env := by rfl) (hpl : (backTo pos (starEach [e2] X.env)).any (·.1) = false := by rfl)
    (hs : swapsWith (.Call (.Name "check_alike" p) [e1, e2] [] pos) Option.none pos'.line X.env = pure false := by rfl) : wB X (.Expr (.Call (.Name "check_alike" p) [e1, e2] [] pos) pos' :: rest) Z σ H := by
  obtain ⟨w, w', e, hc⟩ := hR
  injection e with e1 e2
  injection e2 with e2 _
  subst e1 e2
  rcases hc with ⟨hb, rr⟩ | ⟨hb, hb', rr⟩ | ⟨l, l', rfl, rfl, hb, hb', s1, s2, d1, d2, ⟨z, rr⟩ | ⟨z, B, B', al, rr⟩⟩
  · exact s_callX (ok_check_alike T) hr tk (a_cons h1 (a_cons h2 a_nil he2) he) ⟨_, _, rfl, .inl ⟨hb, rfl⟩⟩ gh (fun d hd => nomatch hd) (fun n c hn hc => by cases hn; exact er rr c hc) hg (by decide) he hpl hs
  · exact s_callX (ok_check_alike T) hr tk (a_cons h1 (a_cons h2 a_nil he2) he) ⟨_, _, rfl, .inr (.inl ⟨hb, hb', rfl⟩)⟩ gh (fun d hd => nomatch hd) (fun n c hn hc => by cases hn; exact er rr c hc) hg (by decide) he hpl hs
  · exact s_callX (ok_check_alike T) hr tk (a_cons h1 (a_cons h2 a_nil he2) he) ⟨_, _, rfl, .inr (.inr ⟨l, l', rfl, rfl, hb, hb', s1, s2, d1, d2, .inl ⟨z, rfl⟩⟩)⟩ gh (fun d hd => nomatch hd) (fun n c hn hc => by cases hn; exact er rr c hc) hg (by decide) he hpl hs
  · exact s_callX (ok_check_alike T) hr tk (a_cons h1 (a_cons h2 a_nil he2) he) ⟨_, _, rfl, .inr (.inr ⟨l, l', rfl, rfl, hb, hb', s1, s2, d1, d2, .inr ⟨z, B, B', al, rfl⟩⟩)⟩ gh (fun d hd => ok l l' rfl rfl B B' al rr) (fun n c hn hc => nomatch hn) hg (by decide) he hpl hs
end
theorem ok_common_box (T : Txt K mg) : XFn P w K mg base 8 "common_box" (RBX2 fun l l' => .ok (q_comB l l')) :=
  xfn_of T.h_common_box sc_common_box (fun ds d ⟨_, _, e, _⟩ => by rw [e]; rfl) fun cdv A outer s f H Q xk hr ds r G vs hR g hv q1 q2 => by
    obtain ⟨v, v', e, _⟩ := id hR
    subst e
    obtain ⟨u, t, rfl, hu, ht⟩ := all2 hv
    refine s_ca T (hr.mono (by decide)) (L2N.takes_of rfl rfl rfl rfl) (e_var 0 hu) (e_var 1 ht) hR g (fun l l' e1 e2 B B' al er G1 H1 n1 => ?_) fun h c hc G1 H1 n1 => q2 "NotRight" c h hc G1 H1 n1
    subst e1 e2
    exact s_ret (e_call (ok_common_by_box T) (hr.mono (by decide)) (a_cons (e_var 0 (Dp.mono n1.g hu)) (a_cons (e_var 1 (Dp.mono n1.g ht)) a_nil)) ⟨l, l', rfl, B, B', al, rfl⟩) n1.gh fun v G2 H2 n2 h2 => q1 _ er v G2 H2 (n1.trans n2) h2
theorem ok_is_within_box (T : Txt K mg) : XFn P w K mg base 8 "is_within_box" (RBX2 fun l l' => .ok (.bool (((l.zip l').map w_within).all id))) :=
  xfn_of T.h_is_within_box sc_is_within_box (fun ds d ⟨_, _, e, _⟩ => by rw [e]; rfl) fun cdv A outer s f H Q xk hr ds r G vs hR g hv q1 q2 => by
    obtain ⟨v, v', e, _⟩ := id hR
    subst e
    obtain ⟨u, t, rfl, hu, ht⟩ := all2 hv
    refine s_ca T (hr.mono (by decide)) (L2N.takes_of rfl rfl rfl rfl) (e_var 0 hu) (e_var 1 ht) hR g (fun l l' e1 e2 B B' al er G1 H1 n1 => ?_) fun h c hc G1 H1 n1 => q2 "NotRight" c h hc G1 H1 n1
    subst e1 e2
    exact s_ret (e_call (ok_within_by_box T) (hr.mono (by decide)) (a_cons (e_var 0 (Dp.mono n1.g hu)) (a_cons (e_var 1 (Dp.mono n1.g ht)) a_nil)) ⟨l, l', rfl, B, B', al, rfl⟩) n1.gh fun v G2 H2 n2 h2 => q1 _ er v G2 H2 (n1.trans n2) h2
theorem ok_is_inside_box (T : Txt K mg) : XFn P w K mg base 8 "is_inside_box" (RBX2 fun l l' => .ok (.bool (((l.zip l').map w_inside).all id))) :=
  xfn_of T.h_is_inside_box sc_is_inside_box (fun ds d ⟨_, _, e, _⟩ => by rw [e]; rfl) fun cdv A outer s f H Q xk hr ds r G vs hR g hv q1 q2 => by
    obtain ⟨v, v', e, _⟩ := id hR
    subst e
    obtain ⟨u, t, rfl, hu, ht⟩ := all2 hv
    refine s_ca T (hr.mono (by decide)) (L2N.takes_of rfl rfl rfl rfl) (e_var 0 hu) (e_var 1 ht) hR g (fun l l' e1 e2 B B' al er G1 H1 n1 => ?_) fun h c hc G1 H1 n1 => q2 "NotRight" c h hc G1 H1 n1
    subst e1 e2
    exact s_ret (e_call (ok_inside_by_box T) (hr.mono (by decide)) (a_cons (e_var 0 (Dp.mono n1.g hu)) (a_cons (e_var 1 (Dp.mono n1.g ht)) a_nil)) ⟨l, l', rfl, B, B', al, rfl⟩) n1.gh fun v G2 H2 n2 h2 => q1 _ er v G2 H2 (n1.trans n2) h2
end
end K01

/-! L1: the law's arithmetic. -/
namespace DL
open PySem PySem.Spec PyProof.Rows
open L2 hiding Dp DpAll
section
variable {X : Cx} {σ : L2.St} {H : Hp} {rest : List Stmt} {Z : Ends} {pos : Pos}
theorem s_break (h : Z.bk σ H) : wB X (.Break pos :: rest) Z σ H := s_cons ⟨_, ps_break, h⟩
end
end DL
namespace K01
open PySem PySem.Spec PyProof.Rows DL SX
open L2 hiding Dp DpAll
section
variable {P : Program} {w : World} {K : PySem.W.Frag} {mg : Str → Option Value} {base : Heap}
/-- how far Euclid has come behind i turns -/
def EuI (A B i x y : Nat) : Prop := Nat.gcd x y = Nat.gcd A B ∧ x * y * 2 ^ (i - 1) ≤ A * B ∧ (0 < i → y ≤ x) ∧ (i = 0 → x = A ∧ y = B)
theorem eu_step {A B i x y : Nat} (h : EuI A B i x y) (hy : 0 < y) : EuI A B (i + 1) y (x % y) := by
  obtain ⟨h1, h2, h3, h4⟩ := h
  refine ⟨by rw [← h1, Nat.gcd_comm x y, Nat.gcd_rec y x, Nat.gcd_comm], ?_, fun _ => Nat.le_of_lt (Nat.mod_lt _ hy), fun z => by omega⟩
  by_cases hi : i = 0
  · obtain ⟨rfl, rfl⟩ := h4 hi
    subst hi
    show y * (x % y) * 2 ^ 0 ≤ x * y
    rw [Nat.pow_zero, Nat.mul_one, Nat.mul_comm x y]
    exact Nat.mul_le_mul_left _ (Nat.mod_le _ _)
  · have hxy := h3 (Nat.pos_of_ne_zero hi)
    have hm : 2 * (x % y) ≤ x := by
      have e := Nat.div_add_mod x y
      have h5 : 1 ≤ x / y := Nat.div_pos hxy hy
      have h6 : y * 1 ≤ y * (x / y) := Nat.mul_le_mul_left _ h5
      have h7 := Nat.mod_lt x hy
      omega
    have e : i + 1 - 1 = (i - 1) + 1 := by omega
    rw [e, Nat.pow_succ]
    refine Nat.le_trans ?_ h2
    have : y * (x % y) * (2 ^ (i - 1) * 2) = y * (2 * (x % y)) * 2 ^ (i - 1) := by grind
    rw [this, Nat.mul_comm x y]
    exact Nat.mul_le_mul_right _ (Nat.mul_le_mul_left _ hm)
theorem eu_end {A B x y : Nat} (h : EuI A B 400000 x y) (hA : A < 2 ^ 100000) (hB : B < 2 ^ 100000) : y = 0 := by
  obtain ⟨_, h2, h3, _⟩ := h
  have hyx := h3 (by decide)
  refine Nat.eq_zero_of_not_pos fun hy => ?_
  have h5 : 1 ≤ x * y := Nat.mul_pos (by omega) hy
  have h6 : 2 ^ 399999 ≤ x * y * 2 ^ (400000 - 1) := Nat.le_mul_of_pos_left _ h5
  have h7 : A * B < 2 ^ 100000 * 2 ^ 100000 := Nat.mul_lt_mul_of_le_of_lt (Nat.le_of_lt hA) hB (Nat.pow_pos (by decide))
  rw [← Nat.pow_add] at h7
  have h8 : 2 ^ (100000 + 100000) ≤ 2 ^ 399999 := pow_le (by decide)
  omega
def R_law_r : List D → D → Prop := R_made
theorem sgn_div {n e : Int} {g : Nat} (hg : ((g : Nat) : Int) ∣ n) : 0 - n / (g : Int) = -1 * n / (g : Int) := by
  rw [Int.zero_sub, Int.neg_mul, Int.one_mul, Int.neg_ediv_of_dvd hg]
theorem ok__law_r (T : Txt K mg) : PFn P w K mg base 1 "_law_r" R_law_r :=
  pfn_of T.h__law_r sc__law_r (fun ds d ⟨a, b, e, _⟩ => by rw [e]; rfl) fun cdv A outer s f H Q xk hr ds d G vs ⟨n, e, eds, he, hn, hd, ed⟩ g hv q => by
    subst eds ed
    obtain ⟨u, x, rfl, hu, hx⟩ := all2 hv
    cases hu; cases hx
    refine s_par 2 3 rfl sc__law_r.nd (a_cons (e_abs T.b_abs (e_var 0 (.int _))) (a_cons (e_abs T.b_abs (e_var 1 (.int _))) a_nil)) g fun u v G1 H1 n1 h1 h2 => ?_
    cases h1; cases h2
    have gp : 0 < ((Nat.gcd n.natAbs e.natAbs : Nat) : Int) := by
      have := Nat.gcd_pos_of_pos_right n.natAbs (show 0 < e.natAbs by omega)
      omega
    have gl : ((Nat.gcd n.natAbs e.natAbs : Nat) : Int).natAbs < 2 ^ 8000 := by
      rw [Int.natAbs_natCast]
      exact Nat.lt_of_le_of_lt (Nat.gcd_le_right _ (by omega)) hd
    have dv1 : ((Nat.gcd n.natAbs e.natAbs : Nat) : Int) ∣ n := Int.gcd_dvd_left ..
    have dv2 : ((Nat.gcd n.natAbs e.natAbs : Nat) : Int) ∣ e := Int.gcd_dvd_right ..
    have fin : ∀ (σ : L2.St) (H' : Hp), (∃ o G', σ = [some (.int n), some (.int e), some (.int (Nat.gcd n.natAbs e.natAbs : Nat)), some (.int 0), o] ∧ Nx G H G' H') →
        wB (cxOf CX0 P w K mg base N__law_r "_law_r" (defScope s__law_r) f cdv A outer s H xk).nox (defBody s__law_r |>.drop 2) { nx := fun _ H' => Q .non H', rt := Q } σ H' := fun σ H' ⟨o, G', eσ, n'⟩ => by
      subst eσ
      refine s_ret (d := rd (Rat.divInt n e)) (e_if (t_gt (e_var 1 (.int _)) e_int) (fun h => e_is (e_tup (a_cons (e_div (e_var 0 (.int _)) (e_var 2 (.int _)) (divOK gp gl (by decide))) (a_cons (e_div (e_var 1 (.int _)) (e_var 2 (.int _)) (divOK gp gl (by decide))) a_nil))) ?_)
        fun h => e_is (e_tup (a_cons (e_sub e_int (e_div (e_var 0 (.int _)) (e_var 2 (.int _)) (divOK gp gl (by decide)))) (a_cons (e_sub e_int (e_div (e_var 1 (.int _)) (e_var 2 (.int _)) (divOK gp gl (by decide)))) a_nil))) ?_) n'.gh fun v G3 H3 n3 hv => q v G3 H3 (n'.trans n3) hv
      · rw [← rd_made n e he, if_pos (by simpa using h), Int.one_mul, Int.one_mul]
      · have h : ¬ 0 < e := by simpa using h
        rw [← rd_made n e he, if_neg h, sgn_div dv1, sgn_div dv2] <;> exact 0
    refine s_forR 4 (n := 400000) .never rfl sc__law_r.nd T.b_range (a_cons e_int a_nil) n1.gh (by decide) (fun i σ H' => ∃ (x y : Nat) (o : Option V) (G' : Hp), EuI n.natAbs e.natAbs i x y ∧ σ = [some (.int n), some (.int e), some (.int x), some (.int y), o] ∧ Nx G H G' H')
      (fun G2 H2 n2 => ⟨n.natAbs, e.natAbs, Option.none, G2, ⟨rfl, by simp, fun h => absurd h (by decide), fun _ => ⟨rfl, rfl⟩⟩, rfl, n1.trans n2⟩) (fun i σ H2 hi ⟨x, y, o, G2, I, eσ, n2⟩ => ?_) fun σ H2 ⟨x, y, o, G2, I, eσ, n2⟩ => ?_
    · subst eσ
      refine s_when (k := decide (y = 0)) (t_is (t_eqI (e_var 3 (.int _)) e_int) (decNat y 0)) n2.gh (fun hk G3 H3 n3 => ?_) fun hk G3 H3 n3 => ?_
      · have hk := of_decide_eq_true hk
        subst hk
        refine s_break (fin _ _ ⟨some (.int (i : Int)), G3, ?_, n2.trans n3⟩)
        have := I.1
        rw [Nat.gcd_zero_right] at this
        rw [this]; rfl
      · have hk := of_decide_eq_false hk
        refine s_par 2 3 rfl sc__law_r.nd (a_cons (e_var 3 (.int _)) (a_cons (e_mod (e_intI T.b_int (e_var 2 (.int _))) (e_var 3 (.int _)) (by omega)) a_nil)) n3.gh fun u v G4 H4 n4 h1 h2 => s_nil ?_
        cases h1; cases h2
        exact ⟨y, x % y, some (.int (i : Int)), G4, eu_step I (Nat.pos_of_ne_zero hk), by rw [Int.natCast_emod]; rfl, (n2.trans n3).trans n4⟩
    · subst eσ
      have hy := eu_end I (Nat.lt_of_lt_of_le hn (pow_le (by decide))) (lt_pow hd (by decide))
      subst hy
      refine fin _ _ ⟨o, G2, ?_, n2⟩
      have := I.1
      rw [Nat.gcd_zero_right] at this
      rw [this]; rfl

def R_bin (n : Nat) (f : Rat → Rat → Rat) : List D → D → Prop := fun ds d => ∃ a b : Rat, ds = [rd a, rd b] ∧ Sz n a ∧ Sz n b ∧ d = rd (f a b)
theorem ok__law_add (T : Txt K mg) : PFn P w K mg base 2 "_law_add" (R_bin 3000 (· + ·)) :=
  pfn_of T.h__law_add sc__law_add (fun ds d ⟨a, b, e, _⟩ => by rw [e]; rfl) fun cdv A outer s f H Q xk hr ds d G vs ⟨a, b, e, za, zb, ed⟩ g hv q => by
    subst e ed
    obtain ⟨u, x, rfl, hu, hx⟩ := all2 hv
    have hd : ((a.den : Int) * b.den).natAbs < 2 ^ 6000 := mul_lt (natI za.2) (natI zb.2)
    have h1 := mul_lt za.1 (natI zb.2)
    have h2 := mul_lt zb.1 (natI za.2)
    exact s_ret (e_is (e_call (ok__law_r T) hr (a_cons (e_add (e_mul (e_ixT (e_var 0 hu) e_int rfl) (e_ixT (e_var 1 hx) e_int rfl) (mulOK za.1 (natI zb.2) (by decide))) (e_mul (e_ixT (e_var 1 hx) e_int rfl) (e_ixT (e_var 0 hu) e_int rfl) (mulOK zb.1 (natI za.2) (by decide)))) (a_cons (e_mul (e_ixT (e_var 0 hu) e_int rfl) (e_ixT (e_var 1 hx) e_int rfl) (mulOK (natI za.2) (natI zb.2) (by decide))) a_nil))
      ⟨_, _, rfl, Int.ne_of_gt (Int.mul_pos (den_pos' a) (den_pos' b)), add_lt h1 h2 (by decide) (by decide), lt_pow hd (by decide), rfl⟩) (by rw [add_divInt])) g q
theorem sub_divInt (a b : Rat) : Rat.divInt (a.num * b.den - b.num * a.den) ((a.den : Int) * b.den) = a - b := by
  rw [Rat.sub_eq_add_neg, ← add_divInt, Rat.neg_num, Rat.neg_den, Int.neg_mul, Int.sub_eq_add_neg]
theorem ok__law_sub (T : Txt K mg) : PFn P w K mg base 2 "_law_sub" (R_bin 3000 (· - ·)) :=
  pfn_of T.h__law_sub sc__law_sub (fun ds d ⟨a, b, e, _⟩ => by rw [e]; rfl) fun cdv A outer s f H Q xk hr ds d G vs ⟨a, b, e, za, zb, ed⟩ g hv q => by
    subst e ed
    obtain ⟨u, x, rfl, hu, hx⟩ := all2 hv
    have hd : ((a.den : Int) * b.den).natAbs < 2 ^ 6000 := mul_lt (natI za.2) (natI zb.2)
    have h1 := mul_lt za.1 (natI zb.2)
    have h2 := mul_lt zb.1 (natI za.2)
    exact s_ret (e_is (e_call (ok__law_r T) hr (a_cons (e_sub (e_mul (e_ixT (e_var 0 hu) e_int rfl) (e_ixT (e_var 1 hx) e_int rfl) (mulOK za.1 (natI zb.2) (by decide))) (e_mul (e_ixT (e_var 1 hx) e_int rfl) (e_ixT (e_var 0 hu) e_int rfl) (mulOK zb.1 (natI za.2) (by decide)))) (a_cons (e_mul (e_ixT (e_var 0 hu) e_int rfl) (e_ixT (e_var 1 hx) e_int rfl) (mulOK (natI za.2) (natI zb.2) (by decide))) a_nil))
      ⟨_, _, rfl, Int.ne_of_gt (Int.mul_pos (den_pos' a) (den_pos' b)), by rw [Int.sub_eq_add_neg]; exact add_lt h1 (neg_lt h2) (by decide) (by decide), lt_pow hd (by decide), rfl⟩) (by rw [sub_divInt])) g q
theorem ok__law_mul (T : Txt K mg) : PFn P w K mg base 2 "_law_mul" (R_bin 3000 (· * ·)) :=
  pfn_of T.h__law_mul sc__law_mul (fun ds d ⟨a, b, e, _⟩ => by rw [e]; rfl) fun cdv A outer s f H Q xk hr ds d G vs ⟨a, b, e, za, zb, ed⟩ g hv q => by
    subst e ed
    obtain ⟨u, x, rfl, hu, hx⟩ := all2 hv
    have hd : ((a.den : Int) * b.den).natAbs < 2 ^ 6000 := mul_lt (natI za.2) (natI zb.2)
    have h1 := mul_lt za.1 zb.1
    exact s_ret (e_is (e_call (ok__law_r T) hr (a_cons (e_mul (e_ixT (e_var 0 hu) e_int rfl) (e_ixT (e_var 1 hx) e_int rfl) (mulOK za.1 zb.1 (by decide))) (a_cons (e_mul (e_ixT (e_var 0 hu) e_int rfl) (e_ixT (e_var 1 hx) e_int rfl) (mulOK (natI za.2) (natI zb.2) (by decide))) a_nil))
      ⟨_, _, rfl, Int.ne_of_gt (Int.mul_pos (den_pos' a) (den_pos' b)), lt_pow h1 (by decide), lt_pow hd (by decide), rfl⟩) (by rw [mul_divInt])) g q
def R_law_less : List D → D → Prop := fun ds d => ∃ a b : Rat, ds = [rd a, rd b] ∧ Sz 3000 a ∧ Sz 3000 b ∧ d = .bool (decide (a < b))
theorem ok__law_less (T : Txt K mg) : PFn P w K mg base 1 "_law_less" R_law_less :=
  pfn_of T.h__law_less sc__law_less (fun ds d ⟨a, b, e, _⟩ => by rw [e]; rfl) fun cdv A outer s f H Q xk hr ds d G vs ⟨a, b, e, za, zb, ed⟩ g hv q => by
    subst e ed
    obtain ⟨u, x, rfl, hu, hx⟩ := all2 hv
    exact s_ret (e_is (e_lt (e_mul (e_ixT (e_var 0 hu) e_int rfl) (e_ixT (e_var 1 hx) e_int rfl) (mulOK za.1 (natI zb.2) (by decide))) (e_mul (e_ixT (e_var 1 hx) e_int rfl) (e_ixT (e_var 0 hu) e_int rfl) (mulOK zb.1 (natI za.2) (by decide)))) (by rw [lt_iff'])) g q
/-- 2 ** many -/
def R_law_twos : List D → D → Prop := fun ds d => ∃ k : Nat, ds = [.int k] ∧ k ≤ 1000 ∧ d = .int ((2 ^ k : Nat) : Int)
theorem ok__law_twos (T : Txt K mg) : PFn P w K mg base 1 "_law_twos" R_law_twos :=
  pfn_of T.h__law_twos sc__law_twos (fun ds d ⟨a, e, _⟩ => by rw [e]; rfl) fun cdv A outer s f H Q xk hr ds d G vs ⟨n, e, hn, ed⟩ g hv q => by
    subst e ed
    obtain ⟨u, rfl, hu⟩ := all1 hv
    cases hu
    refine s_set 1 e_int g sc__law_twos.nd fun v1 G1 H1 n1 h1 => ?_
    cases h1
    refine s_forR 2 (n := n) .never rfl sc__law_twos.nd T.b_range (a_cons (e_var 0 (.int _)) a_nil) n1.gh (Nat.le_trans hn (by decide)) (fun i σ H' => ∃ (o : Option V) (G' : Hp), σ = [some (.int n), some (.int ((2 ^ i : Nat) : Int)), o] ∧ Nx G H G' H')
      (fun G2 H2 n2 => ⟨Option.none, G2, rfl, n1.trans n2⟩) (fun i σ H2 hi ⟨o, G2, eσ, n2⟩ => ?_) fun σ H2 ⟨o, G2, eσ, n2⟩ => ?_
    · subst eσ
      refine s_set 1 (d := .int ((2 ^ (i + 1) : Nat) : Int)) (e_is (e_mul (e_var 1 (.int _)) e_int (mulOK (a := 1001) (b := 2) (by rw [Int.natAbs_natCast]; exact Nat.pow_lt_pow_right (by decide) (by omega)) (by decide) (by decide))) (by rw [Nat.pow_succ]; rfl)) n2.gh sc__law_twos.nd fun v3 G3 H3 n3 h3 => s_nil ?_
      cases h3
      exact ⟨some (.int (i : Int)), G3, rfl, n2.trans n3⟩
    · subst eσ
      exact s_ret (e_var 1 (.int _)) n2.gh fun v G3 H3 n3 hv => q v G3 H3 (n2.trans n3) hv
def R_law_power : List D → D → Prop := fun ds d => ∃ (a : Rat) (k : Nat) (m : Nat), ds = [rd a, .int k] ∧ 0 < m ∧ Sz m a ∧ m * k ≤ 2000 ∧ m ≤ 2000 ∧ d = rd (a ^ k)
theorem sz_one {m : Nat} (h : 0 < m) : Sz m 1 := ⟨Nat.one_lt_two_pow (by omega), Nat.one_lt_two_pow (by omega)⟩
theorem lz_pow' {a : Rat} {m k : Nat} (z : Sz m a) (h : m * k ≤ 2000) : Sz 3000 (a ^ k) := by
  by_cases hk : k = 0
  · subst hk; rw [Rat.pow_zero]; exact sz_one (by decide)
  · exact (sz_pow z (Nat.pos_of_ne_zero hk)).mono (by omega)
theorem ok__law_power (T : Txt K mg) : PFn P w K mg base 3 "_law_power" R_law_power :=
  pfn_of T.h__law_power sc__law_power (fun ds d ⟨a, b, _, e, _⟩ => by rw [e]; rfl) fun cdv A outer s f H Q xk hr ds d G vs ⟨a, n, m, e, hm, za, hk, hm2, ed⟩ g hv q => by
    subst e ed
    obtain ⟨u, x, rfl, hu, hx⟩ := all2 hv
    cases hx
    have hn : n ≤ 2000 := Nat.le_trans (Nat.le_mul_of_pos_left _ hm) hk
    refine s_set 2 (d := rd 1) (e_tup (a_cons e_int (a_cons e_int a_nil))) g sc__law_power.nd fun v1 G1 H1 n1 h1 => ?_
    refine s_forR 3 (n := n) .never rfl sc__law_power.nd T.b_range (a_cons (e_var 1 (.int _)) a_nil) n1.gh (Nat.le_trans hn (by decide)) (fun i σ H' => ∃ (v : V) (o : Option V) (G' : Hp), σ = [some u, some (.int n), some v, o] ∧ Nx G H G' H' ∧ Dp K G' v (rd (a ^ i)))
      (fun G2 H2 n2 => ⟨v1, Option.none, G2, rfl, n1.trans n2, Dp.mono n2.g (by rw [Rat.pow_zero]; exact h1)⟩) (fun i σ H2 hi ⟨v, o, G2, eσ, n2, dv⟩ => ?_) fun σ H2 ⟨v, o, G2, eσ, n2, dv⟩ => ?_
    · subst eσ
      refine s_set 2 (d := rd (a ^ (i + 1))) (e_is (e_call (ok__law_mul T) hr (a_cons (e_var 2 dv) (a_cons (e_var 0 (Dp.mono n2.g hu)) a_nil)) ⟨a ^ i, a, rfl, lz_pow' za (Nat.le_trans (Nat.mul_le_mul_left _ (Nat.le_of_lt hi)) hk), za.mono (by omega), rfl⟩) (by rw [Rat.pow_succ])) n2.gh sc__law_power.nd fun v3 G3 H3 n3 h3 => s_nil ?_
      exact ⟨v3, some (.int (i : Int)), G3, rfl, n2.trans n3, h3⟩
    · subst eσ
      exact s_ret (e_var 2 dv) n2.gh fun v G3 H3 n3 hv => q v G3 H3 (n2.trans n3) hv
end
end K01

/-! L2: taking from the draws. -/
namespace K01
open PySem PySem.Spec PyProof.Rows DL SX
open L2 hiding Dp DpAll
section
variable {P : Program} {w : World} {K : PySem.W.Frag} {mg : Str → Option Value} {base : Heap}
def Pre_take : List D → Prop := fun ds => ∃ b : Int, ds = [.int b] ∧ 0 < b
def Post_take : List D → D → Prop := fun ds d => ∃ b i : Int, ds = [.int b] ∧ d = .int i ∧ 0 ≤ i ∧ i < b
theorem ok__law_take (T : Txt K mg) : MFn P w K mg base 1 "_law_take" Pre_take Post_take :=
  mfn_of T.h__law_take sc__law_take (fun ds ⟨b, e, _⟩ => by rw [e]; rfl) fun cdv A outer s f H Q xk hr l ds G vs ⟨b, e, hb⟩ m hv q => by
    subst e
    obtain ⟨u, rfl, hu⟩ := all1 hv
    cases hu
    obtain ⟨ns, hl⟩ := m.hl
    -- len(draws) == 0: the list itself is looked at
    have hgl : Ex G (upd G l (.lst (ns.map V.int))) := Evl.Ex.new m.gl
    have hgH : Ex (upd G l (.lst (ns.map V.int))) H := fun a u q => by
      by_cases z : a = l
      · subst z; rw [upd_same] at q; rw [← q]; exact hl
      · rw [upd_ne z] at q; exact m.gh a u q
    have hd : Dp K (upd G l (.lst (ns.map V.int))) (.ref l) (.list (ns.map PyData.int)) := .lst (Evl.sq_of upd_same) DpAll.ints
    have back : ∀ G' H', Nx (upd G l (.lst (ns.map V.int))) H G' H' → MO G H' l ∧ H' l = some (.lst (ns.map V.int)) := fun G' H' n => by
      have h1 : H' l = some (.lst (ns.map V.int)) := n.gh _ _ (n.g _ _ upd_same)
      exact ⟨⟨(hgl.trans n.g).trans n.gh, m.gl, ns, h1⟩, h1⟩
    refine s_when (k := decide (ns = [])) (t_is (t_eqI (e_len T.b_len (e_var 0 hd) (.inr rfl)) e_int) ?_) hgH (fun hk G' H' n => ?_) fun hk G' H' n => ?_
    · rw [List.length_map]
      cases ns with
      | nil => rfl
      | cons x r => exact (decide_eq_false (by rw [List.length_cons]; omega)).trans (decide_eq_false (fun z => nomatch z)).symm
    · obtain ⟨m', h'⟩ := back G' H' n
      exact sm_ret (em_of e_int) m' fun v d G2 H2 r g2 m2 hv => q v d G2 H2 ⟨b, 0, rfl, r, Int.le_refl _, hb⟩ g2 m2 hv
    · obtain ⟨m', h'⟩ := back G' H' n
      exact sm_popmod 0 1 T.b_int m' h' (of_decide_eq_false hk) hb fun i H2 h1 h2 m2 => q _ (.int i) G H2 ⟨b, i, rfl, rfl, h1, h2⟩ (Evl.Ex.refl _) m2 (.int i)
def Pre_pick : List D → Prop := fun ds => ∃ xs : List D, ds = [.list xs] ∧ xs ≠ []
def Post_pick : List D → D → Prop := fun ds d => ∃ xs : List D, ds = [.list xs] ∧ d ∈ xs
theorem ok__law_pick (T : Txt K mg) : MFn P w K mg base 2 "_law_pick" Pre_pick Post_pick :=
  mfn_of T.h__law_pick sc__law_pick (fun ds ⟨b, e, _⟩ => by rw [e]; rfl) fun cdv A outer s f H Q xk hr l ds G vs ⟨xs, e, hne⟩ m hv q => by
    subst e
    obtain ⟨u, rfl, hu⟩ := all1 hv
    have hlen : 0 < xs.length := List.length_pos_iff.mpr hne
    refine sm_ret (R := fun d => d ∈ xs) (em_ixL (e_var 1 hu) (em_call 0 (ok__law_take T) hr (am_of (a_cons (e_len T.b_len (e_var 1 hu) (.inr rfl)) a_nil)) (fun ds e => ⟨_, e, by omega⟩) (fun ds d e ⟨b, i, e1, e2, h1, h2⟩ => ?_))) m fun v d G2 H2 r g2 m2 hv => q v d G2 H2 ⟨xs, rfl, r⟩ g2 m2 hv
    subst e
    cases e1
    obtain ⟨j, rfl⟩ := Int.eq_ofNat_of_zero_le h1
    have hj : j < xs.length := by omega
    refine ⟨(j : Int), e2, xs[j], ?_, List.getElem_mem hj⟩
    unfold atI ixN
    rw [if_pos (by omega), if_pos (by omega)]
    show xs[((j : Nat) : Int).toNat]? = some xs[j]
    rw [Int.toNat_natCast, List.getElem?_eq_getElem hj]
/-- a drawn ratio -/
def Post_any : List D → D → Prop := fun _ d => ∃ q : Rat, d = rd q ∧ Sz 17 q
theorem ok__law_any (T : Txt K mg) : MFn P w K mg base 3 "_law_any" (· = []) Post_any :=
  mfn_of T.h__law_any sc__law_any (fun ds e => by rw [e]; rfl) fun cdv A outer s f H Q xk hr l ds G vs e m hv q => by
    subst e
    cases hv
    refine sm_ret (R := fun d => ∃ q : Rat, d = rd q ∧ Sz 17 q) (em_callP (ok__law_r T) (hr.mono (by decide)) (am_cons (R := intP fun i => i.natAbs < 2 ^ 17)
      (em_add (P := fun i => i.natAbs < 100000) (P2 := fun i => i.natAbs < 10) (em_call 0 (ok__law_pick T) hr (am_of (a_cons (e_lst (a_cons e_int (a_cons e_int (a_cons (e_neg e_int) (a_cons e_int (a_cons (e_neg e_int) (a_cons e_int (a_cons (e_neg e_int) (a_cons e_int a_nil)))))))) ) a_nil)) (fun ds e => ⟨_, e, by simp⟩) (fun ds d e ⟨xs, e1, hx⟩ => ?_))
        (em_call 0 (ok__law_take T) (hr.mono (by decide)) (am_of (a_cons e_int a_nil)) (fun ds e => ⟨_, e, by decide⟩) (fun ds d e ⟨b, i, e1, e2, h1, h2⟩ => ?_)) (fun i j h1 h2 => ?_))
      (am_cons (R := intP fun i => 0 < i ∧ i.natAbs < 2 ^ 17) (em_call 0 (ok__law_pick T) hr (am_of (a_cons (e_lst (a_cons e_int (a_cons e_int (a_cons e_int (a_cons e_int (a_cons e_int (a_cons e_int (a_cons e_int a_nil))))))) ) a_nil)) (fun ds e => ⟨_, e, by simp⟩) (fun ds d e ⟨xs, e1, hx⟩ => ?_)) am_nil)) (fun ds ⟨d1, r1, e1, ⟨i, ei, hi⟩, d2, r2, e2, ⟨j, ej, hj0, hj⟩, e3⟩ => ?_)) m fun v d G2 H2 r g2 m2 hv => q v d G2 H2 r g2 m2 hv
    · subst e
      cases e1
      simp at hx
      rcases hx with rfl | rfl | rfl | rfl | rfl | rfl | rfl | rfl <;> exact ⟨_, rfl, by decide⟩
    · subst e
      cases e1
      exact ⟨i, e2, by omega⟩
    · have : (2 : Nat) ^ 17 = 131072 := by decide
      omega
    · subst e
      cases e1
      simp at hx
      rcases hx with rfl | rfl | rfl | rfl | rfl | rfl | rfl <;> exact ⟨_, rfl, by decide, by decide⟩
    · subst e1 e2 e3 ei ej
      exact ⟨_, ⟨i, j, rfl, by omega, lt_pow hi (by decide), lt_pow hj (by decide), rfl⟩, _, rfl, sz_divInt (by omega) hi hj⟩
end
end K01

/-! L3: the draws are made. -/
namespace K01
open PySem PySem.Spec PyProof.Rows DL SX
open L2 hiding Dp DpAll
section
variable {P : Program} {w : World} {K : PySem.W.Frag} {mg : Str → Option Value} {base : Heap}
theorem at0 (d : D) (ds : List D) : atI (d :: ds) 0 = some d := by
  unfold atI ixN
  rw [if_pos (Int.le_refl 0), if_pos (by rw [List.length_cons]; omega)]
  rfl
def spD (K : PySem.W.Frag) : Sp := fun us H Q _ => ∃ (u : V) (ns : List Int) (G : Hp), us = [u] ∧ ns.length ≤ 1000 ∧ Ex G H ∧ Dp K G u (.list (ns.map PyData.int)) ∧ ∀ l G' H', Ex G G' → MO G' H' l → Q (.ref l) H'
theorem ok__law_draws (T : Txt K mg) : ∃ f, mg "_law_draws" = some (.ref f) ∧ PySem.W.keepIn K (.ref f) = true ∧ FnR P w K mg base CX0 1 f (spD K) := by
  obtain ⟨f, fd, h1, F, hb⟩ := T.h__law_draws
  refine ⟨f, h1, F.kp, FnOk.pos (F.ok sc__law_draws (fun vs H Q E ⟨u, ns, G, e, _⟩ => by rw [e]; rfl) fun cdv A outer s H vs Q xk hr ⟨u, ns, G, e, hn, g, hu, q⟩ => ?_) hb⟩
  subst e
  refine ⟨_, pss_w, ?_⟩
  show wB (cxOf CX0 P w K mg base N__law_draws "_law_draws" (defScope s__law_draws) f cdv A outer s H xk).nox (defBody s__law_draws) _ [some u, Option.none, Option.none, Option.none, Option.none, Option.none, Option.none] H
  refine sb_new 1 g sc__law_draws.nd fun l H1 m1 => ?_
  refine s_forL 2 .never rfl sc__law_draws.nd (e_var 0 hu) m1.gh (fun G2 H2 vx n2 dvx => ⟨fun i σ H' => ∃ (a b c e : Option V) (G' : Hp), σ = [some u, some (.ref l), a, b, c, e, Option.none] ∧ Ex G2 G' ∧ MB G' H' l (62 * i), ⟨Option.none, Option.none, Option.none, Option.none, G2, rfl, Evl.Ex.refl _, m1.step n2⟩, fun k σ' H' ⟨a, b, c, e, G', _, g', m'⟩ => g'.trans m'.gh, fun k v d σ H3 hd dv ⟨a, b, c, e, G3, eσ, g3, m3⟩ => ?_, fun σ H3 ⟨a, b, c, e, G3, eσ, g3, m3⟩ => ?_⟩) (pi_list pe_w)
  · subst eσ
    have hk : k < ns.length := by
      have := (List.getElem?_eq_some_iff.mp hd).1
      rwa [List.length_map] at this
    obtain ⟨z, rfl⟩ : ∃ z : Int, d = .int z := by
      rw [List.getElem?_map] at hd
      cases hq : ns[k]? with
      | none => rw [hq] at hd; cases hd
      | some z => rw [hq] at hd; exact ⟨z, (Option.some.inj hd).symm⟩
    cases dv
    refine s_set 3 (e_abs T.b_abs (e_var 2 (.int _))) m3.gh sc__law_draws.nd fun v4 G4 H4 n4 h4 => ?_
    cases h4
    have m4 := m3.step n4
    refine s_whenP (fun σ H' => ∃ (nb : Int) (c e : Option V) (G' : Hp), 0 ≤ nb ∧ σ = [some u, some (.ref l), some (.int z), some (.int nb), c, e, Option.none] ∧ Ex G2 G' ∧ MB G' H' l (62 * k + 2)) (t_lt (e_var 3 (.int _)) (e_pow e_int e_int ⟨by decide, by decide, by decide⟩)) m4.gh (fun h5 G5 H5 n5 => ?_) (fun h5 G5 H5 n5 => ?_) fun σ H5 ⟨nb, c', e', G5, h0, eσ, g5, m5⟩ => ?_
    · have m5 := m4.step n5
      refine s_set 4 (e_mod (e_intI T.b_int (e_add (e_mulS64 (e_var 3 (.int _)) e_int (by decide) (by decide)) e_int)) e_int (by decide)) m5.gh sc__law_draws.nd fun v6 G6 H6 n6 h6 => ?_
      cases h6
      have m6 := m5.step n6
      refine sb_app 1 m6 rfl (e_mod (e_intI T.b_int (e_add (e_mulS64 (e_var 4 (.int _)) e_int (by decide) (by decide)) (e_var 3 (.int _)))) e_int (by decide)) (by omega) fun G7 H7 g7 m7 => ?_
      refine sb_app 1 m7 rfl (e_mod (e_intI T.b_int (e_add (e_var 4 (.int _)) (e_div (e_var 3 (.int _)) e_int (divOK (b := 4) (by decide) (by decide) (by decide))))) e_int (by decide)) (by omega) fun G8 H8 g8 m8 => ?_
      refine s_set 3 e_int m8.gh sc__law_draws.nd fun v9 G9 H9 n9 h9 => s_nil ?_
      cases h9
      exact ⟨0, _, e, G9, Int.le_refl _, rfl, ((((g3.trans n4.g).trans n5.g).trans n6.g).trans g7).trans (g8.trans n9.g), m8.step n9⟩
    · exact ⟨(z.natAbs : Int), c, e, G5, Int.natCast_nonneg _, rfl, ((g3.trans n4.g).trans n5.g), (m4.step n5).up (by omega)⟩
    · subst eσ
      refine s_forR 5 (n := 60) .never rfl sc__law_draws.nd T.b_range (a_cons e_int a_nil) m5.gh (by decide) (fun j σ H' => ∃ (nb : Int) (e : Option V) (G' : Hp), 0 ≤ nb ∧ σ = [some u, some (.ref l), some (.int z), some (.int nb), c', e, Option.none] ∧ Ex G2 G' ∧ MB G' H' l (62 * k + 2 + j)) (fun G6 H6 n6 => ⟨nb, e', G6, h0, rfl, g5.trans n6.g, m5.step n6⟩) (fun j σ H6 hj ⟨nb, e'', G6, h0, eσ, g6, m6⟩ => ?_) fun σ H6 ⟨nb, e'', G6, h0, eσ, g6, m6⟩ => ?_
      · subst eσ
        refine s_when (t_gt (e_var 3 (.int _)) e_int) m6.gh (fun h7 G7 H7 n7 => ?_) fun h7 G7 H7 n7 => s_nil ⟨nb, _, G7, h0, rfl, g6.trans n7.g, (m6.step n7).up (by omega)⟩
        refine sb_app 1 (m6.step n7) rfl (e_mod (e_intI T.b_int (e_var 3 (.int _))) e_int (by decide)) (by omega) fun G8 H8 g8 m8 => ?_
        refine s_set 3 (e_div (e_var 3 (.int _)) e_int (divOK (b := 12) (by decide) (by decide) (by decide))) m8.gh sc__law_draws.nd fun v9 G9 H9 n9 h9 => s_nil (s_nil ?_)
        cases h9
        exact ⟨_, _, G9, Int.ediv_nonneg h0 (by decide), rfl, ((g6.trans n7.g).trans g8).trans n9.g, m8.step n9⟩
      · subst eσ
        exact s_nil ⟨_, _, _, _, G6, rfl, g6, m6.up (by omega)⟩
  · subst eσ
    rw [List.length_map] at m3
    have hu3 := Dp.mono (n2.g.trans g3) hu
    refine s_set 6 e_int m3.gh sc__law_draws.nd fun v4 G4 H4 n4 h4 => ?_
    cases h4
    have m4 := m3.step n4
    have hu4 := Dp.mono n4.g hu3
    refine s_whenP (fun σ H' => ∃ (sd : Int) (G' : Hp), σ = [some u, some (.ref l), a, b, c, e, some (.int sd)] ∧ MB G' H' l (62 * ns.length) ∧ Ex G G') (t_gt (e_len T.b_len (e_var 0 hu4) (.inr rfl)) e_int) m4.gh (fun h5 G5 H5 n5 => ?_) (fun h5 G5 H5 n5 => ⟨1, G5, rfl, m4.step n5, ((n2.g.trans g3).trans n4.g).trans n5.g⟩) fun σ H5 ⟨sd, G5, eσ, m5, g5⟩ => ?_
    · have hlen : 0 < (ns.map PyData.int).length := by
        have := of_decide_eq_true h5
        omega
      obtain ⟨y, ys, ey⟩ : ∃ y ys, ns = y :: ys := by
        cases ns with
        | nil => exact absurd hlen (by decide)
        | cons y ys => exact ⟨y, ys, rfl⟩
      refine s_set 6 (e_add e_int (e_abs T.b_abs (e_ixL (i := 0) (d := .int y) (e_var 0 (Dp.mono n5.g hu4)) e_int (by rw [ey]; exact at0 _ _)))) (m4.step n5).gh sc__law_draws.nd fun v6 G6 H6 n6 h6 => s_nil ?_
      cases h6
      exact ⟨_, G6, rfl, (m4.step n5).step n6, (((n2.g.trans g3).trans n4.g).trans n5.g).trans n6.g⟩
    · subst eσ
      refine s_forR 5 (n := 3000) .never rfl sc__law_draws.nd T.b_range (a_cons e_int a_nil) m5.gh (by decide) (fun j σ H' => ∃ (sd : Int) (e : Option V) (G' : Hp), σ = [some u, some (.ref l), a, b, c, e, some (.int sd)] ∧ MB G' H' l (62 * ns.length + j) ∧ Ex G G') (fun G6 H6 n6 => ⟨sd, e, G6, rfl, m5.step n6, g5.trans n6.g⟩) (fun j σ H6 hj ⟨sd, e', G6, eσ, m6, g6⟩ => ?_) fun σ H6 ⟨sd, e', G6, eσ, m6, g6⟩ => ?_
      · subst eσ
        refine s_set 6 (e_mod (e_intI T.b_int (e_add (e_mulS64 (e_var 6 (.int _)) e_int (by decide) (by decide)) e_int)) e_int (by decide)) m6.gh sc__law_draws.nd fun v7 G7 H7 n7 h7 => ?_
        cases h7
        refine sb_app 1 (m6.step n7) rfl (e_div (e_var 6 (.int _)) e_int (divOK (b := 4) (by decide) (by decide) (by decide))) (by omega) fun G8 H8 g8 m8 => s_nil ?_
        exact ⟨_, _, G8, rfl, m8.up (by omega), (g6.trans n7.g).trans g8⟩
      · subst eσ
        exact sb_retRev 1 rfl m6 rfl T.b_list T.b_reversed fun l' H' m' => q l' G6 H' g6 m'
end
end K01

/-! L4: what is one with itself. -/
namespace DL
open PySem PySem.Spec PyProof.Rows SX
open L2 hiding Dp DpAll
section
variable {X : Cx} {σ : L2.St} {G H : Hp} {a b e : Expr} {pos : Pos} {kvs : List (Key × D)} {k : Key} {da d : D} {ds : List D} {i : Int} {scope : Scope}
theorem t_dnin (hu : X.A.units + 64 < cLine) (ha : E X a σ G (kD k)) (hb : E X b σ G (mkD kvs)) (hm : behindInMarks .NotIn b = false := by rfl) : T X (.Compare a [.NotIn] [b] pos) σ G (!(getK kvs k).isSome) := fun G1 H1 g gh Q q =>
  ⟨_, pt_cmp (pc_dnotin (by omega) pe_w pe_w) hm, ha G1 H1 g gh _ fun u G2 H2 n2 hu => hb G2 H2 (g.trans n2.g) n2.gh _ fun v G3 H3 n3 hv => by
    obtain ⟨p, o, xs, rfl, hp, hx⟩ := Dp.mk_inv hv
    obtain rfl := Dp.key hu
    rcases DpKV.get k hx with ⟨z, z2⟩ | ⟨w, d', h1, h2, h3⟩
    · rw [z] at q
      exact ⟨p, Option.none, rfl, .inl ⟨xs, k, .inr ⟨o, n3.gh _ _ hp⟩, rfl, z2.symm⟩, _, rfl, q G3 H3 (n2.trans n3)⟩
    · rw [h1] at q
      exact ⟨p, some w, rfl, .inl ⟨xs, k, .inr ⟨o, n3.gh _ _ hp⟩, rfl, h2.symm⟩, _, rfl, q G3 H3 (n2.trans n3)⟩⟩
theorem wT_of {c : Expr} {k : Bool} {G1 H1 : Hp} {Q : Bool → Hp → Prop} (h : T X c σ G k) (g : Ex G G1) (gh : Ex G1 H1) (q : ∀ G2 H2, Nx G1 H1 G2 H2 → Q k H2) : wT X c σ H1 Q := h G1 H1 g gh Q q
theorem pt_wBT (s : Shared) (H : Hp) (C : Addr) (cl : List (Str × Addr)) (fp : List Addr) : PT (blkX X scope s H C cl fp) e (wBT X scope e) := ⟨fun pins s' σ' H' Q' I h => (pt_w (X := blkX X scope s H C cl fp)).run pins s' σ' H' Q' I (h s H C cl fp)⟩
theorem atN {ds : List D} {k : Nat} {d : D} (h : ds[k]? = some d) : atI ds (k : Int) = some d := by
  have hk := (List.getElem?_eq_some_iff.mp h).1
  unfold atI ixN
  rw [if_pos (by omega), if_pos (by omega)]
  show ds[((k : Nat) : Int).toNat]? = some d
  rw [Int.toNat_natCast]; exact h
theorem e_ixQ (ha : E X a σ G da) (hd : da = .tuple ds ∨ da = .list ds) (hb : E X b σ G (.int i)) (h : atI ds i = some d) (hs : PlainIx b := by exact fun _ _ => rfl) : E X (.Subscript a b pos) σ G d := by
  rcases hd with rfl | rfl
  · exact e_ixT ha hb h hs
  · exact e_ixL ha hb h hs
theorem decB (a b : Bool) : decide (V.bl a = V.bl b) = decide (a = b) := by cases a <;> cases b <;> rfl
theorem t_neB {k l : Bool} (ha : E X a σ G (.bool k)) (hb : E X b σ G (.bool l)) : T X (.Compare a [.NotEq] [b] pos) σ G (!decide (k = l)) := t_is (t_ne ha hb rfl rfl rfl) (by rw [show vOf (.bool k) = V.bl k from rfl, show vOf (.bool l) = V.bl l from rfl, decB])
theorem kept_no (n : Nat) (f : Nat → D) : kept n (fun _ => false) f = [] := by
  unfold kept
  rw [List.filter_eq_nil_iff.mpr (fun _ _ => by simp)]
  rfl
theorem getK_mem {kvs : List (Key × D)} (nd : (kvs.map (·.1)).Nodup) {i : Nat} {p : Key × D} (h : kvs[i]? = some p) : getK kvs p.1 = some p.2 := by
  induction kvs generalizing i with
  | nil => cases h
  | cons r l ih =>
    rw [List.map_cons, List.nodup_cons] at nd
    cases i with
    | zero =>
      have e : r = p := by injection h
      subst e
      exact getK_pos rfl
    | succ i =>
      have h : l[i]? = some p := h
      have hm : p.1 ∈ l.map (·.1) := List.mem_map.mpr ⟨p, List.mem_of_getElem? h, rfl⟩
      rw [getK_neg (fun z => nd.1 (by rw [z]; exact hm))]
      exact ih nd.2 h
end
end DL
namespace K01
open PySem PySem.Spec PyProof.Rows DL SX
open L2 hiding Dp DpAll
/-- no deeper than n -/
inductive Fl : Nat → D → Prop
  | sc (n : Nat) (d : D) (h : isSc d = true) : Fl n d
  | tup (n : Nat) (ds : List D) (h : ds.length ≤ 1000) (r : ∀ x ∈ ds, Fl n x) : Fl (n + 1) (.tuple ds)
  | lst (n : Nat) (ds : List D) (h : ds.length ≤ 1000) (r : ∀ x ∈ ds, Fl n x) : Fl (n + 1) (.list ds)
  | dic (n : Nat) (kvs : List (Key × D)) (nd : (kvs.map (·.1)).Nodup) (h : kvs.length ≤ 1000) (r : ∀ p ∈ kvs, Fl n p.2) : Fl (n + 1) (mkD kvs)
section
variable {P : Program} {w : World} {K : PySem.W.Frag} {mg : Str → Option Value} {base : Heap}
def R_same (n : Nat) : List D → D → Prop := fun ds d => ∃ a, ds = [a, a] ∧ Fl n a ∧ d = .bool true
theorem scal_self (d : D) (h : isSc d = true) (hn : isN d = false) : scal (vOf d) (vOf d) = true := by
  cases d <;> first | rfl | cases h | cases hn
theorem ok__law_same (T : Txt K mg) : ∀ n : Nat, PFn P w K mg base (n + 1) "_law_same" (R_same n)
  | n => by
    refine pfn_of T.h__law_same sc__law_same (fun ds d ⟨a, e, _⟩ => by rw [e]; rfl) fun cdv A outer s f H Q xk hr ds d G vs ⟨a, e, hf, ed⟩ g hv q => ?_
    subst e ed
    obtain ⟨u, x, rfl, hu, hx⟩ := all2 hv
    have seq : ∀ (m : Nat) (ds : List D) (hn : n = m + 1) (hda : a = .tuple ds ∨ a = .list ds), ds.length ≤ 1000 → (∀ x ∈ ds, Fl m x) → wB (cxOf CX0 P w K mg base N__law_same "_law_same" (defScope s__law_same) f cdv A outer s H xk).nox (defBody s__law_same) { nx := fun _ H' => Q .non H', rt := Q } [some u, some x, Option.none, Option.none] H := by
      intro m ds hn hda hl hfl
      subst hn
      refine s_when (k := false) (t_is (t_isN (e_var 1 hx)) (by rcases hda with rfl | rfl <;> rfl)) g (fun z => nomatch z) fun _ G1 H1 n1 => ?_
      have hu1 := Dp.mono n1.g hu
      have hx1 := Dp.mono n1.g hx
      refine s_when (k := true) (t_is (t_or (t_val (e_isi T.b_isinstance T.b_tuple (by decide +kernel) (e_var 1 hx1) (kit_tuple _))) fun _ => t_val (e_isi T.b_isinstance T.b_list (by decide +kernel) (e_var 1 hx1) (kit_list _))) (by rcases hda with rfl | rfl <;> rfl)) n1.gh (fun _ G2 H2 n2 => ?_) fun z => nomatch z
      have hu2 := Dp.mono n2.g hu1
      have hx2 := Dp.mono n2.g hx1
      refine s_when (k := false) (t_is (t_or (t_neB (e_isi T.b_isinstance T.b_tuple (by decide +kernel) (e_var 1 hx2) (kit_tuple _)) (e_isi T.b_isinstance T.b_tuple (by decide +kernel) (e_var 0 hu2) (kit_tuple _)))
          fun _ => t_neB (e_isi T.b_isinstance T.b_list (by decide +kernel) (e_var 1 hx2) (kit_list _)) (e_isi T.b_isinstance T.b_list (by decide +kernel) (e_var 0 hu2) (kit_list _))) (by simp)) n2.gh (fun z => nomatch z) fun _ G3 H3 n3 => ?_
      have hu3 := Dp.mono n3.g hu2
      have hx3 := Dp.mono n3.g hx2
      refine s_when (k := false) (t_is (t_neI (e_len T.b_len (e_var 0 hu3) hda) (e_len T.b_len (e_var 1 hx3) hda)) (by simp)) n3.gh (fun z => nomatch z) fun _ G4 H4 n4 => ?_
      have hu4 := Dp.mono n4.g hu3
      have hx4 := Dp.mono n4.g hx3
      have N4 := ((n1.trans n2).trans n3).trans n4
      refine s_forR 2 (n := ds.length) .never rfl sc__law_same.nd T.b_range (a_cons (e_len T.b_len (e_var 1 hx4) hda) a_nil) n4.gh (Nat.le_trans hl (by decide)) (fun i σ H' => ∃ (o : Option V) (G' : Hp), σ = [some u, some x, o, Option.none] ∧ Ex G4 G' ∧ Nx G H G' H')
        (fun G5 H5 n5 => ⟨Option.none, G5, rfl, n5.g, N4.trans n5⟩) (fun i σ H5 hi ⟨o, G5, eσ, g5, n5⟩ => ?_) fun σ H5 ⟨o, G5, eσ, g5, n5⟩ => ?_
      · subst eσ
        have e1 : ds[i]? = some ds[i] := List.getElem?_eq_getElem hi
        refine s_when (k := false) (t_is (t_not (t_val (e_call (ok__law_same T m) hr (a_cons (e_ixQ (e_var 0 (Dp.mono g5 hu4)) hda (e_var 2 (.int _)) (atN e1)) (a_cons (e_ixQ (e_var 1 (Dp.mono g5 hx4)) hda (e_var 2 (.int _)) (atN e1)) a_nil)) ⟨_, rfl, hfl _ (List.getElem_mem hi), rfl⟩))) rfl) n5.gh (fun z => nomatch z) fun _ G6 H6 n6 => s_nil ?_
        exact ⟨some (.int (i : Int)), G6, rfl, g5.trans n6.g, n5.trans n6⟩
      · subst eσ
        exact s_ret e_bl n5.gh fun v G6 H6 n6 h6 => q v G6 H6 (n5.trans n6) h6
    cases hf with
    | tup m ds hl hfl => exact seq m ds rfl (.inl rfl) hl hfl
    | lst m ds hl hfl => exact seq m ds rfl (.inr rfl) hl hfl
    | dic m kvs nd hl hfl =>
      refine s_when (k := false) (t_is (t_isN (e_var 1 hx)) rfl) g (fun z => nomatch z) fun _ G1 H1 n1 => ?_
      have hu1 := Dp.mono n1.g hu
      have hx1 := Dp.mono n1.g hx
      refine s_when (k := false) (t_is (t_or (t_val (e_isi T.b_isinstance T.b_tuple (by decide +kernel) (e_var 1 hx1) (kit_tuple _))) fun _ => t_val (e_isi T.b_isinstance T.b_list (by decide +kernel) (e_var 1 hx1) (kit_list _))) rfl) n1.gh (fun z => nomatch z) fun _ G2 H2 n2 => ?_
      have hu2 := Dp.mono n2.g hu1
      have hx2 := Dp.mono n2.g hx1
      refine s_when (k := true) (t_is (t_val (e_isi T.b_isinstance T.b_dict (by decide +kernel) (e_var 1 hx2) (kit_dict _))) rfl) n2.gh (fun _ G3 H3 n3 => ?_) fun z => nomatch z
      have hu3 := Dp.mono n3.g hu2
      have hx3 := Dp.mono n3.g hx2
      refine s_when (k := false) (t_is (t_or (t_not (t_val (e_isi T.b_isinstance T.b_dict (by decide +kernel) (e_var 0 hu3) (kit_dict _)))) fun _ => t_neI (e_lenD T.b_len (e_var 0 hu3)) (e_lenD T.b_len (e_var 1 hx3))) (by simp [mkD, isDc])) n3.gh (fun z => nomatch z) fun _ G4 H4 n4 => ?_
      have hu4 := Dp.mono n4.g hu3
      have hx4 := Dp.mono n4.g hx3
      have N4 := ((n1.trans n2).trans n3).trans n4
      refine s_ret (d := .bool true) (e_is (e_eqD (da := .list []) (db := .list []) (roomU hr) (e_is (e_ofC (ec_lcO (scope := _) (x := "key") (j := 3) (n := kvs.length) (tt := wBT _ _ _) (c := fun _ => false) (f := fun _ => .none) rfl sc__law_same.nd (ov_keys (e_var 1 hx4)) (by simp) (by omega) (blkOk_by (N := N__law_same) (sc := defScope s__law_same) (by decide +kernel)) (fun _ _ _ _ _ => pg_name (i := 3) sc__law_same.nd rfl (Or.inl rfl)) (fun _ _ _ _ _ => pts_one (pt_wBT _ _ _ _ _))
        (fun i v d G' hd gg hv G5 H5 g5 gh5 Q q => fun s H0 C cl fp => ?_) fun i v d G' hd gg hv z => nomatch z)) (by rw [kept_no])) (e_lst a_nil) rfl rfl) (by rfl)) n4.gh fun v G5 H5 n5 h5 => q v G5 H5 (N4.trans n5) h5
      rw [List.getElem?_map] at hd
      obtain ⟨r, hr1, hr2⟩ := Option.map_eq_some_iff.mp hd
      subst hr2
      have hk := getK_mem nd hr1
      refine wT_of (k := false) (G := G') ?_ g5 gh5 q
      refine t_is (t_or (t_dnin (k := r.1) (roomU hr) (e_var 3 hv) (e_var 0 (Dp.mono gg hu4))) fun _ => t_not (t_val (e_call (ok__law_same T m) (hr.mono (by omega)) (a_cons (e_dget (k := r.1) (roomU hr) (e_var 0 (Dp.mono gg hu4)) (e_var 3 hv) hk) (a_cons (e_dget (k := r.1) (roomU hr) (e_var 1 (Dp.mono gg hx4)) (e_var 3 hv) hk) a_nil)) ⟨r.2, rfl, hfl r (List.mem_of_getElem? hr1), rfl⟩))) (by rw [hk]; rfl)
    | sc _ _ hs =>
      cases hN : isN a with
      | true =>
        have hd : a = .none := by cases a <;> first | rfl | cases hN
        subst hd
        refine s_when (k := true) (t_is (t_isN (e_var 1 hx)) rfl) g (fun _ G1 H1 n1 => ?_) fun z => nomatch z
        exact s_ret (d := .bool true) (e_isN (da := .none) (e_var 0 (Dp.mono n1.g hu))) n1.gh fun v G2 H2 n2 h2 => q v G2 H2 (n1.trans n2) h2
      | false =>
        refine s_when (k := false) (t_is (t_isN (e_var 1 hx)) hN) g (fun z => nomatch z) fun _ G1 H1 n1 => ?_
        have hu1 := Dp.mono n1.g hu
        have hx1 := Dp.mono n1.g hx
        refine s_when (k := false) (t_is (t_or (t_val (e_isi T.b_isinstance T.b_tuple (by decide +kernel) (e_var 1 hx1) (kit_tuple _))) fun _ => t_val (e_isi T.b_isinstance T.b_list (by decide +kernel) (e_var 1 hx1) (kit_list _))) (by cases a <;> first | rfl | cases hs)) n1.gh (fun z => nomatch z) fun _ G2 H2 n2 => ?_
        have hu2 := Dp.mono n2.g hu1
        have hx2 := Dp.mono n2.g hx1
        refine s_when (k := false) (t_is (t_val (e_isi T.b_isinstance T.b_dict (by decide +kernel) (e_var 1 hx2) (kit_dict _))) (by cases a <;> first | rfl | cases hs)) n2.gh (fun z => nomatch z) fun _ G3 H3 n3 => ?_
        have hu3 := Dp.mono n3.g hu2
        have hx3 := Dp.mono n3.g hx2
        refine s_when (k := false) (t_is (t_neB (e_isi T.b_isinstance T.b_bool (by decide +kernel) (e_var 1 hx3) (kit_bool _)) (e_isi T.b_isinstance T.b_bool (by decide +kernel) (e_var 0 hu3) (kit_bool _))) (by simp)) n3.gh (fun z => nomatch z) fun _ G4 H4 n4 => ?_
        have hu4 := Dp.mono n4.g hu3
        have hx4 := Dp.mono n4.g hx3
        refine s_when (k := false) (t_is (t_or (t_neB (e_isi T.b_isinstance T.b_int (by decide +kernel) (e_var 1 hx4) (kit_int _)) (e_isi T.b_isinstance T.b_int (by decide +kernel) (e_var 0 hu4) (kit_int _)))
            fun _ => t_neB (e_isi T.b_isinstance T.b_str (by decide +kernel) (e_var 1 hx4) (kit_str _)) (e_isi T.b_isinstance T.b_str (by decide +kernel) (e_var 0 hu4) (kit_str _))) (by simp)) n4.gh (fun z => nomatch z) fun _ G5 H5 n5 => ?_
        exact s_ret (e_is (e_eq (e_var 0 (Dp.mono n5.g hu4)) (e_var 1 (Dp.mono n5.g hx4)) hs hs (scal_self a hs hN)) (by rw [decide_eq_true rfl])) n5.gh fun v G6 H6 n6 h6 => q v G6 H6 (((((n1.trans n2).trans n3).trans n4).trans n5).trans n6) h6
end
end K01

/-! D21: names at once, drawn. -/
namespace DL
open PySem PySem.Spec PyProof.Rows SX
open L2 hiding Dp DpAll
section
variable {X : Cx} {σ : L2.St} {G H : Hp} {l : Addr} {es : List Expr} {e1 e2 e3 : Expr} {pos : Pos} {rest : List Stmt} {Z : Ends}
theorem sm_par (i j : Nat) {x y : Str} {px py pt pt2 : Pos} {kt k2 : Nat} {Rs : List D → Prop} (hcalm : X.calm = true) (hN : X.N.Nodup) (ha : AM X [e1, e2] σ G l Rs) (mo : MO G H l) (hl : ∀ ds, Rs ds → ∃ a b, ds = [a, b])
    (q : ∀ u v a b G' H', Rs [a, b] → Ex G G' → MO G' H' l → Dp X.K G' u a → Dp X.K G' v b → wB X rest Z ((σ.set i (some u)).set j (some v)) H')
    (hi : X.N[i]? = some x := by rfl) (hj : X.N[j]? = some y := by rfl) (hij : i ≠ j := by decide) (hx : X.env.scope.names.lookup x = some .local := by rfl) (hy : X.env.scope.names.lookup y = some .local := by rfl)
    (hw : swappedStores [.Tuple [.Name x px, .Name y py] kt pt] (.Tuple [e1, e2] k2 pt2) X.env = pure (some [x, y]) := by rfl)
    (hs : swapsWithSole [.Tuple [.Name x px, .Name y py] kt pt] (.Tuple [e1, e2] k2 pt2) pos.line X.env = pure false := by rfl) : wB X (.Assign [.Tuple [.Name x px, .Name y py] kt pt] (.Tuple [e1, e2] k2 pt2) pos :: rest) Z σ H :=
  s_cons ⟨_, ps_par hcalm hN hi hj hij hx hy pa_w hw hs, ha G H (Evl.Ex.refl _) mo _ fun vs ds G' H' r g' m' hv => by
    obtain ⟨a, b, rfl⟩ := hl ds r
    obtain ⟨u, v, rfl, h1, h2⟩ := all2 hv
    exact ⟨u, v, rfl, q u v a b G' H' r g' m' h1 h2⟩⟩
theorem sm_par3 (i j k : Nat) {x y z : Str} {px py pz pt pt2 : Pos} {kt k2 : Nat} {Rs : List D → Prop} (hcalm : X.calm = true) (hN : X.N.Nodup) (ha : AM X [e1, e2, e3] σ G l Rs) (mo : MO G H l) (hl : ∀ ds, Rs ds → ∃ a b c, ds = [a, b, c])
    (q : ∀ u v w a b c G' H', Rs [a, b, c] → Ex G G' → MO G' H' l → Dp X.K G' u a → Dp X.K G' v b → Dp X.K G' w c → wB X rest Z (((σ.set i (some u)).set j (some v)).set k (some w)) H')
    (hi : X.N[i]? = some x := by rfl) (hj : X.N[j]? = some y := by rfl) (hk : X.N[k]? = some z := by rfl) (hij : i ≠ j := by decide) (hik : i ≠ k := by decide) (hjk : j ≠ k := by decide) (hx : X.env.scope.names.lookup x = some .local := by rfl) (hy : X.env.scope.names.lookup y = some .local := by rfl) (hz : X.env.scope.names.lookup z = some .local := by rfl)
    (hw : swappedStores [.Tuple [.Name x px, .Name y py, .Name z pz] kt pt] (.Tuple [e1, e2, e3] k2 pt2) X.env = pure (some [x, y, z]) := by rfl)
    (hs : swapsWithSole [.Tuple [.Name x px, .Name y py, .Name z pz] kt pt] (.Tuple [e1, e2, e3] k2 pt2) pos.line X.env = pure false := by rfl) : wB X (.Assign [.Tuple [.Name x px, .Name y py, .Name z pz] kt pt] (.Tuple [e1, e2, e3] k2 pt2) pos :: rest) Z σ H :=
  s_cons ⟨_, ps_par3 hcalm hN hi hj hk hij hik hjk hx hy hz pa_w hw hs, ha G H (Evl.Ex.refl _) mo _ fun vs ds G' H' r g' m' hv => by
    obtain ⟨a, b, c, rfl⟩ := hl ds r
    obtain ⟨u, v, w, rfl, h1, h2, h3⟩ := all3 hv
    exact ⟨u, v, w, rfl, q u v w a b c G' H' r g' m' h1 h2 h3⟩⟩
theorem all5 {K : PySem.W.Frag} {H : Hp} {us : List V} {a b c d e : D} (h : DpAll K H us [a, b, c, d, e]) : ∃ u v w x y, us = [u, v, w, x, y] ∧ Dp K H u a ∧ Dp K H v b ∧ Dp K H w c ∧ Dp K H x d ∧ Dp K H y e := by
  cases h with
  | cons h r =>
    cases r with
    | cons h2 r => obtain ⟨v, w, x, rfl, q⟩ := all3 r; exact ⟨_, _, v, w, x, rfl, h, h2, q⟩
theorem sm_tup5 (i1 i2 i3 i4 i5 : Nat) {x1 x2 x3 x4 x5 : Str} {p1 p2 p3 p4 p5 pt pt2 : Pos} {kt k2 : Nat} {Rs : List D → Prop} (hcalm : X.calm = true) (hN : X.N.Nodup) (ha : AM X es σ G l Rs) (mo : MO G H l) (hl : ∀ ds, Rs ds → ∃ a b c d e, ds = [a, b, c, d, e])
    (q : ∀ u v w x y a b c d e G' H', Rs [a, b, c, d, e] → Ex G G' → MO G' H' l → Dp X.K G' u a → Dp X.K G' v b → Dp X.K G' w c → Dp X.K G' x d → Dp X.K G' y e → wB X rest Z (((((σ.set i1 (some u)).set i2 (some v)).set i3 (some w)).set i4 (some x)).set i5 (some y)) H')
    (h1 : X.N[i1]? = some x1 := by rfl) (h2 : X.N[i2]? = some x2 := by rfl) (h3 : X.N[i3]? = some x3 := by rfl) (h4 : X.N[i4]? = some x4 := by rfl) (h5 : X.N[i5]? = some x5 := by rfl)
    (l1 : L2.Loc X.env.scope x1 := by first | exact Or.inl rfl | exact Or.inr rfl) (f1 : X.fn x1 = true ∨ X.env.scope.names.lookup x1 = some .local := by first | exact .inl rfl | exact .inr rfl)
    (l2 : L2.Loc X.env.scope x2 := by first | exact Or.inl rfl | exact Or.inr rfl) (f2 : X.fn x2 = true ∨ X.env.scope.names.lookup x2 = some .local := by first | exact .inl rfl | exact .inr rfl)
    (l3 : L2.Loc X.env.scope x3 := by first | exact Or.inl rfl | exact Or.inr rfl) (f3 : X.fn x3 = true ∨ X.env.scope.names.lookup x3 = some .local := by first | exact .inl rfl | exact .inr rfl)
    (l4 : L2.Loc X.env.scope x4 := by first | exact Or.inl rfl | exact Or.inr rfl) (f4 : X.fn x4 = true ∨ X.env.scope.names.lookup x4 = some .local := by first | exact .inl rfl | exact .inr rfl)
    (l5 : L2.Loc X.env.scope x5 := by first | exact Or.inl rfl | exact Or.inr rfl) (f5 : X.fn x5 = true ∨ X.env.scope.names.lookup x5 = some .local := by first | exact .inl rfl | exact .inr rfl)
    (a5 : (assignEach [.Name x1 p1, .Name x2 p2, .Name x3 p3, .Name x4 p4, .Name x5 p5] X.env).map (·.2) = assign (.Name x1 p1) X.env :: (assignEach [.Name x2 p2, .Name x3 p3, .Name x4 p4, .Name x5 p5] X.env).map (·.2) := by rfl)
    (a4 : (assignEach [.Name x2 p2, .Name x3 p3, .Name x4 p4, .Name x5 p5] X.env).map (·.2) = assign (.Name x2 p2) X.env :: (assignEach [.Name x3 p3, .Name x4 p4, .Name x5 p5] X.env).map (·.2) := by rfl)
    (a3 : (assignEach [.Name x3 p3, .Name x4 p4, .Name x5 p5] X.env).map (·.2) = assign (.Name x3 p3) X.env :: (assignEach [.Name x4 p4, .Name x5 p5] X.env).map (·.2) := by rfl)
    (a2 : (assignEach [.Name x4 p4, .Name x5 p5] X.env).map (·.2) = assign (.Name x4 p4) X.env :: (assignEach [.Name x5 p5] X.env).map (·.2) := by rfl)
    (a1 : (assignEach [.Name x5 p5] X.env).map (·.2) = assign (.Name x5 p5) X.env :: (assignEach [] X.env).map (·.2) := by rfl)
    (hn : (assignEach [.Name x1 p1, .Name x2 p2, .Name x3 p3, .Name x4 p4, .Name x5 p5] X.env).length = 5 := by rfl) (hst : (assignEach [.Name x1 p1, .Name x2 p2, .Name x3 p3, .Name x4 p4, .Name x5 p5] X.env).findIdx? (·.1) = Option.none := by rfl)
    (hs : swapsWithSole [.Tuple [.Name x1 p1, .Name x2 p2, .Name x3 p3, .Name x4 p4, .Name x5 p5] kt pt] (.Tuple es k2 pt2) pos.line X.env = pure false := by rfl)
    (hw : swappedStores [.Tuple [.Name x1 p1, .Name x2 p2, .Name x3 p3, .Name x4 p4, .Name x5 p5] kt pt] (.Tuple es k2 pt2) X.env = pure Option.none := by rfl)
    (ht : (assignEach [.Tuple [.Name x1 p1, .Name x2 p2, .Name x3 p3, .Name x4 p4, .Name x5 p5] kt pt] X.env).map (·.2) = [assign (.Tuple [.Name x1 p1, .Name x2 p2, .Name x3 p3, .Name x4 p4, .Name x5 p5] kt pt) X.env] := by rfl) :
    wB X (.Assign [.Tuple [.Name x1 p1, .Name x2 p2, .Name x3 p3, .Name x4 p4, .Name x5 p5] kt pt] (.Tuple es k2 pt2) pos :: rest) Z σ H :=
  s_cons ⟨_, ps_asg pe_w (pg_tup hcalm (pgs_cons (pg_name hN h1 l1 f1) (pgs_cons (pg_name hN h2 l2 f2) (pgs_cons (pg_name hN h3 l3 f3) (pgs_cons (pg_name hN h4 l4 f4) (pgs_cons (pg_name hN h5 l5 f5) pgs_nil a1) a2) a3) a4) a5) hn hst) hs hw ht,
    em_tup ha (fun ds r => by obtain ⟨a, b, c, d, e, rfl⟩ := hl ds r; simp) G H (Evl.Ex.refl _) mo _ fun v d G' H' ⟨ds, e, r⟩ g' m' hv => by
      subst e
      obtain ⟨a, b, c, d, e, rfl⟩ := hl ds r
      obtain ⟨p, xs, rfl, ht', hx⟩ := Dp.tup_inv hv
      obtain ⟨u1, u2, u3, u4, u5, rfl, d1, d2, d3, d4, d5⟩ := all5 hx
      exact ⟨p, _, rfl, Evl.ex_t m'.gh ht', rfl, _, _, rfl, _, _, rfl, _, _, rfl, _, _, rfl, _, _, rfl, rfl, q u1 u2 u3 u4 u5 a b c d e G' H' r g' m' d1 d2 d3 d4 d5⟩⟩
end
end DL

/-! D22: tests that take from the draws. -/
namespace DL
open PySem PySem.Spec PyProof.Rows SX
open L2 hiding Dp DpAll
/-- c is told, as R says; the draws may be taken from -/
def TM (X : Cx) (c : Expr) (σ : L2.St) (G : Hp) (l : Addr) (R : Bool → Prop) : Prop :=
  ∀ G1 H1, Ex G G1 → MO G1 H1 l → ∀ Q : Bool → Hp → Prop, (∀ k G2 H2, R k → Ex G1 G2 → MO G2 H2 l → Q k H2) → wT X c σ H1 Q
section
variable {X : Cx} {σ : L2.St} {G H : Hp} {l : Addr} {a b c e : Expr} {es : List Expr} {pos : Pos} {rest body : List Stmt} {Z : Ends} {i j : Int} {R R' : Bool → Prop}
theorem tm_eqI {P : Int → Prop} (ha : EM X a σ G l (intP P)) (hb : EM X b σ G l (intP (· = j))) : TM X (.Compare a [.Eq] [b] pos) σ G l (fun _ => True) := fun G1 H1 g m Q q =>
  ⟨_, pt_cmpR op_eq pe_w pe_w (nomark _), ha G1 H1 g m _ fun u d G2 H2 ⟨i, e, _⟩ g2 m2 hu => hb G2 H2 (g.trans g2) m2 _ fun v d' G3 H3 ⟨i', e', _⟩ g3 m3 hv => by
    subst e e'
    cases hu; cases hv
    exact ⟨rfl, _, rfl, q _ G3 H3 trivial (g2.trans g3) m3⟩⟩
theorem tm_val (h : EM X e σ G l (fun d => ∃ k, d = .bool k ∧ R k)) (he : ∀ whole, isTrue e X.env whole = (do let v ← whole; standAt e.pos; holding [v] (truthy v)) := by intro _; rfl) : TM X e σ G l R := fun G1 H1 g m Q q =>
  ⟨_, pt_val pe_w he, h G1 H1 g m _ fun v d G2 H2 ⟨k, e, r⟩ g2 m2 hv => by subst e; exact ⟨k, Dp.bl_inv hv, q k G2 H2 r g2 m2⟩⟩
theorem tm_not (h : TM X a σ G l R) : TM X (.UnaryOp .Not a pos) σ G l (fun k => ∃ j, R j ∧ k = !j) := fun G1 H1 g m Q q => ⟨_, pt_not pt_w, h G1 H1 g m _ fun k G2 H2 r g2 m2 => q _ G2 H2 ⟨k, r, rfl⟩ g2 m2⟩
theorem tm_imp (h : TM X a σ G l R) (i : ∀ k, R k → R' k) : TM X a σ G l R' := fun G1 H1 g m Q q => h G1 H1 g m Q fun k G2 H2 r => q k G2 H2 (i k r)
/-- a or b, a false -/
theorem tm_orF (h : TM X a σ G l (· = false)) (h2 : TM X b σ G l (· = false)) : TM X (.BoolOp .Or [a, b] pos) σ G l (· = false) := fun G1 H1 g m Q q =>
  ⟨_, PW.pt (pw_or pt_w (pw_or1 pt_w)), h G1 H1 g m _ fun k G2 H2 r g2 m2 => by
    subst r
    exact iteF (h2 G2 H2 (g.trans g2) m2 _ fun k G3 H3 r g3 m3 => q k G3 H3 r (g2.trans g3) m3)⟩
theorem sm_if {a b : List Stmt} (h : TM X c σ G l R) (m : MO G H l) (h1 : R true → ∀ G' H', Ex G G' → MO G' H' l → wB X a { Z with nx := wB X rest Z } σ H') (h2 : R false → ∀ G' H', Ex G G' → MO G' H' l → wB X b { Z with nx := wB X rest Z } σ H') : wB X (.If c a b pos :: rest) Z σ H :=
  s_cons ⟨_, ps_if pt_w pss_w pss_w, h G H (Evl.Ex.refl _) m _ fun k G' H' r g' m' => by
    cases k with
    | true => exact iteT (h1 r G' H' g' m')
    | false => exact iteF (h2 r G' H' g' m')⟩
theorem sm_when (h : TM X c σ G l R) (m : MO G H l) (h1 : R true → ∀ G' H', Ex G G' → MO G' H' l → wB X body { Z with nx := wB X rest Z } σ H') (h2 : R false → ∀ G' H', Ex G G' → MO G' H' l → wB X rest Z σ H') : wB X (.If c body [] pos :: rest) Z σ H :=
  sm_if h m h1 fun z G' H' g' m' => s_nil (h2 z G' H' g' m')
end
end DL

/-! L5: what the law draws. -/
namespace K01
open PySem PySem.Spec PyProof.Rows DL SX
open L2 hiding Dp DpAll
section
variable {P : Program} {w : World} {K : PySem.W.Frag} {mg : Str → Option Value} {base : Heap}
def Pre_between : List D → Prop := fun ds => ∃ a b : Rat, ds = [rd a, rd b] ∧ a ≤ b ∧ Sz 17 a ∧ Sz 17 b
def Post_between : List D → D → Prop := fun ds d => ∃ a b q : Rat, ds = [rd a, rd b] ∧ d = rd q ∧ a ≤ q ∧ q ≤ b ∧ Sz 100 q
theorem part_le {a b : Rat} (h : a ≤ b) {p : Rat} (h0 : 0 ≤ p) (h1 : p ≤ 1) : a ≤ a + p * (b - a) ∧ a + p * (b - a) ≤ b := by
  have hd : 0 ≤ b - a := by grind
  have h2 : 0 ≤ p * (b - a) := Rat.mul_nonneg h0 hd
  have h3 : 0 ≤ (1 - p) * (b - a) := Rat.mul_nonneg (by grind) hd
  constructor <;> grind
theorem ok__law_between (T : Txt K mg) : MFn P w K mg base 3 "_law_between" Pre_between Post_between :=
  mfn_of T.h__law_between sc__law_between (fun ds ⟨_, _, e, _⟩ => by rw [e]; rfl) fun cdv A outer s f H Q xk hr l ds G vs ⟨a, b, e, hab, za, zb⟩ m hv q => by
    subst e
    obtain ⟨u, t, rfl, hu, ht⟩ := all2 hv
    refine sm_set 3 (R := fun d => ∃ p : Rat, d = rd p ∧ 0 ≤ p ∧ p ≤ 1 ∧ Sz 8 p) (em_call 0 (ok__law_pick T) hr (am_of (a_cons (e_lst (a_cons (e_tup (a_cons e_int (a_cons e_int a_nil))) (a_cons (e_tup (a_cons e_int (a_cons e_int a_nil))) (a_cons (e_tup (a_cons e_int (a_cons e_int a_nil))) (a_cons (e_tup (a_cons e_int (a_cons e_int a_nil))) (a_cons (e_tup (a_cons e_int (a_cons e_int a_nil))) (a_cons (e_tup (a_cons e_int (a_cons e_int a_nil))) a_nil))))))) a_nil)) (fun ds e => ⟨_, e, by simp⟩) (fun ds d e ⟨xs, e1, hx⟩ => ?_)) m sc__law_between.nd fun v3 d3 G3 H3 ⟨p, ed, p0, p1, zp⟩ g3 m3 h3 => ?_
    · subst e
      cases e1
      simp at hx
      rcases hx with rfl | rfl | rfl | rfl | rfl | rfl
      · exact ⟨0, rfl, by decide, by decide, by decide, by decide⟩
      · exact ⟨1, rfl, by decide, by decide, by decide, by decide⟩
      · exact ⟨mkRat 1 2, rfl, by decide, by decide, by decide, by decide⟩
      · exact ⟨mkRat 1 3, rfl, by decide, by decide, by decide, by decide⟩
      · exact ⟨mkRat 7 9, rfl, by decide, by decide, by decide, by decide⟩
      · exact ⟨mkRat 1 64, rfl, by decide, by decide, by decide, by decide⟩
    · subst ed
      have z1 : Sz 36 (b - a) := sz_sub zb za (by decide)
      have z2 : Sz 45 (p * (b - a)) := sz_mul zp z1 (by decide)
      have z3 : Sz 100 (a + p * (b - a)) := sz_add za z2 (by decide)
      have hp := part_le hab p0 p1
      refine sm_ret (R := fun d => d = rd (a + p * (b - a))) (em_of (e_call (ok__law_add T) hr (a_cons (e_var 1 (Dp.mono g3 hu)) (a_cons (e_call (ok__law_mul T) hr (a_cons (e_var 3 h3) (a_cons (e_call (ok__law_sub T) hr (a_cons (e_var 2 (Dp.mono g3 ht)) (a_cons (e_var 1 (Dp.mono g3 hu)) a_nil)) ⟨b, a, rfl, zb.mono (by decide), za.mono (by decide), rfl⟩) a_nil)) ⟨p, b - a, rfl, zp.mono (by decide), z1.mono (by decide), rfl⟩) a_nil)) ⟨a, _, rfl, za.mono (by decide), z2.mono (by decide), rfl⟩)) m3 fun v d G4 H4 r g4 m4 hv => q v d G4 H4 ⟨a, b, _, rfl, r, hp.1, hp.2, z3⟩ (g3.trans g4) m4 hv
/-- a drawn span -/
def Post_span : List D → D → Prop := fun _ d => ∃ a b : Rat, d = sp2 a b ∧ a ≤ b ∧ Sz 17 a ∧ Sz 17 b
theorem ok__law_span (T : Txt K mg) : MFn P w K mg base 4 "_law_span" (· = []) Post_span :=
  mfn_of T.h__law_span sc__law_span (fun ds e => by rw [e]; rfl) fun cdv A outer s f H Q xk hr l ds G vs e m hv q => by
    subst e
    cases hv
    refine sm_par 1 2 rfl sc__law_span.nd (am_cons (em_call 0 (ok__law_any T) hr am_nil (fun ds e => e) (fun ds d e h => h)) (am_cons (em_call 0 (ok__law_any T) hr am_nil (fun ds e => e) (fun ds d e h => h)) am_nil)) m (fun ds ⟨a, _, e1, _, b, _, e2, _, e3⟩ => ⟨a, b, by rw [e1, e2, e3]⟩) fun u v a b G1 H1 ⟨a', _, e1, ⟨qa, ea, za⟩, b', _, e2, ⟨qb, eb, zb⟩, e3⟩ g1 m1 hu hv => ?_
    subst e3
    subst e2
    injection e1 with e4 e5
    injection e5 with e5 _
    subst e4 e5 ea eb
    have rest : ∀ (x y : Rat) (ux vx : V) (G2 H2 : Hp), Sz 17 x → Sz 17 y → Ex G1 G2 → MO G2 H2 l → Dp K G2 ux (rd x) → Dp K G2 vx (rd y) → wB (cxOf CX0 P w K mg base N__law_span "_law_span" (defScope s__law_span) f cdv A outer s H xk).nox (defBody s__law_span |>.drop 2) { nx := fun _ H' => Q .non H', rt := Q } [some (.ref l), some ux, some vx] H2 := fun x y ux vx G2 H2 zx zy g2 m2 hx hy => by
      refine sm_ret (R := fun d => ∃ a b : Rat, d = sp2 a b ∧ a ≤ b ∧ Sz 17 a ∧ Sz 17 b) (em_imp (em_of (d := if y < x then sp2 y x else sp2 x y) (e_if (t_val (e_call (ok__law_less T) (hr.mono (by decide)) (a_cons (e_var 2 hy) (a_cons (e_var 1 hx) a_nil)) ⟨y, x, rfl, zy.mono (by decide), zx.mono (by decide), rfl⟩)) (fun h => ?_) fun h => ?_)) (fun d e => ?_)) m2 fun v d G3 H3 r g3 m3 hv => q v d G3 H3 r ((g1.trans g2).trans g3) m3 hv
      · rw [if_pos (of_decide_eq_true h)]
        exact e_tup (a_cons (e_var 2 hy) (a_cons (e_var 1 hx) a_nil))
      · rw [if_neg (of_decide_eq_false h)]
        exact e_tup (a_cons (e_var 1 hx) (a_cons (e_var 2 hy) a_nil))
      · subst e
        by_cases h : y < x
        · rw [if_pos h]; exact ⟨y, x, rfl, Rat.le_of_lt h, zy, zx⟩
        · rw [if_neg h]; exact ⟨x, y, rfl, Rat.not_lt.mp h, zx, zy⟩
    refine sm_when (tm_eqI (P := fun _ => True) (em_call 0 (ok__law_take T) (hr.mono (by decide)) (am_of (a_cons e_int a_nil)) (fun ds e => ⟨_, e, by decide⟩) (fun ds d e ⟨b, i, e1, e2, h1, h2⟩ => ⟨i, e2, trivial⟩)) em_int) m1 (fun _ G2 H2 g2 m2 => ?_) fun _ G2 H2 g2 m2 => ?_
    · exact s_set 2 (e_var 1 (Dp.mono g2 hu)) m2.gh sc__law_span.nd fun v3 G3 H3 n3 h3 => s_nil (rest qa qa u v3 G3 H3 za za (g2.trans n3.g) (m2.step n3) (Dp.mono n3.g (Dp.mono g2 hu)) h3)
    · exact rest qa qb u v G2 H2 za zb g2 m2 (Dp.mono g2 hu) (Dp.mono g2 hv)
/-- the least span of some ratios -/
def R_law_hull : List D → D → Prop := fun ds d => ∃ (x : Rat) (xs : List Rat), ds = [.list ((x :: xs).map rd)] ∧ xs.length ≤ 10 ∧ (∀ q ∈ x :: xs, Sz 3000 q) ∧ d = sp2 (loL (x :: xs)) (hiL (x :: xs))
theorem ok__law_in (T : Txt K mg) : PFn P w K mg base 2 "_law_in" (fun ds d => ∃ a b x : Rat, ds = [sp2 a b, rd x] ∧ Sz 3000 a ∧ Sz 3000 b ∧ Sz 3000 x ∧ d = .bool (!decide (x < a) && !decide (b < x))) :=
  pfn_of T.h__law_in sc__law_in (fun ds d ⟨_, _, _, e, _⟩ => by rw [e]; rfl) fun cdv A outer s f H Q xk hr ds d G vs ⟨a, b, x, e, za, zb, zx, ed⟩ g hv q => by
    subst e ed
    obtain ⟨u, t, rfl, hu, ht⟩ := all2 hv
    exact s_ret (e_and2 (e_not (e_call (ok__law_less T) hr (a_cons (e_var 1 ht) (a_cons (e_ixT (e_var 0 hu) e_int rfl) a_nil)) ⟨x, a, rfl, zx, za, rfl⟩)) fun _ => e_not (e_call (ok__law_less T) hr (a_cons (e_ixT (e_var 0 hu) e_int rfl) (a_cons (e_var 1 ht) a_nil)) ⟨b, x, rfl, zb, zx, rfl⟩)) g q
end
end K01

/-! L6: the law's least span of ratios. -/
namespace K01
open PySem PySem.Spec PyProof.Rows DL SX
open L2 hiding Dp DpAll
theorem ls_pos {a b : Rat} (h : b < a) : ls a b = b := by unfold ls; rw [if_pos h]
theorem ls_neg {a b : Rat} (h : ¬ b < a) : ls a b = a := by unfold ls; rw [if_neg h]
section
variable {P : Program} {w : World} {K : PySem.W.Frag} {mg : Str → Option Value} {base : Heap}
def R_hull : List D → D → Prop := fun ds d => ∃ (x : Rat) (l : List Rat), ds = [.list ((x :: l).map rd)] ∧ (∀ q ∈ x :: l, Sz 3000 q) ∧ d = hull (x :: l)
theorem ok__law_hull (T : Txt K mg) : PFn P w K mg base 2 "_law_hull" R_hull :=
  pfn_of T.h__law_hull sc__law_hull (fun ds d ⟨_, _, e, _⟩ => by rw [e]; rfl) fun cdv A outer s f H Q xk hr ds d G vs ⟨x, l0, e, zs, ed⟩ g hv q => by
    subst e ed
    obtain ⟨u, rfl, hu⟩ := all1 hv
    generalize hl : x :: l0 = l at hu zs q
    have h0 : l[0]? = some x := by rw [← hl]; rfl
    have hh : l.headD 0 = x := by rw [← hl]; rfl
    have a0 : atI (l.map rd) 0 = some (rd x) := by rw [← hl]; exact atN (k := 0) rfl
    refine s_par 1 2 rfl sc__law_hull.nd (a_cons (e_ixL (e_var 0 hu) e_int a0) (a_cons (e_ixL (e_var 0 hu) e_int a0) a_nil)) g fun u3 v3 G3 H3 n3 h3 h4 => ?_
    refine s_forL 3 .never rfl sc__law_hull.nd (e_var 0 (Dp.mono n3.g hu)) n3.gh (fun G4 H4 vx n4 hvx => ⟨fun k σ' H' => ∃ u5 v5 e5 G5, σ' = [some u, some u5, some v5, e5] ∧ Nx G4 H4 G5 H' ∧ Dp K G5 u5 (rd ((l.take k).foldl ls x)) ∧ Dp K G5 v5 (rd ((l.take k).foldl gr x)) ∧ Sz 3000 ((l.take k).foldl ls x) ∧ Sz 3000 ((l.take k).foldl gr x),
      ⟨u3, v3, Option.none, G4, rfl, Nx.refl n4.gh, Dp.mono n4.g h3, Dp.mono n4.g h4, zs _ (List.mem_of_getElem? h0), zs _ (List.mem_of_getElem? h0)⟩, fun k σ' H' ⟨_, _, _, G5, _, n5, _⟩ => n5.g.trans n5.gh, fun k v d σ' H' hd hv ⟨u5, v5, e5, G5, eσ, n5, d5, d6, z5, z6⟩ => ?_, fun σ' H' ⟨u5, v5, e5, G5, eσ, n5, d5, d6, z5, z6⟩ => ?_⟩) (pi_list pe_w) <;> (subst eσ)
    · rw [List.getElem?_map] at hd
      obtain ⟨r, hr1, hr2⟩ := Option.map_eq_some_iff.mp hd
      subst hr2
      have hv := Dp.mono n5.g hv
      have zr := zs r (List.mem_of_getElem? hr1)
      refine s_par 1 2 rfl sc__law_hull.nd (d1 := rd (ls ((l.take k).foldl ls x) r)) (d2 := rd (gr ((l.take k).foldl gr x) r)) (a_cons (e_if (t_val (e_call (ok__law_less T) hr (a_cons (e_var 3 hv) (a_cons (e_var 1 d5) a_nil)) ⟨r, _, rfl, zr, z5, rfl⟩)) (fun h => ?_) fun h => ?_) (a_cons (e_if (t_val (e_call (ok__law_less T) hr (a_cons (e_var 2 d6) (a_cons (e_var 3 hv) a_nil)) ⟨_, r, rfl, z6, zr, rfl⟩)) (fun h => ?_) fun h => ?_) a_nil)) n5.gh fun u7 v7 G7 H7 n7 h7 h8 => s_nil ?_
      · exact e_is (e_var 3 hv) (by rw [ls_pos (of_decide_eq_true h)])
      · exact e_is (e_var 1 d5) (by rw [ls_neg (of_decide_eq_false h)])
      · exact e_is (e_var 3 hv) (by rw [gr_pos (of_decide_eq_true h)])
      · exact e_is (e_var 2 d6) (by rw [gr_neg (of_decide_eq_false h)])
      · refine ⟨u7, v7, some v, G7, rfl, n5.trans n7, ?_, ?_, ?_, ?_⟩
        · rw [take_succ_foldl _ _ _ _ _ hr1]; exact h7
        · rw [take_succ_foldl _ _ _ _ _ hr1]; exact h8
        · rw [take_succ_foldl _ _ _ _ _ hr1]; exact Sz.ls z5 zr
        · rw [take_succ_foldl _ _ _ _ _ hr1]; exact Sz.gr z6 zr
    · rw [List.length_map, List.take_length] at d5 d6
      refine s_ret (e_is (e_tup (a_cons (e_var 1 d5) (a_cons (e_var 2 d6) a_nil))) (d' := hull l) ?_) n5.gh fun v G8 H8 n8 h8 => q v G8 H8 (n3.trans (n4.trans (n5.trans n8))) h8
      unfold hull loL hiL; rw [hh]; rfl
end
end K01

/-! L7: what is refused; what is told. -/
namespace K01
open PySem PySem.Spec PyProof.Rows DL SX
open L2 hiding Dp DpAll
def kn : Nat → Str
  | 0 => "NotRight"
  | 1 => "NotThere"
  | 2 => "NoAnswer"
  | 3 => "Undefined"
  | 4 => "Unclear"
  | _ => "TooHard"
/-- what isinstance says of an error of the idx-th kind -/
def EfAt (K : PySem.W.Frag) (mg : Str → Option Value) (idx : Nat) (D : Addr) : Prop := ExcC K D ∧ idx < 6 ∧ ∀ j, j < 6 → ∃ C, mg (kn j) = some (.ref C) ∧ PySem.W.kitOne K (.ref D) (.ref C) = some (decide (j = idx))
structure Ef (K : PySem.W.Frag) (mg : Str → Option Value) (n : Str) (idx : Nat) : Prop where
  ex : ∃ D, mg n = some (.ref D) ∧ EfAt K mg idx D ∧ ∃ w, mg "WidthError" = some (.ref w) ∧ PySem.W.exmOne K (.ref D) (.ref w) = some true
structure Txt2 (K : PySem.W.Frag) (mg : Str → Option Value) : Prop where
  e0 : Ef K mg "NotRight" 0
  e2 : Ef K mg "NoAnswer" 2
  e3 : Ef K mg "Undefined" 3
  e4 : Ef K mg "Unclear" 4
theorem digI_nat (n : Nat) : digI (n : Int) = dig n := by
  unfold digI
  rw [if_neg (by omega), Int.natAbs_natCast]
/-- 'refused n' -/
def refT (n : Nat) : List Nat := [114, 101, 102, 117, 115, 101, 100, 32] ++ dig n
section
variable {P : Program} {w : World} {K : PySem.W.Frag} {mg : Str → Option Value} {base : Heap}
def spFlag (K : PySem.W.Frag) (mg : Str → Option Value) : Addr × Obj → Sp := fun p us H Q _ => ∃ (idx : Nat) (D : Addr) (G : Hp), us = [.ref p.1] ∧ EfAt K mg idx D ∧ Zc (.ref D) Option.none p.2 ∧ (∃ vs, p.2.data = .fields vs) ∧ Ex G H ∧ ∀ G' H', Nx G H G' H' → Q (.str (S (refT (idx + 1)))) H'
theorem flag_sum (idx : Nat) (h : idx < 6) : ((List.range 6).map fun k : Nat => ((k : Int) + 1) * (if decide (k = idx) = true then (1 : Int) else 0)).sum = ((idx + 1 : Nat) : Int) := by
  match idx, h with
  | 0, _ => decide
  | 1, _ => decide
  | 2, _ => decide
  | 3, _ => decide
  | 4, _ => decide
  | 5, _ => decide
theorem ok__law_flag (T : Txt K mg) : ∃ f fd, mg "_law_flag" = some (.ref f) ∧ PySem.W.keepIn K (.ref f) = true ∧ Binds K fd ["error"] [] ∧ FnP P w K mg base CX0 1 f fd ["error"] (spFlag K mg) := by
  obtain ⟨f, fd, h1, F, hb⟩ := T.h__law_flag
  refine ⟨f, fd, h1, F.kp, hb, fnP_of F sc__law_flag (fun p vs H Q E ⟨idx, D, G, e, _⟩ => by rw [e]; rfl) fun cdv A outer s H vs Q xk p hot hr ⟨idx, D, G, e, ef, hz, hf, g, q⟩ => ?_⟩
  subst e
  obtain ⟨C, hi, hk⟩ := ef
  obtain ⟨c0, m0, k0⟩ := hk 0 (by decide)
  obtain ⟨c1, m1, k1⟩ := hk 1 (by decide)
  obtain ⟨c2, m2, k2⟩ := hk 2 (by decide)
  obtain ⟨c3, m3, k3⟩ := hk 3 (by decide)
  obtain ⟨c4, m4, k4⟩ := hk 4 (by decide)
  obtain ⟨c5, m5, k5⟩ := hk 5 (by decide)
  have hp : (p.1, p.2) ∈ (L2H.cxH CX0 P w K mg base N__law_flag "_law_flag" (defScope s__law_flag) f cdv A outer s H xk p).pn := List.mem_singleton.mpr rfl
  have hotX : L2H.HotC (L2H.cxH CX0 P w K mg base N__law_flag "_law_flag" (defScope s__law_flag) f cdv A outer s H xk p) := ⟨p, hot, hp⟩
  refine s_set 1 (d := .list ((List.range 6).map fun j => .bool (decide (j = idx)))) (e_lst (a_cons (e_isP 0 hp C hz hf T.b_isinstance m0 k0) (a_cons (e_isP 0 hp C hz hf T.b_isinstance m1 k1) (a_cons (e_isP 0 hp C hz hf T.b_isinstance m2 k2) (a_cons (e_isP 0 hp C hz hf T.b_isinstance m3 k3) (a_cons (e_isP 0 hp C hz hf T.b_isinstance m4 k4) (a_cons (e_isP 0 hp C hz hf T.b_isinstance m5 k5) a_nil))))))) g sc__law_flag.nd fun v1 G1 H1 n1 h1 => ?_
  have hat : ∀ j, j < 6 → ((List.range 6).map fun j => PyData.bool (decide (j = idx)))[j]? = some (.bool (decide (j = idx))) := fun j hj => by
    rw [List.getElem?_map, List.getElem?_range hj]; rfl
  refine s_ret (d := .str (S (refT (idx + 1)))) (e_is (e_catS (e_strC [114, 101, 102, 117, 115, 101, 100, 32]) (e_strN (i := ((idx + 1 : Nat) : Int)) T.b_str (e_is (e_sumH (ns := (List.range 6).map fun k : Nat => ((k : Int) + 1) * (if decide (k = idx) = true then (1 : Int) else 0)) hotX T.b_sum
    (e_is (e_lcRH (x := "k") (j := 2) (n := 6) (f := fun k => .int (((k : Int) + 1) * (if decide (k = idx) = true then (1 : Int) else 0))) hotX sc__law_flag.nd T.b_range (a_cons e_int a_nil) (by decide) (blkOk_by (N := N__law_flag) (sc := defScope s__law_flag) (by decide +kernel)) (fun _ _ _ _ _ => pg_name (i := 2) sc__law_flag.nd rfl (Or.inl rfl)) fun j hj _ _ _ _ _ => ?_) (by rw [List.map_map]; rfl))) (by rw [flag_sum idx hi])) (by omega)) ?_) (by rw [digI_nat]; rfl)) n1.gh fun v2 G2 H2 n2 h2 => ?_
  · exact e_mul (e_add (e_var 2 (.int _)) e_int) (e_intB T.b_int (e_ixL (e_var 1 h1) (e_var 2 (.int _)) (atN (hat j hj)))) (mulOK (a := 10) (b := 10) (by omega) (by split <;> decide) (by decide))
  · rw [digI_nat]
    rw [dig_lt (show idx + 1 < 10 by omega)]
    simp only [List.length_cons, List.length_nil]; omega
  · cases h2
    exact q G2 H2 (n1.trans n2)
end
end K01

/-! D23: names that get lists of defs; what they are called by. -/
namespace DL
open PySem PySem.Spec PyProof.Rows L2H HotX SX
open L2 hiding Dp DpAll
def refs (l : List (Str × Addr)) : List V := l.map fun z => V.ref z.2
section
variable {X : Cx} {σ : L2.St} {G H : Hp} {e ix b : Expr} {es ns : List Expr} {pos p p2 pos2 pos' pl : Pos} {d : D} {ds : List D} {x y : Str} {k : Nat} {rest : List Stmt} {Z : Ends} {l l2 : List (Str × Addr)}
/-- x = [f, g, ..] -/
theorem s_setF (i : Nat) (hn : GN X ns l) (hl : l.length ≤ 1000) (gh : Ex G H) (hN : X.N.Nodup) (q : ∀ a G' H', Nx G H G' H' → G' a = some (.lst (refs l)) → wB X rest Z (σ.set i (some (.ref a))) H') (hi : X.N[i]? = some x := by rfl) (hx : L2.Loc X.env.scope x := by first | exact Or.inl rfl | exact Or.inr rfl)
    (hs : swapsWith (.List ns pl) (some (.Name x pos')) pos.line X.env = pure false := by rfl) (hf : X.fn x = true ∨ X.env.scope.names.lookup x = some .local := by first | exact .inl rfl | exact .inr rfl | assumption) : wB X (.Assign [.Name x pos'] (.List ns pl) pos :: rest) Z σ H :=
  s_cons ⟨_, ps_set hN hi hx (pe_lst (pa_names hn)) hs hf, ⟨by rw [List.length_map]; exact Evl.sz_of (by omega), fun a ha => q a _ _ (Nx.new gh ha) upd_same⟩⟩
/-- x = y + [f, g, ..] -/
theorem s_catF (i j : Nat) {a : Addr} (hn : GN X ns l2) (hl : l.length + l2.length ≤ 1000) (hσ : σ[j]? = some (some (.ref a))) (ha : G a = some (.lst (refs l))) (gh : Ex G H) (hN : X.N.Nodup) (q : ∀ a G' H', Nx G H G' H' → G' a = some (.lst (refs (l ++ l2))) → wB X rest Z (σ.set i (some (.ref a))) H') (hi : X.N[i]? = some x := by rfl) (hj : X.N[j]? = some y := by rfl)
    (hv : Vis X.env.scope y := by first | exact Or.inl rfl | exact Or.inr (Or.inl rfl) | exact Or.inr (Or.inr rfl)) (h1 : (y == ("__debug__" : Str)) = false := by decide) (h2 : (y == ("__classdict__" : Str)) = false := by decide)
    (hx : L2.Loc X.env.scope x := by first | exact Or.inl rfl | exact Or.inr rfl)
    (hs : swapsWith (.BinOp (.Name y p) .Add (.List ns pl) p2) (some (.Name x pos')) pos.line X.env = pure false := by rfl) (hf : X.fn x = true ∨ X.env.scope.names.lookup x = some .local := by first | exact .inl rfl | exact .inr rfl | assumption) : wB X (.Assign [.Name x pos'] (.BinOp (.Name y p) .Add (.List ns pl) p2) pos :: rest) Z σ H :=
  s_cons ⟨_, ps_set hN hi hx (pe_op op_catS (pe_var hj hv h1 h2) (pe_lst (pa_names hn))) hs hf, .ref a, hσ, by rw [List.length_map]; exact Evl.sz_of (by omega), fun a2 ha2 => by
    have n1 := Nx.new (o := .lst (refs l2)) gh ha2
    refine ⟨a, a2, refs l, refs l2, rfl, rfl, Evl.ex_l n1.gh (Evl.sq_of (n1.g _ _ ha)), Evl.sq_of upd_same, ?_, fun a3 ha3 => ?_⟩
    · unfold refs; rw [List.length_map, List.length_map]; exact Evl.sz_of (by omega)
    · have n2 := Nx.new (o := .lst (refs l ++ refs l2)) n1.gh ha3
      refine q a3 _ _ (n1.trans n2) ?_
      rw [upd_same]; unfold refs; rw [List.map_append]⟩
/-- return y[i](a, ..) -/
theorem s_retV {W : WX} {R : List D → Except Str D → Prop} {r : Except Str D} {i : Int} {f a : Addr} (j : Nat) (hσ : σ[j]? = some (some (.ref a))) (hga : G a = some (.lst (refs l))) (hix : E X ix σ G (.int i)) (hat : atI l i = some (x, f)) (hmx : X.mg x = some (.ref f)) (F : XFn X.prog X.w X.K X.mg X.base k x R) (hr : Room k X.A) (tk : L2N.Takes X W) (ha : A X (e :: es) σ G ds) (hR : R ds r) (gh : Ex G H)
    (ok : ∀ d, r = .ok d → ∀ v G' H', Nx G H G' H' → Dp X.K G' v d → Z.rt v H') (er : ∀ n c, r = .error n → X.mg n = some (.ref c) → ∀ G' H', Nx G H G' H' → W (.ref c) Option.none σ H')
    (hj : X.N[j]? = some y := by rfl) (hv : Vis X.env.scope y := by first | exact Or.inl rfl | exact Or.inr (Or.inl rfl) | exact Or.inr (Or.inr rfl)) (h1 : (y == ("__debug__" : Str)) = false := by decide) (h2 : (y == ("__classdict__" : Str)) = false := by decide)
    (hs : PlainIx ix := by exact fun _ _ => rfl)
    (hc : eval (.Call (.Subscript (.Name y p) ix p2) (e :: es) [] pos) X.env = (do callWith pos (← eval (.Subscript (.Name y p) ix p2) X.env) [] (backTo pos (starEach (e :: es) X.env)) (backToKw pos (keywordEach [] X.env))) := by rfl)
    (he : starEach (e :: es) X.env = (false, eval e X.env) :: starEach es X.env := by rfl) (hpl : (backTo pos (starEach es X.env)).any (·.1) = false := by rfl) :
    wB X (.Return (some (.Call (.Subscript (.Name y p) ix p2) (e :: es) [] pos)) pos2 :: rest) Z σ H := by
  obtain ⟨f', hm, hk, F⟩ := F.ex
  have ef : f' = f := by rw [hmx] at hm; cases hm; rfl
  subst ef
  refine s_cons ⟨_, ps_ret (pe_callF (pe_ix ix_list (pe_var hj hv h1 h2) pe_w hs) hr (fun σ => L2N.passAt tk σ) pa_w hc he hpl), .ref a, hσ, ?_⟩
  refine hix _ _ (Evl.Ex.refl _) gh _ fun v G2 H2 n2 hv => ⟨a, _, i, .ref f', rfl, Dp.int_inv hv, .inl (.inl (n2.gh _ _ (n2.g _ _ hga))), ?_, f', _, rfl, hk, F, ha G2 H2 n2.g n2.gh _ fun us G3 H3 n3 hu => ?_⟩
  · unfold atI at hat ⊢
    unfold refs
    rw [List.length_map]
    cases hx : ixN l.length i with
    | none => rw [hx] at hat; cases hat
    | some j =>
      rw [hx] at hat
      have hat : l[j]? = some (x, f') := hat
      show (l.map fun z => V.ref z.2)[j]? = _
      rw [List.getElem?_map, hat]; rfl
  · exact ⟨ds, r, G3, hR, n3.gh, hu, fun d hd v G4 H4 n4 hv => ok d hd v G4 H4 ((n2.trans n3).trans n4) hv, fun n c hn hc G4 H4 n4 => er n c hn hc G4 H4 ((n2.trans n3).trans n4)⟩
end
end DL

/-! L8: what is told (printed by pL8.py). -/
namespace K01
open PySem PySem.Spec PyProof.Rows DL SX
open L2 hiding Dp DpAll
def RT : Nat → List D → Except Str D → Prop
  | 0 => RX1 q_width
  | 1 => RX1 q_middle
  | 2 => RX1 q_size
  | 3 => RX1 q_turn
  | 4 => RX1 q_sized
  | 5 => RX1 q_halves
  | 6 => RX1 q_sign
  | 7 => RXb fun l => .ok (rd (q_wbox l))
  | 8 => RXb fun l => if l.length = 0 then .error "NoAnswer" else .ok (q_halveB l)
  | 9 => RXb fun l => .ok (bxF l fun p => q_middle p.2.1 p.2.2)
  | 10 => RXb fun l => .ok (rd (q_room l))
  | 11 => RX2 fun a b x y => .ok (q_add a b x y)
  | 12 => RX2 fun a b x y => .ok (q_sub a b x y)
  | 13 => RXr q_scale
  | 14 => RX2 q_part
  | 15 => R_powered
  | 16 => RX2 fun a b x y => .ok (q_least a b x y)
  | 17 => RX2 fun a b x y => .ok (q_greatest a b x y)
  | 18 => R_round
  | 19 => RX2 fun a b x y => .ok (q_common a b x y)
  | 20 => RX2 fun a b x y => .ok (q_around a b x y)
  | 21 => R_grown
  | 22 => RXr q_has
  | 23 => RX2 fun a b x y => .ok (q_within a b x y)
  | 24 => RX2 fun a b x y => .ok (q_inside a b x y)
  | 25 => RBX2 fun l l' => .ok (q_comB l l')
  | 26 => RBX2 fun l l' => .ok (.bool (((l.zip l').map w_within).all id))
  | 27 => RBX2 fun l l' => .ok (.bool (((l.zip l').map w_inside).all id))
  | _ => fun _ _ => False
def ernum (n : Str) : Nat := if n = "NotRight" then 1 else if n = "NoAnswer" then 3 else if n = "Undefined" then 4 else 5
def okErr (r : Except Str D) : Prop := ∀ n, r = .error n → n = "NotRight" ∨ n = "NoAnswer" ∨ n = "Undefined" ∨ n = "Unclear"
/-- what the law gets to see -/
def outD : Except Str D → D
  | .ok d => d
  | .error n => .str (S (refT (ernum n)))
def R_told : List D → D → Prop := fun ds d => (∃ (i : Nat) (a : D) (r : Except Str D), i < 11 ∧ ds = [.int i, .tuple [a]] ∧ RT i [a] r ∧ okErr r ∧ d = outD r) ∨ ∃ (i : Nat) (a b : D) (r : Except Str D), 11 ≤ i ∧ i < 28 ∧ ds = [.int i, .tuple [a, b]] ∧ RT i [a, b] r ∧ okErr r ∧ d = outD r
section
variable {P : Program} {w : World} {K : PySem.W.Frag} {mg : Str → Option Value} {base : Heap}
theorem decLtN (a b : Nat) : decide ((a : Int) < (b : Int)) = decide (a < b) := by
  by_cases h : a < b
  · rw [decide_eq_true h]; exact decide_eq_true (by omega)
  · rw [decide_eq_false h]; exact decide_eq_false (by omega)
theorem xfn_mg {P : Program} {w : World} {K : PySem.W.Frag} {mg : Str → Option Value} {base : Heap} {k : Nat} {x : Str} {R : List D → Except Str D → Prop} (F : XFn P w K mg base k x R) : ∃ f, mg x = some (.ref f) := by
  obtain ⟨f, h, _⟩ := F.ex
  exact ⟨f, h⟩
theorem ok__law_told (T : Txt K mg) (T2 : Txt2 K mg) : PFn P w K mg base 9 "_law_told" R_told :=
  pfn_of T.h__law_told sc__law_told (fun ds d h => by rcases h with ⟨_, _, _, _, e, _⟩ | ⟨_, _, _, _, _, _, e, _⟩ <;> (rw [e]; rfl)) fun cdv A outer s f H Q xk hr ds d G vs hh g hv q => by
    obtain ⟨i, args, r, e, hR, he, ed, hi28, hsh⟩ : ∃ (i : Nat) (args : List D) (r : Except Str D), ds = [.int i, .tuple args] ∧ RT i args r ∧ okErr r ∧ d = outD r ∧ i < 28 ∧ ((i < 11 ∧ ∃ a, args = [a]) ∨ (11 ≤ i ∧ ∃ a b, args = [a, b])) := by
      rcases hh with ⟨i, a, r, hi, e, hR, he, ed⟩ | ⟨i, a, b, r, hi, hi2, e, hR, he, ed⟩
      · exact ⟨i, [a], r, e, hR, he, ed, by omega, .inl ⟨hi, a, rfl⟩⟩
      · exact ⟨i, [a, b], r, e, hR, he, ed, hi2, .inr ⟨hi, a, b, rfl⟩⟩
    clear hh
    subst e ed
    obtain ⟨u, x, rfl, hu, hx⟩ := all2 hv
    cases hu
    obtain ⟨_, _, _, cw, hcw, _⟩ := T2.e0.ex
    refine s_tryAs 4 (c := cw) sc__law_told.nd hcw fun W hW pn xe tk po => ?_
    -- the except suite
    have er : ∀ (σ' : L2.St) (n : Str) (c : Addr) (o1 o2 : Option V), σ' = [some (.int i), some x, o1, o2, Option.none] → r = .error n → mg n = some (.ref c) → ∀ G' H', Nx G H G' H' → W (.ref c) Option.none σ' H' := fun σ' n c o1 o2 eσ hr' hc G' H' n' => by
      subst eσ
      have key : ∀ idx, Ef K mg n idx → ernum n = idx + 1 → W (.ref c) Option.none [some (.int i), some x, o1, o2, Option.none] H' := fun idx ef hi => by
        obtain ⟨D0, hm, hE, cw', hcw', hx⟩ := ef.ex
        rw [hc] at hm; cases hm
        rw [hcw] at hcw'; cases hcw'
        refine hW c _ H' hx fun a oe pn' ha hz hd => ?_
        obtain ⟨ff, fd, m1, m2, m3, FF⟩ := ok__law_flag (P := P) (w := w) (base := base) T
        have hot : L2H.Hot1 ((cxOf CX0 P w K mg base N__law_told "_law_told" (defScope s__law_told) f cdv A outer s H xk).nox.A.mark (some (.ref a))) (a, oe) := by
          obtain ⟨vs, hv⟩ := hd
          exact ⟨rfl, vs, hv, hz.2.2 vs hv⟩
        refine s_cons ⟨_, ps_ret (pe_callP (p := (a, oe)) FF ⟨(hr.mono (show 1 ≤ 8 by decide)).dp, (hr.mono (show 1 ≤ 8 by decide)).un⟩ hot (List.mem_cons_self ..) rfl m1 m2 m3 (pa_cons (pe_var (i := 4) rfl (Or.inl rfl)) pa_nil)), .ref a, rfl, idx, c, G', rfl, hE, hz.zc, hd, n'.gh, fun G2 H2 n2 => ?_⟩
        refine q _ G2 H2 (n'.trans n2) ?_
        rw [hr']
        show Dp K G2 _ (.str (S (refT (ernum n))))
        rw [hi]
        exact .str _
      rcases he n hr' with e | e | e | e
      · subst e; exact key 0 T2.e0 rfl
      · subst e; exact key 2 T2.e2 (by decide)
      · subst e; exact key 3 T2.e3 (by decide)
      · subst e; exact key 4 T2.e4 (by decide)
    have ok : ∀ d, r = .ok d → ∀ v G' H', Nx G H G' H' → Dp K G' v d → Q v H' := fun d hd v G' H' n hv => q v G' H' n (by rw [hd]; exact hv)
    obtain ⟨f0, mf0⟩ := xfn_mg (ok_width_of (P := P) (w := w) (base := base) T)
    obtain ⟨f1, mf1⟩ := xfn_mg (ok_middle_of (P := P) (w := w) (base := base) T)
    obtain ⟨f2, mf2⟩ := xfn_mg (ok_size_of (P := P) (w := w) (base := base) T)
    obtain ⟨f3, mf3⟩ := xfn_mg (ok_turned (P := P) (w := w) (base := base) T)
    obtain ⟨f4, mf4⟩ := xfn_mg (ok_sized (P := P) (w := w) (base := base) T)
    obtain ⟨f5, mf5⟩ := xfn_mg (ok_halves_of (P := P) (w := w) (base := base) T)
    obtain ⟨f6, mf6⟩ := xfn_mg (ok_sign_of (P := P) (w := w) (base := base) T)
    obtain ⟨f7, mf7⟩ := xfn_mg (ok_width_of_box (P := P) (w := w) (base := base) T)
    obtain ⟨f8, mf8⟩ := xfn_mg (ok_halves_of_box (P := P) (w := w) (base := base) T)
    obtain ⟨f9, mf9⟩ := xfn_mg (ok_middle_of_box (P := P) (w := w) (base := base) T)
    obtain ⟨f10, mf10⟩ := xfn_mg (ok_room_of (P := P) (w := w) (base := base) T)
    refine s_setF 2 (l := [("width_of", f0), ("middle_of", f1), ("size_of", f2), ("turned", f3), ("sized", f4), ("halves_of", f5), ("sign_of", f6), ("width_of_box", f7), ("halves_of_box", f8), ("middle_of_box", f9), ("room_of", f10)]) (.cons mf0 rfl (by decide) rfl (.cons mf1 rfl (by decide) rfl (.cons mf2 rfl (by decide) rfl (.cons mf3 rfl (by decide) rfl (.cons mf4 rfl (by decide) rfl (.cons mf5 rfl (by decide) rfl (.cons mf6 rfl (by decide) rfl (.cons mf7 rfl (by decide) rfl (.cons mf8 rfl (by decide) rfl (.cons mf9 rfl (by decide) rfl (.cons mf10 rfl (by decide) rfl .nil))))))))))) (by simp) g sc__law_told.nd fun a1 G0 H0 n0 h1 => ?_
    have hx0 := Dp.mono n0.g hx
    refine s_when (k := decide (i < 11)) (t_is (t_lt (e_var 0 (.int _)) e_int) (decLtN i 11)) n0.gh (fun h G1 H1 n1 => ?_) fun h G1 H1 n1 => ?_
    · have h := of_decide_eq_true h
      have hx1 := Dp.mono n1.g hx0
      have nn := n0.trans n1
      rcases hsh with ⟨_, a, rfl⟩ | ⟨z, _⟩
      · rcases (show i = 0 ∨ i = 1 ∨ i = 2 ∨ i = 3 ∨ i = 4 ∨ i = 5 ∨ i = 6 ∨ i = 7 ∨ i = 8 ∨ i = 9 ∨ i = 10 by omega) with e | e | e | e | e | e | e | e | e | e | e <;> subst e
        · exact s_retV 2 rfl (n1.g _ _ h1) (e_var 0 (.int _)) rfl mf0 (ok_width_of T) (hr.mono (by decide)) tk (a_cons (e_ixT (e_var 1 hx1) e_int rfl) a_nil) hR nn.gh (fun d hd v G' H' n hv => ok d hd v G' H' (nn.trans n) hv) fun n c hn hc G' H' z => er _ n c _ _ rfl hn hc G' H' (nn.trans z)
        · exact s_retV 2 rfl (n1.g _ _ h1) (e_var 0 (.int _)) rfl mf1 (ok_middle_of T) (hr.mono (by decide)) tk (a_cons (e_ixT (e_var 1 hx1) e_int rfl) a_nil) hR nn.gh (fun d hd v G' H' n hv => ok d hd v G' H' (nn.trans n) hv) fun n c hn hc G' H' z => er _ n c _ _ rfl hn hc G' H' (nn.trans z)
        · exact s_retV 2 rfl (n1.g _ _ h1) (e_var 0 (.int _)) rfl mf2 (ok_size_of T) (hr.mono (by decide)) tk (a_cons (e_ixT (e_var 1 hx1) e_int rfl) a_nil) hR nn.gh (fun d hd v G' H' n hv => ok d hd v G' H' (nn.trans n) hv) fun n c hn hc G' H' z => er _ n c _ _ rfl hn hc G' H' (nn.trans z)
        · exact s_retV 2 rfl (n1.g _ _ h1) (e_var 0 (.int _)) rfl mf3 (ok_turned T) (hr.mono (by decide)) tk (a_cons (e_ixT (e_var 1 hx1) e_int rfl) a_nil) hR nn.gh (fun d hd v G' H' n hv => ok d hd v G' H' (nn.trans n) hv) fun n c hn hc G' H' z => er _ n c _ _ rfl hn hc G' H' (nn.trans z)
        · exact s_retV 2 rfl (n1.g _ _ h1) (e_var 0 (.int _)) rfl mf4 (ok_sized T) (hr.mono (by decide)) tk (a_cons (e_ixT (e_var 1 hx1) e_int rfl) a_nil) hR nn.gh (fun d hd v G' H' n hv => ok d hd v G' H' (nn.trans n) hv) fun n c hn hc G' H' z => er _ n c _ _ rfl hn hc G' H' (nn.trans z)
        · exact s_retV 2 rfl (n1.g _ _ h1) (e_var 0 (.int _)) rfl mf5 (ok_halves_of T) (hr.mono (by decide)) tk (a_cons (e_ixT (e_var 1 hx1) e_int rfl) a_nil) hR nn.gh (fun d hd v G' H' n hv => ok d hd v G' H' (nn.trans n) hv) fun n c hn hc G' H' z => er _ n c _ _ rfl hn hc G' H' (nn.trans z)
        · exact s_retV 2 rfl (n1.g _ _ h1) (e_var 0 (.int _)) rfl mf6 (ok_sign_of T) (hr.mono (by decide)) tk (a_cons (e_ixT (e_var 1 hx1) e_int rfl) a_nil) hR nn.gh (fun d hd v G' H' n hv => ok d hd v G' H' (nn.trans n) hv) fun n c hn hc G' H' z => er _ n c _ _ rfl hn hc G' H' (nn.trans z)
        · exact s_retV 2 rfl (n1.g _ _ h1) (e_var 0 (.int _)) rfl mf7 (ok_width_of_box T) (hr.mono (by decide)) tk (a_cons (e_ixT (e_var 1 hx1) e_int rfl) a_nil) hR nn.gh (fun d hd v G' H' n hv => ok d hd v G' H' (nn.trans n) hv) fun n c hn hc G' H' z => er _ n c _ _ rfl hn hc G' H' (nn.trans z)
        · exact s_retV 2 rfl (n1.g _ _ h1) (e_var 0 (.int _)) rfl mf8 (ok_halves_of_box T) (hr.mono (by decide)) tk (a_cons (e_ixT (e_var 1 hx1) e_int rfl) a_nil) hR nn.gh (fun d hd v G' H' n hv => ok d hd v G' H' (nn.trans n) hv) fun n c hn hc G' H' z => er _ n c _ _ rfl hn hc G' H' (nn.trans z)
        · exact s_retV 2 rfl (n1.g _ _ h1) (e_var 0 (.int _)) rfl mf9 (ok_middle_of_box T) (hr.mono (by decide)) tk (a_cons (e_ixT (e_var 1 hx1) e_int rfl) a_nil) hR nn.gh (fun d hd v G' H' n hv => ok d hd v G' H' (nn.trans n) hv) fun n c hn hc G' H' z => er _ n c _ _ rfl hn hc G' H' (nn.trans z)
        · exact s_retV 2 rfl (n1.g _ _ h1) (e_var 0 (.int _)) rfl mf10 (ok_room_of T) (hr.mono (by decide)) tk (a_cons (e_ixT (e_var 1 hx1) e_int rfl) a_nil) hR nn.gh (fun d hd v G' H' n hv => ok d hd v G' H' (nn.trans n) hv) fun n c hn hc G' H' z => er _ n c _ _ rfl hn hc G' H' (nn.trans z)
      · omega
    · have h := of_decide_eq_false h
      have hx1 := Dp.mono n1.g hx0
      have nn := n0.trans n1
      obtain ⟨g0, mg0⟩ := xfn_mg (ok_added (P := P) (w := w) (base := base) T)
      obtain ⟨g1, mg1⟩ := xfn_mg (ok_subtracted (P := P) (w := w) (base := base) T)
      obtain ⟨g2, mg2⟩ := xfn_mg (ok_scaled (P := P) (w := w) (base := base) T)
      obtain ⟨g3, mg3⟩ := xfn_mg (ok_parted (P := P) (w := w) (base := base) T)
      obtain ⟨g4, mg4⟩ := xfn_mg (ok_powered (P := P) (w := w) (base := base) T)
      obtain ⟨g5, mg5⟩ := xfn_mg (ok_least_two (P := P) (w := w) (base := base) T)
      obtain ⟨g6, mg6⟩ := xfn_mg (ok_greatest_two (P := P) (w := w) (base := base) T)
      obtain ⟨g7, mg7⟩ := xfn_mg (ok_rounded_out (P := P) (w := w) (base := base) T)
      obtain ⟨g8, mg8⟩ := xfn_mg (ok_common (P := P) (w := w) (base := base) T)
      obtain ⟨g9, mg9⟩ := xfn_mg (ok_around (P := P) (w := w) (base := base) T)
      obtain ⟨g10, mg10⟩ := xfn_mg (ok_grown (P := P) (w := w) (base := base) T)
      obtain ⟨g11, mg11⟩ := xfn_mg (ok_has (P := P) (w := w) (base := base) T)
      obtain ⟨k0, mk0⟩ := xfn_mg (ok_is_within_span (P := P) (w := w) (base := base) T)
      obtain ⟨k1, mk1⟩ := xfn_mg (ok_is_inside (P := P) (w := w) (base := base) T)
      obtain ⟨k2, mk2⟩ := xfn_mg (ok_common_box (P := P) (w := w) (base := base) T)
      obtain ⟨k3, mk3⟩ := xfn_mg (ok_is_within_box (P := P) (w := w) (base := base) T)
      obtain ⟨k4, mk4⟩ := xfn_mg (ok_is_inside_box (P := P) (w := w) (base := base) T)
      refine s_setF 3 (l := [("added", g0), ("subtracted", g1), ("scaled", g2), ("parted", g3), ("powered", g4), ("least_two", g5), ("greatest_two", g6), ("rounded_out", g7), ("common", g8), ("around", g9), ("grown", g10), ("has", g11)]) (.cons mg0 rfl (by decide) rfl (.cons mg1 rfl (by decide) rfl (.cons mg2 rfl (by decide) rfl (.cons mg3 rfl (by decide) rfl (.cons mg4 rfl (by decide) rfl (.cons mg5 rfl (by decide) rfl (.cons mg6 rfl (by decide) rfl (.cons mg7 rfl (by decide) rfl (.cons mg8 rfl (by decide) rfl (.cons mg9 rfl (by decide) rfl (.cons mg10 rfl (by decide) rfl (.cons mg11 rfl (by decide) rfl .nil)))))))))))) (by simp) nn.gh sc__law_told.nd fun a2 G2 H2 n2 h2 => ?_
      refine s_catF 3 3 (l2 := [("is_within_span", k0), ("is_inside", k1), ("common_box", k2), ("is_within_box", k3), ("is_inside_box", k4)]) (.cons mk0 rfl (by decide) rfl (.cons mk1 rfl (by decide) rfl (.cons mk2 rfl (by decide) rfl (.cons mk3 rfl (by decide) rfl (.cons mk4 rfl (by decide) rfl .nil))))) (by simp) rfl h2 n2.gh sc__law_told.nd fun a3 G3 H3 n3 h3 => ?_
      have hx3 := Dp.mono n3.g (Dp.mono n2.g hx1)
      have n4 := nn.trans (n2.trans n3)
      rcases hsh with ⟨z, _⟩ | ⟨_, a, b, rfl⟩
      · omega
      · rcases (show i = 11 ∨ i = 12 ∨ i = 13 ∨ i = 14 ∨ i = 15 ∨ i = 16 ∨ i = 17 ∨ i = 18 ∨ i = 19 ∨ i = 20 ∨ i = 21 ∨ i = 22 ∨ i = 23 ∨ i = 24 ∨ i = 25 ∨ i = 26 ∨ i = 27 by omega) with e | e | e | e | e | e | e | e | e | e | e | e | e | e | e | e | e <;> subst e
        · exact s_retV 3 rfl h3 (e_sub (e_var 0 (.int _)) e_int) rfl mg0 (ok_added T) (hr.mono (by decide)) tk (a_cons (e_ixT (e_var 1 hx3) e_int rfl) (a_cons (e_ixT (e_var 1 hx3) e_int rfl) a_nil)) hR n4.gh (fun d hd v G' H' n hv => ok d hd v G' H' (n4.trans n) hv) fun n c hn hc G' H' z => er _ n c _ _ rfl hn hc G' H' (n4.trans z)
        · exact s_retV 3 rfl h3 (e_sub (e_var 0 (.int _)) e_int) rfl mg1 (ok_subtracted T) (hr.mono (by decide)) tk (a_cons (e_ixT (e_var 1 hx3) e_int rfl) (a_cons (e_ixT (e_var 1 hx3) e_int rfl) a_nil)) hR n4.gh (fun d hd v G' H' n hv => ok d hd v G' H' (n4.trans n) hv) fun n c hn hc G' H' z => er _ n c _ _ rfl hn hc G' H' (n4.trans z)
        · exact s_retV 3 rfl h3 (e_sub (e_var 0 (.int _)) e_int) rfl mg2 (ok_scaled T) (hr.mono (by decide)) tk (a_cons (e_ixT (e_var 1 hx3) e_int rfl) (a_cons (e_ixT (e_var 1 hx3) e_int rfl) a_nil)) hR n4.gh (fun d hd v G' H' n hv => ok d hd v G' H' (n4.trans n) hv) fun n c hn hc G' H' z => er _ n c _ _ rfl hn hc G' H' (n4.trans z)
        · exact s_retV 3 rfl h3 (e_sub (e_var 0 (.int _)) e_int) rfl mg3 (ok_parted T) (hr.mono (by decide)) tk (a_cons (e_ixT (e_var 1 hx3) e_int rfl) (a_cons (e_ixT (e_var 1 hx3) e_int rfl) a_nil)) hR n4.gh (fun d hd v G' H' n hv => ok d hd v G' H' (n4.trans n) hv) fun n c hn hc G' H' z => er _ n c _ _ rfl hn hc G' H' (n4.trans z)
        · exact s_retV 3 rfl h3 (e_sub (e_var 0 (.int _)) e_int) rfl mg4 (ok_powered T) (hr.mono (by decide)) tk (a_cons (e_ixT (e_var 1 hx3) e_int rfl) (a_cons (e_ixT (e_var 1 hx3) e_int rfl) a_nil)) hR n4.gh (fun d hd v G' H' n hv => ok d hd v G' H' (n4.trans n) hv) fun n c hn hc G' H' z => er _ n c _ _ rfl hn hc G' H' (n4.trans z)
        · exact s_retV 3 rfl h3 (e_sub (e_var 0 (.int _)) e_int) rfl mg5 (ok_least_two T) (hr.mono (by decide)) tk (a_cons (e_ixT (e_var 1 hx3) e_int rfl) (a_cons (e_ixT (e_var 1 hx3) e_int rfl) a_nil)) hR n4.gh (fun d hd v G' H' n hv => ok d hd v G' H' (n4.trans n) hv) fun n c hn hc G' H' z => er _ n c _ _ rfl hn hc G' H' (n4.trans z)
        · exact s_retV 3 rfl h3 (e_sub (e_var 0 (.int _)) e_int) rfl mg6 (ok_greatest_two T) (hr.mono (by decide)) tk (a_cons (e_ixT (e_var 1 hx3) e_int rfl) (a_cons (e_ixT (e_var 1 hx3) e_int rfl) a_nil)) hR n4.gh (fun d hd v G' H' n hv => ok d hd v G' H' (n4.trans n) hv) fun n c hn hc G' H' z => er _ n c _ _ rfl hn hc G' H' (n4.trans z)
        · exact s_retV 3 rfl h3 (e_sub (e_var 0 (.int _)) e_int) rfl mg7 (ok_rounded_out T) (hr.mono (by decide)) tk (a_cons (e_ixT (e_var 1 hx3) e_int rfl) (a_cons (e_ixT (e_var 1 hx3) e_int rfl) a_nil)) hR n4.gh (fun d hd v G' H' n hv => ok d hd v G' H' (n4.trans n) hv) fun n c hn hc G' H' z => er _ n c _ _ rfl hn hc G' H' (n4.trans z)
        · exact s_retV 3 rfl h3 (e_sub (e_var 0 (.int _)) e_int) rfl mg8 (ok_common T) (hr.mono (by decide)) tk (a_cons (e_ixT (e_var 1 hx3) e_int rfl) (a_cons (e_ixT (e_var 1 hx3) e_int rfl) a_nil)) hR n4.gh (fun d hd v G' H' n hv => ok d hd v G' H' (n4.trans n) hv) fun n c hn hc G' H' z => er _ n c _ _ rfl hn hc G' H' (n4.trans z)
        · exact s_retV 3 rfl h3 (e_sub (e_var 0 (.int _)) e_int) rfl mg9 (ok_around T) (hr.mono (by decide)) tk (a_cons (e_ixT (e_var 1 hx3) e_int rfl) (a_cons (e_ixT (e_var 1 hx3) e_int rfl) a_nil)) hR n4.gh (fun d hd v G' H' n hv => ok d hd v G' H' (n4.trans n) hv) fun n c hn hc G' H' z => er _ n c _ _ rfl hn hc G' H' (n4.trans z)
        · exact s_retV 3 rfl h3 (e_sub (e_var 0 (.int _)) e_int) rfl mg10 (ok_grown T) (hr.mono (by decide)) tk (a_cons (e_ixT (e_var 1 hx3) e_int rfl) (a_cons (e_ixT (e_var 1 hx3) e_int rfl) a_nil)) hR n4.gh (fun d hd v G' H' n hv => ok d hd v G' H' (n4.trans n) hv) fun n c hn hc G' H' z => er _ n c _ _ rfl hn hc G' H' (n4.trans z)
        · exact s_retV 3 rfl h3 (e_sub (e_var 0 (.int _)) e_int) rfl mg11 (ok_has T) (hr.mono (by decide)) tk (a_cons (e_ixT (e_var 1 hx3) e_int rfl) (a_cons (e_ixT (e_var 1 hx3) e_int rfl) a_nil)) hR n4.gh (fun d hd v G' H' n hv => ok d hd v G' H' (n4.trans n) hv) fun n c hn hc G' H' z => er _ n c _ _ rfl hn hc G' H' (n4.trans z)
        · exact s_retV 3 rfl h3 (e_sub (e_var 0 (.int _)) e_int) rfl mk0 (ok_is_within_span T) (hr.mono (by decide)) tk (a_cons (e_ixT (e_var 1 hx3) e_int rfl) (a_cons (e_ixT (e_var 1 hx3) e_int rfl) a_nil)) hR n4.gh (fun d hd v G' H' n hv => ok d hd v G' H' (n4.trans n) hv) fun n c hn hc G' H' z => er _ n c _ _ rfl hn hc G' H' (n4.trans z)
        · exact s_retV 3 rfl h3 (e_sub (e_var 0 (.int _)) e_int) rfl mk1 (ok_is_inside T) (hr.mono (by decide)) tk (a_cons (e_ixT (e_var 1 hx3) e_int rfl) (a_cons (e_ixT (e_var 1 hx3) e_int rfl) a_nil)) hR n4.gh (fun d hd v G' H' n hv => ok d hd v G' H' (n4.trans n) hv) fun n c hn hc G' H' z => er _ n c _ _ rfl hn hc G' H' (n4.trans z)
        · exact s_retV 3 rfl h3 (e_sub (e_var 0 (.int _)) e_int) rfl mk2 (ok_common_box T) (hr.mono (by decide)) tk (a_cons (e_ixT (e_var 1 hx3) e_int rfl) (a_cons (e_ixT (e_var 1 hx3) e_int rfl) a_nil)) hR n4.gh (fun d hd v G' H' n hv => ok d hd v G' H' (n4.trans n) hv) fun n c hn hc G' H' z => er _ n c _ _ rfl hn hc G' H' (n4.trans z)
        · exact s_retV 3 rfl h3 (e_sub (e_var 0 (.int _)) e_int) rfl mk3 (ok_is_within_box T) (hr.mono (by decide)) tk (a_cons (e_ixT (e_var 1 hx3) e_int rfl) (a_cons (e_ixT (e_var 1 hx3) e_int rfl) a_nil)) hR n4.gh (fun d hd v G' H' n hv => ok d hd v G' H' (n4.trans n) hv) fun n c hn hc G' H' z => er _ n c _ _ rfl hn hc G' H' (n4.trans z)
        · exact s_retV 3 rfl h3 (e_sub (e_var 0 (.int _)) e_int) rfl mk4 (ok_is_inside_box T) (hr.mono (by decide)) tk (a_cons (e_ixT (e_var 1 hx3) e_int rfl) (a_cons (e_ixT (e_var 1 hx3) e_int rfl) a_nil)) hR n4.gh (fun d hd v G' H' n hv => ok d hd v G' H' (n4.trans n) hv) fun n c hn hc G' H' z => er _ n c _ _ rfl hn hc G' H' (n4.trans z)
end
end K01

/-! PL1: the least span of ratios; the plain law of spans. -/
namespace K01
open PySem PySem.Spec PyProof.Rows DL SX
open L2 hiding Dp DpAll
theorem ls_or (a b : Rat) : (ls a b = a ∨ ls a b = b) ∧ ls a b ≤ a ∧ ls a b ≤ b := by
  unfold ls
  split
  · rename_i h; exact ⟨.inr rfl, Rat.le_of_lt h, Rat.le_refl⟩
  · rename_i h; exact ⟨.inl rfl, Rat.le_refl, Rat.not_lt.mp h⟩
theorem gr_or (a b : Rat) : (gr a b = a ∨ gr a b = b) ∧ a ≤ gr a b ∧ b ≤ gr a b := by
  unfold gr
  split
  · rename_i h; exact ⟨.inr rfl, Rat.le_of_lt h, Rat.le_refl⟩
  · rename_i h; exact ⟨.inl rfl, Rat.le_refl, Rat.not_lt.mp h⟩
theorem lo_fold : ∀ (l : List Rat) (x : Rat), (l.foldl ls x = x ∨ l.foldl ls x ∈ l) ∧ l.foldl ls x ≤ x ∧ ∀ q ∈ l, l.foldl ls x ≤ q
  | [], x => ⟨.inl rfl, Rat.le_refl, fun q h => nomatch h⟩
  | y :: l, x => by
    obtain ⟨h1, h2, h3⟩ := lo_fold l (ls x y)
    obtain ⟨g1, g2, g3⟩ := ls_or x y
    refine ⟨?_, Rat.le_trans h2 g2, fun q hq => ?_⟩
    · show l.foldl ls (ls x y) = x ∨ l.foldl ls (ls x y) ∈ y :: l
      rcases h1 with e | e
      · rcases g1 with z | z
        · exact .inl (e.trans z)
        · exact .inr (by rw [e, z]; exact List.mem_cons_self ..)
      · exact .inr (List.mem_cons_of_mem _ e)
    · rcases List.mem_cons.mp hq with rfl | hq
      · exact Rat.le_trans h2 g3
      · exact h3 q hq
theorem hi_fold : ∀ (l : List Rat) (x : Rat), (l.foldl gr x = x ∨ l.foldl gr x ∈ l) ∧ x ≤ l.foldl gr x ∧ ∀ q ∈ l, q ≤ l.foldl gr x
  | [], x => ⟨.inl rfl, Rat.le_refl, fun q h => nomatch h⟩
  | y :: l, x => by
    obtain ⟨h1, h2, h3⟩ := hi_fold l (gr x y)
    obtain ⟨g1, g2, g3⟩ := gr_or x y
    refine ⟨?_, Rat.le_trans g2 h2, fun q hq => ?_⟩
    · show l.foldl gr (gr x y) = x ∨ l.foldl gr (gr x y) ∈ y :: l
      rcases h1 with e | e
      · rcases g1 with z | z
        · exact .inl (e.trans z)
        · exact .inr (by rw [e, z]; exact List.mem_cons_self ..)
      · exact .inr (List.mem_cons_of_mem _ e)
    · rcases List.mem_cons.mp hq with rfl | hq
      · exact Rat.le_trans g3 h2
      · exact h3 q hq
theorem lo_spec {l : List Rat} (h : l ≠ []) : loL l ∈ l ∧ ∀ q ∈ l, loL l ≤ q := by
  cases l with
  | nil => exact absurd rfl h
  | cons x l =>
    obtain ⟨h1, h2, h3⟩ := lo_fold (x :: l) x
    exact ⟨h1.elim (fun e => by unfold loL; rw [List.headD_cons, e]; exact List.mem_cons_self ..) fun e => e, h3⟩
theorem hi_spec {l : List Rat} (h : l ≠ []) : hiL l ∈ l ∧ ∀ q ∈ l, q ≤ hiL l := by
  cases l with
  | nil => exact absurd rfl h
  | cons x l =>
    obtain ⟨h1, h2, h3⟩ := hi_fold (x :: l) x
    exact ⟨h1.elim (fun e => by unfold hiL; rw [List.headD_cons, e]; exact List.mem_cons_self ..) fun e => e, h3⟩
theorem lo_eq {l : List Rat} {x : Rat} (h1 : x ∈ l) (h2 : ∀ q ∈ l, x ≤ q) : loL l = x := by
  have h := lo_spec (List.ne_nil_of_mem h1)
  exact Rat.le_antisymm (h.2 x h1) (h2 _ h.1)
theorem hi_eq {l : List Rat} {x : Rat} (h1 : x ∈ l) (h2 : ∀ q ∈ l, q ≤ x) : hiL l = x := by
  have h := hi_spec (List.ne_nil_of_mem h1)
  exact Rat.le_antisymm (h2 _ h.1) (h.2 x h1)
theorem hull_eq {l : List Rat} {x y : Rat} (h1 : x ∈ l) (h2 : y ∈ l) (h : ∀ q ∈ l, x ≤ q ∧ q ≤ y) : hull l = sp2 x y := by
  unfold hull; rw [lo_eq h1 fun q z => (h q z).1, hi_eq h2 fun q z => (h q z).2]
theorem hull_same {l m : List Rat} (h0 : m ≠ []) (h1 : ∀ q ∈ l, q ∈ m) (h2 : ∀ q ∈ m, q ∈ l) : hull l = hull m := by
  have a := lo_spec h0
  have b := hi_spec h0
  exact (hull_eq (h2 _ a.1) (h2 _ b.1) fun q z => ⟨a.2 q (h1 q z), b.2 q (h1 q z)⟩)
theorem hull2 {x y : Rat} (h : x ≤ y) : hull [x, y] = sp2 x y := hull_eq (by simp) (by simp) fun q z => by
  simp at z
  rcases z with rfl | rfl
  · exact ⟨Rat.le_refl, h⟩
  · exact ⟨h, Rat.le_refl⟩
theorem hull2' {x y : Rat} (h : y ≤ x) : hull [x, y] = sp2 y x := hull_eq (by simp) (by simp) fun q z => by
  simp at z
  rcases z with rfl | rfl
  · exact ⟨h, Rat.le_refl⟩
  · exact ⟨Rat.le_refl, h⟩
theorem spq_hull (x y : Rat) : spq x y = hull [x, y] := by
  unfold spq
  split
  · rename_i h; exact (hull2' (Rat.le_of_lt h)).symm
  · rename_i h; exact (hull2 (Rat.not_lt.mp h)).symm
theorem mul_le {a b c d : Rat} (h1 : 0 ≤ a) (h2 : a ≤ b) (h3 : 0 ≤ c) (h4 : c ≤ d) : a * c ≤ b * d := by
  have e1 : 0 ≤ (b - a) * d := Rat.mul_nonneg (by grind) (by grind)
  have e2 : 0 ≤ a * (d - c) := Rat.mul_nonneg h1 (by grind)
  grind
theorem sq_nn (a : Rat) : 0 ≤ a * a := by
  rcases Rat.le_total (a := 0) (b := a) with h | h
  · exact Rat.mul_nonneg h h
  · have : 0 ≤ (-a) * (-a) := Rat.mul_nonneg (by grind) (by grind)
    grind
theorem pow_two' (a : Rat) : a ^ 2 = a * a := by rw [Rat.pow_succ, Rat.pow_succ, Rat.pow_zero, Rat.one_mul]
theorem pow_three' (a : Rat) : a ^ 3 = a * a * a := by rw [Rat.pow_succ, pow_two']
theorem pow_four' (a : Rat) : a ^ 4 = (a * a) * (a * a) := by rw [Rat.pow_succ, pow_three']; grind
theorem pow_one' (a : Rat) : a ^ 1 = a := by rw [Rat.pow_succ, Rat.pow_zero, Rat.one_mul]
theorem cube_le {a b : Rat} (h : a ≤ b) : a * a * a ≤ b * b * b := by
  have h1 : 0 ≤ (b - a) * (a * a) := Rat.mul_nonneg (by grind) (sq_nn a)
  have h2 : 0 ≤ (b - a) * (b * b) := Rat.mul_nonneg (by grind) (sq_nn b)
  have h3 : 0 ≤ (b - a) * ((a + b) * (a + b)) := Rat.mul_nonneg (by grind) (sq_nn _)
  grind
theorem sq_le {a b : Rat} (h : 0 ≤ a) (h2 : a ≤ b) : a * a ≤ b * b := mul_le h h2 h h2
theorem sq_le' {a b : Rat} (h : a ≤ b) (h2 : b ≤ 0) : b * b ≤ a * a := by
  have := sq_le (a := -b) (b := -a) (by grind) (by grind)
  grind
/-- up to the fourth power -/
theorem pow_mono {a b : Rat} {n : Nat} (hn : n ≤ 4) (h : a ≤ b) (h2 : n % 2 = 1 ∨ 0 ≤ a) : a ^ n ≤ b ^ n := by
  rcases (show n = 0 ∨ n = 1 ∨ n = 2 ∨ n = 3 ∨ n = 4 by omega) with e | e | e | e | e <;> subst e
  · rw [Rat.pow_zero, Rat.pow_zero]; exact Rat.le_refl
  · rw [pow_one', pow_one']; exact h
  · rw [pow_two', pow_two']; exact sq_le (h2.resolve_left (by decide)) h
  · rw [pow_three', pow_three']; exact cube_le h
  · rw [pow_four', pow_four']
    exact sq_le (sq_nn a) (sq_le (h2.resolve_left (by decide)) h)
theorem pow_anti {a b : Rat} {n : Nat} (hn : n ≤ 4) (h : a ≤ b) (h2 : n % 2 = 0) (h0 : b ≤ 0) : b ^ n ≤ a ^ n := by
  rcases (show n = 0 ∨ n = 2 ∨ n = 4 by omega) with e | e | e <;> subst e
  · rw [Rat.pow_zero, Rat.pow_zero]; exact Rat.le_refl
  · rw [pow_two', pow_two']; exact sq_le' h h0
  · rw [pow_four', pow_four']
    exact sq_le (sq_nn b) (sq_le' h h0)
theorem pow_even {a : Rat} {n : Nat} (hn : n ≤ 4) (h2 : n % 2 = 0) : 0 ≤ a ^ n := by
  rcases (show n = 0 ∨ n = 2 ∨ n = 4 by omega) with e | e | e <;> subst e
  · rw [Rat.pow_zero]; decide
  · rw [pow_two']; exact sq_nn a
  · rw [pow_four']; exact sq_nn _
theorem inv_le {a b : Rat} (h : a ≤ b) (hs : 0 < a ∨ b < 0) : 1 / b ≤ 1 / a := by
  have ha : a ≠ 0 := by rcases hs with z | z <;> grind
  have hb : b ≠ 0 := by rcases hs with z | z <;> grind
  have hab : 0 < a * b := by
    rcases hs with z | z
    · exact Rat.mul_pos z (by grind)
    · have := Rat.mul_pos (a := -a) (b := -b) (by grind) (by grind)
      grind
  have e1 : 1 / b = a / (a * b) := by grind
  have e2 : 1 / a = b / (a * b) := by grind
  rw [e1, e2, Rat.div_def, Rat.div_def]
  have hi : 0 ≤ (a * b)⁻¹ := Rat.le_of_lt (Rat.inv_pos.mpr hab)
  have : 0 ≤ (b - a) * (a * b)⁻¹ := Rat.mul_nonneg (by grind) hi
  grind
end K01

/-! D24: a comprehension that a name gets, as a list of one's own. -/
namespace DL
open PySem PySem.Spec PyProof.Rows SX
open L2 hiding Dp DpAll
theorem Lcl.pre {G H G1 H1 G' H' : Hp} {l : Addr} {vs : List V} (n : Nx G H G1 H1) (x : Lcl G1 H1 l G' H' vs) : Lcl G H l G' H' vs :=
  ⟨n.g.trans x.g, n.h.trans x.h, x.gl, x.gh, fun a q => by
    rcases x.fr a q with z | z
    · exact n.fr a z
    · exact .inr (Evl.fresh_back n.h z), x.hl, Evl.fresh_back n.h x.h0⟩
section
variable {X : Cx} {σ : L2.St} {G H : Hp} {tg elt iter : Expr} {pos tpos pos' : Pos} {x y : Str} {j : Nat} {scope : Scope} {rest : List Stmt} {Z : Ends} {xs : List D}
theorem s_setLO (i : Nat) {n : Nat} {f : Nat → D} (hcalm : X.calm = true) (hN : X.N.Nodup) (ov : Over X (.Name x tpos) iter σ G xs) (hn : xs.length = n) (hn2 : n ≤ 80000) (ok : BlkOk X.N X.env.scope scope [(x, j)])
    (hg : ∀ s H C cl fp, PG (blkX X scope s H C cl fp) (.Name x tpos) (gName j))
    (he : ∀ (i : Nat) (v : V) (d : D) (G' : Hp), xs[i]? = some d → Ex G G' → Dp X.K G' v d → ∀ s H0 C cl fp, E (blkX X scope s H0 C cl fp) elt (σ.set j (some v)) G' (f i)) (gh : Ex G H)
    (q : ∀ l G' H' vs, Lcl G H l G' H' vs → vs.length ≤ 80000 → DpAll X.K G' vs ((List.range n).map f) → wB X rest Z (σ.set i (some (.ref l))) H')
    (hi : X.N[i]? = some y := by rfl) (hy : X.env.scope.names.lookup y = some .local := by rfl)
    {lpos : Pos} (hw : swapsWith (.ListComp elt [⟨.Name x tpos, iter, [], 0⟩] scope lpos) (some (.Name y pos')) pos.line X.env = pure true := by rfl)
    (hs : ∀ y, foldedSetIterable iter X.env y = pure y := by intro _; rfl) :
    wB X (.Assign [.Name y pos'] (.ListComp elt [⟨.Name x tpos, iter, [], 0⟩] scope lpos) pos :: rest) Z σ H := by
  obtain ⟨wi, hpi, ov⟩ := ov
  refine s_cons ⟨_, ps_setLc (own := [(x, j)]) (te := wBE X scope elt) (tt := tYes) hcalm hN hi hy hw hpi ok hg (fun _ _ _ _ _ => pts_nil) pe_wBE hs, ov G H (Evl.Ex.refl _) gh _ fun J G2 H2 vx n2 hv io Dl hD => ?_⟩
  have hlen : vx.length = n := by rw [DpAll.len hv, hn]
  refine lc_gen (n := n) (val := fun i x => vx[i]? = some x) (fun i H' => ∃ G' vs, Lcl G2 H2 Dl G' H' vs ∧ DpAll X.K G' vs (kept i (fun _ => true) f)) ⟨G2, [], Lcl.start n2.gh hD, .nil⟩ (fun i H' hi ⟨G', vs, L, _⟩ => io.go i H' (L.g.trans L.gh) (by omega)) (fun H' ⟨G', vs, L, _⟩ => by have := io.stop H' (L.g.trans L.gh); rw [hlen] at this; exact this)
    (fun i H' y H'' hi ⟨G', vs, L, _⟩ yy => io.yld i H' y H'' (L.g.trans L.gh) yy) (fun i v H' hi hvi Pi => ⟨wipe1 σ j _, ?_⟩) fun H' ⟨G', vs, L, dv⟩ => ?_
  · obtain ⟨d, hd, dv⟩ := DpAll.getV hv hvi
    exact lc_turn (σ := σ) (j := j) (G := G2) (ifs := []) hi (by omega) (Evl.Ex.refl _) Pi (fun _ _ => trivial) (fun G1 H1 _ gh Q q => q G1 H1 (Nx.refl gh)) fun _ => he i v d G2 hd n2.g dv
  · rw [kept_all] at dv
    refine q Dl G' H' vs (Lcl.pre n2 L) ?_ dv
    rw [DpAll.len dv, List.length_map, List.length_range]; exact hn2
end
end DL

/-! L9: powers of a span, as the law reckons them. -/
namespace K01
open PySem PySem.Spec PyProof.Rows DL SX
open L2 hiding Dp DpAll
def lawP (a b : Rat) (n : Int) : Except Str D :=
  if n < 0 then (if a = 0 ∧ b = 0 then .error "Undefined" else if a.num ≤ 0 ∧ 0 ≤ b.num then .error "Unclear" else .ok (hull [(1 / a) ^ n.natAbs, (1 / b) ^ n.natAbs]))
  else .ok (hull ([a ^ n.natAbs, b ^ n.natAbs] ++ if n % 2 = 0 ∧ 0 < n ∧ a.num < 0 ∧ 0 < b.num then [0] else []))
theorem inv_divInt (a : Rat) : Rat.divInt (a.den : Int) a.num = 1 / a := by
  have := div_divInt 1 a
  rw [show (1 : Rat).num = 1 from rfl, show (1 : Rat).den = 1 from rfl, Int.one_mul] at this
  rw [show ((1 : Nat) : Int) * a.num = a.num from Int.one_mul _] at this
  exact this
theorem ref_eq (k : Nat) (h : k < 10) : PyData.str (S ([114, 101, 102, 117, 115, 101, 100, 32, 48 + k])) = .str (S (refT k)) := by
  unfold refT; rw [dig_lt h]; rfl
theorem sz_inv {m : Nat} {a : Rat} (h : a ≠ 0) (z : Sz m a) : Sz m (1 / a) := by
  rw [← inv_divInt]
  exact sz_divInt (fun q => h (Rat.num_eq_zero.mp q)) z.2 z.1
section
variable {P : Program} {w : World} {K : PySem.W.Frag} {mg : Str → Option Value} {base : Heap}
theorem ok__law_powers (T : Txt K mg) : PFn P w K mg base 5 "_law_powers" (fun ds d => ∃ (a b : Rat) (n : Int), ds = [sp2 a b, .int n] ∧ a ≤ b ∧ Sz 17 a ∧ Sz 17 b ∧ n.natAbs ≤ 8 ∧ d = outD (lawP a b n)) :=
  pfn_of T.h__law_powers sc__law_powers (fun ds d ⟨_, _, _, e, _⟩ => by rw [e]; rfl) fun cdv A outer s f H Q xk hr ds d G vs ⟨a, b, n, e, hab, za, zb, hn, ed⟩ g hv q => by
    subst e ed
    obtain ⟨u, t, rfl, hu, ht⟩ := all2 hv
    cases ht
    refine s_when (k := decide (n < 0)) (t_lt (e_var 1 (.int _)) e_int) g (fun h G1 H1 n1 => ?_) fun h G1 H1 n1 => ?_
    · have h := of_decide_eq_true h
      have hu := Dp.mono n1.g hu
      refine s_when (k := decide (a = 0 ∧ b = 0)) (t_is (t_eqD (da := sp2 a b) (db := sp2 0 0) (roomU hr) (e_var 0 hu) (e_tup (a_cons (e_tup (a_cons e_int (a_cons e_int a_nil))) (a_cons (e_tup (a_cons e_int (a_cons e_int a_nil))) a_nil))) rfl rfl) (eqv_sp a b 0 0)) n1.gh (fun h2 G2 H2 n2 => ?_) fun h2 G2 H2 n2 => ?_
      · have e1 : lawP a b n = .error "Undefined" := by unfold lawP; rw [if_pos h, if_pos (of_decide_eq_true h2)]
        rw [e1] at q
        exact s_ret (e_is (e_strC [114, 101, 102, 117, 115, 101, 100, 32, 52]) (ref_eq 4 (by decide))) n2.gh fun v G3 H3 n3 h3 => q v G3 H3 (n1.trans (n2.trans n3)) h3
      · have h2 := of_decide_eq_false h2
        have hu := Dp.mono n2.g hu
        refine s_when (k := decide (a.num ≤ 0) && decide (0 ≤ b.num)) (t_chain (f := fun i j => decide (i ≤ j)) (f' := fun i j => decide (i ≤ j)) op_le op_le (e_ixT (e_ixT (e_var 0 hu) e_int rfl) e_int rfl) e_int (e_ixT (e_ixT (e_var 0 hu) e_int rfl) e_int rfl) fun h1 h2 h3 => pt_chain op_le op_le h1 h2 h3) n2.gh (fun h3 G3 H3 n3 => ?_) fun h3 G3 H3 n3 => ?_
        · rw [Bool.and_eq_true, decide_eq_true_eq, decide_eq_true_eq] at h3
          have e1 : lawP a b n = .error "Unclear" := by unfold lawP; rw [if_pos h, if_neg h2, if_pos h3]
          rw [e1] at q
          exact s_ret (e_is (e_strC [114, 101, 102, 117, 115, 101, 100, 32, 53]) (ref_eq 5 (by decide))) n3.gh fun v G4 H4 n4 h4 => q v G4 H4 (n1.trans (n2.trans (n3.trans n4))) h4
        · have h3 : ¬ (a.num ≤ 0 ∧ 0 ≤ b.num) := fun z => by rw [Bool.and_eq_false_iff, decide_eq_false_iff_not, decide_eq_false_iff_not] at h3; rcases h3 with h | h; exact h z.1; exact h z.2
          have e1 : lawP a b n = .ok (hull [(1 / a) ^ n.natAbs, (1 / b) ^ n.natAbs]) := by unfold lawP; rw [if_pos h, if_neg h2, if_neg h3]
          rw [e1] at q
          have hu := Dp.mono n3.g hu
          obtain ⟨na, nb⟩ := span_ne hab h3
          have zp : ∀ c : Rat, c ≠ 0 → Sz 17 c → Sz 3000 ((1 / c) ^ n.natAbs) := fun c hc zc => lz_pow' (sz_inv hc zc) (by omega)
          have en : (0 : Int) - n = ((n.natAbs : Nat) : Int) := by omega
          refine s_setC 2 (d := .list [rd ((1 / a) ^ n.natAbs), rd ((1 / b) ^ n.natAbs)]) (ec_is (ec_lcO (scope := _) (x := "a") (j := 3) (n := 2) (tt := tYes) (c := fun _ => true) (f := fun i => rd ((1 / (if i = 0 then a else b)) ^ n.natAbs)) rfl sc__law_powers.nd (ov_tup (e_var 0 hu)) rfl (by decide) (blkOk_by (N := N__law_powers) (sc := defScope s__law_powers) (by decide +kernel)) (fun _ _ _ _ _ => pg_name (i := 3) sc__law_powers.nd rfl (Or.inl rfl)) (fun _ _ _ _ _ => pts_nil)
            (fun i v d G' hd gg hv G1 H1 _ gh Q q => q G1 H1 (Nx.refl gh)) fun i v d G' hd gg hv _ s H0 C cl fp => ?_) ?_) n3.gh (fun v2 G4 H4 n4 h4 => ?_)
          · obtain ⟨c, hc, zc, ed, ec⟩ : ∃ c : Rat, c ≠ 0 ∧ Sz 17 c ∧ d = rd c ∧ (if i = 0 then a else b) = c := by
              rcases two_ix rfl hd with ⟨rfl, rfl⟩ | ⟨rfl, rfl⟩
              · exact ⟨a, na, za, rfl, rfl⟩
              · exact ⟨b, nb, zb, rfl, rfl⟩
            subst ed
            rw [ec]
            exact e_call (ok__law_power T) (hr.mono (by decide)) (a_cons (e_is (e_call (ok__law_r T) (hr.mono (by decide)) (a_cons (e_ixT (e_var 3 hv) e_int rfl) (a_cons (e_ixT (e_var 3 hv) e_int rfl) a_nil)) ⟨(c.den : Int), c.num, rfl, fun q => hc (Rat.num_eq_zero.mp q), lt_pow (natI zc.2) (by decide), lt_pow zc.1 (by decide), rfl⟩) (by rw [inv_divInt])) (a_cons (e_is (e_sub e_int (e_var 1 (.int _))) (by rw [en])) a_nil)) ⟨1 / c, n.natAbs, 17, rfl, by decide, sz_inv hc zc, by omega, by decide, rfl⟩
          · rw [kept_all]; rfl
          · exact s_ret (e_call (ok__law_hull T) (hr.mono (by decide)) (a_cons (e_var 2 h4) a_nil) ⟨(1 / a) ^ n.natAbs, [(1 / b) ^ n.natAbs], rfl, fun q hq => by
              simp at hq
              rcases hq with rfl | rfl
              · exact zp a na za
              · exact zp b nb zb, rfl⟩) n4.gh fun v G5 H5 n5 h5 => q v G5 H5 (n1.trans (n2.trans (n3.trans (n4.trans n5)))) h5
    · have h := of_decide_eq_false h
      have hu := Dp.mono n1.g hu
      obtain ⟨N, rfl⟩ : ∃ N : Nat, n = (N : Int) := ⟨n.toNat, by omega⟩
      have hN : N ≤ 8 := by omega
      have zp : ∀ c : Rat, Sz 17 c → Sz 3000 (c ^ N) := fun c zc => lz_pow' zc (by omega)
      refine s_setLO 2 (n := 2) (f := fun i => rd ((if i = 0 then a else b) ^ N)) rfl sc__law_powers.nd (ov_tup (e_var 0 hu)) rfl (by decide) (blkOk_by (N := N__law_powers) (sc := defScope s__law_powers) (by decide +kernel)) (fun _ _ _ _ _ => pg_name (i := 3) sc__law_powers.nd rfl (Or.inl rfl)) (fun i v d G' hd gg hv s H0 C cl fp => ?_) n1.gh fun l G2 H2 vs L hz dv => ?_
      · obtain ⟨c, zc, ed, ec⟩ : ∃ c : Rat, Sz 17 c ∧ d = rd c ∧ (if i = 0 then a else b) = c := by
          rcases two_ix rfl hd with ⟨rfl, rfl⟩ | ⟨rfl, rfl⟩
          · exact ⟨a, za, rfl, rfl⟩
          · exact ⟨b, zb, rfl, rfl⟩
        subst ed
        rw [ec]
        exact e_call (ok__law_power T) (hr.mono (by decide)) (a_cons (e_var 3 hv) (a_cons (e_var 1 (.int _)) a_nil)) ⟨c, N, 17, rfl, by decide, zc, by omega, by decide, rfl⟩
      · have e1 : lawP a b (N : Int) = .ok (hull ([a ^ N, b ^ N] ++ if (N : Int) % 2 = 0 ∧ (0 : Int) < N ∧ a.num < 0 ∧ 0 < b.num then [0] else [])) := by unfold lawP; rw [if_neg h, Int.natAbs_natCast]
        rw [e1] at q
        have hu2 := Dp.mono L.g hu
        have dv : DpAll K G2 vs [rd (a ^ N), rd (b ^ N)] := dv
        have fin : ∀ (G5 H5 : Hp) (vs5 : List V) (l5 : List Rat), Lcl G1 H1 l G5 H5 vs5 → DpAll K G5 vs5 ((a ^ N :: l5).map rd) → (∀ r ∈ a ^ N :: l5, Sz 3000 r) → [a ^ N, b ^ N] ++ (if (N : Int) % 2 = 0 ∧ (0 : Int) < N ∧ a.num < 0 ∧ 0 < b.num then [0] else []) = a ^ N :: l5 →
            wB (cxOf CX0 P w K mg base N__law_powers "_law_powers" (defScope s__law_powers) f cdv A outer s H xk).nox (defBody s__law_powers |>.drop 3) { nx := fun _ H' => Q .non H', rt := Q } [some u, some (.int N), some (.ref l), Option.none] H5 := fun G5 H5 vs5 l5 L5 d5 z5 e5 => by
          have n5 := L5.done
          rw [e5] at q
          exact s_ret (e_call (ok__law_hull T) (hr.mono (by decide)) (a_cons (e_var 2 (d := .list ((a ^ N :: l5).map rd)) (.lst (Evl.sq_of upd_same) (DpAll.mono (Evl.Ex.new L5.gl) d5))) a_nil) ⟨a ^ N, l5, rfl, z5, rfl⟩) n5.gh fun v G6 H6 n6 h6 => q v G6 H6 (n1.trans (n5.trans n6)) h6
        refine s_when (k := decide ((N : Int) % 2 = 0 ∧ (0 : Int) < N ∧ a.num < 0 ∧ 0 < b.num)) (t_is (t_of (tw_and (t_eqI (e_mod (e_intI T.b_int (e_var 1 (.int _))) e_int (by decide)) e_int) fun _ => tw_and (t_gt (e_var 1 (.int _)) e_int) fun _ => tw_and1 (t_chain (f := fun i j => decide (i < j)) (f' := fun i j => decide (i < j)) op_lt op_lt (e_ixT (e_ixT (e_var 0 hu2) e_int rfl) e_int rfl) e_int (e_ixT (e_ixT (e_var 0 hu2) e_int rfl) e_int rfl) fun h1 h2 h3 => pt_chain op_lt op_lt h1 h2 h3))) (by simp [Bool.decide_and])) L.gh (fun h3 G3 H3 n3 => ?_) fun h3 G3 H3 n3 => ?_
        · have h3 := of_decide_eq_true h3
          obtain ⟨v1, v2, ev, hv1, hv2⟩ := all2 dv
          subst ev
          refine s_app 2 (L.step n3) rfl (d := rd 0) (e_tup (a_cons e_int (a_cons e_int a_nil))) (by simp) fun v4 G4 H4 g4 L4 h4 => s_nil (fin G4 H4 _ [b ^ N, 0] L4 ?_ ?_ ?_)
          · exact .cons (Dp.mono g4 (Dp.mono n3.g hv1)) (.cons (Dp.mono g4 (Dp.mono n3.g hv2)) (.cons h4 .nil))
          · intro r hr
            simp at hr
            rcases hr with rfl | rfl | rfl
            · exact zp a za
            · exact zp b zb
            · exact sz_0 (by decide)
          · rw [if_pos h3]; rfl
        · have h3 := of_decide_eq_false h3
          refine fin G3 H3 _ [b ^ N] (L.step n3) (DpAll.mono n3.g dv) ?_ ?_
          · intro r hr
            simp at hr
            rcases hr with rfl | rfl
            · exact zp a za
            · exact zp b zb
          · rw [if_neg h3]; rfl
end
end K01

/-! PL2: the plain law of spans. -/
namespace K01
open PySem PySem.Spec PyProof.Rows DL SX
open L2 hiding Dp DpAll
theorem num_neg {a : Rat} : a.num < 0 ↔ a < 0 := by
  rw [← Rat.not_le, ← num_ge0]; omega
theorem num_pos {a : Rat} : 0 < a.num ↔ 0 < a := by
  rw [← Rat.not_le, ← num_le0]; omega
theorem inv_pow (a : Rat) (h : a ≠ 0) : ∀ n : Nat, (1 / a) ^ n = 1 / a ^ n
  | 0 => by rw [Rat.pow_zero, Rat.pow_zero]; decide +kernel
  | n + 1 => by
    have h2 := pow_ne h n
    rw [Rat.pow_succ, Rat.pow_succ, inv_pow a h n]
    grind
theorem zero_pow' {m : Nat} (h : m ≠ 0) : (0 : Rat) ^ m = 0 := by
  cases m with
  | zero => exact absurd rfl h
  | succ m => rw [Rat.pow_succ, Rat.mul_zero]
theorem pos_prod {a b : Rat} (hab : a ≤ b) : 0 < a.num * b.num ↔ (0 < a ∨ b < 0) := by
  constructor
  · intro h
    rcases Int.lt_trichotomy a.num 0 with z | z | z
    · right
      rw [← num_neg]
      refine Int.not_le.mp fun y => ?_
      have := Int.mul_nonpos_of_nonpos_of_nonneg (Int.le_of_lt z) y
      omega
    · rw [z, Int.zero_mul] at h; omega
    · exact .inl (num_pos.mp z)
  · rintro (h | h)
    · exact Int.mul_pos (num_pos.mpr h) (num_pos.mpr (by grind))
    · exact Int.mul_pos_of_neg_of_neg (num_neg.mpr (by grind)) (num_neg.mpr h)
theorem lawP_eq {a b : Rat} {n : Int} (hab : a ≤ b) (h1 : -4 ≤ n) (h2 : n ≤ 4) : lawP a b n = q_pow a b n := by
  unfold lawP q_pow
  by_cases hn : n < 0
  · rw [if_pos hn, if_pos hn]
    have hm4 : n.natAbs ≤ 4 := by omega
    have hm0 : 0 < n.natAbs := by omega
    generalize n.natAbs = m at hm4 hm0
    by_cases hp : 0 < a.num * b.num
    · rw [if_pos hp]
      have hs := (pos_prod hab).mp hp
      have ha : a ≠ 0 := by rcases hs with z | z <;> grind
      have hb : b ≠ 0 := by rcases hs with z | z <;> grind
      have h3 : ¬ (a = 0 ∧ b = 0) := fun z => ha z.1
      have h4 : ¬ (a.num ≤ 0 ∧ 0 ≤ b.num) := fun z => by
        rw [num_le0, num_ge0] at z
        rcases hs with y | y <;> grind
      rw [if_neg h3, if_neg h4]
      have hi := inv_le hab hs
      have p1 := pow_ne ha m
      have p2 := pow_ne hb m
      -- the powers' signs
      have hq : ∀ x y : Rat, x ≠ 0 → y ≠ 0 → x ≤ y → (0 < x ∨ y < 0) → q_inv x y = .ok (sp2 (1 / y) (1 / x)) := fun x y hx hy hxy hs => by
        unfold q_inv
        rw [if_neg (fun z => hx z.1), if_neg]
        intro z
        rw [num_le0, num_ge0] at z
        rcases hs with y | y <;> grind
      unfold p0
      rw [if_neg (by omega : ¬ m = 0)]
      by_cases ho : m % 2 = 1 ∨ 0 ≤ a.num
      · rw [if_pos ho]
        have ho' : m % 2 = 1 ∨ 0 ≤ a := ho.imp id num_ge0.mp
        have hle := pow_mono hm4 hab ho'
        have hsg : 0 < a ^ m ∨ b ^ m < 0 := by
          rcases hs with z | z
          · left
            have := pow_mono hm4 (show (0 : Rat) ≤ a from Rat.le_of_lt z) (.inr Rat.le_refl)
            rw [zero_pow' (by omega)] at this
            grind
          · right
            rcases ho' with y | y
            · have := pow_mono hm4 (show b ≤ 0 from Rat.le_of_lt z) (.inl y)
              rw [zero_pow' (by omega)] at this
              grind
            · grind
        show _ = q_inv (a ^ m) (b ^ m)
        rw [hq _ _ p1 p2 hle hsg, inv_pow a ha, inv_pow b hb, hull2' (inv_le hle hsg)]
      · rw [if_neg ho]
        have ho2 : m % 2 = 0 := by omega
        have hneg : b < 0 := by
          rcases hs with z | z
          · exact absurd (.inr (num_ge0.mpr (Rat.le_of_lt z))) ho
          · exact z
        rw [if_pos (num_le0.mpr (Rat.le_of_lt hneg))]
        have hle := pow_anti hm4 hab ho2 (Rat.le_of_lt hneg)
        have hsg : 0 < b ^ m ∨ a ^ m < 0 := .inl (by have := pow_even (a := b) hm4 ho2; grind)
        show _ = q_inv (b ^ m) (a ^ m)
        rw [hq _ _ p2 p1 hle hsg, inv_pow a ha, inv_pow b hb, hull2 (inv_le hle hsg)]
    · rw [if_neg hp]
      unfold q_inv
      by_cases h3 : a = 0 ∧ b = 0
      · rw [if_pos h3, if_pos h3]
      · rw [if_neg h3, if_neg h3]
        have h4 : a.num ≤ 0 ∧ 0 ≤ b.num := by
          rw [pos_prod hab] at hp
          rw [num_le0, num_ge0]
          constructor <;> grind
        rw [if_pos h4, if_pos h4]
  · rw [if_neg hn, if_neg hn]
    congr 1
    have hm4 : n.natAbs ≤ 4 := by omega
    have e2 : (n % 2 = 0 ∧ 0 < n ∧ a.num < 0 ∧ 0 < b.num) ↔ (n.natAbs % 2 = 0 ∧ 0 < n.natAbs ∧ a < 0 ∧ 0 < b) := by
      rw [num_neg, num_pos, show (n % 2 = 0 ↔ n.natAbs % 2 = 0) by omega, show (0 < n ↔ 0 < n.natAbs) by omega]
    generalize n.natAbs = m at hm4 e2
    unfold p0
    by_cases h0 : m = 0
    · subst h0
      rw [if_pos rfl, if_neg (fun z => by have := e2.mp z; omega), Rat.pow_zero, Rat.pow_zero]
      exact hull2 Rat.le_refl
    · rw [if_neg h0]
      by_cases ho : m % 2 = 1 ∨ 0 ≤ a.num
      · rw [if_pos ho, if_neg (fun z => by have := e2.mp z; rw [num_ge0] at ho; rcases ho with y | y <;> grind)]
        exact hull2 (pow_mono hm4 hab (ho.imp id num_ge0.mp))
      · rw [if_neg ho]
        have ho2 : m % 2 = 0 := by omega
        have ha : a < 0 := by
          refine Rat.not_le.mp fun z => ho (.inr (num_ge0.mpr z))
        by_cases hb : b.num ≤ 0
        · rw [if_pos hb, if_neg (fun z => by have := (e2.mp z).2.2.2; rw [num_le0] at hb; grind)]
          exact hull2' (pow_anti hm4 hab ho2 (num_le0.mp hb))
        · rw [if_neg hb]
          have hb : 0 < b := Rat.not_le.mp fun z => hb (num_le0.mpr z)
          rw [if_pos (e2.mpr ⟨ho2, by omega, ha, hb⟩)]
          have pa := pow_even (a := a) hm4 ho2
          have pb := pow_even (a := b) hm4 ho2
          obtain ⟨g1, g2, g3⟩ := gr_or (a ^ m) (b ^ m)
          refine hull_eq (x := 0) (y := gr (a ^ m) (b ^ m)) (by simp) ?_ fun q hq => ?_
          · rcases g1 with e | e <;> (rw [e]; simp)
          · simp at hq
            rcases hq with rfl | rfl | rfl
            · exact ⟨pa, g2⟩
            · exact ⟨pb, g3⟩
            · exact ⟨Rat.le_refl, by grind⟩
end K01

/-! PL3: the plain law of spans, further. -/
namespace K01
open PySem PySem.Spec PyProof.Rows DL SX
open L2 hiding Dp DpAll
theorem ab_nn {a : Rat} (h : 0 ≤ a) : ab a = a := by unfold ab; rw [if_neg]; rw [num_neg]; grind
theorem ab_np {a : Rat} (h : a ≤ 0) : ab a = -a := by
  unfold ab
  split
  · rfl
  · rename_i z
    rw [num_neg] at z
    have : a = 0 := by grind
    subst this; decide +kernel
theorem gr_self (a : Rat) : gr a a = a := by unfold gr; split <;> rfl
theorem hi2 (a b : Rat) : hiL [a, b] = gr a b := by
  show gr (gr a a) b = _
  rw [gr_self]
def szs (a b : Rat) : List Rat := [ab a, ab b] ++ if a.num < 0 ∧ 0 < b.num then [0] else []
theorem szs_mix {a b : Rat} (h1 : a < 0) (h2 : 0 < b) : szs a b = [-a, b, 0] := by
  unfold szs; rw [if_pos ⟨num_neg.mpr h1, num_pos.mpr h2⟩, ab_np (Rat.le_of_lt h1), ab_nn (Rat.le_of_lt h2)]; rfl
theorem szs_pos {a b : Rat} (h1 : 0 ≤ a) (h : a ≤ b) : szs a b = [a, b] := by
  unfold szs; rw [if_neg (fun z => by have := num_neg.mp z.1; grind), ab_nn h1, ab_nn (Rat.le_trans h1 h)]; rfl
theorem szs_neg {a b : Rat} (h1 : b ≤ 0) (h : a ≤ b) : szs a b = [-a, -b] := by
  unfold szs; rw [if_neg (fun z => by have := num_pos.mp z.2; grind), ab_np h1, ab_np (Rat.le_trans h h1)]; rfl
theorem size_eq {a b : Rat} (h : a ≤ b) : rd (hiL (szs a b)) = q_size a b := by
  unfold q_size
  congr 1
  by_cases h1 : 0 ≤ a
  · rw [szs_pos h1 h, ab_nn h1, ab_nn (Rat.le_trans h1 h), hi2]
  · by_cases h2 : b ≤ 0
    · rw [szs_neg h2 h, ab_np h2, ab_np (Rat.le_trans h h2), hi2]
    · have h1 := Rat.not_le.mp h1
      have h2 := Rat.not_le.mp h2
      rw [szs_mix h1 h2, ab_np (Rat.le_of_lt h1), ab_nn (Rat.le_of_lt h2)]
      obtain ⟨g1, g2, g3⟩ := gr_or (-a) b
      refine hi_eq ?_ fun q hq => ?_
      · rcases g1 with e | e <;> (rw [e]; simp)
      · simp at hq
        rcases hq with rfl | rfl | rfl <;> grind
theorem sized_eq {a b : Rat} (h : a ≤ b) : hull (szs a b) = q_sized a b := by
  unfold q_sized
  by_cases h1 : 0 ≤ a
  · rw [szs_pos h1 h, if_pos (num_ge0.mpr h1)]; exact hull2 h
  · rw [if_neg (fun z => h1 (num_ge0.mp z))]
    by_cases h2 : b ≤ 0
    · rw [szs_neg h2 h, if_pos (num_le0.mpr h2)]; exact hull2' (by grind)
    · rw [if_neg (fun z => h2 (num_le0.mp z))]
      have h1 := Rat.not_le.mp h1
      have h2 := Rat.not_le.mp h2
      rw [szs_mix h1 h2]
      obtain ⟨g1, g2, g3⟩ := gr_or (-a) b
      refine hull_eq (by simp) ?_ fun q hq => ?_
      · rcases g1 with e | e <;> (rw [e]; simp)
      · simp at hq
        rcases hq with rfl | rfl | rfl <;> constructor <;> grind
theorem turn_eq (a b : Rat) : sp2 (-1 * b) (-1 * a) = q_turn a b := by
  unfold q_turn
  rw [show -1 * b = -b by grind, show -1 * a = -a by grind]
def lawQ (a b x y : Rat) : Except Str D := if 0 < x.num ∨ y.num < 0 then .ok (hull [a / x, a / y, b / x, b / y]) else if x = 0 ∧ y = 0 then .error "Undefined" else .error "Unclear"
theorem lawQ_eq {a b x y : Rat} (hab : a ≤ b) (hxy : x ≤ y) : lawQ a b x y = q_part a b x y := by
  unfold lawQ q_part
  by_cases h : 0 < x.num ∨ y.num < 0
  · rw [if_pos h]
    rw [num_pos, num_neg] at h
    have hx : x ≠ 0 := by rcases h with z | z <;> grind
    have hy : y ≠ 0 := by rcases h with z | z <;> grind
    rw [if_neg (fun z => hx z.1), if_neg (fun z => by rw [num_le0, num_ge0] at z; rcases h with y | y <;> grind)]
    congr 1
    unfold q_prod
    rw [show a * (1 / y) = a / y by grind, show a * (1 / x) = a / x by grind, show b * (1 / y) = b / y by grind, show b * (1 / x) = b / x by grind]
    have hi := inv_le hxy h
    by_cases h2 : 0 ≤ a.num ∧ 0 ≤ (1 / y).num
    · rw [if_pos h2]
      rw [num_ge0, num_ge0] at h2
      have m : ∀ c d e f : Rat, 0 ≤ c → c ≤ d → 0 ≤ 1 / e → 1 / e ≤ 1 / f → c / e ≤ d / f := fun c d e f h1 h2 h3 h4 => by
        rw [show c / e = c * (1 / e) by grind, show d / f = d * (1 / f) by grind]
        exact mul_le h1 h2 h3 h4
      have hx0 : 0 ≤ 1 / x := Rat.le_trans h2.2 hi
      refine hull_eq (by simp) (by simp) fun q hq => ?_
      simp at hq
      rcases hq with rfl | rfl | rfl | rfl
      · exact ⟨m _ _ _ _ h2.1 Rat.le_refl h2.2 hi, m _ _ _ _ h2.1 hab hx0 Rat.le_refl⟩
      · exact ⟨Rat.le_refl, m _ _ _ _ h2.1 hab h2.2 hi⟩
      · exact ⟨m _ _ _ _ h2.1 hab h2.2 hi, Rat.le_refl⟩
      · exact ⟨m _ _ _ _ h2.1 hab h2.2 Rat.le_refl, m _ _ _ _ (Rat.le_trans h2.1 hab) Rat.le_refl h2.2 hi⟩
    · rw [if_neg h2]
      refine hull_same (by simp) (fun q hq => ?_) fun q hq => ?_ <;> (simp at hq ⊢; rcases hq with e | e | e | e <;> simp [e])
  · rw [if_neg h]
    by_cases h2 : x = 0 ∧ y = 0
    · rw [if_pos h2, if_pos h2]
    · rw [num_pos, num_neg] at h
      rw [if_neg h2, if_neg h2, if_pos (by rw [num_le0, num_ge0]; constructor <;> grind)]
theorem great_eq (a x : Rat) : (if x < a then a else x) = gr a x := by unfold gr; split <;> split <;> grind
theorem around_eq {a b x y : Rat} (hab : a ≤ b) (hxy : x ≤ y) : hull [a, b, x, y] = q_around a b x y := by
  obtain ⟨l1, l2, l3⟩ := ls_or a x
  obtain ⟨g1, g2, g3⟩ := gr_or b y
  refine hull_eq ?_ ?_ fun q hq => ?_
  · rcases l1 with e | e <;> (rw [e]; simp)
  · rcases g1 with e | e <;> (rw [e]; simp)
  · simp at hq
    rcases hq with rfl | rfl | rfl | rfl <;> constructor <;> grind
theorem round_eq (a b : Rat) (k : Nat) : sp2 (Rat.divInt (a.num * 2 ^ k / a.den) (2 ^ k)) (Rat.divInt (0 - ((0 - b.num * 2 ^ k) / b.den)) (2 ^ k)) = q_round a b k := by
  unfold q_round dn upq
  rw [Int.zero_sub, Int.zero_sub, Int.neg_mul]
theorem within_eq {a b x y : Rat} (hab : a ≤ b) : ((!decide (a < x) && !decide (y < a)) && (!decide (b < x) && !decide (y < b))) = (!decide (a < x) && !decide (y < b)) := by
  by_cases h1 : a < x
  · simp [h1]
  · by_cases h2 : y < b
    · simp [h2]
    · have h3 : ¬ y < a := by grind
      have h4 : ¬ b < x := by grind
      simp [h1, h2, h3, h4]
/-- a drawn number's power -/
theorem pow_in {a b p : Rat} {n : Nat} (hn : n ≤ 4) (h1 : a ≤ p) (h2 : p ≤ b) : (p0 a b n).1 ≤ p ^ n ∧ p ^ n ≤ (p0 a b n).2 := by
  unfold p0
  by_cases h0 : n = 0
  · subst h0; rw [if_pos rfl, Rat.pow_zero]; exact ⟨Rat.le_refl, Rat.le_refl⟩
  · rw [if_neg h0]
    by_cases ho : n % 2 = 1 ∨ 0 ≤ a.num
    · rw [if_pos ho]
      rw [num_ge0] at ho
      exact ⟨pow_mono hn h1 ho, pow_mono hn h2 (ho.imp id fun z => Rat.le_trans z h1)⟩
    · rw [if_neg ho]
      have ho2 : n % 2 = 0 := by omega
      by_cases hb : b.num ≤ 0
      · rw [if_pos hb]
        rw [num_le0] at hb
        exact ⟨pow_anti hn h2 ho2 hb, pow_anti hn h1 ho2 (Rat.le_trans h2 hb)⟩
      · rw [if_neg hb]
        refine ⟨pow_even hn ho2, ?_⟩
        obtain ⟨g1, g2, g3⟩ := gr_or (a ^ n) (b ^ n)
        show p ^ n ≤ gr (a ^ n) (b ^ n)
        by_cases hp : 0 ≤ p
        · exact Rat.le_trans (pow_mono hn h2 (.inr hp)) g3
        · exact Rat.le_trans (pow_anti hn h1 ho2 (Rat.le_of_lt (Rat.not_le.mp hp))) g2
end K01

/-! L10: what is told of one span. -/
namespace K01
open PySem PySem.Spec PyProof.Rows DL SX
open L2 hiding Dp DpAll
theorem okErr_ok (d : D) : okErr (.ok d) := fun n e => nomatch e
theorem okErr_NR : okErr NR := fun n e => .inl (Except.error.inj e).symm
theorem rt1 (g : Rat → Rat → D) {a b : Rat} (h : a ≤ b) (za : Sz 1000 a) (zb : Sz 1000 b) : RX1 g [sp2 a b] (.ok (g a b)) := ⟨_, rfl, SpZ.sp za zb, by rw [isSpan_sp h, if_pos rfl, loS_sp, hiS_sp]⟩
theorem rt2 (g : Rat → Rat → Rat → Rat → Except Str D) {a b x y : Rat} (h : a ≤ b) (h' : x ≤ y) (za : Sz 1000 a) (zb : Sz 1000 b) (zx : Sz 1000 x) (zy : Sz 1000 y) : RX2 g [sp2 a b, sp2 x y] (g a b x y) := ⟨_, _, rfl, SpZ.sp za zb, SpZ.sp zx zy, by rw [isSpan_sp h, isSpan_sp h', Bool.and_self, if_pos rfl, loS_sp, hiS_sp, loS_sp, hiS_sp]⟩
theorem rtr (g : Rat → Rat → Rat → D) {a b c : Rat} (h : a ≤ b) (za : Sz 1000 a) (zb : Sz 1000 b) (zc : Sz 1000 c) : RXr g [sp2 a b, rd c] (.ok (g a b c)) := ⟨_, _, rfl, SpZ.sp za zb, SzD.rd zc, by rw [isSpan_sp h, isRatio_rd, Bool.and_self, if_pos rfl, loS_sp, hiS_sp, qOf_rd]⟩
theorem told1 {i : Nat} {a d : D} (hi : i < 11) (h : RT i [a] (.ok d)) : R_told [.int (i : Nat), .tuple [a]] d := .inl ⟨i, a, .ok d, hi, rfl, h, okErr_ok d, rfl⟩
theorem told2 {i : Nat} {a b : D} {r : Except Str D} (hi : 11 ≤ i) (hi2 : i < 28) (h : RT i [a, b] r) (he : okErr r) : R_told [.int (i : Nat), .tuple [a, b]] (outD r) := .inr ⟨i, a, b, r, hi, hi2, rfl, h, he, rfl⟩
def dueA (a b : Rat) : List D := [q_width a b, q_middle a b, q_size a b, q_turn a b, q_sized a b, q_halves a b, q_sign a b]
theorem fl_rd {n : Nat} (q : Rat) : Fl (n + 1) (rd q) := .tup n _ (by simp) fun x hx => by
  simp at hx
  rcases hx with rfl | rfl <;> exact .sc _ _ rfl
theorem fl_sp {n : Nat} (a b : Rat) : Fl (n + 2) (sp2 a b) := .tup (n + 1) _ (by simp) fun x hx => by
  simp at hx
  rcases hx with rfl | rfl <;> exact fl_rd _
theorem fl_sized {n : Nat} (a b : Rat) : Fl (n + 2) (q_sized a b) := by
  unfold q_sized
  split
  · exact fl_sp a b
  · split <;> exact fl_sp _ _
theorem fl_sign {n : Nat} (a b : Rat) : Fl n (q_sign a b) := by
  unfold q_sign
  split
  · exact .sc _ _ rfl
  · split
    · exact .sc _ _ rfl
    · split <;> exact .sc _ _ rfl
theorem fl_dueA (a b : Rat) : Fl 4 (.list (dueA a b)) := .lst 3 _ (by simp [dueA]) fun x hx => by
  simp [dueA] at hx
  rcases hx with rfl | rfl | rfl | rfl | rfl | rfl | rfl
  · exact fl_rd _
  · exact fl_rd _
  · exact fl_rd _
  · exact fl_sp _ _
  · exact fl_sized a b
  · exact .tup 2 _ (by simp) fun x hx => by
      simp at hx
      rcases hx with rfl | rfl <;> exact fl_sp _ _
  · exact fl_sign a b
theorem szs_cons (a b : Rat) : szs a b = ab a :: ([ab b] ++ (if a.num < 0 ∧ 0 < b.num then [0] else [])) := rfl
theorem szs_sz {a b : Rat} (za : Sz 17 a) (zb : Sz 17 b) : ∀ q ∈ szs a b, Sz 3000 q := fun q hq => by
  unfold szs at hq
  rcases List.mem_append.mp hq with h | h
  · simp at h
    rcases h with rfl | rfl
    · exact (Sz.ab za).mono (by decide)
    · exact (Sz.ab zb).mono (by decide)
  · split at h
    · simp at h; subst h; exact sz_0 (by decide)
    · cases h
theorem rtA {a b : Rat} (h : a ≤ b) (za : Sz 17 a) (zb : Sz 17 b) : ∀ i, i < 7 → R_told [.int (i : Nat), .tuple [sp2 a b]] ((dueA a b).getD i .none) := fun i hi => by
  have za := za.mono (show 17 ≤ 1000 by decide)
  have zb := zb.mono (show 17 ≤ 1000 by decide)
  rcases (show i = 0 ∨ i = 1 ∨ i = 2 ∨ i = 3 ∨ i = 4 ∨ i = 5 ∨ i = 6 by omega) with e | e | e | e | e | e | e <;> subst e
  · exact told1 (by decide) (rt1 q_width h za zb)
  · exact told1 (by decide) (rt1 q_middle h za zb)
  · exact told1 (by decide) (rt1 q_size h za zb)
  · exact told1 (by decide) (rt1 q_turn h za zb)
  · exact told1 (by decide) (rt1 q_sized h za zb)
  · exact told1 (by decide) (rt1 q_halves h za zb)
  · exact told1 (by decide) (rt1 q_sign h za zb)
theorem range_getD (xs : List D) {n : Nat} (h : xs.length = n) : (List.range n).map (fun i => xs.getD i .none) = xs := by rw [← kept_all]; exact kept_getD xs h
section
variable {P : Program} {w : World} {K : PySem.W.Frag} {mg : Str → Option Value} {base : Heap}

theorem seg_one (T : Txt K mg) (T2 : Txt2 K mg) {f : Addr} {cdv : Value} {A : Around} {outer : List Env} {s : Shared} {H0 : Hp} {xk : XK} (hr : Room 9 (A.deeper (envOfC "_law_are_spans_due" (defScope s__law_are_spans_due) s.heap.objs.size f cdv)))
    {G H : Hp} {a b : Rat} {ud us ut ua un uk : V} (g : Ex G H) (hs : Dp K G us (sp2 a b)) (hab : a ≤ b) (za : Sz 17 a) (zb : Sz 17 b) {Z : Ends}
    (q : ∀ (o6 o7 o8 o9 o10 : Option V) G' H', Nx G H G' H' → wB (cxOf CX0 P w K mg base N__law_are_spans_due "_law_are_spans_due" (defScope s__law_are_spans_due) f cdv A outer s H0 xk).nox (defBody s__law_are_spans_due |>.drop 7) Z
      [some ud, some us, some ut, some ua, some un, some uk, o6, o7, o8, o9, o10, Option.none, Option.none, Option.none, Option.none, Option.none, Option.none, Option.none, Option.none, Option.none, Option.none, Option.none, Option.none, Option.none, Option.none] H') :
    wB (cxOf CX0 P w K mg base N__law_are_spans_due "_law_are_spans_due" (defScope s__law_are_spans_due) f cdv A outer s H0 xk).nox (defBody s__law_are_spans_due |>.drop 1) Z
      [some ud, some us, some ut, some ua, some un, some uk, Option.none, Option.none, Option.none, Option.none, Option.none, Option.none, Option.none, Option.none, Option.none, Option.none, Option.none, Option.none, Option.none, Option.none, Option.none, Option.none, Option.none, Option.none, Option.none] H := by
  have zs : Sz 36 (a + b) := sz_add za zb (by decide)
  refine s_set 6 (d := rd (mid a b)) (e_call (ok__law_mul T) (hr.mono (by decide)) (a_cons (e_call (ok__law_add T) (hr.mono (by decide)) (a_cons (e_ixT (e_var 1 hs) e_int rfl) (a_cons (e_ixT (e_var 1 hs) e_int rfl) a_nil)) ⟨a, b, rfl, za.mono (by decide), zb.mono (by decide), rfl⟩) (a_cons (e_is (e_tup (a_cons e_int (a_cons e_int a_nil))) half_rd) a_nil)) ⟨a + b, half, rfl, zs.mono (by decide), sz_half (by decide), rfl⟩) g sc__law_are_spans_due.nd fun v6 G1 H1 n1 h6 => ?_
  have hs := Dp.mono n1.g hs
  refine s_setC 7 (d := .list [rd (ab a), rd (ab b)]) (ec_is (ec_lcO (scope := _) (x := "end") (j := 22) (n := 2) (tt := tYes) (c := fun _ => true) (f := fun i => rd (ab (if i = 0 then a else b))) rfl sc__law_are_spans_due.nd (ov_tup (e_var 1 hs)) rfl (by decide) (blkOk_by (N := N__law_are_spans_due) (sc := defScope s__law_are_spans_due) (by decide +kernel)) (fun _ _ _ _ _ => pg_name (i := 22) sc__law_are_spans_due.nd rfl (Or.inl rfl)) (fun _ _ _ _ _ => pts_nil)
    (fun i v d G' hd gg hv G1 H1 _ gh Q q => q G1 H1 (Nx.refl gh)) fun i v d G' hd gg hv _ s H0 C cl fp => ?_) ?_) n1.gh (fun v7 G2 H2 n2 h7 => ?_)
  · obtain ⟨c, ed, ec⟩ : ∃ c : Rat, d = rd c ∧ (if i = 0 then a else b) = c := by
      rcases two_ix rfl hd with ⟨rfl, rfl⟩ | ⟨rfl, rfl⟩
      · exact ⟨a, rfl, rfl⟩
      · exact ⟨b, rfl, rfl⟩
    subst ed
    rw [ec]
    exact e_is (e_tup (a_cons (e_abs T.b_abs (e_ixT (e_var 22 hv) e_int rfl)) (a_cons (e_ixT (e_var 22 hv) e_int rfl) a_nil))) (rd_ab c)
  · rw [kept_all]; rfl
  have hs := Dp.mono n2.g hs
  have h6 := Dp.mono n2.g h6
  refine s_set 8 (d := q_sized a b) (e_is (e_call (ok__law_hull T) (hr.mono (by decide)) (a_cons (e_catL (e_var 7 h7) (e_repL (a_cons (e_tup (a_cons e_int (a_cons e_int a_nil))) a_nil) (e_intB T.b_int (e_chain (f := fun i j => decide (i < j)) (f' := fun i j => decide (i < j)) op_lt op_lt (e_ixT (e_ixT (e_var 1 hs) e_int rfl) e_int rfl) e_int (e_ixT (e_ixT (e_var 1 hs) e_int rfl) e_int rfl) fun h1 h2 h3 => pe_chain op_lt op_lt h1 h2 h3)) ?_ ?_ ?_) ?_) a_nil) ⟨ab a, [ab b] ++ (if a.num < 0 ∧ 0 < b.num then [0] else []), ?_, fun q hq => szs_sz za zb q (by rw [szs_cons]; exact hq), rfl⟩) (by rw [← szs_cons]; exact sized_eq hab)) n2.gh sc__law_are_spans_due.nd fun v8 G3 H3 n3 h8 => ?_
  · split <;> decide
  · split <;> decide
  · simp
  · split <;> simp
  · by_cases h1 : a.num < 0 <;> by_cases h2 : 0 < b.num <;> simp [h1, h2] <;> rfl
  have hs := Dp.mono n3.g hs
  have h6 := Dp.mono n3.g h6
  refine s_set 9 (d := q_sign a b) (e_if (k := decide (0 < a.num)) (t_gt (e_ixT (e_ixT (e_var 1 hs) e_int rfl) e_int rfl) e_int) (fun h => e_is e_int (by unfold q_sign; rw [if_pos (of_decide_eq_true h)])) fun h => e_if (k := decide (b.num < 0)) (t_lt (e_ixT (e_ixT (e_var 1 hs) e_int rfl) e_int rfl) e_int) (fun h2 => e_is (e_neg e_int) (by unfold q_sign; rw [if_neg (of_decide_eq_false h), if_pos (of_decide_eq_true h2)])) fun h2 =>
    e_if (k := decide (a = 0 ∧ b = 0)) (t_is (t_eqD (da := sp2 a b) (db := sp2 0 0) (roomU hr) (e_var 1 hs) (e_tup (a_cons (e_tup (a_cons e_int (a_cons e_int a_nil))) (a_cons (e_tup (a_cons e_int (a_cons e_int a_nil))) a_nil))) rfl rfl) (eqv_sp a b 0 0)) (fun h3 => e_is e_int (by unfold q_sign; rw [if_neg (of_decide_eq_false h), if_neg (of_decide_eq_false h2), if_pos (of_decide_eq_true h3)])) fun h3 => e_is e_non (by unfold q_sign; rw [if_neg (of_decide_eq_false h), if_neg (of_decide_eq_false h2), if_neg (of_decide_eq_false h3)])) n3.gh sc__law_are_spans_due.nd fun v9 G4 H4 n4 h9 => ?_
  have hs := Dp.mono n4.g hs
  have h6 := Dp.mono n4.g h6
  have h8 := Dp.mono n4.g h8
  have h8' : Dp K G4 v8 (.tuple [rd (loL (szs a b)), rd (hiL (szs a b))]) := by rw [← sized_eq hab] at h8; exact h8
  have zn : Sz 3000 (-1 : Rat) := ⟨by decide, by decide⟩
  have rn : PyData.tuple [.int (-1), .int 1] = rd (-1) := rfl
  refine s_set 10 (d := .list (dueA a b)) (e_lst (hl := by simp [dueA]) (a_cons (e_call (ok__law_sub T) (hr.mono (by decide)) (a_cons (e_ixT (e_var 1 hs) e_int rfl) (a_cons (e_ixT (e_var 1 hs) e_int rfl) a_nil)) ⟨b, a, rfl, zb.mono (by decide), za.mono (by decide), rfl⟩) (a_cons (e_var 6 h6) (a_cons (e_is (e_ixT (e_var 8 h8') e_int rfl) (size_eq hab))
    (a_cons (e_is (e_tup (a_cons (e_call (ok__law_mul T) (hr.mono (by decide)) (a_cons (e_is (e_tup (a_cons (e_neg e_int) (a_cons e_int a_nil))) rn) (a_cons (e_ixT (e_var 1 hs) e_int rfl) a_nil)) ⟨-1, b, rfl, zn, zb.mono (by decide), rfl⟩) (a_cons (e_call (ok__law_mul T) (hr.mono (by decide)) (a_cons (e_is (e_tup (a_cons (e_neg e_int) (a_cons e_int a_nil))) rn) (a_cons (e_ixT (e_var 1 hs) e_int rfl) a_nil)) ⟨-1, a, rfl, zn, za.mono (by decide), rfl⟩) a_nil))) (turn_eq a b))
    (a_cons (e_var 8 h8) (a_cons (e_tup (a_cons (e_tup (a_cons (e_ixT (e_var 1 hs) e_int rfl) (a_cons (e_var 6 h6) a_nil))) (a_cons (e_tup (a_cons (e_var 6 h6) (a_cons (e_ixT (e_var 1 hs) e_int rfl) a_nil))) a_nil))) (a_cons (e_var 9 h9) a_nil)))))))) n4.gh sc__law_are_spans_due.nd fun v10 G5 H5 n5 h10 => ?_
  have hs := Dp.mono n5.g hs
  refine s_when (k := false) (t_is (t_not (t_val (e_call (ok__law_same T 4) (hr.mono (by decide)) (a_cons (e_lcR (x := "which") (j := 23) (n := 7) (f := fun i => (dueA a b).getD i .none) rfl sc__law_are_spans_due.nd T.b_range (a_cons e_int a_nil) (by decide) (blkOk_by (N := N__law_are_spans_due) (sc := defScope s__law_are_spans_due) (by decide +kernel)) rfl (fun _ _ _ _ _ => pg_name (i := 23) sc__law_are_spans_due.nd rfl (Or.inl rfl)) fun i hi _ _ _ _ _ => ?_) (a_cons (e_var 10 h10) a_nil)) ⟨.list (dueA a b), by rw [range_getD (dueA a b) (n := 7) rfl], fl_dueA a b, rfl⟩))) rfl) n5.gh (fun z => nomatch z) fun _ G6 H6 n6 => ?_
  · exact e_call (ok__law_told T T2) (hr.mono (by decide)) (a_cons (e_var 23 (.int _)) (a_cons (e_tup (a_cons (e_var 1 hs) a_nil)) a_nil)) (rtA hab za zb i hi)
  · exact q _ _ _ _ _ G6 H6 (n1.trans (n2.trans (n3.trans (n4.trans (n5.trans n6)))))
end
end K01

/-! D25: a comprehension over pairs. -/
namespace DL
open PySem PySem.Spec PyProof.Rows SX
open L2 hiding Dp DpAll
section
variable {X : Cx} {σ : L2.St} {G H : Hp} {tg elt iter : Expr} {pos : Pos} {x y : Str} {j j2 : Nat} {scope : Scope} {xs : List D}
theorem wipe_two (σ : L2.St) {j j2 : Nat} (hj : j ≠ j2) (u v : Option V) : ((wipe σ [j, j2]).set j u).set j2 v = (σ.set j u).set j2 v := by
  show (((σ.set j2 Option.none).set j Option.none).set j u).set j2 v = _
  rw [List.set_set, List.set_comm _ _ (fun z => hj z.symm), List.set_set]
theorem wipe_back (σ : L2.St) {j j2 : Nat} (hj : j ≠ j2) (u v : Option V) : wipe (((wipe σ [j, j2]).set j u).set j2 v) [j, j2] = wipe σ [j, j2] := by
  rw [wipe_two σ hj]
  show (((σ.set j u).set j2 v).set j2 Option.none).set j Option.none = (σ.set j2 Option.none).set j Option.none
  rw [List.set_set, List.set_comm _ _ hj, List.set_set, List.set_comm _ _ (fun z => hj z.symm)]
/-- [elt for x, y in ..] -/
theorem ec_lcP {n : Nat} {dx dy f : Nat → D} (hcalm : X.calm = true) (hN : X.N.Nodup) (hj : j ≠ j2) (ov : Over X tg iter σ G xs) (hn : xs.length = n) (hn2 : n ≤ 100000) (hd : ∀ (i : Nat) (d : D), xs[i]? = some d → d = PyData.tuple [dx i, dy i]) (ok : BlkOk X.N X.env.scope scope [(x, j), (y, j2)])
    (hg : ∀ s H C cl fp, PG (blkX X scope s H C cl fp) tg (gTup X.K 2 (gCons (gName j) (gCons (gName j2) gNil))))
    (he : ∀ (i : Nat) (u v : V) (G' : Hp), i < n → Ex G G' → Dp X.K G' u (dx i) → Dp X.K G' v (dy i) → ∀ s H0 C cl fp, E (blkX X scope s H0 C cl fp) elt ((σ.set j (some u)).set j2 (some v)) G' (f i))
    (hs : ∀ y, foldedSetIterable iter X.env y = pure y := by intro _; rfl) {lpos : Pos} :
    EC X (.ListComp elt [⟨tg, iter, [], 0⟩] scope lpos) σ G (.list ((List.range n).map f)) := by
  obtain ⟨wi, hpi, ov⟩ := ov
  refine ⟨_, ⟨pe_lc (own := [(x, j), (y, j2)]) (te := wBE X scope elt) (tt := tYes) hcalm hN hpi ok hg (fun _ _ _ _ _ => pts_nil) pe_wBE hs, fun i z py spos hi hy hw => ps_setLc (own := [(x, j), (y, j2)]) (te := wBE X scope elt) (tt := tYes) hcalm hN hi hy hw hpi ok hg (fun _ _ _ _ _ => pts_nil) pe_wBE hs⟩, fun G1 H1 g gh Q q => ov G1 H1 g gh _ fun J G2 H2 vx n2 hv io Dl hD => ?_⟩
  have hlen : vx.length = n := by rw [DpAll.len hv, hn]
  refine lc_gen (n := n) (val := fun i x => vx[i]? = some x) (fun i H' => ∃ G' vs, Lcl G2 H2 Dl G' H' vs ∧ DpAll X.K G' vs ((List.range i).map f)) ⟨G2, [], Lcl.start n2.gh hD, .nil⟩ (fun i H' hi ⟨G', vs, L, _⟩ => io.go i H' (L.g.trans L.gh) (by omega)) (fun H' ⟨G', vs, L, _⟩ => by have := io.stop H' (L.g.trans L.gh); rw [hlen] at this; exact this)
    (fun i H' y H'' hi ⟨G', vs, L, _⟩ yy => io.yld i H' y H'' (L.g.trans L.gh) yy) (fun i v H' hi hvi Pi => ?_) fun H' ⟨G', vs, L, dv⟩ => ?_
  · obtain ⟨d, hd1, dv⟩ := DpAll.getV hv hvi
    rw [hd i d hd1] at dv
    obtain ⟨a, ws, rfl, hl, hw⟩ := Dp.tup_inv dv
    obtain ⟨u, v, rfl, hu, hv2⟩ := all2 hw
    obtain ⟨G', vs, L, dvs⟩ := Pi
    refine ⟨a, [u, v], rfl, Evl.ex_t (L.g.trans L.gh) hl, rfl, u, [v], rfl, v, [], rfl, rfl, wipe_back σ hj _ _, ?_⟩
    refine tyes ?_
    rw [show List.map (fun x : Str × Nat => x.snd) [(x, j), (y, j2)] = [j, j2] from rfl, wipe_two σ hj]
    refine fun s H0 C cl fp => he i u v G' hi ((g.trans n2.g).trans L.g) (Dp.mono L.g hu) (Dp.mono L.g hv2) s H0 C cl fp G' H' (Evl.Ex.refl _) L.gh _ fun y G4 H4 n4 hy => ?_
    have L4 := L.step n4
    refine ⟨vs, L4.hl, ?_, G4, vs ++ [y], L4.put, ?_⟩
    · rw [DpAll.len dvs, List.length_map, List.length_range]
      exact Evl.sz_lt (by omega)
    · rw [List.range_succ, List.map_append]
      exact DpAll.append (DpAll.mono n4.g dvs) (.cons hy .nil)
  · exact q _ _ _ (n2.trans L.done) (.lst (Evl.sq_of upd_same) (DpAll.mono (Evl.Ex.new L.gl) dv))
end
end DL

/-! L11: what is told of two spans. -/
namespace K01
open PySem PySem.Spec PyProof.Rows DL SX
open L2 hiding Dp DpAll
def dueB (a b x y c : Rat) (n : Int) (k : Nat) : List D := [q_add a b x y, q_sub a b x y, q_scale a b c, outD (q_part a b x y), outD (q_pow a b n), q_least a b x y, q_greatest a b x y, q_round a b k, q_common a b x y, q_around a b x y, q_grow a b (ab c), q_has a b c, q_within a b x y, q_inside a b x y]
def askL (x y c : Rat) (n : Int) (k : Nat) : List D := [sp2 x y, sp2 x y, rd c, sp2 x y, .int n, sp2 x y, sp2 x y, .int (k : Nat), sp2 x y, sp2 x y, rd (ab c), rd c, sp2 x y, sp2 x y]
theorem okErr_part (a b x y : Rat) : okErr (q_part a b x y) := fun n e => by
  unfold q_part at e
  split at e
  · exact .inr (.inr (.inl (Except.error.inj e).symm))
  · split at e
    · exact .inr (.inr (.inr (Except.error.inj e).symm))
    · cases e
theorem okErr_inv (a b : Rat) : okErr (q_inv a b) := fun n e => by
  unfold q_inv at e
  split at e
  · exact .inr (.inr (.inl (Except.error.inj e).symm))
  · split at e
    · exact .inr (.inr (.inr (Except.error.inj e).symm))
    · cases e
theorem okErr_pow (a b : Rat) (n : Int) : okErr (q_pow a b n) := by
  unfold q_pow
  split
  · split <;> exact okErr_inv _ _
  · exact okErr_ok _
theorem fl_out {n : Nat} {r : Except Str D} (h : ∀ d, r = .ok d → Fl n d) : Fl n (outD r) := by
  cases r with
  | ok d => exact h d rfl
  | error e => exact .sc _ _ rfl
theorem fl_prod {n : Nat} (a b x y : Rat) : Fl (n + 2) (q_prod a b x y) := by
  unfold q_prod
  split <;> exact fl_sp _ _
theorem fl_inv {n : Nat} (a b : Rat) : Fl (n + 2) (outD (q_inv a b)) := by
  unfold q_inv
  split
  · exact .sc _ _ rfl
  · split
    · exact .sc _ _ rfl
    · exact fl_sp _ _
theorem fl_part {n : Nat} (a b x y : Rat) : Fl (n + 2) (outD (q_part a b x y)) := by
  unfold q_part
  split
  · exact .sc _ _ rfl
  · split
    · exact .sc _ _ rfl
    · exact fl_prod _ _ _ _
theorem fl_pow {m : Nat} (a b : Rat) (n : Int) : Fl (m + 2) (outD (q_pow a b n)) := by
  unfold q_pow
  split
  · split <;> exact fl_inv _ _
  · exact fl_sp _ _
theorem fl_common {n : Nat} (a b x y : Rat) : Fl (n + 2) (q_common a b x y) := by
  unfold q_common
  split
  · exact .sc _ _ rfl
  · exact fl_sp _ _
theorem fl_scale {n : Nat} (a b c : Rat) : Fl (n + 2) (q_scale a b c) := by
  unfold q_scale spq
  split <;> exact fl_sp _ _
theorem fl_dueB (a b x y c : Rat) (n : Int) (k : Nat) : Fl 4 (.list (dueB a b x y c n k)) := .lst 3 _ (by simp [dueB]) fun z hz => by
  simp [dueB] at hz
  rcases hz with rfl | rfl | rfl | rfl | rfl | rfl | rfl | rfl | rfl | rfl | rfl | rfl | rfl | rfl
  · exact fl_sp _ _
  · exact fl_sp _ _
  · exact fl_scale _ _ _
  · exact fl_part _ _ _ _
  · exact fl_pow _ _ _
  · exact fl_sp _ _
  · exact fl_sp _ _
  · exact fl_sp _ _
  · exact fl_common _ _ _ _
  · exact fl_sp _ _
  · exact fl_sp _ _
  · exact .sc _ _ rfl
  · exact .sc _ _ rfl
  · exact .sc _ _ rfl
theorem ab_nn' (c : Rat) : 0 ≤ (ab c).num := by
  unfold ab
  split
  · rw [Rat.neg_num]; omega
  · omega
theorem rtB {a b x y c : Rat} {n : Int} {k : Nat} (h : a ≤ b) (h' : x ≤ y) (za : Sz 17 a) (zb : Sz 17 b) (zx : Sz 17 x) (zy : Sz 17 y) (zc : Sz 17 c) (hn1 : -4 ≤ n) (hn2 : n ≤ 4) (hk : k ≤ 100) :
    ∀ i, i < 14 → R_told [.int ((11 + i : Nat) : Int), .tuple [sp2 a b, (askL x y c n k).getD i .none]] ((dueB a b x y c n k).getD i .none) := fun i hi => by
  have za0 := za
  have zb0 := zb
  have za := za.mono (show 17 ≤ 1000 by decide)
  have zb := zb.mono (show 17 ≤ 1000 by decide)
  have zx := zx.mono (show 17 ≤ 1000 by decide)
  have zy := zy.mono (show 17 ≤ 1000 by decide)
  have zc := zc.mono (show 17 ≤ 1000 by decide)
  rcases (show i = 0 ∨ i = 1 ∨ i = 2 ∨ i = 3 ∨ i = 4 ∨ i = 5 ∨ i = 6 ∨ i = 7 ∨ i = 8 ∨ i = 9 ∨ i = 10 ∨ i = 11 ∨ i = 12 ∨ i = 13 by omega) with e | e | e | e | e | e | e | e | e | e | e | e | e | e <;> subst e
  · exact told2 (r := .ok (q_add a b x y)) (by decide) (by decide) (rt2 (fun a b x y => .ok (q_add a b x y)) h h' za zb zx zy) (okErr_ok _)
  · exact told2 (r := .ok (q_sub a b x y)) (by decide) (by decide) (rt2 (fun a b x y => .ok (q_sub a b x y)) h h' za zb zx zy) (okErr_ok _)
  · exact told2 (r := .ok (q_scale a b c)) (by decide) (by decide) (rtr q_scale h za zb zc) (okErr_ok _)
  · exact told2 (r := q_part a b x y) (by decide) (by decide) (rt2 q_part h h' za zb zx zy) (okErr_part _ _ _ _)
  · refine told2 (r := q_pow a b n) (by decide) (by decide) ⟨sp2 a b, .int n, 17, rfl, by decide, by decide, SpZ.sp za0 zb0, fun _ => by show 17 * n.natAbs ≤ 1000; omega, ?_⟩ (okErr_pow _ _ _)
    have e1 : within (-64) 64 (.int n) = true := by
      show (decide (-64 ≤ n) && decide (n ≤ 64)) = true
      rw [decide_eq_true (by omega), decide_eq_true (by omega)]; rfl
    rw [isSpan_sp h, e1, Bool.and_self, if_pos rfl, loS_sp, hiS_sp]; rfl
  · exact told2 (r := .ok (q_least a b x y)) (by decide) (by decide) (rt2 (fun a b x y => .ok (q_least a b x y)) h h' za zb zx zy) (okErr_ok _)
  · exact told2 (r := .ok (q_greatest a b x y)) (by decide) (by decide) (rt2 (fun a b x y => .ok (q_greatest a b x y)) h h' za zb zx zy) (okErr_ok _)
  · refine told2 (r := .ok (q_round a b k)) (by decide) (by decide) ⟨sp2 a b, .int (k : Nat), rfl, SpZ.sp za zb, trivial, ?_⟩ (okErr_ok _)
    have e1 : within 0 20000 (.int (k : Nat)) = true := by
      show (decide ((0 : Int) ≤ k) && decide ((k : Int) ≤ 20000)) = true
      rw [decide_eq_true (by omega), decide_eq_true (by omega)]; rfl
    rw [isSpan_sp h, e1, Bool.and_self, if_pos rfl, loS_sp, hiS_sp]; rfl
  · exact told2 (r := .ok (q_common a b x y)) (by decide) (by decide) (rt2 (fun a b x y => .ok (q_common a b x y)) h h' za zb zx zy) (okErr_ok _)
  · exact told2 (r := .ok (q_around a b x y)) (by decide) (by decide) (rt2 (fun a b x y => .ok (q_around a b x y)) h h' za zb zx zy) (okErr_ok _)
  · refine told2 (r := .ok (q_grow a b (ab c))) (by decide) (by decide) ⟨sp2 a b, rd (ab c), rfl, SpZ.sp za zb, SzD.rd (Sz.ab zc), ?_⟩ (okErr_ok _)
    have e1 : nnR (rd (ab c)) = true := by
      unfold nnR
      rw [isRatio_rd, qOf_rd, decide_eq_true (ab_nn' c)]; rfl
    rw [isSpan_sp h, e1, Bool.and_self, if_pos rfl, loS_sp, hiS_sp, qOf_rd]
  · exact told2 (r := .ok (q_has a b c)) (by decide) (by decide) (rtr q_has h za zb zc) (okErr_ok _)
  · exact told2 (r := .ok (q_within a b x y)) (by decide) (by decide) (rt2 (fun a b x y => .ok (q_within a b x y)) h h' za zb zx zy) (okErr_ok _)
  · exact told2 (r := .ok (q_inside a b x y)) (by decide) (by decide) (rt2 (fun a b x y => .ok (q_inside a b x y)) h h' za zb zx zy) (okErr_ok _)
section
variable {P : Program} {w : World} {K : PySem.W.Frag} {mg : Str → Option Value} {base : Heap}
theorem seg_two (T : Txt K mg) (T2 : Txt2 K mg) {f : Addr} {cdv : Value} {A : Around} {outer : List Env} {s : Shared} {H0 : Hp} {xk : XK} (hr : Room 9 (A.deeper (envOfC "_law_are_spans_due" (defScope s__law_are_spans_due) s.heap.objs.size f cdv)))
    {G H : Hp} {a b x y : Rat} {ud us ut ua un uk : V} {o6 o7 o8 o9 o10 : Option V} (g : Ex G H) (hs : Dp K G us (sp2 a b)) (ht : Dp K G ut (sp2 x y)) (hab : a ≤ b) (hxy : x ≤ y) (za : Sz 17 a) (zb : Sz 17 b) (zx : Sz 17 x) (zy : Sz 17 y) {Z : Ends}
    (q : ∀ (v11 v12 v13 v15 : V) (o14 : Option V) G' H', Nx G H G' H' → Dp K G' v11 (q_least a b x y) → Dp K G' v12 (q_greatest a b x y) → Dp K G' v13 (q_common a b x y) → Dp K G' v15 (outD (q_part a b x y)) → wB (cxOf CX0 P w K mg base N__law_are_spans_due "_law_are_spans_due" (defScope s__law_are_spans_due) f cdv A outer s H0 xk).nox (defBody s__law_are_spans_due |>.drop 13) Z
      [some ud, some us, some ut, some ua, some un, some uk, o6, o7, o8, o9, o10, some v11, some v12, some v13, o14, some v15, Option.none, Option.none, Option.none, Option.none, Option.none, Option.none, Option.none, Option.none, Option.none] H') :
    wB (cxOf CX0 P w K mg base N__law_are_spans_due "_law_are_spans_due" (defScope s__law_are_spans_due) f cdv A outer s H0 xk).nox (defBody s__law_are_spans_due |>.drop 7) Z
      [some ud, some us, some ut, some ua, some un, some uk, o6, o7, o8, o9, o10, Option.none, Option.none, Option.none, Option.none, Option.none, Option.none, Option.none, Option.none, Option.none, Option.none, Option.none, Option.none, Option.none, Option.none] H := by
  have za' := za.mono (show 17 ≤ 3000 by decide)
  have zb' := zb.mono (show 17 ≤ 3000 by decide)
  have zx' := zx.mono (show 17 ≤ 3000 by decide)
  have zy' := zy.mono (show 17 ≤ 3000 by decide)
  refine s_set 11 (d := q_least a b x y) (e_tup (a_cons (e_if (k := decide (x < a)) (t_val (e_call (ok__law_less T) (hr.mono (by decide)) (a_cons (e_ixT (e_var 2 ht) e_int rfl) (a_cons (e_ixT (e_var 1 hs) e_int rfl) a_nil)) ⟨x, a, rfl, zx', za', rfl⟩)) (fun h => e_is (e_ixT (e_var 2 ht) e_int rfl) (by rw [ls_pos (of_decide_eq_true h)])) fun h => e_is (e_ixT (e_var 1 hs) e_int rfl) (by rw [ls_neg (of_decide_eq_false h)]))
    (a_cons (e_if (k := decide (y < b)) (t_val (e_call (ok__law_less T) (hr.mono (by decide)) (a_cons (e_ixT (e_var 2 ht) e_int rfl) (a_cons (e_ixT (e_var 1 hs) e_int rfl) a_nil)) ⟨y, b, rfl, zy', zb', rfl⟩)) (fun h => e_is (e_ixT (e_var 2 ht) e_int rfl) (by rw [ls_pos (of_decide_eq_true h)])) fun h => e_is (e_ixT (e_var 1 hs) e_int rfl) (by rw [ls_neg (of_decide_eq_false h)])) a_nil))) g sc__law_are_spans_due.nd fun v11 G1 H1 n1 h11 => ?_
  have hs := Dp.mono n1.g hs
  have ht := Dp.mono n1.g ht
  refine s_set 12 (d := q_greatest a b x y) (e_tup (a_cons (e_if (k := decide (x < a)) (t_val (e_call (ok__law_less T) (hr.mono (by decide)) (a_cons (e_ixT (e_var 2 ht) e_int rfl) (a_cons (e_ixT (e_var 1 hs) e_int rfl) a_nil)) ⟨x, a, rfl, zx', za', rfl⟩)) (fun h => e_is (e_ixT (e_var 1 hs) e_int rfl) (by rw [← great_eq, if_pos (of_decide_eq_true h)])) fun h => e_is (e_ixT (e_var 2 ht) e_int rfl) (by rw [← great_eq, if_neg (of_decide_eq_false h)]))
    (a_cons (e_if (k := decide (y < b)) (t_val (e_call (ok__law_less T) (hr.mono (by decide)) (a_cons (e_ixT (e_var 2 ht) e_int rfl) (a_cons (e_ixT (e_var 1 hs) e_int rfl) a_nil)) ⟨y, b, rfl, zy', zb', rfl⟩)) (fun h => e_is (e_ixT (e_var 1 hs) e_int rfl) (by rw [← great_eq, if_pos (of_decide_eq_true h)])) fun h => e_is (e_ixT (e_var 2 ht) e_int rfl) (by rw [← great_eq, if_neg (of_decide_eq_false h)])) a_nil))) n1.gh sc__law_are_spans_due.nd fun v12 G2 H2 n2 h12 => ?_
  have hs := Dp.mono n2.g hs
  have ht := Dp.mono n2.g ht
  have h11 := Dp.mono n2.g h11
  refine s_set 13 (d := q_common a b x y) (e_if (k := decide (ls b y < gr a x)) (t_val (e_call (ok__law_less T) (hr.mono (by decide)) (a_cons (e_ixT (e_var 11 h11) e_int rfl) (a_cons (e_ixT (e_var 12 h12) e_int rfl) a_nil)) ⟨ls b y, gr a x, rfl, Sz.ls zb' zy', Sz.gr za' zx', rfl⟩)) (fun h => e_is e_non (by unfold q_common; rw [if_pos (of_decide_eq_true h)])) fun h => e_is (e_tup (a_cons (e_ixT (e_var 12 h12) e_int rfl) (a_cons (e_ixT (e_var 11 h11) e_int rfl) a_nil))) (by unfold q_common; rw [if_neg (of_decide_eq_false h)]; rfl)) n2.gh sc__law_are_spans_due.nd fun v13 G3 H3 n3 h13 => ?_
  have hs := Dp.mono n3.g hs
  have ht := Dp.mono n3.g ht
  have h11 := Dp.mono n3.g h11
  have h12 := Dp.mono n3.g h12
  refine s_set 14 (d := .list [.tuple [rd a, rd x], .tuple [rd a, rd y], .tuple [rd b, rd x], .tuple [rd b, rd y]]) (e_lst (a_cons (e_tup (a_cons (e_ixT (e_var 1 hs) e_int rfl) (a_cons (e_ixT (e_var 2 ht) e_int rfl) a_nil))) (a_cons (e_tup (a_cons (e_ixT (e_var 1 hs) e_int rfl) (a_cons (e_ixT (e_var 2 ht) e_int rfl) a_nil))) (a_cons (e_tup (a_cons (e_ixT (e_var 1 hs) e_int rfl) (a_cons (e_ixT (e_var 2 ht) e_int rfl) a_nil))) (a_cons (e_tup (a_cons (e_ixT (e_var 1 hs) e_int rfl) (a_cons (e_ixT (e_var 2 ht) e_int rfl) a_nil))) a_nil))))) n3.gh sc__law_are_spans_due.nd fun v14 G4 H4 n4 h14 => ?_
  have hs := Dp.mono n4.g hs
  have ht := Dp.mono n4.g ht
  have N4 := n1.trans (n2.trans (n3.trans n4))
  refine s_set 15 (d := if x = 0 ∧ y = 0 then .str (S (refT 4)) else .str (S (refT 5))) (e_if (k := decide (x = 0 ∧ y = 0)) (t_is (t_eqD (da := sp2 x y) (db := sp2 0 0) (roomU hr) (e_var 2 ht) (e_tup (a_cons (e_tup (a_cons e_int (a_cons e_int a_nil))) (a_cons (e_tup (a_cons e_int (a_cons e_int a_nil))) a_nil))) rfl rfl) (eqv_sp x y 0 0)) (fun h => e_is (e_strC [114, 101, 102, 117, 115, 101, 100, 32, 52]) (by rw [if_pos (of_decide_eq_true h)]; exact ref_eq 4 (by decide))) fun h => e_is (e_strC [114, 101, 102, 117, 115, 101, 100, 32, 53]) (by rw [if_neg (of_decide_eq_false h)]; exact ref_eq 5 (by decide))) n4.gh sc__law_are_spans_due.nd fun v15 G5 H5 n5 h15 => ?_
  have hs := Dp.mono n5.g hs
  have ht := Dp.mono n5.g ht
  have N5 := N4.trans n5
  have fin : ∀ (v : V) (G6 H6 : Hp), Nx G5 H5 G6 H6 → Dp K G6 v (outD (lawQ a b x y)) → wB (cxOf CX0 P w K mg base N__law_are_spans_due "_law_are_spans_due" (defScope s__law_are_spans_due) f cdv A outer s H0 xk).nox (defBody s__law_are_spans_due |>.drop 13) Z
      [some ud, some us, some ut, some ua, some un, some uk, o6, o7, o8, o9, o10, some v11, some v12, some v13, some v14, some v, Option.none, Option.none, Option.none, Option.none, Option.none, Option.none, Option.none, Option.none, Option.none] H6 := fun v G6 H6 n6 hv => by
    rw [lawQ_eq hab hxy] at hv
    have gg := (n4.trans (n5.trans n6)).g
    exact q v11 v12 v13 v (some v14) G6 H6 (N5.trans n6) (Dp.mono gg h11) (Dp.mono gg h12) (Dp.mono gg h13) hv
  refine s_when (k := decide (0 < x.num) || decide (y.num < 0)) (t_or (t_gt (e_ixT (e_ixT (e_var 2 ht) e_int rfl) e_int rfl) e_int) fun _ => t_lt (e_ixT (e_ixT (e_var 2 ht) e_int rfl) e_int rfl) e_int) n5.gh (fun h G6 H6 n6 => ?_) fun h G6 H6 n6 => ?_
  · rw [Bool.or_eq_true, decide_eq_true_eq, decide_eq_true_eq] at h
    have e1 : lawQ a b x y = .ok (hull [a / x, a / y, b / x, b / y]) := by unfold lawQ; rw [if_pos h]
    have hh : 0 < x ∨ y < 0 := h.imp num_pos.mp num_neg.mp
    have hx0 : x ≠ 0 := by rcases hh with z | z <;> grind
    have hy0 : y ≠ 0 := by rcases hh with z | z <;> grind
    have zd : ∀ p r : Rat, Sz 17 p → Sz 17 r → r ≠ 0 → Sz 3000 (p / r) := fun p r zp zr hr => by
      rw [Rat.div_def, show r⁻¹ = 1 / r by grind]
      exact sz_mul zp (sz_inv hr zr) (by decide)
    refine s_set 15 (d := hull [a / x, a / y, b / x, b / y]) (e_call (ok__law_hull T) (hr.mono (by decide)) (a_cons (e_is (e_ofC (ec_lcP (x := "x") (y := "y") (j := 16) (j2 := 17) (n := 4) (dx := fun i => rd (if i < 2 then a else b)) (dy := fun i => rd (if i % 2 = 0 then x else y)) (f := fun i => rd ((if i < 2 then a else b) / (if i % 2 = 0 then x else y))) rfl sc__law_are_spans_due.nd (by decide) (ov_list (e_var 14 (Dp.mono n6.g (Dp.mono n5.g h14)))) rfl (by decide) (fun i d hd => ?_) (blkOk_by (N := N__law_are_spans_due) (sc := defScope s__law_are_spans_due) (by decide +kernel))
      (fun _ _ _ _ _ => pg_tup rfl (pgs_cons (pg_name (i := 16) sc__law_are_spans_due.nd rfl (Or.inl rfl)) (pgs_cons (pg_name (i := 17) sc__law_are_spans_due.nd rfl (Or.inl rfl)) pgs_nil))) fun i u v G' hi gg hu hv s1 H1' C cl fp => ?_)) ?_) a_nil) ⟨a / x, [a / y, b / x, b / y], rfl, ?_, rfl⟩) n6.gh sc__law_are_spans_due.nd fun v15' G7 H7 n7 h15' => s_nil (fin v15' G7 H7 (n6.trans n7) (by rw [e1]; exact h15'))
    · rcases (show i = 0 ∨ i = 1 ∨ i = 2 ∨ i = 3 ∨ 4 ≤ i by omega) with e | e | e | e | e
      · subst e; injection hd with hd; exact hd.symm
      · subst e; injection hd with hd; exact hd.symm
      · subst e; injection hd with hd; exact hd.symm
      · subst e; injection hd with hd; exact hd.symm
      · rw [List.getElem?_eq_none (by simpa using e)] at hd; cases hd
    · have z1 : Sz 17 (if i < 2 then a else b) := by split <;> assumption
      have z2 : Sz 17 (if i % 2 = 0 then x else y) := by split <;> assumption
      have z3 : (if i % 2 = 0 then x else y) ≠ 0 := by split <;> assumption
      generalize (if i < 2 then a else b) = p at hu z1
      generalize (if i % 2 = 0 then x else y) = r at hv z2 z3
      refine e_is (e_call (ok__law_r T) (hr.mono (by decide)) (a_cons (e_mul (e_ixT (e_var 16 hu) e_int rfl) (e_ixT (e_var 17 hv) e_int rfl) (mulOK z1.1 (natI z2.2) (by decide))) (a_cons (e_mul (e_ixT (e_var 16 hu) e_int rfl) (e_ixT (e_var 17 hv) e_int rfl) (mulOK (natI z1.2) z2.1 (by decide))) a_nil)) ⟨_, _, rfl, ?_, lt_pow (mul_lt z1.1 (natI z2.2)) (by decide), lt_pow (mul_lt (natI z1.2) z2.1) (by decide), rfl⟩) (by rw [div_divInt])
      exact Int.mul_ne_zero (Int.ne_of_gt (den_pos' p)) (fun z => z3 (Rat.num_eq_zero.mp z))
    · rfl
    · intro r hr'
      simp at hr'
      rcases hr' with rfl | rfl | rfl | rfl
      · exact zd _ _ za zx hx0
      · exact zd _ _ za zy hy0
      · exact zd _ _ zb zx hx0
      · exact zd _ _ zb zy hy0
  · have h : ¬ (0 < x.num ∨ y.num < 0) := fun z => by rw [Bool.or_eq_false_iff, decide_eq_false_iff_not, decide_eq_false_iff_not] at h; rcases z with z | z; exact h.1 z; exact h.2 z
    refine fin v15 G6 H6 n6 ?_
    have e1 : outD (lawQ a b x y) = if x = 0 ∧ y = 0 then .str (S (refT 4)) else .str (S (refT 5)) := by
      unfold lawQ
      rw [if_neg h]
      split <;> rfl
    rw [e1]
    exact Dp.mono n6.g h15
end
end K01

/-! L12: what is due of two spans. -/
namespace K01
open PySem PySem.Spec PyProof.Rows DL SX
open L2 hiding Dp DpAll
section
variable {P : Program} {w : World} {K : PySem.W.Frag} {mg : Str → Option Value} {base : Heap}
theorem seg_three (T : Txt K mg) (T2 : Txt2 K mg) {f : Addr} {cdv : Value} {A : Around} {outer : List Env} {s : Shared} {H0 : Hp} {xk : XK} (hr : Room 9 (A.deeper (envOfC "_law_are_spans_due" (defScope s__law_are_spans_due) s.heap.objs.size f cdv)))
    {G H : Hp} {a b x y c : Rat} {n : Int} {k : Nat} {ud us ut ua v11 v12 v13 v15 : V} {o6 o7 o8 o9 o10 o14 : Option V} (g : Ex G H) (hs : Dp K G us (sp2 a b)) (ht : Dp K G ut (sp2 x y)) (hc : Dp K G ua (rd c)) (hab : a ≤ b) (hxy : x ≤ y) (za : Sz 17 a) (zb : Sz 17 b) (zx : Sz 17 x) (zy : Sz 17 y) (zc : Sz 17 c)
    (hn1 : -4 ≤ n) (hn2 : n ≤ 4) (hk : k ≤ 100) (h11 : Dp K G v11 (q_least a b x y)) (h12 : Dp K G v12 (q_greatest a b x y)) (h13 : Dp K G v13 (q_common a b x y)) (h15 : Dp K G v15 (outD (q_part a b x y))) {Z : Ends}
    (q : ∀ (v10 : V) (r : List (Option V)) G' H', r.length = 14 → Nx G H G' H' → Dp K G' v10 (.list (dueB a b x y c n k)) → wB (cxOf CX0 P w K mg base N__law_are_spans_due "_law_are_spans_due" (defScope s__law_are_spans_due) f cdv A outer s H0 xk).nox (defBody s__law_are_spans_due |>.drop 22) Z
      ([some ud, some us, some ut, some ua, some (.int n), some (.int k), o6, o7, o8, o9, some v10] ++ r) H') :
    wB (cxOf CX0 P w K mg base N__law_are_spans_due "_law_are_spans_due" (defScope s__law_are_spans_due) f cdv A outer s H0 xk).nox (defBody s__law_are_spans_due |>.drop 13) Z
      [some ud, some us, some ut, some ua, some (.int n), some (.int k), o6, o7, o8, o9, o10, some v11, some v12, some v13, o14, some v15, Option.none, Option.none, Option.none, Option.none, Option.none, Option.none, Option.none, Option.none, Option.none] H := by
  have za' := za.mono (show 17 ≤ 3000 by decide)
  have zb' := zb.mono (show 17 ≤ 3000 by decide)
  have zx' := zx.mono (show 17 ≤ 3000 by decide)
  have zy' := zy.mono (show 17 ≤ 3000 by decide)
  have zc' := zc.mono (show 17 ≤ 3000 by decide)
  have tw : ((2 ^ k : Nat) : Int).natAbs < 2 ^ 101 := by rw [Int.natAbs_natCast]; exact Nat.pow_lt_pow_right (by decide) (by omega)
  have tp : ((2 ^ k : Nat) : Int) = (2 : Int) ^ k := Int.natCast_pow ..
  have tpos : (0 : Int) < ((2 ^ k : Nat) : Int) := by have := Nat.pow_pos (n := k) (show 0 < 2 by decide); omega
  refine s_set 18 (d := .int ((2 ^ k : Nat) : Int)) (e_call (ok__law_twos T) (hr.mono (by decide)) (a_cons (e_var 5 (.int _)) a_nil) ⟨k, rfl, by omega, rfl⟩) g sc__law_are_spans_due.nd fun v18 G1 H1 n1 h18 => ?_
  cases h18
  have hs := Dp.mono n1.g hs
  have m1 := mul_lt za.1 tw
  have m2 := mul_lt zb.1 tw
  have d1 : (a.num * ((2 ^ k : Nat) : Int) / (a.den : Int)).natAbs < 2 ^ 100000 := Nat.lt_of_le_of_lt (Int.natAbs_ediv_le_natAbs _ _) (lt_pow m1 (by decide))
  have m3 : (0 - b.num * ((2 ^ k : Nat) : Int)).natAbs < 2 ^ 118 := by rw [Int.zero_sub, Int.natAbs_neg]; exact m2
  have d2 : (0 - (0 - b.num * ((2 ^ k : Nat) : Int)) / (b.den : Int)).natAbs < 2 ^ 100000 := by
    rw [Int.zero_sub, Int.natAbs_neg]
    exact Nat.lt_of_le_of_lt (Int.natAbs_ediv_le_natAbs _ _) (lt_pow m3 (by decide))
  refine s_set 19 (d := q_round a b k) (e_is (e_tup (a_cons (e_call (ok__law_r T) (hr.mono (by decide)) (a_cons (e_div (e_mul (e_ixT (e_ixT (e_var 1 hs) e_int rfl) e_int rfl) (e_var 18 (.int _)) (mulOK za.1 tw (by decide))) (e_ixT (e_ixT (e_var 1 hs) e_int rfl) e_int rfl) (divOK (den_pos' a) (natI za.2) (by decide))) (a_cons (e_var 18 (.int _)) a_nil)) ⟨_, _, rfl, Int.ne_of_gt tpos, d1, lt_pow tw (by decide), rfl⟩)
    (a_cons (e_call (ok__law_r T) (hr.mono (by decide)) (a_cons (e_sub e_int (e_div (e_sub e_int (e_mul (e_ixT (e_ixT (e_var 1 hs) e_int rfl) e_int rfl) (e_var 18 (.int _)) (mulOK zb.1 tw (by decide)))) (e_ixT (e_ixT (e_var 1 hs) e_int rfl) e_int rfl) (divOK (den_pos' b) (natI zb.2) (by decide)))) (a_cons (e_var 18 (.int _)) a_nil)) ⟨_, _, rfl, Int.ne_of_gt tpos, d2, lt_pow tw (by decide), rfl⟩) a_nil))) (by rw [← round_eq, tp]; rfl)) n1.gh sc__law_are_spans_due.nd fun v19 G2 H2 n2 h19 => ?_
  have hc2 := Dp.mono n2.g (Dp.mono n1.g hc)
  refine s_set 20 (d := rd (ab c)) (e_is (e_tup (a_cons (e_abs T.b_abs (e_ixT (e_var 3 hc2) e_int rfl)) (a_cons (e_ixT (e_var 3 hc2) e_int rfl) a_nil))) (rd_ab c)) n2.gh sc__law_are_spans_due.nd fun v20 G3 H3 n3 h20 => ?_
  have N3 := n1.trans (n2.trans n3)
  have hs := Dp.mono n3.g (Dp.mono n2.g hs)
  have ht := Dp.mono N3.g ht
  have hc := Dp.mono N3.g hc
  have h15 := Dp.mono N3.g h15
  have s1 : Sz 3000 (a * c) := sz_mul za zc (by decide)
  have s2 : Sz 3000 (b * c) := sz_mul zb zc (by decide)
  refine s_set 10 (d := .list [q_add a b x y, q_sub a b x y, q_scale a b c, outD (q_part a b x y), outD (q_pow a b n)]) (e_lst (a_cons (e_tup (a_cons (e_call (ok__law_add T) (hr.mono (by decide)) (a_cons (e_ixT (e_var 1 hs) e_int rfl) (a_cons (e_ixT (e_var 2 ht) e_int rfl) a_nil)) ⟨a, x, rfl, za', zx', rfl⟩) (a_cons (e_call (ok__law_add T) (hr.mono (by decide)) (a_cons (e_ixT (e_var 1 hs) e_int rfl) (a_cons (e_ixT (e_var 2 ht) e_int rfl) a_nil)) ⟨b, y, rfl, zb', zy', rfl⟩) a_nil)))
    (a_cons (e_tup (a_cons (e_call (ok__law_sub T) (hr.mono (by decide)) (a_cons (e_ixT (e_var 1 hs) e_int rfl) (a_cons (e_ixT (e_var 2 ht) e_int rfl) a_nil)) ⟨a, y, rfl, za', zy', rfl⟩) (a_cons (e_call (ok__law_sub T) (hr.mono (by decide)) (a_cons (e_ixT (e_var 1 hs) e_int rfl) (a_cons (e_ixT (e_var 2 ht) e_int rfl) a_nil)) ⟨b, x, rfl, zb', zx', rfl⟩) a_nil)))
    (a_cons (e_is (e_call (ok__law_hull T) (hr.mono (by decide)) (a_cons (e_lst (a_cons (e_call (ok__law_mul T) (hr.mono (by decide)) (a_cons (e_ixT (e_var 1 hs) e_int rfl) (a_cons (e_var 3 hc) a_nil)) ⟨a, c, rfl, za', zc', rfl⟩) (a_cons (e_call (ok__law_mul T) (hr.mono (by decide)) (a_cons (e_ixT (e_var 1 hs) e_int rfl) (a_cons (e_var 3 hc) a_nil)) ⟨b, c, rfl, zb', zc', rfl⟩) a_nil))) a_nil) ⟨a * c, [b * c], rfl, (fun r hr' => by simp at hr'; rcases hr' with rfl | rfl <;> assumption), rfl⟩) (by rw [← spq_hull]; rfl))
    (a_cons (e_var 15 h15) (a_cons (e_is (e_call (ok__law_powers T) (hr.mono (by decide)) (a_cons (e_var 1 hs) (a_cons (e_var 4 (.int _)) a_nil)) ⟨a, b, n, rfl, hab, za, zb, by omega, rfl⟩) (by rw [lawP_eq hab hn1 hn2])) a_nil)))))) n3.gh sc__law_are_spans_due.nd fun v10 G4 H4 n4 h10 => ?_
  have N4 := N3.trans n4
  have h11 := Dp.mono N4.g h11
  have h12 := Dp.mono N4.g h12
  have h13 := Dp.mono N4.g h13
  have h19 := Dp.mono n4.g (Dp.mono n3.g h19)
  refine s_set 10 (d := .list ([q_add a b x y, q_sub a b x y, q_scale a b c, outD (q_part a b x y), outD (q_pow a b n)] ++ [q_least a b x y, q_greatest a b x y, q_round a b k, q_common a b x y])) (e_catL (e_var 10 h10) (e_lst (a_cons (e_var 11 h11) (a_cons (e_var 12 h12) (a_cons (e_var 19 h19) (a_cons (e_var 13 h13) a_nil))))) (by simp)) n4.gh sc__law_are_spans_due.nd fun v10' G5 H5 n5 h10' => ?_
  have N5 := N4.trans n5
  have hs := Dp.mono n5.g (Dp.mono n4.g hs)
  have ht := Dp.mono n5.g (Dp.mono n4.g ht)
  have hc := Dp.mono n5.g (Dp.mono n4.g hc)
  have h20 := Dp.mono n5.g (Dp.mono n4.g h20)
  refine s_set 10 (d := .list (([q_add a b x y, q_sub a b x y, q_scale a b c, outD (q_part a b x y), outD (q_pow a b n)] ++ [q_least a b x y, q_greatest a b x y, q_round a b k, q_common a b x y]) ++ [q_around a b x y, q_grow a b (ab c), q_has a b c])) (e_catL (e_var 10 h10') (e_lst (a_cons (e_is (e_call (ok__law_hull T) (hr.mono (by decide)) (a_cons (e_lst (a_cons (e_ixT (e_var 1 hs) e_int rfl) (a_cons (e_ixT (e_var 1 hs) e_int rfl) (a_cons (e_ixT (e_var 2 ht) e_int rfl) (a_cons (e_ixT (e_var 2 ht) e_int rfl) a_nil))))) a_nil) ⟨a, [b, x, y], rfl, (fun r hr' => by simp at hr'; rcases hr' with rfl | rfl | rfl | rfl <;> assumption), rfl⟩) (around_eq hab hxy))
    (a_cons (e_tup (a_cons (e_call (ok__law_sub T) (hr.mono (by decide)) (a_cons (e_ixT (e_var 1 hs) e_int rfl) (a_cons (e_var 20 h20) a_nil)) ⟨a, ab c, rfl, za', Sz.ab zc', rfl⟩) (a_cons (e_call (ok__law_add T) (hr.mono (by decide)) (a_cons (e_ixT (e_var 1 hs) e_int rfl) (a_cons (e_var 20 h20) a_nil)) ⟨b, ab c, rfl, zb', Sz.ab zc', rfl⟩) a_nil)))
    (a_cons (e_call (ok__law_in T) (hr.mono (by decide)) (a_cons (e_var 1 hs) (a_cons (e_var 3 hc) a_nil)) ⟨a, b, c, rfl, za', zb', zc', rfl⟩) a_nil)))) (by simp)) n5.gh sc__law_are_spans_due.nd fun v10'' G6 H6 n6 h10'' => ?_
  have N6 := N5.trans n6
  have hs := Dp.mono n6.g hs
  have ht := Dp.mono n6.g ht
  have hc := Dp.mono n6.g hc
  have h20 := Dp.mono n6.g h20
  refine s_set 10 (d := .list (dueB a b x y c n k)) (e_catL (e_var 10 h10'') (e_lst (a_cons (e_is (e_and2 (e_call (ok__law_in T) (hr.mono (by decide)) (a_cons (e_var 2 ht) (a_cons (e_ixT (e_var 1 hs) e_int rfl) a_nil)) ⟨x, y, a, rfl, zx', zy', za', rfl⟩) fun _ => e_call (ok__law_in T) (hr.mono (by decide)) (a_cons (e_var 2 ht) (a_cons (e_ixT (e_var 1 hs) e_int rfl) a_nil)) ⟨x, y, b, rfl, zx', zy', zb', rfl⟩) (by rw [within_eq hab]; rfl))
    (a_cons (e_and2 (e_call (ok__law_less T) (hr.mono (by decide)) (a_cons (e_ixT (e_var 2 ht) e_int rfl) (a_cons (e_ixT (e_var 1 hs) e_int rfl) a_nil)) ⟨x, a, rfl, zx', za', rfl⟩) fun _ => e_call (ok__law_less T) (hr.mono (by decide)) (a_cons (e_ixT (e_var 1 hs) e_int rfl) (a_cons (e_ixT (e_var 2 ht) e_int rfl) a_nil)) ⟨b, y, rfl, zb', zy', rfl⟩) a_nil))) (by simp)) n6.gh sc__law_are_spans_due.nd fun v10d G7 H7 n7 h10d => ?_
  have N7 := N6.trans n7
  have hs := Dp.mono n7.g hs
  have ht := Dp.mono n7.g ht
  have hc := Dp.mono n7.g hc
  have h20 := Dp.mono n7.g h20
  refine s_set 21 (d := .list (askL x y c n k)) (e_lst (hl := by simp [askL]) (a_cons (e_var 2 ht) (a_cons (e_var 2 ht) (a_cons (e_var 3 hc) (a_cons (e_var 2 ht) (a_cons (e_var 4 (.int _)) (a_cons (e_var 2 ht) (a_cons (e_var 2 ht) (a_cons (e_var 5 (.int _)) (a_cons (e_var 2 ht) (a_cons (e_var 2 ht) (a_cons (e_var 20 h20) (a_cons (e_var 3 hc) (a_cons (e_var 2 ht) (a_cons (e_var 2 ht) a_nil))))))))))))))) n7.gh sc__law_are_spans_due.nd fun v21 G8 H8 n8 h21 => ?_
  have N8 := N7.trans n8
  have hs := Dp.mono n8.g hs
  have h10d := Dp.mono n8.g h10d
  refine s_when (k := false) (t_is (t_not (t_val (e_call (ok__law_same T 4) (hr.mono (by decide)) (a_cons (e_lcR (x := "j") (j := 24) (n := 14) (f := fun i => (dueB a b x y c n k).getD i .none) rfl sc__law_are_spans_due.nd T.b_range (a_cons e_int a_nil) (by decide) (blkOk_by (N := N__law_are_spans_due) (sc := defScope s__law_are_spans_due) (by decide +kernel)) rfl (fun _ _ _ _ _ => pg_name (i := 24) sc__law_are_spans_due.nd rfl (Or.inl rfl)) fun i hi _ _ _ _ _ => ?_) (a_cons (e_var 10 h10d) a_nil)) ⟨.list (dueB a b x y c n k), by rw [range_getD (dueB a b x y c n k) (n := 14) rfl], fl_dueB a b x y c n k, rfl⟩))) rfl) n8.gh (fun z => nomatch z) fun _ G9 H9 n9 => ?_
  · have hat : (askL x y c n k)[i]? = some ((askL x y c n k).getD i .none) := by
      have hl : i < (askL x y c n k).length := hi
      simp [List.getD_eq_getElem?_getD, hl]
    exact e_call (ok__law_told T T2) (hr.mono (by decide)) (a_cons (e_is (e_add e_int (e_var 24 (.int _))) (by rw [Int.natCast_add]; rfl)) (a_cons (e_tup (a_cons (e_var 1 hs) (a_cons (e_ixL (e_var 21 h21) (e_var 24 (.int _)) (atN hat)) a_nil))) a_nil)) (rtB hab hxy za zb zx zy zc hn1 hn2 hk i hi)
  · exact q v10d [some v11, some v12, some v13, o14, some v15, Option.none, Option.none, some (.int ((2 ^ k : Nat) : Int)), some v19, some v20, some v21, Option.none, Option.none, Option.none] G9 H9 rfl (N8.trans n9) (Dp.mono n9.g h10d)
end
end K01

/-! L13: spans are due. -/
namespace K01
open PySem PySem.Spec PyProof.Rows DL SX
open L2 hiding Dp DpAll
theorem outS {r : Except Str D} {n : Str} (h : r = .error n) : isS (outD r) = true := by rw [h]; rfl
section
variable {P : Program} {w : World} {K : PySem.W.Frag} {mg : Str → Option Value} {base : Heap}
def TrueD : List D → D → Prop := fun _ d => d = .bool true
theorem ok__law_are_spans_due (T : Txt K mg) (T2 : Txt2 K mg) : MFn P w K mg base 10 "_law_are_spans_due" (· = []) TrueD :=
  mfn_of T.h__law_are_spans_due sc__law_are_spans_due (fun ds e => by rw [e]; rfl) fun cdv A outer s f H Q xk hr l ds G vs e m hv q => by
    subst e
    cases hv
    refine sm_tup5 1 2 3 4 5 (Rs := fun ds => ∃ (a b x y c : Rat) (n : Int) (k : Nat), ds = [sp2 a b, sp2 x y, rd c, .int n, .int k] ∧ a ≤ b ∧ x ≤ y ∧ Sz 17 a ∧ Sz 17 b ∧ Sz 17 x ∧ Sz 17 y ∧ Sz 17 c ∧ -4 ≤ n ∧ n ≤ 4 ∧ k ≤ 100) rfl sc__law_are_spans_due.nd (am_imp (am_cons (em_call 0 (ok__law_span T) (hr.mono (by decide)) am_nil (fun ds e => e) (fun ds d e h => h)) (am_cons (em_call 0 (ok__law_span T) (hr.mono (by decide)) am_nil (fun ds e => e) (fun ds d e h => h)) (am_cons (em_call 0 (ok__law_any T) (hr.mono (by decide)) am_nil (fun ds e => e) (fun ds d e h => h))
      (am_cons (em_sub (P := fun i => 0 ≤ i ∧ i < 8) (P2 := (· = 3)) (P3 := fun i => -4 ≤ i ∧ i ≤ 4) (em_call 0 (ok__law_take T) (hr.mono (by decide)) (am_of (a_cons e_int a_nil)) (fun ds e => ⟨_, e, by decide⟩) (fun ds d e ⟨b, i, e1, e2, h1, h2⟩ => ?_)) em_int (fun i j h1 h2 => by omega))
      (am_cons (em_call 0 (ok__law_take T) (hr.mono (by decide)) (am_of (a_cons e_int a_nil)) (fun ds e => ⟨_, e, by decide⟩) (R := intP fun i => 0 ≤ i ∧ i < 12) (fun ds d e ⟨b, i, e1, e2, h1, h2⟩ => ?_)) am_nil))))) fun ds ⟨d1, _, e1, ⟨a, b, ed1, hab, za, zb⟩, d2, _, e2, ⟨x, y, ed2, hxy, zx, zy⟩, d3, _, e3, ⟨c, ed3, zc⟩, d4, _, e4, ⟨n, ed4, hn1, hn2⟩, d5, _, e5, ⟨k, ed5, hk1, hk2⟩, e6⟩ => ?_) m (fun ds ⟨a, b, x, y, c, n, k, e, _⟩ => ⟨_, _, _, _, _, e⟩)
      fun us ut ua un uk d1 d2 d3 d4 d5 G1 H1 ⟨a, b, x, y, c, n, k, e, hab, hxy, za, zb, zx, zy, zc, hn1, hn2, hk⟩ g1 m1 hs ht ha hn hk' => ?_
    · rw [e] at e1; cases e1; exact ⟨i, e2, h1, h2⟩
    · rw [e] at e1; cases e1; exact ⟨i, e2, h1, h2⟩
    · obtain ⟨k, rfl⟩ := Int.eq_ofNat_of_zero_le hk1
      exact ⟨a, b, x, y, c, n, k, by rw [e1, e2, e3, e4, e5, e6, ed1, ed2, ed3, ed4, ed5], hab, hxy, za, zb, zx, zy, zc, hn1, hn2, by omega⟩
    injection e with e1 e
    injection e with e2 e
    injection e with e3 e
    injection e with e4 e
    injection e with e5 _
    subst e1 e2 e3 e4 e5
    cases hn; cases hk'
    refine seg_one T T2 hr m1.gh hs hab za zb fun o6 o7 o8 o9 o10 G2 H2 n2 => ?_
    refine seg_two T T2 hr n2.gh (Dp.mono n2.g hs) (Dp.mono n2.g ht) hab hxy za zb zx zy fun v11 v12 v13 v15 o14 G3 H3 n3 h11 h12 h13 h15 => ?_
    have n23 := n2.trans n3
    refine seg_three T T2 hr (n := n) (k := k) n3.gh (Dp.mono n23.g hs) (Dp.mono n23.g ht) (Dp.mono n23.g ha) hab hxy za zb zx zy zc hn1 hn2 hk h11 h12 h13 h15 fun v10 r G4 H4 hrl n4 h10 => ?_
    have n24 := n23.trans n4
    have m4 := m1.step n24
    have hs := Dp.mono n24.g hs
    have ht := Dp.mono n24.g ht
    match r, hrl with
    | [r11, r12, r13, r14, r15, r16, r17, r18, r19, r20, r21, r22, r23, r24], _ =>
    refine sm_par 16 17 (Rs := fun ds => ∃ p r : Rat, ds = [rd p, rd r] ∧ a ≤ p ∧ p ≤ b ∧ x ≤ r ∧ r ≤ y ∧ Sz 100 p ∧ Sz 100 r) rfl sc__law_are_spans_due.nd (am_imp (am_cons (em_call 0 (ok__law_between T) (hr.mono (by decide)) (am_of (a_cons (e_ixT (e_var 1 hs) e_int rfl) (a_cons (e_ixT (e_var 1 hs) e_int rfl) a_nil))) (fun ds e => ⟨a, b, e, hab, za, zb⟩) (R := fun d => ∃ p : Rat, d = rd p ∧ a ≤ p ∧ p ≤ b ∧ Sz 100 p) (fun ds d e ⟨a', b', p, e1, e2, h1, h2, h3⟩ => ?_)) (am_cons (em_call 0 (ok__law_between T) (hr.mono (by decide)) (am_of (a_cons (e_ixT (e_var 2 ht) e_int rfl) (a_cons (e_ixT (e_var 2 ht) e_int rfl) a_nil))) (fun ds e => ⟨x, y, e, hxy, zx, zy⟩) (R := fun d => ∃ p : Rat, d = rd p ∧ x ≤ p ∧ p ≤ y ∧ Sz 100 p) (fun ds d e ⟨a', b', p, e1, e2, h1, h2, h3⟩ => ?_)) am_nil)) fun ds ⟨d1, _, e1, ⟨p, ep, p1, p2, p3⟩, d2, _, e2, ⟨r, er, r1, r2, r3⟩, e3⟩ => ⟨p, r, by rw [e1, e2, e3, ep, er], p1, p2, r1, r2, p3, r3⟩) m4 (fun ds ⟨p, r, e, _⟩ => ⟨_, _, e⟩)
      fun up ur d1 d2 G5 H5 ⟨p, r, e, p1, p2, r1, r2, zp, zr⟩ g5 m5 hp hr' => ?_
    · rw [e] at e1
      injection e1 with i1 i2
      injection i2 with i2 _
      have ea : a = a' := by have := congrArg qOf i1; rwa [qOf_rd, qOf_rd] at this
      have eb : b = b' := by have := congrArg qOf i2; rwa [qOf_rd, qOf_rd] at this
      subst ea eb
      exact ⟨p, e2, h1, h2, h3⟩
    · rw [e] at e1
      injection e1 with i1 i2
      injection i2 with i2 _
      have ea : x = a' := by have := congrArg qOf i1; rwa [qOf_rd, qOf_rd] at this
      have eb : y = b' := by have := congrArg qOf i2; rwa [qOf_rd, qOf_rd] at this
      subst ea eb
      exact ⟨p, e2, h1, h2, h3⟩
    injection e with e1 e
    injection e with e2 _
    subst e1 e2
    have h10 := Dp.mono g5 h10
    have t1 : (!decide (p + r < a + x) && !decide (b + y < p + r)) = true := by
      rw [decide_eq_false (by grind), decide_eq_false (by grind)]; rfl
    have t2 : (!decide (p - r < a - y) && !decide (b - x < p - r)) = true := by
      rw [decide_eq_false (by grind), decide_eq_false (by grind)]; rfl
    have fin : ∀ e : Expr, EM (cxOf CX0 P w K mg base N__law_are_spans_due "_law_are_spans_due" (defScope s__law_are_spans_due) f cdv A outer s H xk).nox e [some (.ref l), some us, some ut, some ua, some (.int n), some (.int k), o6, o7, o8, o9, some v10, r11, r12, r13, r14, r15, some up, some ur, r18, r19, r20, r21, r22, r23, r24] G5 l (· = .bool true) →
        ∀ pos rest, wB (cxOf CX0 P w K mg base N__law_are_spans_due "_law_are_spans_due" (defScope s__law_are_spans_due) f cdv A outer s H xk).nox (.Return (some e) pos :: rest) { nx := fun _ H' => Q .non H', rt := Q } [some (.ref l), some us, some ut, some ua, some (.int n), some (.int k), o6, o7, o8, o9, some v10, r11, r12, r13, r14, r15, some up, some ur, r18, r19, r20, r21, r22, r23, r24] H5 := fun e h pos rest =>
      sm_ret h m5 fun v d G6 H6 er g6 m6 hv => q v d G6 H6 er (((g1.trans n24.g).trans g5).trans g6) m6 hv
    refine fin _ (em_of (e_is (e_and (k := true) (e_is (e_call (ok__law_in T) (hr.mono (by decide)) (a_cons (e_ixL (e_var 10 h10) e_int rfl) (a_cons (e_call (ok__law_add T) (hr.mono (by decide)) (a_cons (e_var 16 hp) (a_cons (e_var 17 hr') a_nil)) ⟨p, r, rfl, zp.mono (by decide), zr.mono (by decide), rfl⟩) a_nil)) ⟨a + x, b + y, p + r, rfl, (sz_add za zx (k := 36) (by decide)).mono (by decide), (sz_add zb zy (k := 36) (by decide)).mono (by decide), sz_add zp zr (by decide), rfl⟩) (by rw [t1])) fun _ =>
      e_and (k := true) (e_is (e_call (ok__law_in T) (hr.mono (by decide)) (a_cons (e_ixL (e_var 10 h10) e_int rfl) (a_cons (e_call (ok__law_sub T) (hr.mono (by decide)) (a_cons (e_var 16 hp) (a_cons (e_var 17 hr') a_nil)) ⟨p, r, rfl, zp.mono (by decide), zr.mono (by decide), rfl⟩) a_nil)) ⟨a - y, b - x, p - r, rfl, (sz_sub za zy (k := 36) (by decide)).mono (by decide), (sz_sub zb zx (k := 36) (by decide)).mono (by decide), sz_sub zp zr (by decide), rfl⟩) (by rw [t2])) fun _ =>
      e_one (e_is (e_or (l := true) (e_isi T.b_isinstance T.b_str (by decide +kernel) (e_ixL (e_var 10 h10) e_int (d := outD (q_pow a b n)) rfl) (kit_str _)) fun h1 => e_is (e_or (l := true) (e_lt (e_var 4 (.int _)) e_int) fun h2 => e_one ?_) (by simp)) (by simp))) rfl)) _ _
    have h2 : ¬ n < 0 := of_decide_eq_false h2
    obtain ⟨N, rfl⟩ : ∃ N : Nat, n = (N : Int) := ⟨n.toNat, by omega⟩
    have hN : N ≤ 4 := by omega
    have pin := pow_in hN p1 p2
    have zpp : Sz 400 (p ^ N) := sz_pow' zp (by omega) (by decide)
    obtain ⟨zq1, zq2⟩ := sz_p0 (k := N) (n := 100) za zb (by omega) (by decide)
    refine e_is (e_call (ok__law_in T) (hr.mono (by decide)) (a_cons (e_ixL (e_var 10 h10) e_int (d := sp2 (p0 a b N).1 (p0 a b N).2) (by show some (outD (q_pow a b N)) = _; rw [q_pow_nn]; rfl)) (a_cons (e_call (ok__law_power T) (hr.mono (by decide)) (a_cons (e_var 16 hp) (a_cons (e_var 4 (.int _)) a_nil)) ⟨p, N, 100, rfl, by decide, zp, by omega, by decide, rfl⟩) a_nil)) ⟨_, _, p ^ N, rfl, zq1.mono (by decide), zq2.mono (by decide), zpp.mono (by decide), rfl⟩) ?_
    rw [decide_eq_false (by have := pin.1; grind), decide_eq_false (by have := pin.2; grind)]; rfl
end
end K01

/-! D26: list(d.values()), dict(pairs), what a list has. -/
namespace DL
open PySem PySem.Spec PyProof.Rows SX
open L2 hiding Dp DpAll
def tListVals (te : TE) : TE := fun σ H Q => te σ H fun x H1 => ∃ d kvs, x = V.ref d ∧ Rd H1 d (.dK kvs) ∧ ∀ p, H1 p = none → Q (.ref p) (upd H1 p (.lst (kvs.map (·.2))))
section
variable {X : Cx} {e : Expr} {te : TE} {p apos cpos pos : Pos}
theorem pe_listVals (hc : X.calm = true) (he : PE X e te) (hg : Gl X "list") (hm : X.mg "list" = none) (hv : bootBuiltins "list" = some (.type "list")) (hbase : attributeBase e "values" X.env (eval e X.env) = eval e X.env := by rfl) (hline : (apos.endLine == cpos.line) = true := by rfl)
    (hs : starEach [.Call (.Attribute e "values" apos) [] [] cpos] X.env = (false, eval (.Call (.Attribute e "values" apos) [] [] cpos) X.env) :: starEach [] X.env := by rfl) :
    PE X (.Call (.Name "list" p) [.Call (.Attribute e "values" apos) [] [] cpos] [] pos) (tListVals te) := by
  refine ⟨fun pins s σ H Q I hq => ?_⟩
  refine wpAny_Call_Name_kw (ld_blt I hg hm hv ?_)
  refine PyProof.Rows.callWith_type1 ?_ hs rfl
  rw [hs]
  show wpAny _ _ (spliced ((false, eval (.Call (.Attribute e "values" apos) [] [] cpos) X.env) :: backTo pos (starEach [] X.env))) _ _ s
  refine Calls.spliced_cons ?_
  refine wpAny_Call_method (T := "dict") (id := "dict.values") hbase rfl hline PySem.F.plainAttrs_dict PySem.F.slot_dict_values PySem.F.type_dict_values (thn (he.run pins s σ H _ I hq) fun u s1 ⟨x, H1, I1, rx, d, kvs, ex, hd, q⟩ => ?_)
  subst ex
  obtain rfl : u = Value.ref d := rx
  obtain ⟨hz, hs0, vs, kv, hdo⟩ := dk_rd I1.hok hd
  obtain ⟨ep, hat⟩ := hdo.dictAt
  have lk : kvs.length = vs.length := Paired.length kv
  have I2 : Inv X pins σ H1 { s1 with heap := s1.heap.push { cls := .type "dict_values", data := .fields #[.ref d] } } := I1.kept (t' := s1.toks) fun b ob q => Heap.get?_push_of_some _ q
  refine ⟨hdo.typeIs, hdo.mapOf.noDict, ?_⟩
  show wpAny _ _ (callWith cpos (.builtin "dict.values") [.ref d] [] []) _ X.xe s1
  refine method_meetsIn PySem.F.slot_dict_values PySem.F.entry_dict_values rfl (PySem.evalArgs_none ⟨rfl, hdo.typeIs, PySem.F.args_dict_values_1 _, _, meets_dict_values (mixKind X.prog X.w) d hs0, ⟨vs, hdo⟩, ?_⟩)
  refine Calls.spliced_nil ?_
  refine PySem.W.kdl_call (PySem.W.kdl_values (knd := mixKind X.prog X.w) (kvs := vs) (ep := ep)) (I1.ok.hd hc) ⟨⟨_, Heap.get?_push_size _ rfl, rfl, rfl⟩, hat.push _⟩ (by omega) fun h' tk acc c hk hS hacc => ?_
  refine ⟨.ref _, upd H1 _ (.lst (kvs.map (·.2))), I2.laid (t' := tk) hk (Nat.le_refl _) (show ObjOk X.prog X.w _ _ _ (.lst (kvs.map (·.2))) from ⟨by rw [List.length_map]; exact hz, acc.toList, c, ?_, ?_⟩), rfl, q _ (I2.hok.fresh (Nat.le_refl _))⟩
  · have el : acc.toList.length = acc.size := by simp
    refine vals_of_at (by rw [List.length_map, el, hacc.1, lk]) fun j x w h1 h2 => ?_
    obtain ⟨k, hky⟩ := hacc.2 j w (by rw [← Array.getElem?_toList]; exact h2)
    obtain ⟨y, e1, e2⟩ := KV.at' kv hky
    rw [List.getElem?_map, e1] at h1
    cases h1
    exact e2
  · rw [Array.toArray_toList]; exact hS
end
section
variable {X : Cx} {σ : L2.St} {G H : Hp} {a b e : Expr} {pos p apos cpos : Pos} {kvs : List (Key × D)} {ds : List D} {d : D}
theorem e_listV (hc : X.calm = true) (hm : X.mg "list" = Option.none) (ha : E X e σ G (mkD kvs)) (hg : Gl X "list" := by rfl) (hbase : attributeBase e "values" X.env (eval e X.env) = eval e X.env := by rfl) (hline : (apos.endLine == cpos.line) = true := by rfl)
    (hs : starEach [.Call (.Attribute e "values" apos) [] [] cpos] X.env = (false, eval (.Call (.Attribute e "values" apos) [] [] cpos) X.env) :: starEach [] X.env := by rfl) : E X (.Call (.Name "list" p) [.Call (.Attribute e "values" apos) [] [] cpos] [] pos) σ G (.list (kvs.map (·.2))) := fun G1 H1 g gh Q q =>
  ⟨_, pe_listVals hc pe_w hg hm (by decide +kernel) hbase hline hs, ha G1 H1 g gh _ fun u G2 H2 n2 hu => by
    obtain ⟨p, o, xs, rfl, hp, hx⟩ := Dp.mk_inv hu
    refine ⟨p, xs, rfl, .inr ⟨o, n2.gh _ _ hp⟩, fun r hr => ?_⟩
    have nx := Nx.new (o := .lst (xs.map (·.2))) n2.gh hr
    exact q _ _ _ (n2.trans nx) (.lst (Evl.sq_of upd_same) (DpAll.mono nx.g (DpKV.inv hx).2))⟩
/-- d in ds, deep -/
theorem t_inD (hu : X.A.units + 65 < cLine) (ha : E X a σ G d) (hb : E X b σ G (.list ds)) (s1 : SeqAt.shaped d = true) (s2 : SeqAt.shaped (.list ds) = true) (n1 : noDc d = true) (n2 : noDc (.list ds) = true) (hm : behindInMarks .In b = false := by rfl) : T X (.Compare a [.In] [b] pos) σ G (ds.any fun z => PyData.eqv z d) :=
  t_cmp (op_inD hu) hm ha hb fun u v G1 H1 _ gh hu hv Q q => ⟨d, ds, Dp.old (Dp.mono gh hu) n1, Dp.old (Dp.mono gh hv) n2, s1, s2, q⟩
theorem merge_id : ∀ (r acc : List (Key × V)), ((acc ++ r).map (·.1)).Nodup → mergeK acc r = acc ++ r
  | [], acc, _ => by rw [List.append_nil]; rfl
  | p :: r, acc, h => by
    have h2 : ¬ p.1 ∈ acc.map (·.1) := by
      rw [List.map_append, List.nodup_append] at h
      exact fun m => h.2.2 _ m p.1 (by rw [List.map_cons]; exact List.mem_cons_self ..) rfl
    show mergeK (putK acc p.1 p.2) r = _
    rw [putK_new p.2 (valV_none h2), merge_id r (acc ++ [(p.1, p.2)]) (by rw [List.append_assoc]; exact h), List.append_assoc]
    rfl
theorem paired_imp {α β : Type} {R R' : α → β → Prop} (h : ∀ a b, R a b → R' a b) {xs : List α} {ys : List β} (p : Paired R xs ys) : Paired R' xs ys := by
  induction p with
  | nil => exact .nil
  | cons r t ih => exact .cons (h _ _ r) ih
/-- pairs, known -/
theorem pairs_inv {K : PySem.W.Frag} : ∀ {vs : List V} {l : List (Key × D)}, DpAll K H vs (l.map fun p => PyData.tuple [kD p.1, p.2]) → ∃ (ps : List Addr) (xs : List (Key × V)), vs = ps.map V.ref ∧ Paired (fun p kv => SqT K H p [kV kv.1, kv.2]) ps xs ∧ xs.map (·.1) = l.map (·.1) ∧ DpAll K H (xs.map (·.2)) (l.map (·.2))
  | [], [], _ => ⟨[], [], rfl, .nil, rfl, .nil⟩
  | v :: vs, p :: l, h => by
    cases h with
    | cons h r =>
      obtain ⟨ps, xs, e, pr, ek, dv⟩ := pairs_inv r
      obtain ⟨a, ws, rfl, ht, hw⟩ := Dp.tup_inv h
      obtain ⟨u, w, e3, hu, hw2⟩ := all2 hw
      subst e3
      obtain rfl := Dp.key hu
      exact ⟨a :: ps, (p.1, w) :: xs, by rw [e]; rfl, .cons ht pr, by rw [List.map_cons, List.map_cons, ek], .cons hw2 dv⟩
  | [], _ :: _, h => by cases h
  | _ :: _, [], h => by cases h
/-- dict(pairs) -/
theorem e_dictP {l : List (Key × D)} (hc : X.calm = true) (hm : X.mg "dict" = Option.none) (hnd : (l.map (·.1)).Nodup) (ha : E X a σ G (.list (l.map fun p => PyData.tuple [kD p.1, p.2]))) (hg : Gl X "dict" := by rfl) (he : starEach [a] X.env = (false, eval a X.env) :: starEach [] X.env := by rfl) (hpl : (backTo pos (starEach [] X.env)).any (·.1) = false := by rfl) : E X (.Call (.Name "dict" p) [a] [] pos) σ G (mkD l) := fun G1 H1 g gh Q q =>
  ⟨_, pe_frz (pe_callTy (call_dictP hc) hg hm (by decide +kernel) pa_w (by decide) (by decide) he hpl), a_cons ha a_nil he G1 H1 g gh _ fun us G2 H2 n2 hu => by
    obtain ⟨u, rfl, h⟩ := all1 hu
    obtain ⟨b, vs, rfl, hl, hv⟩ := Dp.lst_inv h
    obtain ⟨ps, xs, e, pr, ek, dv⟩ := pairs_inv hv
    subst e
    have em : mergeK [] xs = xs := merge_id xs [] (by rw [List.nil_append, ek]; exact hnd)
    refine ⟨b, ps, xs, rfl, Evl.ex_l n2.gh hl, ?_, fun r hr => ?_⟩
    · exact paired_imp (fun p kv h => Evl.ex_t n2.gh h) pr
    · rw [em]
      refine ⟨r, xs, upd_same, fun o => ?_⟩
      have L := (Own.start (u := .dK xs) n2.gh hr).put (w := .frz o (.dK xs))
      refine q _ _ _ (n2.trans L.done) (.dic (o := o) (kvs := xs) upd_same (DpKV.mk' ek (DpAll.mono (Evl.Ex.new L.gl) dv)))⟩
end
end DL

/-! D27: drawn comprehensions, drawn dicts, slices, displays of dicts, places in lists. -/
namespace DL
open PySem PySem.Spec PyProof.Rows SX
open L2 hiding Dp DpAll
/-- without the object at p -/
def offH (G : Hp) (p : Addr) : Hp := fun a => if a = p then Option.none else G a
theorem offH_ne {G : Hp} {p a : Addr} (h : a ≠ p) : offH G p a = G a := if_neg h
theorem offH_at {G : Hp} {p : Addr} : offH G p p = Option.none := if_pos rfl
mutual
/-- tuples of scalars, no list, no dict -/
def noLs : D → Bool
  | .tuple xs => noLss xs
  | .list _ => false
  | .dict _ => false
  | .none => true
  | .bool _ => true
  | .int _ => true
  | .str _ => true
def noLss : List D → Bool
  | [] => true
  | d :: r => noLs d && noLss r
end
section
variable {K : PySem.W.Frag} {G G' : Hp} {p : Addr} {ws : List V}
mutual
theorem Dp.off (hp : G p = some (.lst ws)) (hg : ∀ a, a ≠ p → G' a = G a) : ∀ {v : V} {d : D}, Dp K G v d → noLs d = true → Dp K G' v d
  | _, _, .non, _ => .non
  | _, _, .bl b, _ => .bl b
  | _, _, .int i, _ => .int i
  | _, _, .str x, _ => .str x
  | _, _, .lst h r, n => by rw [noLs] at n; cases n
  | _, _, .dic h r, n => by rw [noLs] at n; cases n
  | _, _, .tup (a := a) h r, n => by
    rw [noLs] at n
    refine .tup ?_ (DpAll.off hp hg r n)
    rcases h with h | h
    · left
      rcases h with h | ⟨o, h⟩
      · left
        have ha : a ≠ p := fun z => by rw [z, hp] at h; cases h
        rw [hg a ha]; exact h
      · right
        have ha : a ≠ p := fun z => by rw [z, hp] at h; cases h
        exact ⟨o, by rw [hg a ha]; exact h⟩
    · exact .inr h
theorem DpAll.off (hp : G p = some (.lst ws)) (hg : ∀ a, a ≠ p → G' a = G a) : ∀ {vs : List V} {ds : List D}, DpAll K G vs ds → noLss ds = true → DpAll K G' vs ds
  | _, _, .nil, _ => .nil
  | _, _, .cons h r, n => by
    rw [noLss, Bool.and_eq_true] at n
    exact .cons (Dp.off hp hg h n.1) (DpAll.off hp hg r n.2)
end
end
section
variable {X : Cx} {σ : L2.St} {G H : Hp} {l : Addr} {a b e elt iter : Expr} {pos p p2 tpos apos cpos : Pos} {x : Str} {j : Nat} {scope : Scope} {xs ds : List D} {d : D}
/-- [elt for x in ..], elt drawn -/
theorem em_lcO {n : Nat} {R : Nat → D → Prop} (hcalm : X.calm = true) (hN : X.N.Nodup) (ov : Over X (.Name x tpos) iter σ G xs) (hn : xs.length = n) (hn2 : n ≤ 1000) (ok : BlkOk X.N X.env.scope scope [(x, j)])
    (hg : ∀ s H C cl fp, PG (blkX X scope s H C cl fp) (.Name x tpos) (gName j))
    (he : ∀ (i : Nat) (v : V) (d : D) (G' : Hp), xs[i]? = some d → Ex G G' → Dp X.K G' v d → ∀ s H0 C cl fp, EM (blkX X scope s H0 C cl fp) elt (σ.set j (some v)) G' l (R i)) (hR : ∀ i d, R i d → noLs d = true)
    (hs : ∀ y, foldedSetIterable iter X.env y = pure y := by intro _; rfl) {lpos : Pos} :
    EM X (.ListComp elt [⟨.Name x tpos, iter, [], 0⟩] scope lpos) σ G l (fun d => ∃ ds, d = .list ds ∧ ds.length = n ∧ ∀ i d, ds[i]? = some d → R i d) := by
  obtain ⟨wi, hpi, ov⟩ := ov
  refine fun G1 H1 g m Q q => ⟨_, pe_lc (own := [(x, j)]) (te := wBE X scope elt) (tt := tYes) hcalm hN hpi ok hg (fun _ _ _ _ _ => pts_nil) pe_wBE hs, ov G1 H1 g m.gh _ fun J G2 H2 vx n2 hv io Dl hD => ?_⟩
  have m2 := m.step n2
  have hlen : vx.length = n := by rw [DpAll.len hv, hn]
  obtain ⟨ns0, hl0⟩ := m2.hl
  have hlD : l ≠ Dl := fun z => by rw [z, hD] at hl0; cases hl0
  have gD : G2 Dl = Option.none := Evl.fresh_back m2.gh hD
  refine lc_gen (n := n) (val := fun i x => vx[i]? = some x) (fun i H' => ∃ G' vs ds, Ex G2 G' ∧ MO G' H' l ∧ G' Dl = Option.none ∧ H' Dl = some (.lst vs) ∧ DpAll X.K G' vs ds ∧ ds.length = i ∧ ∀ k d, ds[k]? = some d → R k d) ⟨G2, [], [], Evl.Ex.refl _, ?_, gD, upd_same, .nil, rfl, fun k d z => by cases k <;> cases z⟩ (fun i H' hi ⟨G', vs, ds, g', m', _⟩ => io.go i H' (g'.trans m'.gh) (by omega)) (fun H' ⟨G', vs, ds, g', m', _⟩ => by have := io.stop H' (g'.trans m'.gh); rw [hlen] at this; exact this)
    (fun i H' y H'' hi ⟨G', vs, ds, g', m', _⟩ yy => io.yld i H' y H'' (g'.trans m'.gh) yy) (fun i v H' hi hvi Pi => ⟨wipe1 σ j _, ?_⟩) fun H' ⟨G', vs, ds, g', m', gl', hl', dv, hi, hr⟩ => ?_
  · exact ⟨m2.gh.trans (Evl.Ex.new hD), m2.gl, ns0, by rw [upd_ne hlD]; exact hl0⟩
  · obtain ⟨d, hd, dv⟩ := DpAll.getV hv hvi
    obtain ⟨G', vs, ds, g', m', gl', hl', dvs, hli, hr⟩ := Pi
    refine tyes ?_
    rw [show List.map (fun x : Str × Nat => x.snd) [(x, j)] = [j] from rfl, wipeset]
    have gE : Ex G' (upd G' Dl (.lst vs)) := Evl.Ex.new gl'
    have mE : MO (upd G' Dl (.lst vs)) H' l := ⟨fun a u q => by
      by_cases z : a = Dl
      · subst z; rw [upd_same] at q; rw [← q]; exact hl'
      · rw [upd_ne z] at q; exact m'.gh a u q, by rw [upd_ne hlD]; exact m'.gl, m'.hl⟩
    refine fun s H0 C cl fp => he i v d G2 hd (g.trans n2.g) dv s H0 C cl fp (upd G' Dl (.lst vs)) H' (g'.trans gE) mE _ fun y d3 G3 H3 r3 g3 m3 hy => ?_
    have hD3 : G3 Dl = some (.lst vs) := g3 _ _ upd_same
    have hD3' : H3 Dl = some (.lst vs) := m3.gh _ _ hD3
    have hG4 : ∀ a, a ≠ Dl → offH G3 Dl a = G3 a := fun a h => offH_ne h
    have hG4D : offH G3 Dl Dl = Option.none := offH_at
    refine ⟨vs, hD3', Evl.sz_lt (by rw [DpAll.len dvs]; omega), offH G3 Dl, vs ++ [y], ds ++ [d3], ?_, ?_, hG4D, upd_same, ?_, by rw [List.length_append, hli]; rfl, ?_⟩
    · intro a u q
      have ha : a ≠ Dl := fun z => by rw [z, gD] at q; cases q
      rw [hG4 a ha]
      exact g3 _ _ (gE _ _ (g' _ _ q))
    · obtain ⟨ns3, hl3⟩ := m3.hl
      refine ⟨fun a u q => ?_, by rw [hG4 l hlD]; exact m3.gl, ns3, by rw [upd_ne hlD]; exact hl3⟩
      have ha : a ≠ Dl := fun z => by rw [z, hG4D] at q; cases q
      rw [hG4 a ha] at q
      rw [upd_ne ha]
      exact m3.gh a u q
    · refine DpAll.append (DpAll.mono ?_ dvs) (.cons (Dp.off hD3 hG4 hy (hR i d3 r3)) .nil)
      intro a u q
      have ha : a ≠ Dl := fun z => by rw [z, gl'] at q; cases q
      rw [hG4 a ha]
      exact g3 _ _ (gE _ _ q)
    · intro k d hk
      by_cases hki : k < ds.length
      · rw [List.getElem?_append_left hki] at hk; exact hr k d hk
      · have hkl := (List.getElem?_eq_some_iff.mp hk).1
        rw [List.length_append] at hkl
        simp only [List.length_singleton] at hkl
        have hke : k = i := by omega
        subst hke
        rw [List.getElem?_append_right (by omega), hli, Nat.sub_self] at hk
        injection hk with hk
        rw [← hk]; exact r3
  · refine q (.ref Dl) (.list ds) (upd G' Dl (.lst vs)) H' ⟨ds, rfl, hi, hr⟩ ?_ ?_ (.lst (Evl.sq_of upd_same) (DpAll.mono (Evl.Ex.new gl') dv))
    · exact n2.g.trans (g'.trans (Evl.Ex.new gl'))
    · exact ⟨fun a u q => by
        by_cases z : a = Dl
        · subst z; rw [upd_same] at q; rw [← q]; exact hl'
        · rw [upd_ne z] at q; exact m'.gh a u q, by rw [upd_ne hlD]; exact m'.gl, m'.hl⟩
/-- dict(pairs), drawn -/
theorem em_dictP {Rl : List (Key × D) → Prop} (hc : X.calm = true) (hm : X.mg "dict" = Option.none) (ha : EM X a σ G l (fun d => ∃ kvs : List (Key × D), d = .list (kvs.map fun p => PyData.tuple [kD p.1, p.2]) ∧ (kvs.map (·.1)).Nodup ∧ Rl kvs)) (hg : Gl X "dict" := by rfl) (he : starEach [a] X.env = (false, eval a X.env) :: starEach [] X.env := by rfl) (hpl : (backTo pos (starEach [] X.env)).any (·.1) = false := by rfl) : EM X (.Call (.Name "dict" p) [a] [] pos) σ G l (fun d => ∃ kvs, d = mkD kvs ∧ (kvs.map (·.1)).Nodup ∧ Rl kvs) := fun G1 H1 g m Q q =>
  ⟨_, pe_frz (pe_callTy (call_dictP hc) hg hm (by decide +kernel) pa_w (by decide) (by decide) he hpl), am_cons ha am_nil he G1 H1 g m _ fun us ds G2 H2 ⟨d1, _, e1, ⟨kvs, e2, hnd, hr⟩, e3⟩ g2 m2 hu => by
    subst e1 e2 e3
    obtain ⟨u, rfl, h⟩ := all1 hu
    obtain ⟨b, vs, rfl, hl, hv⟩ := Dp.lst_inv h
    obtain ⟨ps, xs, e, pr, ek, dv⟩ := pairs_inv hv
    subst e
    have em : mergeK [] xs = xs := merge_id xs [] (by rw [List.nil_append, ek]; exact hnd)
    refine ⟨b, ps, xs, rfl, Evl.ex_l m2.gh hl, paired_imp (fun p kv h => Evl.ex_t m2.gh h) pr, fun r hr' => ?_⟩
    rw [em]
    refine ⟨r, xs, upd_same, fun o => ?_⟩
    have L := (Own.start (u := .dK xs) m2.gh hr').put (w := .frz o (.dK xs))
    exact q _ _ _ _ ⟨kvs, rfl, hnd, hr⟩ (g2.trans L.done.g) (m2.step L.done) (.dic (o := o) (kvs := xs) upd_same (DpKV.mk' ek (DpAll.mono (Evl.Ex.new L.gl) dv)))⟩
theorem DpAll.take {K : PySem.W.Frag} {H : Hp} : ∀ {vs : List V} {ds : List D} (k : Nat), DpAll K H vs ds → DpAll K H (vs.take k) (ds.take k)
  | _, _, 0, _ => by rw [List.take_zero, List.take_zero]; exact .nil
  | [], [], k + 1, _ => .nil
  | _, _, k + 1, .cons h r => .cons h (DpAll.take k r)
theorem cutV_hi (xs : List V) (k : Nat) : cutV xs Option.none (some (k : Int)) = xs.take k := by
  unfold cutV
  have e1 : HT.sIx xs.length 0 Option.none = 0 := rfl
  rw [e1, List.drop_zero, Nat.sub_zero]
  have e2 : HT.sIx xs.length xs.length (some (k : Int)) = min k xs.length := by
    unfold HT.sIx
    simp
    omega
  rw [e2]
  by_cases h : k ≤ xs.length
  · rw [Nat.min_eq_left h]
  · rw [Nat.min_eq_right (by omega), List.take_of_length_le (Nat.le_refl _), List.take_of_length_le (by omega)]
/-- a[:b], b drawn -/
theorem em_slHi {P : Nat → Prop} (ha : E X a σ G (.list ds)) (hb : EM X b σ G l (intP fun i => ∃ k : Nat, i = (k : Int) ∧ P k)) : EM X (.Subscript a (.Slice none (some b) none p2) pos) σ G l (fun d => ∃ k : Nat, P k ∧ d = .list (ds.take k)) := fun G1 H1 g m Q q =>
  ⟨_, pe_slice sl_list pe_w po_none (po_some pe_w), ha G1 H1 g m.gh _ fun u G2 H2 n2 hu => hb G2 H2 (g.trans n2.g) (m.step n2) _ fun v d' G3 H3 ⟨i, e, k, ei, pk⟩ g3 m3 hv => by
    subst e ei
    cases hv
    obtain ⟨c, vx, rfl, hl, hx⟩ := Dp.lst_inv (Dp.mono g3 hu)
    refine ⟨(k : Int), rfl, c, vx, rfl, Evl.ex_l m3.gh hl, fun r hr => ?_⟩
    rw [cutV_hi]
    have nn := Nx.new (o := .lst (vx.take k)) m3.gh hr
    exact q _ _ _ _ ⟨k, pk, rfl⟩ ((n2.g.trans g3).trans nn.g) (m3.step nn) (.lst (Evl.sq_of upd_same) (DpAll.mono nn.g (DpAll.take k hx)))⟩
/-- l.index(x) -/
theorem e_index {k : Nat} {z : D} (hu : X.A.units + 65 < cLine) (ha : E X a σ G (.list ds)) (hb : E X b σ G d) (s1 : SeqAt.shaped (.list ds) = true) (s2 : SeqAt.shaped d = true) (n1 : noDc (.list ds) = true) (n2 : noDc d = true) (hz : ds[k]? = some z) (hk : PyData.eqv z d = true) (hno : ∀ (m : Nat) (z' : PyData), m < k → ds[m]? = some z' → PyData.eqv z' d = false)
    (hbase : attributeBase a "index" X.env (eval a X.env) = eval a X.env := by rfl)
    (hfew : ((backTo cpos (starEach [b] X.env)).all (fun x => !x.1) && (backToKw cpos (keywordEach [] X.env)).all (fun x => x.1.isSome)
      && decide (([b] : List Expr).length + ([] : List Keyword).length + (if ([] : List Keyword).isEmpty then 0 else 1) < 30)) = true := by rfl)
    (hline : (apos.endLine == cpos.line) = true := by rfl) (hst : starEach [b] X.env = (false, eval b X.env) :: starEach [] X.env := by rfl) (hplain : (backTo cpos (starEach [] X.env)).any (·.1) = false := by rfl) :
    E X (.Call (.Attribute a "index" apos) [b] [] cpos) σ G (.int (k : Nat)) := fun G1 H1 g gh Q q =>
  ⟨_, pe_bm PySem.F.plainAttrs_list PySem.F.slot_list_index PySem.F.type_list_index (mt_indexD hu) pe_w (pa_cons pe_w pa_nil hst) hbase hfew hline hst hplain, ha G1 H1 g gh _ fun u G2 H2 n2' hu => by
    have hu0 := hu
    obtain ⟨c, vx, rfl, hl, hx⟩ := Dp.lst_inv hu
    refine ⟨.inl ⟨rfl, vx, Evl.ex_l n2'.gh hl⟩, hb G2 H2 (g.trans n2'.g) n2'.gh _ fun v G3 H3 n3 hv => ?_⟩
    exact ⟨c, v, d, ds, k, z, rfl, rfl, Dp.old (Dp.mono n3.gh (Dp.mono n3.g hu0)) n1, Dp.old (Dp.mono n3.gh hv) n2, s1, s2, hz, hk, hno, q _ G3 H3 (n2'.trans n3) (.int _)⟩⟩
end
end DL

/-! D28: dicts displayed; two dicts copied, and changed. -/
namespace DL
open PySem PySem.Spec PyProof.Rows SX
open L2 hiding Dp DpAll
structure Own2 (G H : Hp) (p1 p2 : Addr) (G' H' : Hp) (u1 u2 : HO) : Prop where
  g : Ex G G'
  h : Ex H H'
  g1 : G' p1 = Option.none
  g2 : G' p2 = Option.none
  gh : Ex G' H'
  fr : ∀ a, G' a ≠ Option.none → G a ≠ Option.none ∨ H a = Option.none
  h1 : H' p1 = some u1
  h2 : H' p2 = some u2
  z1 : H p1 = Option.none
  z2 : H p2 = Option.none
  ne : p1 ≠ p2
section
variable {G H G' H' G'' H'' : Hp} {p1 p2 : Addr} {u1 u2 w : HO}
theorem Own.more (x : Own G H p1 G' H' u1) (hp : H' p2 = Option.none) : Own2 G H p1 p2 G' (upd H' p2 u2) u1 u2 :=
  have hne : p1 ≠ p2 := fun z => by have := x.hl; rw [z, hp] at this; cases this
  ⟨x.g, x.h.trans (Evl.Ex.new hp), x.gl, Evl.fresh_back x.gh hp, x.gh.trans (Evl.Ex.new hp), x.fr, by rw [upd_ne hne]; exact x.hl, upd_same, x.h0, Evl.fresh_back x.h hp, hne⟩
theorem Own2.step (x : Own2 G H p1 p2 G' H' u1 u2) (n : Nx G' H' G'' H'') : Own2 G H p1 p2 G'' H'' u1 u2 :=
  ⟨x.g.trans n.g, x.h.trans n.h, (n.beside x.g1 x.h1).1, (n.beside x.g2 x.h2).1, n.gh, fun a q => by
    rcases n.fr a q with z | z
    · exact x.fr a z
    · exact .inr (Evl.fresh_back x.h z), (n.beside x.g1 x.h1).2, (n.beside x.g2 x.h2).2, x.z1, x.z2, x.ne⟩
theorem Own2.put1 (x : Own2 G H p1 p2 G' H' u1 u2) : Own2 G H p1 p2 G' (upd H' p1 w) w u2 :=
  ⟨x.g, Evl.Ex.mut x.h x.z1, x.g1, x.g2, fun a u q => by
    rw [upd_ne (fun z => by rw [z, x.g1] at q; cases q)]
    exact x.gh a u q, x.fr, upd_same, by rw [upd_ne (fun z => x.ne z.symm)]; exact x.h2, x.z1, x.z2, x.ne⟩
theorem Own2.put2 (x : Own2 G H p1 p2 G' H' u1 u2) : Own2 G H p1 p2 G' (upd H' p2 w) u1 w :=
  ⟨x.g, Evl.Ex.mut x.h x.z2, x.g1, x.g2, fun a u q => by
    rw [upd_ne (fun z => by rw [z, x.g2] at q; cases q)]
    exact x.gh a u q, x.fr, by rw [upd_ne x.ne]; exact x.h1, upd_same, x.z1, x.z2, x.ne⟩
theorem Own2.ext (x : Own2 G H p1 p2 G' H' u1 u2) : Ex G' (upd (upd G' p1 u1) p2 u2) :=
  (Evl.Ex.new x.g1).trans (Evl.Ex.new (by rw [upd_ne (fun z => x.ne z.symm)]; exact x.g2))
theorem Own2.done (x : Own2 G H p1 p2 G' H' u1 u2) : Nx G H (upd (upd G' p1 u1) p2 u2) H' :=
  ⟨x.g.trans x.ext, x.h, fun a u q => by
    by_cases z : a = p2
    · subst z; rw [upd_same] at q; rw [← q]; exact x.h2
    · rw [upd_ne z] at q
      by_cases z : a = p1
      · subst z; rw [upd_same] at q; rw [← q]; exact x.h1
      · rw [upd_ne z] at q; exact x.gh a u q, fun a q => by
    by_cases z : a = p2
    · subst z; exact .inr x.z2
    · rw [upd_ne z] at q
      by_cases z : a = p1
      · subst z; exact .inr x.z1
      · rw [upd_ne z] at q; exact x.fr a q⟩
end
/-- one value put -/
def setK (l : List (Key × D)) (k : Key) (d : D) : List (Key × D) := l.map fun p => if p.1 = k then (p.1, d) else p
theorem DpKV.put {K : PySem.W.Frag} {H : Hp} {xs : List (Key × V)} {kvs : List (Key × D)} {k : Key} {v : V} {d : D} (h : DpKV K H xs (kvs.map fun p => (kD p.1, p.2))) (hv : Dp K H v d) (hk : k ∈ kvs.map (·.1)) : DpKV K H (putK xs k v) ((setK kvs k d).map fun p => (kD p.1, p.2)) := by
  have hks := (DpKV.inv h).1
  have ha : (xs.any fun kv => decide (kv.1 = k)) = true := by
    rw [← hks] at hk
    obtain ⟨p, hp, e⟩ := List.mem_map.mp hk
    exact List.any_eq_true.mpr ⟨p, hp, decide_eq_true e⟩
  unfold putK
  rw [if_pos ha]
  clear ha hk hks
  induction kvs generalizing xs with
  | nil => cases h; exact .nil
  | cons p kvs ih =>
    obtain ⟨w, r, rfl, hw, hr⟩ := DpKV.cons_inv (k := p.1) (d := p.2) h
    show DpKV K H ((if p.1 = k then (p.1, v) else (p.1, w)) :: _) ((kD (if p.1 = k then (p.1, d) else p).1, (if p.1 = k then (p.1, d) else p).2) :: _)
    by_cases e : p.1 = k
    · rw [if_pos e, if_pos e]; exact .cons hv (ih hr)
    · rw [if_neg e, if_neg e]; exact .cons hw (ih hr)
section
variable {X : Cx} {σ : L2.St} {G H : Hp} {a a2 b1 b2 k1 k2 e1 e2 : Expr} {pos pos2 p q1 q2 : Pos} {kvs : List (Key × D)} {key ky ky2 : Key} {d1 d2 : D} {rest : List Stmt} {Z : Ends}
theorem e_disp1 (hk : E X k1 σ G (kD ky)) (he : E X e1 σ G d1) : E X (.Dict [some k1] [e1] pos) σ G (mkD [(ky, d1)]) := fun G1 H1 g gh Q q =>
  ⟨_, pe_frz (pe_disp (pps_cons pe_w pe_w pps_nil) rfl rfl (by simp) (by simp)), fun p hp => by
    have L0 := Own.start (u := .dK []) gh hp
    refine hk G1 _ g L0.gh _ fun u G2 H2 n2 hu => he G2 H2 (g.trans n2.g) n2.gh _ fun v G3 H3 n3 hv => ?_
    obtain rfl := Dp.key hu
    have L3 := (L0.step n2).step n3
    refine ⟨L3.hl, [(ky, v)], rfl, by simp, p, [(ky, v)], upd_same, fun o => ?_⟩
    have L4 := (L3.put (w := .dK [(ky, v)])).put (w := .frz o (.dK [(ky, v)]))
    exact q _ _ _ L4.done (.dic (o := o) (kvs := [(ky, v)]) upd_same (.cons (Dp.mono (Evl.Ex.new L4.gl) hv) .nil))⟩
theorem e_disp2 (hne : ¬ ky = ky2) (hk : E X k1 σ G (kD ky)) (he : E X e1 σ G d1) (hk2 : E X k2 σ G (kD ky2)) (he2 : E X e2 σ G d2) : E X (.Dict [some k1, some k2] [e1, e2] pos) σ G (mkD [(ky, d1), (ky2, d2)]) := fun G1 H1 g gh Q q =>
  ⟨_, pe_frz (pe_disp (pps_cons pe_w pe_w (pps_cons pe_w pe_w pps_nil)) rfl rfl (by simp) (by simp)), fun p hp => by
    have L0 := Own.start (u := .dK []) gh hp
    refine hk G1 _ g L0.gh _ fun u G2 H2 n2 hu => he G2 H2 (g.trans n2.g) n2.gh _ fun v G3 H3 n3 hv => hk2 G3 H3 ((g.trans n2.g).trans n3.g) n3.gh _ fun u2 G4 H4 n4 hu2 => he2 G4 H4 (((g.trans n2.g).trans n3.g).trans n4.g) n4.gh _ fun v2 G5 H5 n5 hv2 => ?_
    obtain rfl := Dp.key hu
    obtain rfl := Dp.key hu2
    have L3 := (((L0.step n2).step n3).step n4).step n5
    have em : mergeK [] [(ky, v), (ky2, v2)] = [(ky, v), (ky2, v2)] := merge_id _ [] (by simp [hne])
    refine ⟨L3.hl, [(ky, v), (ky2, v2)], rfl, by simp, p, [(ky, v), (ky2, v2)], by rw [em]; exact upd_same, fun o => ?_⟩
    rw [em]
    have L4 := (L3.put (w := .dK [(ky, v), (ky2, v2)])).put (w := .frz o (.dK [(ky, v), (ky2, v2)]))
    exact q _ _ _ L4.done (.dic (o := o) (kvs := [(ky, v), (ky2, v2)]) upd_same (.cons (Dp.mono (n4.g.trans (n5.g.trans (Evl.Ex.new L4.gl))) hv) (.cons (Dp.mono (Evl.Ex.new L4.gl) hv2) .nil)))⟩
theorem cr_dcopy : CallR X (.type "dict") (fun xs H Q => ∃ a kvs, xs = [V.ref a] ∧ Rd H a (.dK kvs) ∧ ∀ p, H p = none → Q (.ref p) (upd H p (.dK kvs))) := by
  intro pins s σ H xs us Q I r h
  obtain ⟨a, kvs, rfl, ha, q⟩ := h
  obtain ⟨u, rfl, ru⟩ := vals1 r
  cases ru
  exact d_copyOf I ha fun p s' hp I' => ⟨.ref p, _, I', rfl, q p hp⟩
/-- x, y = dict(a), dict(a2); x[k], y[k] = b1, b2 -/
theorem s_twoD (i j : Nat) {x y : Str} {px py pt pt2 pd1 pd2 pc1 pc2 pv pw pt3 pt4 : Pos} {kt k3 kt2 k4 : _} (hcalm : X.calm = true) (hN : X.N.Nodup) (hu : X.A.units + 64 < cLine) (hm : X.mg "dict" = Option.none) (ha : E X a σ G (mkD kvs)) (ha2 : E X a2 σ G (mkD kvs)) (gh : Ex G H) (hkm : key ∈ kvs.map (·.1)) (hlen : kvs.length ≤ 1000)
    (hk : ∀ p1 p2, E X k1 ((σ.set i (some (.ref p1))).set j (some (.ref p2))) G (kD key)) (hk2 : ∀ p1 p2, E X k2 ((σ.set i (some (.ref p1))).set j (some (.ref p2))) G (kD key)) (hb : ∀ p1 p2, A X [b1, b2] ((σ.set i (some (.ref p1))).set j (some (.ref p2))) G [d1, d2])
    (hσ1 : ∀ p1 p2, ((σ.set i (some (.ref p1))).set j (some (.ref p2)))[i]? = some (some (.ref p1))) (hσ2 : ∀ p1 p2, ((σ.set i (some (.ref p1))).set j (some (.ref p2)))[j]? = some (some (.ref p2)))
    (q : ∀ p1 p2 G' H', Nx G H G' H' → Dp X.K G' (.ref p1) (mkD (setK kvs key d1)) → Dp X.K G' (.ref p2) (mkD (setK kvs key d2)) → wB X rest Z ((σ.set i (some (.ref p1))).set j (some (.ref p2))) H')
    (hi : X.N[i]? = some x := by rfl) (hj : X.N[j]? = some y := by rfl) (hij : i ≠ j := by decide) (hx : X.env.scope.names.lookup x = some .local := by rfl) (hy : X.env.scope.names.lookup y = some .local := by rfl)
    (hv1 : Vis X.env.scope x := by first | exact Or.inl rfl | exact Or.inr (Or.inl rfl) | exact Or.inr (Or.inr rfl)) (hv2 : Vis X.env.scope y := by first | exact Or.inl rfl | exact Or.inr (Or.inl rfl) | exact Or.inr (Or.inr rfl))
    (hx1 : (x == ("__debug__" : Str)) = false := by decide) (hx2 : (x == ("__classdict__" : Str)) = false := by decide) (hy1 : (y == ("__debug__" : Str)) = false := by decide) (hy2 : (y == ("__classdict__" : Str)) = false := by decide)
    (hg : Gl X "dict" := by rfl) (he1 : starEach [a] X.env = (false, eval a X.env) :: starEach [] X.env := by rfl) (he2 : starEach [a2] X.env = (false, eval a2 X.env) :: starEach [] X.env := by rfl) (hp1 : (backTo pc1 (starEach [] X.env)).any (·.1) = false := by rfl) (hp2 : (backTo pc2 (starEach [] X.env)).any (·.1) = false := by rfl)
    (hs0 : starEach [Expr.Call (.Name "dict" pd1) [a] [] pc1, .Call (.Name "dict" pd2) [a2] [] pc2] X.env = (false, eval (.Call (.Name "dict" pd1) [a] [] pc1) X.env) :: starEach [.Call (.Name "dict" pd2) [a2] [] pc2] X.env := by rfl)
    (hs1 : starEach [Expr.Call (.Name "dict" pd2) [a2] [] pc2] X.env = (false, eval (.Call (.Name "dict" pd2) [a2] [] pc2) X.env) :: starEach [] X.env := by rfl)
    (hw : swappedStores [.Tuple [.Name x px, .Name y py] kt pt] (.Tuple [.Call (.Name "dict" pd1) [a] [] pc1, .Call (.Name "dict" pd2) [a2] [] pc2] k3 pt2) X.env = pure (some [x, y]) := by rfl)
    (hs : swapsWithSole [.Tuple [.Name x px, .Name y py] kt pt] (.Tuple [.Call (.Name "dict" pd1) [a] [] pc1, .Call (.Name "dict" pd2) [a2] [] pc2] k3 pt2) pos.line X.env = pure false := by rfl)
    (hw2 : swappedStores [.Tuple [.Subscript (.Name x pv) k1 q1, .Subscript (.Name y pw) k2 q2] kt2 pt3] (.Tuple [b1, b2] k4 pt4) X.env = pure Option.none := by rfl)
    (hs2 : swapsWithSole [.Tuple [.Subscript (.Name x pv) k1 q1, .Subscript (.Name y pw) k2 q2] kt2 pt3] (.Tuple [b1, b2] k4 pt4) pos2.line X.env = pure false := by rfl)
    (h1 : (assignEach [.Tuple [.Subscript (.Name x pv) k1 q1, .Subscript (.Name y pw) k2 q2] kt2 pt3] X.env).map (·.2) = [assign (.Tuple [.Subscript (.Name x pv) k1 q1, .Subscript (.Name y pw) k2 q2] kt2 pt3) X.env] := by rfl)
    (h2 : (assignEach [.Subscript (.Name x pv) k1 q1, .Subscript (.Name y pw) k2 q2] X.env).map (·.2) = assign (.Subscript (.Name x pv) k1 q1) X.env :: (assignEach [.Subscript (.Name y pw) k2 q2] X.env).map (·.2) := by rfl) (h3 : (assignEach [.Subscript (.Name y pw) k2 q2] X.env).map (·.2) = assign (.Subscript (.Name y pw) k2 q2) X.env :: (assignEach [] X.env).map (·.2) := by rfl)
    (h4 : (assignEach [.Subscript (.Name x pv) k1 q1, .Subscript (.Name y pw) k2 q2] X.env).length = 2 := by rfl) (h5 : (assignEach [.Subscript (.Name x pv) k1 q1, .Subscript (.Name y pw) k2 q2] X.env).findIdx? (·.1) = Option.none := by rfl)
    (h6 : ∀ v, assign (.Subscript (.Name x pv) k1 q1) X.env v = (do
      let ov ← holding [v] (eval (.Name x pv) X.env)
      let iv ← holding [v, ov] (eval k1 X.env)
      standAt q1
      holding [v, ov, iv] (setItem ov iv v)
      release [v, ov, iv] []) := by intro _; rfl) (h7 : ∀ v, assign (.Subscript (.Name y pw) k2 q2) X.env v = (do
      let ov ← holding [v] (eval (.Name y pw) X.env)
      let iv ← holding [v, ov] (eval k2 X.env)
      standAt q2
      holding [v, ov, iv] (setItem ov iv v)
      release [v, ov, iv] []) := by intro _; rfl) :
    wB X (.Assign [.Tuple [.Name x px, .Name y py] kt pt] (.Tuple [.Call (.Name "dict" pd1) [a] [] pc1, .Call (.Name "dict" pd2) [a2] [] pc2] k3 pt2) pos :: .Assign [.Tuple [.Subscript (.Name x pv) k1 q1, .Subscript (.Name y pw) k2 q2] kt2 pt3] (.Tuple [b1, b2] k4 pt4) pos2 :: rest) Z σ H := by
  refine s_cons ⟨_, ps_par hcalm hN hi hj hij hx hy (pa_cons (pe_callTy cr_dcopy hg hm (by decide +kernel) (pa_cons pe_w pa_nil he1) (by decide) (by decide) he1 hp1) (pa_cons (pe_callTy cr_dcopy hg hm (by decide +kernel) (pa_cons pe_w pa_nil he2) (by decide) (by decide) he2 hp2) pa_nil hs1) hs0) hw hs, ?_⟩
  refine ha G H (Evl.Ex.refl _) gh _ fun u1 G1 H1 n1 hu1 => ?_
  obtain ⟨c1, o1, xs1, rfl, hc1, hx1'⟩ := Dp.mk_inv hu1
  refine ⟨c1, xs1, rfl, .inr ⟨o1, n1.gh _ _ hc1⟩, fun p1 hp1' => ?_⟩
  have L1 := Own.start (u := .dK xs1) n1.gh hp1'
  refine ha2 G1 _ n1.g L1.gh _ fun u2 G2 H2 n2 hu2 => ?_
  obtain ⟨c2, o2, xs2, rfl, hc2, hx2'⟩ := Dp.mk_inv hu2
  refine ⟨c2, xs2, rfl, .inr ⟨o2, n2.gh _ _ hc2⟩, fun p2 hp2' => ?_⟩
  have L2 := (L1.step n2).more (u2 := .dK xs2) hp2'
  refine ⟨.ref p1, .ref p2, rfl, ?_⟩
  refine s_cons ⟨_, ps_asg pe_w (pg_tup hcalm (pgs_cons (pg_sub (pe_var hi hv1 hx1 hx2) pe_w (set_dict (by omega)) h6) (pgs_cons (pg_sub (pe_var hj hv2 hy1 hy2) pe_w (set_dict (by omega)) h7) pgs_nil h3) h2) h4 h5) hs2 hw2 h1, ?_⟩
  refine e_tup (hb p1 p2) (by simp) G2 _ (n1.g.trans n2.g) L2.gh _ fun w G3 H3 n3 hw3 => ?_
  obtain ⟨t, ws, rfl, ht, hws⟩ := Dp.tup_inv hw3
  obtain ⟨v1, v2, rfl, hv1', hv2'⟩ := all2 hws
  have L3 := L2.step n3
  have g3 : Ex G G3 := (n1.g.trans n2.g).trans n3.g
  refine ⟨t, [v1, v2], rfl, Evl.ex_t n3.gh ht, rfl, v1, [v2], rfl, .ref p1, hσ1 p1 p2, ?_⟩
  refine hk p1 p2 G3 H3 g3 n3.gh _ fun kv G4 H4 n4 hkv => ?_
  obtain rfl := Dp.key hkv
  have L4 := L3.step n4
  have k1' : xs1.length < sizeLine := Evl.sz_lt (by have := congrArg List.length (DpKV.inv hx1').1; simp at this; omega)
  have k2' : xs2.length < sizeLine := Evl.sz_lt (by have := congrArg List.length (DpKV.inv hx2').1; simp at this; omega)
  refine ⟨p1, _, rfl, DPut.k L4.h1 k1', v2, [], rfl, .ref p2, hσ2 p1 p2, ?_⟩
  have L5 := L4.put1 (w := .dK (putK xs1 key v1))
  refine hk2 p1 p2 G4 _ (g3.trans n4.g) L5.gh _ fun kv2 G5 H5 n5 hkv2 => ?_
  obtain rfl := Dp.key hkv2
  have L6 := L5.step n5
  refine ⟨p2, _, rfl, DPut.k L6.h2 k2', rfl, ?_⟩
  have L7 := L6.put2 (w := .dK (putK xs2 key v2))
  refine wB_frz ⟨p1, _, L7.h1, fun o1 => ?_⟩
  have L8 := L7.put1 (w := .frz o1 (.dK (putK xs1 key v1)))
  refine wB_frz ⟨p2, _, L8.h2, fun o2 => ?_⟩
  have L9 := L8.put2 (w := .frz o2 (.dK (putK xs2 key v2)))
  have hx1f := DpKV.mono ((((n2.g.trans n3.g).trans n4.g).trans n5.g).trans L9.ext) hx1'
  have hx2f := DpKV.mono (((n3.g.trans n4.g).trans n5.g).trans L9.ext) hx2'
  have gv := (n4.g.trans n5.g).trans L9.ext
  refine q p1 p2 _ _ (n1.trans L9.done) (.dic (o := o1) (by rw [upd_ne L9.ne]; exact upd_same) (DpKV.put hx1f (Dp.mono gv hv1') hkm)) (.dic (o := o2) upd_same (DpKV.put hx2f (Dp.mono gv hv2') hkm))
end
end DL

/-! D29: two names at once, drawn, kept in cells. -/
namespace DL
open PySem PySem.Spec PyProof.Rows SX
open L2 hiding Dp DpAll
section
variable {X : Cx} {σ : L2.St} {G H : Hp} {l : Addr} {es : List Expr} {a b : Expr} {pos : Pos} {rest : List Stmt} {Z : Ends}
theorem sm_tup2 (i1 i2 : Nat) {x1 x2 : Str} {p1 p2 pt pt2 : Pos} {kt k2 : Nat} {Rs : List D → Prop} (hcalm : X.calm = true) (hN : X.N.Nodup) (ha : AM X es σ G l Rs) (mo : MO G H l) (hl : ∀ ds, Rs ds → ∃ a b, ds = [a, b])
    (q : ∀ u v a b G' H', Rs [a, b] → Ex G G' → MO G' H' l → Dp X.K G' u a → Dp X.K G' v b → wB X rest Z ((σ.set i1 (some u)).set i2 (some v)) H')
    (h1 : X.N[i1]? = some x1 := by rfl) (h2 : X.N[i2]? = some x2 := by rfl)
    (l1 : L2.Loc X.env.scope x1 := by first | exact Or.inl rfl | exact Or.inr rfl) (f1 : X.fn x1 = true ∨ X.env.scope.names.lookup x1 = some .local := by first | exact .inl rfl | exact .inr rfl)
    (l2 : L2.Loc X.env.scope x2 := by first | exact Or.inl rfl | exact Or.inr rfl) (f2 : X.fn x2 = true ∨ X.env.scope.names.lookup x2 = some .local := by first | exact .inl rfl | exact .inr rfl)
    (a2 : (assignEach [.Name x1 p1, .Name x2 p2] X.env).map (·.2) = assign (.Name x1 p1) X.env :: (assignEach [.Name x2 p2] X.env).map (·.2) := by rfl)
    (a1 : (assignEach [.Name x2 p2] X.env).map (·.2) = assign (.Name x2 p2) X.env :: (assignEach [] X.env).map (·.2) := by rfl)
    (hn : (assignEach [.Name x1 p1, .Name x2 p2] X.env).length = 2 := by rfl) (hst : (assignEach [.Name x1 p1, .Name x2 p2] X.env).findIdx? (·.1) = Option.none := by rfl)
    (hs : swapsWithSole [.Tuple [.Name x1 p1, .Name x2 p2] kt pt] (.Tuple es k2 pt2) pos.line X.env = pure false := by rfl)
    (hw : swappedStores [.Tuple [.Name x1 p1, .Name x2 p2] kt pt] (.Tuple es k2 pt2) X.env = pure Option.none := by rfl)
    (ht : (assignEach [.Tuple [.Name x1 p1, .Name x2 p2] kt pt] X.env).map (·.2) = [assign (.Tuple [.Name x1 p1, .Name x2 p2] kt pt) X.env] := by rfl) :
    wB X (.Assign [.Tuple [.Name x1 p1, .Name x2 p2] kt pt] (.Tuple es k2 pt2) pos :: rest) Z σ H :=
  s_cons ⟨_, ps_asg pe_w (pg_tup hcalm (pgs_cons (pg_name hN h1 l1 f1) (pgs_cons (pg_name hN h2 l2 f2) pgs_nil a1) a2) hn hst) hs hw ht,
    em_tup ha (fun ds r => by obtain ⟨a, b, rfl⟩ := hl ds r; simp) G H (Evl.Ex.refl _) mo _ fun v d G' H' ⟨ds, e, r⟩ g' m' hv => by
      subst e
      obtain ⟨a, b, rfl⟩ := hl ds r
      obtain ⟨p, xs, rfl, ht', hx⟩ := Dp.tup_inv hv
      obtain ⟨u1, u2, rfl, d1, d2⟩ := all2 hx
      exact ⟨p, _, rfl, Evl.ex_t m'.gh ht', rfl, _, _, rfl, _, _, rfl, rfl, q u1 u2 a b G' H' r g' m' d1 d2⟩⟩
/-- is, is not, of truth values, as values -/
theorem e_isB {k l : Bool} (ha : E X a σ G (.bool k)) (hb : E X b σ G (.bool l)) (hm : behindInMarks .Is b = false := by rfl) : E X (.Compare a [.Is] [b] pos) σ G (.bool (decide (k = l))) :=
  e_cmp op_isBl hm ha hb fun u v G1 H1 _ _ hu hv Q q => ⟨k, l, Dp.bl_inv hu, Dp.bl_inv hv, q⟩
end
end DL

/-! PL4: the names of the law's boxes. -/
namespace K01
open PySem PySem.Spec PyProof.Rows DL SX
open L2 hiding Dp DpAll
theorem perm1 {α : Type} {a : α} {ys : List α} (h : ys.Perm [a]) : ys = [a] := List.perm_singleton.mp h
theorem perm2 {α : Type} {a b : α} {ys : List α} (h : ys.Perm [a, b]) : ys = [a, b] ∨ ys = [b, a] := by
  match ys, h.length_eq with
  | [u, v], _ =>
  have hu : u ∈ [a, b] := h.subset (List.mem_cons_self ..)
  simp at hu
  rcases hu with rfl | rfl
  · left; rw [perm1 (List.Perm.cons_inv h)]
  · right; rw [perm1 (List.Perm.cons_inv (h.trans (List.Perm.swap ..)))]
theorem perm3 {α : Type} {a b c : α} {ys : List α} (h : ys.Perm [a, b, c]) : ys = [a, b, c] ∨ ys = [a, c, b] ∨ ys = [b, a, c] ∨ ys = [b, c, a] ∨ ys = [c, a, b] ∨ ys = [c, b, a] := by
  match ys, h.length_eq with
  | u :: ys, _ =>
  have hu : u ∈ [a, b, c] := h.subset (List.mem_cons_self ..)
  simp at hu
  rcases hu with rfl | rfl | rfl
  · rcases perm2 (List.Perm.cons_inv h) with e | e <;> simp [e]
  · rcases perm2 (List.Perm.cons_inv (h.trans (List.Perm.swap ..))) with e | e <;> simp [e]
  · have h2 : [a, b, u].Perm [u, a, b] := (List.Perm.cons a (List.Perm.swap u b [])).trans (List.Perm.swap ..)
    rcases perm2 (List.Perm.cons_inv (h.trans h2)) with e | e <;> simp [e]
structure NmOk (ks zs : List Str) : Prop where
  nd : ks.Nodup
  len : ks.length < 30
  sz : ∀ k ∈ ks, k.length ≤ 1000
  srt : ∀ ys : List Str, ys.Perm ks → sortedS ys = true → ys = zs
  sh : SeqAt.shaped (.list (ks.map PyData.str)) = true
  sh2 : SeqAt.shaped (.list (zs.map PyData.str)) = true
  nz : noDc (.list (ks.map PyData.str)) = true
  nz2 : noDc (.list (zs.map PyData.str)) = true
theorem keysL_of {l : List (Str × D)} {ks : List Str} (h : l.map (·.1) = ks) : keysL l = .list (ks.map PyData.str) := by
  unfold keysL; rw [← h, List.map_map]; rfl
theorem bxIn_of {l : List (Str × D)} {ks zs : List Str} (n : NmOk ks zs) (h : l.map (·.1) = ks) (hs : ∀ p ∈ l, SpZ 1000 p.2) : BxIn l zs :=
  ⟨by rw [h]; exact n.nd, by have := congrArg List.length h; rw [List.length_map] at this; have := n.len; omega, fun p hp => ⟨n.sz _ (by rw [← h]; exact List.mem_map.mpr ⟨p, hp, rfl⟩), hs p hp⟩, by rw [h]; exact n.srt, by rw [keysL_of h]; exact n.sh, n.sh2, by rw [keysL_of h]; exact n.nz, n.nz2⟩
theorem boxOk_t {l : List (Str × D)} {ks zs : List Str} (h : l.map (·.1) = ks) (hn : ∀ k ∈ ks, nameOk k = true) (hs : ∀ p ∈ l, isSpan p.2 = true) (he : PyData.eqv (.list (ks.map PyData.str)) (.list (zs.map PyData.str)) = true) : boxOk l zs = true := by
  unfold boxOk
  rw [keysL_of h, he, Bool.and_true, List.all_map, List.all_eq_true]
  intro p hp
  show (nameOk p.1 && isSpan p.2) = true
  rw [hn _ (by rw [← h]; exact List.mem_map.mpr ⟨p, hp, rfl⟩), hs p hp]; rfl
theorem isBox_t {l : List (Str × D)} {ks : List Str} (n : NmOk ks ks) (h : l.map (·.1) = ks) (hz : ∀ p ∈ l, SpZ 1000 p.2) (hn : ∀ k ∈ ks, nameOk k = true) (hs : ∀ p ∈ l, isSpan p.2 = true) (he : PyData.eqv (.list (ks.map PyData.str)) (.list (ks.map PyData.str)) = true) : R_is_box [bxD l] (.bool true) :=
  ⟨bxD l, rfl, .inr ⟨l, ks, rfl, bxIn_of n h hz, by rw [boxOk_t h hn hs he]⟩⟩
theorem isBox_f {l : List (Str × D)} {ks zs : List Str} (n : NmOk ks zs) (h : l.map (·.1) = ks) (hz : ∀ p ∈ l, SpZ 1000 p.2) (hf : boxOk l zs = false) : R_is_box [bxD l] (.bool false) :=
  ⟨bxD l, rfl, .inr ⟨l, zs, rfl, bxIn_of n h hz, by rw [hf]⟩⟩
theorem isBox_n {v : D} (h : isDc v = false) : R_is_box [v] (.bool false) := ⟨v, rfl, .inl ⟨h, rfl⟩⟩
theorem nmA : NmOk ["a"] ["a"] := ⟨by decide, by decide, by decide, fun ys h _ => perm1 h, by decide +kernel, by decide +kernel, by decide +kernel, by decide +kernel⟩
theorem nmA' : NmOk ["A"] ["A"] := ⟨by decide, by decide, by decide, fun ys h _ => perm1 h, by decide +kernel, by decide +kernel, by decide +kernel, by decide +kernel⟩
theorem nmZ : NmOk ["zz"] ["zz"] := ⟨by decide, by decide, by decide, fun ys h _ => perm1 h, by decide +kernel, by decide +kernel, by decide +kernel, by decide +kernel⟩
theorem nmE : NmOk [] [] := ⟨by decide, by decide, by decide, fun ys h _ => List.perm_nil.mp h, by decide +kernel, by decide +kernel, by decide +kernel, by decide +kernel⟩
theorem nmAB : NmOk ["a", "b1"] ["a", "b1"] := ⟨by decide, by decide, by decide, fun ys h s => by
  rcases perm2 h with e | e
  · exact e
  · subst e; exact absurd s (by decide +kernel), by decide +kernel, by decide +kernel, by decide +kernel, by decide +kernel⟩
theorem nmBA : NmOk ["b", "a"] ["a", "b"] := ⟨by decide, by decide, by decide, fun ys h s => by
  rcases perm2 h with e | e
  · subst e; exact absurd s (by decide +kernel)
  · exact e, by decide +kernel, by decide +kernel, by decide +kernel, by decide +kernel⟩
theorem nmABX : NmOk ["a", "b1", "x"] ["a", "b1", "x"] := ⟨by decide, by decide, by decide, fun ys h s => by
  rcases perm3 h with e | e | e | e | e | e
  · exact e
  all_goals (subst e; exact absurd s (by decide +kernel)), by decide +kernel, by decide +kernel, by decide +kernel, by decide +kernel⟩
/-- the names drawn -/
def NmL (ks : List Str) : Prop := ks = (["a"] : List Str) ∨ ks = (["a", "b1"] : List Str) ∨ ks = (["a", "b1", "x"] : List Str)
theorem NmL.ok {ks : List Str} (h : NmL ks) : NmOk ks ks := by
  rcases h with rfl | rfl | rfl
  · exact nmA
  · exact nmAB
  · exact nmABX
theorem NmL.name {ks : List Str} (h : NmL ks) : ∀ k ∈ ks, nameOk k = true := by
  rcases h with rfl | rfl | rfl <;> decide +kernel
theorem NmL.eqv {ks : List Str} (h : NmL ks) : PyData.eqv (.list (ks.map PyData.str)) (.list (ks.map PyData.str)) = true := by
  rcases h with rfl | rfl | rfl <;> decide +kernel
theorem NmL.zz {ks : List Str} (h : NmL ks) : PyData.eqv (.list (ks.map PyData.str)) (.list ((["zz"] : List Str).map PyData.str)) = false := by
  rcases h with rfl | rfl | rfl <;> decide +kernel
theorem NmL.take {k : Nat} (h1 : 1 ≤ k) (h2 : k ≤ 3) : NmL ((["a", "b1", "x"] : List Str).take k) := by
  rcases (show k = 1 ∨ k = 2 ∨ k = 3 by omega) with e | e | e <;> subst e
  · exact .inl rfl
  · exact .inr (.inl rfl)
  · exact .inr (.inr rfl)
theorem NmL.ne {ks : List Str} (h : NmL ks) : ks ≠ [] := by rcases h with rfl | rfl | rfl <;> simp
/-- a drawn box -/
structure BxL (ks : List Str) (l : BX) : Prop where
  nm : l.map (·.1) = ks
  sz : ∀ p ∈ l, p.2.1 ≤ p.2.2 ∧ Sz 40 p.2.1 ∧ Sz 40 p.2.2
theorem BxL.ok {ks : List Str} {l : BX} (h : BxL ks l) (n : NmL ks) : BxOk l :=
  ⟨by rw [h.nm]; exact n.ok.nd, by have := congrArg List.length h.nm; rw [List.length_map] at this; have := n.ok.len; omega, h.sz⟩
theorem bxL_nm (l : BX) : (bxL l).map (·.1) = l.map (·.1) := by unfold bxL; rw [List.map_map]; rfl
theorem BxL.isb {ks : List Str} {l : BX} (h : BxL ks l) (n : NmL ks) : R_is_box [bx l] (.bool true) :=
  isBox_t n.ok ((bxL_nm l).trans h.nm) (fun p hp => by
    obtain ⟨r, hr, rfl⟩ := List.mem_map.mp hp
    exact SpZ.sp ((h.sz r hr).2.1.mono (by decide)) ((h.sz r hr).2.2.mono (by decide))) n.name (fun p hp => by
    obtain ⟨r, hr, rfl⟩ := List.mem_map.mp hp
    exact isSpan_sp (h.sz r hr).1) n.eqv
theorem BxL.ne {ks : List Str} {l : BX} (h : BxL ks l) (n : NmL ks) : l ≠ [] := fun z => n.ne (by rw [← h.nm, z]; rfl)
theorem BxL.al {ks : List Str} {l l' : BX} (h : BxL ks l) (h' : BxL ks l') : Al l l' := h.nm.trans h'.nm.symm
/-- shapes -/
theorem sh_list {ds : List D} (h : ∀ d ∈ ds, d.canLay0 = true ∧ d.depth ≤ 20) : SeqAt.shaped (.list ds) = true := by
  have h1 : ∀ ds : List D, (∀ d ∈ ds, d.canLay0 = true ∧ d.depth ≤ 20) → PyData.canLayAll0 ds = true ∧ PyData.depthAll ds ≤ 20 := by
    intro ds
    induction ds with
    | nil => exact fun _ => ⟨by rw [PyData.canLayAll0], by rw [PyData.depthAll]; omega⟩
    | cons d ds ih =>
      intro h
      obtain ⟨a, b⟩ := ih fun d hd => h d (List.mem_cons_of_mem _ hd)
      obtain ⟨c, e⟩ := h d (List.mem_cons_self ..)
      exact ⟨by rw [PyData.canLayAll0, c, a]; rfl, by rw [PyData.depthAll]; omega⟩
  obtain ⟨a, b⟩ := h1 ds h
  unfold SeqAt.shaped
  rw [PyData.canLay0, a, PyData.depth, decide_eq_true (by omega)]; rfl
theorem nd_list {ds : List D} (h : ∀ d ∈ ds, noDc d = true) : noDc (.list ds) = true := by
  rw [noDc]
  induction ds with
  | nil => rw [noDcs]
  | cons d ds ih => rw [noDcs, h d (List.mem_cons_self ..), ih fun d hd => h d (List.mem_cons_of_mem _ hd)]; rfl
theorem lay_rd (q : Rat) : (rd q).canLay0 = true ∧ (rd q).depth ≤ 20 := ⟨rfl, by show (1 : Nat) ≤ 20; decide⟩
theorem lay_common (a b x y : Rat) : (q_common a b x y).canLay0 = true ∧ (q_common a b x y).depth ≤ 20 := by
  unfold q_common
  split
  · exact ⟨rfl, by show (0 : Nat) ≤ 20; decide⟩
  · exact ⟨rfl, by show (2 : Nat) ≤ 20; decide⟩
theorem nd_common (a b x y : Rat) : noDc (q_common a b x y) = true := by
  unfold q_common
  split <;> rfl
end K01

/-! PL5: the plain law of boxes. -/
namespace K01
open PySem PySem.Spec PyProof.Rows DL SX
open L2 hiding Dp DpAll
theorem widest_go : ∀ (l : BX) (p0 : Str × Rat × Rat), ∃ p, l.foldl stepW (some p0) = some p ∧ ((p = p0 ∧ ∀ q ∈ l, wid q ≤ wid p0) ∨ ∃ k : Nat, l[k]? = some p ∧ wid p0 < wid p ∧ (∀ (m : Nat) (q : Str × Rat × Rat), m < k → l[m]? = some q → wid q < wid p) ∧ ∀ q ∈ l, wid q ≤ wid p)
  | [], p0 => ⟨p0, rfl, .inl ⟨rfl, fun q h => nomatch h⟩⟩
  | r :: l, p0 => by
    by_cases h : wid p0 < wid r
    · obtain ⟨p, e, c⟩ := widest_go l r
      refine ⟨p, ?_, .inr ?_⟩
      · show l.foldl stepW (if wid p0 < wid r then some r else some p0) = some p
        rw [if_pos h]; exact e
      · rcases c with ⟨rfl, ha⟩ | ⟨k, hk, hlt, hm, ha⟩
        · refine ⟨0, rfl, h, fun m q z => absurd z (Nat.not_lt_zero _), fun q hq => ?_⟩
          rcases List.mem_cons.mp hq with rfl | hq
          · exact Rat.le_refl
          · exact ha q hq
        · refine ⟨k + 1, hk, by grind, fun m q z hq => ?_, fun q hq => ?_⟩
          · cases m with
            | zero => injection hq with hq; rw [← hq]; exact hlt
            | succ m => exact hm m q (by omega) hq
          · rcases List.mem_cons.mp hq with rfl | hq
            · exact Rat.le_of_lt hlt
            · exact ha q hq
    · obtain ⟨p, e, c⟩ := widest_go l p0
      refine ⟨p, ?_, ?_⟩
      · show l.foldl stepW (if wid p0 < wid r then some r else some p0) = some p
        rw [if_neg h]; exact e
      · have h := Rat.not_lt.mp h
        rcases c with ⟨rfl, ha⟩ | ⟨k, hk, hlt, hm, ha⟩
        · refine .inl ⟨rfl, fun q hq => ?_⟩
          rcases List.mem_cons.mp hq with rfl | hq
          · exact h
          · exact ha q hq
        · refine .inr ⟨k + 1, hk, hlt, fun m q z hq => ?_, fun q hq => ?_⟩
          · cases m with
            | zero => injection hq with hq; rw [← hq]; grind
            | succ m => exact hm m q (by omega) hq
          · rcases List.mem_cons.mp hq with rfl | hq
            · grind
            · exact ha q hq
theorem widest_spec {l : BX} (h : l ≠ []) : ∃ (k : Nat) (p : Str × Rat × Rat), l[k]? = some p ∧ widest l = some p ∧ wid p = hiL (l.map wid) ∧ ∀ (m : Nat) (q : Str × Rat × Rat), m < k → l[m]? = some q → wid q ≠ hiL (l.map wid) := by
  cases l with
  | nil => exact absurd rfl h
  | cons r l =>
    obtain ⟨p, e, c⟩ := widest_go l r
    have key : ∀ p : Str × Rat × Rat, p ∈ r :: l → (∀ q ∈ r :: l, wid q ≤ wid p) → wid p = hiL ((r :: l).map wid) := fun p hp ha => (hi_eq (List.mem_map.mpr ⟨p, hp, rfl⟩) fun q hq => by
      obtain ⟨z, hz, rfl⟩ := List.mem_map.mp hq
      exact ha z hz).symm
    rcases c with ⟨rfl, ha⟩ | ⟨k, hk, hlt, hm, ha⟩
    · refine ⟨0, p, rfl, e, key p (List.mem_cons_self ..) fun q hq => ?_, fun m q z => absurd z (Nat.not_lt_zero _)⟩
      rcases List.mem_cons.mp hq with rfl | hq
      · exact Rat.le_refl
      · exact ha q hq
    · have hw := key p (List.mem_cons_of_mem _ (List.mem_of_getElem? hk)) fun q hq => by
        rcases List.mem_cons.mp hq with rfl | hq
        · exact Rat.le_of_lt hlt
        · exact ha q hq
      refine ⟨k + 1, p, hk, e, hw, fun m q z hq => ?_⟩
      rw [← hw]
      cases m with
      | zero => injection hq with hq; rw [← hq]; grind
      | succ m => have := hm m q (by omega) hq; grind
theorem wbox_eq {l : BX} (h : l ≠ []) (hz : ∀ p ∈ l, p.2.1 ≤ p.2.2) : q_wbox l = hiL (l.map wid) := by
  have hne : l.map wid ≠ [] := by simpa using h
  obtain ⟨s1, s2⟩ := hi_spec hne
  have hnn : ∀ q ∈ l.map wid, 0 ≤ q := fun q hq => by
    obtain ⟨p, hp, rfl⟩ := List.mem_map.mp hq
    have := hz p hp
    unfold wid; grind
  obtain ⟨g1, g2, g3⟩ := hi_fold (l.map wid) 0
  unfold q_wbox
  refine Rat.le_antisymm ?_ (g3 _ s1)
  rcases g1 with e | e
  · rw [e]; exact hnn _ s1
  · exact s2 _ e
/-- another span put -/
def putB (l : BX) (nm : Str) (s : Rat × Rat) : BX := l.map fun p => if p.1 = nm then (p.1, s.1, s.2) else p
theorem strdec (a b : Str) : decide (V.str a = V.str b) = decide (a = b) := by
  by_cases h : a = b
  · subst h; simp
  · rw [decide_eq_false h]; exact decide_eq_false fun z => h (V.str.inj z)
theorem putS_eq (l : BX) (nm : Str) (s : Rat × Rat) : putS l nm (sp2 s.1 s.2) = bx (putB l nm s) := by
  unfold putS bxF bx bxL putB
  rw [List.map_map]
  congr 1
  apply List.map_congr_left
  intro p _
  show (p.1, if decide (V.str p.1 = V.str nm) = true then sp2 s.1 s.2 else sp2 p.2.1 p.2.2) = ((if p.1 = nm then (p.1, s.1, s.2) else p).1, sp2 (if p.1 = nm then (p.1, s.1, s.2) else p).2.1 (if p.1 = nm then (p.1, s.1, s.2) else p).2.2)
  rw [strdec]
  by_cases h : p.1 = nm
  · rw [if_pos (decide_eq_true h), if_pos h]
  · rw [if_neg (by rw [decide_eq_false h]; decide), if_neg h]
theorem setK_eq (l : BX) (nm : Str) (s : Rat × Rat) : mkD (setK ((bxL l).map fun p => ((Sum.inr p.1 : Key), p.2)) (Sum.inr nm) (sp2 s.1 s.2)) = bx (putB l nm s) := by
  unfold setK bx bxD bxL putB
  congr 1
  rw [List.map_map, List.map_map, List.map_map, List.map_map]
  apply List.map_congr_left
  intro p _
  show (if (Sum.inr p.1 : Key) = Sum.inr nm then ((Sum.inr p.1 : Key), sp2 s.1 s.2) else (Sum.inr p.1, sp2 p.2.1 p.2.2)) = (Sum.inr (if p.1 = nm then (p.1, s.1, s.2) else p).1, sp2 (if p.1 = nm then (p.1, s.1, s.2) else p).2.1 (if p.1 = nm then (p.1, s.1, s.2) else p).2.2)
  by_cases h : p.1 = nm
  · rw [if_pos (by rw [h]), if_pos h]
  · rw [if_neg (fun z => h (by injection z)), if_neg h]
theorem putB_nm (l : BX) (nm : Str) (s : Rat × Rat) : (putB l nm s).map (·.1) = l.map (·.1) := by
  unfold putB
  rw [List.map_map]
  apply List.map_congr_left
  intro p _
  show (if p.1 = nm then (p.1, s.1, s.2) else p).1 = p.1
  split <;> rfl
theorem putB_bxL {ks : List Str} {l : BX} (h : BxL ks l) (nm : Str) {s : Rat × Rat} (hs : s.1 ≤ s.2 ∧ Sz 40 s.1 ∧ Sz 40 s.2) : BxL ks (putB l nm s) :=
  ⟨(putB_nm l nm s).trans h.nm, fun p hp => by
    unfold putB at hp
    obtain ⟨r, hr, rfl⟩ := List.mem_map.mp hp
    split
    · exact hs
    · exact h.sz r hr⟩
theorem mid_le {a b : Rat} (h : a ≤ b) : a ≤ mid a b ∧ mid a b ≤ b := by unfold mid half; constructor <;> grind
theorem sz_mid {a b : Rat} (za : Sz 17 a) (zb : Sz 17 b) : Sz 40 (mid a b) := sz_mul (sz_add za zb (k := 36) (by decide)) (sz_half (n := 3) (by decide)) (by decide)
theorem low_in {l : BX} (nd : (l.map (·.1)).Nodup) {p : Str × Rat × Rat} (hp : p ∈ l) (hl : p.2.1 ≤ p.2.2) : (((putB l p.1 (p.2.1, mid p.2.1 p.2.2)).zip l).map w_within).all id = true := by
  rw [List.all_map, List.all_eq_true]
  intro z hz
  obtain ⟨i, hi⟩ := List.getElem?_of_mem hz
  rw [List.getElem?_zip_eq_some] at hi
  obtain ⟨h1, h2⟩ := hi
  unfold putB at h1
  rw [List.getElem?_map, h2] at h1
  injection h1 with h1
  have h1 : (if z.2.1 = p.1 then (z.2.1, p.2.1, mid p.2.1 p.2.2) else z.2) = z.1 := h1
  show w_within z = true
  unfold w_within
  rw [← h1]
  by_cases h : z.2.1 = p.1
  · have e : z.2 = p := by
      obtain ⟨j, hj⟩ := List.getElem?_of_mem hp
      have a1 := (List.getElem?_eq_some_iff.mp h2).1
      have a2 := (List.getElem?_eq_some_iff.mp hj).1
      have b1 := (List.getElem?_eq_some_iff.mp h2).2
      have b2 := (List.getElem?_eq_some_iff.mp hj).2
      have : i = j := (List.getElem_inj (xs := l.map (·.1)) (h₀ := by simpa using a1) (h₁ := by simpa using a2) nd).mp (by simp [b1, b2, h])
      subst this
      rw [h2] at hj
      injection hj
    rw [if_pos h, e]
    have := (mid_le hl).2
    show (!decide (p.2.1 < p.2.1) && !decide (p.2.2 < mid p.2.1 p.2.2)) = true
    rw [decide_eq_false (by grind), decide_eq_false (by grind)]; rfl
  · rw [if_neg h]
    rw [decide_eq_false (by grind), decide_eq_false (by grind)]; rfl
theorem halveB_eq {l : BX} {p : Str × Rat × Rat} (h : widest l = some p) : q_halveB l = .tuple [bx (putB l p.1 (p.2.1, mid p.2.1 p.2.2)), bx (putB l p.1 (mid p.2.1 p.2.2, p.2.2))] := by
  unfold q_halveB
  rw [h]
  show PyData.tuple [putS l p.1 (sp2 p.2.1 (mid p.2.1 p.2.2)), putS l p.1 (sp2 (mid p.2.1 p.2.2) p.2.2)] = _
  rw [← putS_eq, ← putS_eq]
theorem eqv_none (z : D) : PyData.eqv z .none = isN z := by cases z <;> rfl
theorem eqv_nil (xs : List D) : PyData.eqv (.list xs) (.list []) = decide (xs = []) := by
  cases xs with
  | nil => rfl
  | cons x xs => rw [decide_eq_false (fun z => nomatch z)]; rfl
theorem kept_nil {n : Nat} {c : Nat → Bool} {f : Nat → D} : kept n c f = [] ↔ ∀ i, i < n → c i = false := by
  unfold kept
  rw [List.map_eq_nil_iff, List.filter_eq_nil_iff]
  constructor
  · intro h i hi
    have := h i (List.mem_range.mpr hi)
    simpa using this
  · intro h i hi
    rw [h i (List.mem_range.mp hi)]; simp
theorem kept_bs {bs : List Bool} {n : Nat} (hn : bs.length = n) (f : Nat → D) : decide (kept n (fun i => !(bs.getD i false)) f = []) = bs.all id := by
  by_cases h : bs.all id = true
  · rw [h]
    refine decide_eq_true (kept_nil.mpr fun i hi => ?_)
    have hi' : i < bs.length := by omega
    have := List.all_eq_true.mp h bs[i] (List.getElem_mem hi')
    simp [hi', List.getD_eq_getElem?_getD]
    simpa using this
  · have h2 : bs.all id = false := by simpa using h
    rw [h2]
    refine decide_eq_false fun z => h (List.all_eq_true.mpr fun b hb => ?_)
    obtain ⟨i, hi⟩ := List.getElem?_of_mem hb
    have hil := (List.getElem?_eq_some_iff.mp hi).1
    have := (kept_nil.mp z) i (by omega)
    simp [List.getD_eq_getElem?_getD, hi] at this
    simpa using this
theorem kept_mem {n : Nat} {c : Nat → Bool} {f : Nat → D} {d : D} (h : d ∈ kept n c f) : ∃ i, i < n ∧ d = f i := by
  unfold kept at h
  obtain ⟨i, hi, e⟩ := List.mem_map.mp h
  exact ⟨i, List.mem_range.mp (List.mem_filter.mp hi).1, e.symm⟩
theorem fl_bx {n : Nat} {ks : List Str} {l : BX} (h : BxL ks l) (nk : NmL ks) : Fl (n + 3) (bx l) := by
  unfold bx bxD
  refine .dic (n + 2) _ ?_ ?_ ?_
  · have : ((bxL l).map fun p => ((Sum.inr p.1 : Key), p.2)).map (·.1) = (l.map (·.1)).map Sum.inr := by
      unfold bxL; rw [List.map_map, List.map_map, List.map_map]; rfl
    rw [this, h.nm]
    rcases nk with rfl | rfl | rfl <;> decide
  · rw [List.length_map]; unfold bxL; rw [List.length_map]; have := (h.ok nk).len; omega
  · intro p hp
    obtain ⟨q, hq, rfl⟩ := List.mem_map.mp hp
    unfold bxL at hq
    obtain ⟨r, hr, rfl⟩ := List.mem_map.mp hq
    exact fl_sp _ _
end K01

/-! L14: boxes, drawn; their widths, middles. -/
namespace K01
open PySem PySem.Spec PyProof.Rows DL SX
open L2 hiding Dp DpAll
def BxL17 (ks : List Str) (l : BX) : Prop := l.map (·.1) = ks ∧ ∀ p ∈ l, p.2.1 ≤ p.2.2 ∧ Sz 17 p.2.1 ∧ Sz 17 p.2.2
theorem BxL17.to {ks : List Str} {l : BX} (h : BxL17 ks l) : BxL ks l := ⟨h.1, fun p hp => ⟨(h.2 p hp).1, (h.2 p hp).2.1.mono (by decide), (h.2 p hp).2.2.mono (by decide)⟩⟩
def rowD (k : Str) (d : D) : Prop := ∃ a b : Rat, d = .tuple [.str k, sp2 a b] ∧ a ≤ b ∧ Sz 17 a ∧ Sz 17 b
theorem mk_box : ∀ {ks : List Str} {ds : List D}, ds.length = ks.length → (∀ (i : Nat) (d : D), ds[i]? = some d → rowD (ks.getD i "") d) → ∃ l : BX, BxL17 ks l ∧ ds = (bxL l).map fun p => .tuple [.str p.1, p.2]
  | [], [], _, _ => ⟨[], ⟨rfl, fun p h => nomatch h⟩, rfl⟩
  | k :: ks, d :: ds, hl, h => by
    obtain ⟨l, ⟨h1, h2⟩, h3⟩ := mk_box (ks := ks) (ds := ds) (by simpa using hl) fun i d hd => h (i + 1) d hd
    obtain ⟨a, b, e, hab, za, zb⟩ := h 0 d rfl
    refine ⟨(k, a, b) :: l, ⟨by rw [List.map_cons, h1], fun p hp => ?_⟩, ?_⟩
    · rcases List.mem_cons.mp hp with rfl | hp
      · exact ⟨hab, za, zb⟩
      · exact h2 p hp
    · rw [e, h3]; rfl
  | [], _ :: _, hl, _ => by simp at hl
  | _ :: _, [], hl, _ => by simp at hl
def kvB (l : BX) : List (Key × D) := (bxL l).map fun p => ((Sum.inr p.1 : Key), p.2)
theorem kvB_rows (l : BX) : ((bxL l).map fun p => PyData.tuple [.str p.1, p.2]) = (kvB l).map fun p => PyData.tuple [kD p.1, p.2] := by
  unfold kvB; rw [List.map_map]; rfl
theorem kvB_nd {ks : List Str} {l : BX} (h : l.map (·.1) = ks) (n : NmL ks) : ((kvB l).map (·.1)).Nodup := by
  have : (kvB l).map (·.1) = (l.map (·.1)).map Sum.inr := by unfold kvB bxL; rw [List.map_map, List.map_map, List.map_map]; rfl
  rw [this, h]
  rcases n with rfl | rfl | rfl <;> decide
abbrev N3 : List Str := (["a", "b1", "x"] : List Str)
section
variable {P : Program} {w : World} {K : PySem.W.Frag} {mg : Str → Option Value} {base : Heap}
theorem segb_one (T : Txt K mg) (T2 : Txt2 K mg) {f : Addr} {cdv : Value} {A : Around} {outer : List Env} {s : Shared} {H0 : Hp} {xk : XK} (hr : Room 9 (A.deeper (envOfC "_law_are_boxes_due" (defScope s__law_are_boxes_due) s.heap.objs.size f cdv)))
    {G H : Hp} {l : Addr} (m : MO G H l) {Z : Ends}
    (q : ∀ (ks : List Str) (b1 b2 : BX) (v1 v3 v4 : V) G' H', NmL ks → BxL17 ks b1 → BxL17 ks b2 → Ex G G' → MO G' H' l → Dp K G' v1 (.list (ks.map PyData.str)) → Dp K G' v3 (bx b1) → Dp K G' v4 (bx b2) → wB (cxOf CX0 P w K mg base N__law_are_boxes_due "_law_are_boxes_due" (defScope s__law_are_boxes_due) f cdv A outer s H0 xk).nox (defBody s__law_are_boxes_due |>.drop 2) Z
      [some (.ref l), some v1, Option.none, some v3, some v4, Option.none, Option.none, Option.none, Option.none, Option.none, Option.none, Option.none, Option.none, Option.none, Option.none, Option.none, Option.none, Option.none, Option.none, Option.none] H') :
    wB (cxOf CX0 P w K mg base N__law_are_boxes_due "_law_are_boxes_due" (defScope s__law_are_boxes_due) f cdv A outer s H0 xk).nox (defBody s__law_are_boxes_due) Z
      [some (.ref l), Option.none, Option.none, Option.none, Option.none, Option.none, Option.none, Option.none, Option.none, Option.none, Option.none, Option.none, Option.none, Option.none, Option.none, Option.none, Option.none, Option.none, Option.none, Option.none] H := by
  refine sm_set 1 (R := fun d => ∃ k : Nat, (1 ≤ k ∧ k ≤ 3) ∧ d = .list ((N3.map PyData.str).take k)) (em_slHi (P := fun k => 1 ≤ k ∧ k ≤ 3) (ds := N3.map PyData.str) (e_lst (a_cons e_str (a_cons e_str (a_cons e_str a_nil)))) (em_add (P := (· = 1)) (P2 := fun i => 0 ≤ i ∧ i < 3) em_int (em_call 0 (ok__law_take T) (hr.mono (by decide)) (am_of (a_cons e_int a_nil)) (fun ds e => ⟨_, e, by decide⟩) (fun ds d e ⟨b, i, e1, e2, h1, h2⟩ => ?_)) (fun i j h1 h2 => ⟨(1 + j).toNat, by omega, by omega, by omega⟩))) m sc__law_are_boxes_due.nd fun v1 d1 G1 H1 ⟨k, ⟨k1, k2⟩, ed⟩ g1 m1 h1 => ?_
  · rw [e] at e1; cases e1; exact ⟨i, e2, h1, h2⟩
  have nk : NmL (N3.take k) := NmL.take k1 k2
  have ed : d1 = .list ((N3.take k).map PyData.str) := by rw [ed, List.map_take]
  subst ed
  generalize N3.take k = ks at nk h1
  have hlen : ks.length ≤ 1000 := by have := nk.ok.len; omega
  refine sm_tup2 3 4 (Rs := fun ds => ∃ b1 b2 : BX, ds = [bx b1, bx b2] ∧ BxL17 ks b1 ∧ BxL17 ks b2) rfl sc__law_are_boxes_due.nd (am_imp (am_cons (em_dictP (Rl := fun kvs => ∃ b : BX, kvs = kvB b ∧ BxL17 ks b) rfl T.b_dict (em_imp (em_lcO (x := "name") (j := 2) (n := ks.length) (R := fun i d => rowD (ks.getD i "") d) rfl sc__law_are_boxes_due.nd (ov_list (e_var 1 h1)) (by simp) hlen (blkOk_by (N := N__law_are_boxes_due) (sc := defScope s__law_are_boxes_due) (by decide +kernel)) (fun _ _ _ _ _ => pg_name (i := 2) sc__law_are_boxes_due.nd rfl (Or.inl rfl)) (fun i v d G' hd gg hv s1 H1' C cl fp => ?_) (fun i d ⟨a, b, e, _⟩ => by rw [e]; rfl)) fun d h => ?_))
    (am_cons (em_dictP (Rl := fun kvs => ∃ b : BX, kvs = kvB b ∧ BxL17 ks b) rfl T.b_dict (em_imp (em_lcO (x := "name") (j := 2) (n := ks.length) (R := fun i d => rowD (ks.getD i "") d) rfl sc__law_are_boxes_due.nd (ov_list (e_var 1 h1)) (by simp) hlen (blkOk_by (N := N__law_are_boxes_due) (sc := defScope s__law_are_boxes_due) (by decide +kernel)) (fun _ _ _ _ _ => pg_name (i := 2) sc__law_are_boxes_due.nd rfl (Or.inl rfl)) (fun i v d G' hd gg hv s1 H1' C cl fp => ?_) (fun i d ⟨a, b, e, _⟩ => by rw [e]; rfl)) fun d h => ?_)) am_nil)) fun ds ⟨d1, _, e1, ⟨k1, ek1, _, b1, eb1, hb1⟩, d2, _, e2, ⟨k2, ek2, _, b2, eb2, hb2⟩, e3⟩ => ⟨b1, b2, by rw [e1, e2, e3, ek1, ek2, eb1, eb2]; rfl, hb1, hb2⟩) m1 (fun ds ⟨b1, b2, e, _⟩ => ⟨_, _, e⟩)
    fun v3 v4 d3 d4 G2 H2 ⟨b1, b2, e, hb1, hb2⟩ g2 m2 h3 h4 => ?_
  case refine_1 =>
    rw [List.getElem?_map] at hd
    obtain ⟨r, hr1, hr2⟩ := Option.map_eq_some_iff.mp hd
    subst hr2
    have er : ks.getD i "" = r := by rw [List.getD_eq_getElem?_getD, hr1]; rfl
    rw [er]
    refine em_imp (em_tup (am_cons (em_of (e_var 2 hv)) (am_cons (em_call 0 (ok__law_span T) (hr.mono (by decide)) am_nil (fun ds e => e) (fun ds d e h => h)) am_nil)) (fun ds ⟨_, _, e1, _, _, _, e2, _, e3⟩ => by rw [e1, e2, e3]; simp)) fun d ⟨ds, ed, d1, _, e1, ed1, d2, _, e2, ⟨a, b, ed2, hab, za, zb⟩, e3⟩ => ⟨a, b, by rw [ed, e1, e2, e3, ed1, ed2], hab, za, zb⟩
  case refine_2 =>
    obtain ⟨ds, ed, hl, hrow⟩ := h
    obtain ⟨b, hb, eb⟩ := mk_box hl hrow
    exact ⟨kvB b, by rw [ed, eb, kvB_rows], kvB_nd hb.1 nk, b, rfl, hb⟩
  case refine_3 =>
    rw [List.getElem?_map] at hd
    obtain ⟨r, hr1, hr2⟩ := Option.map_eq_some_iff.mp hd
    subst hr2
    have er : ks.getD i "" = r := by rw [List.getD_eq_getElem?_getD, hr1]; rfl
    rw [er]
    refine em_imp (em_tup (am_cons (em_of (e_var 2 hv)) (am_cons (em_call 0 (ok__law_span T) (hr.mono (by decide)) am_nil (fun ds e => e) (fun ds d e h => h)) am_nil)) (fun ds ⟨_, _, e1, _, _, _, e2, _, e3⟩ => by rw [e1, e2, e3]; simp)) fun d ⟨ds, ed, d1, _, e1, ed1, d2, _, e2, ⟨a, b, ed2, hab, za, zb⟩, e3⟩ => ⟨a, b, by rw [ed, e1, e2, e3, ed1, ed2], hab, za, zb⟩
  case refine_4 =>
    obtain ⟨ds, ed, hl, hrow⟩ := h
    obtain ⟨b, hb, eb⟩ := mk_box hl hrow
    exact ⟨kvB b, by rw [ed, eb, kvB_rows], kvB_nd hb.1 nk, b, rfl, hb⟩
  injection e with e1 e
  injection e with e2 _
  subst e1 e2
  exact q ks b1 b2 v1 v3 v4 G2 H2 nk hb1 hb2 (g1.trans g2) m2 (Dp.mono g2 h1) h3 h4
end
end K01

/-! L15: widths, the widest name, the middles. -/
namespace K01
open PySem PySem.Spec PyProof.Rows DL SX
open L2 hiding Dp DpAll
abbrev XB (P : Program) (w : World) (K : PySem.W.Frag) (mg : Str → Option Value) (base : Heap) (f : Addr) (cdv : Value) (A : Around) (outer : List Env) (s : Shared) (H0 : Hp) (xk : XK) : Cx := (cxOf CX0 P w K mg base N__law_are_boxes_due "_law_are_boxes_due" (defScope s__law_are_boxes_due) f cdv A outer s H0 xk).nox
theorem roomU' {k : Nat} {A : Around} (h : Room k A) : A.units + 65 < cLine := by have := h.un; omega
def midF (p : Str × Rat × Rat) : D := q_middle p.2.1 p.2.2
theorem mid_get {l : BX} (B : BxOk l) {i : Nat} {p : Str × Rat × Rat} (hi : l[i]? = some p) : getK ((l.map fun p => (p.1, midF p)).map fun p => ((Sum.inr p.1 : Key), p.2)) (Sum.inr p.1) = some (midF p) :=
  getK_at (p := (p.1, midF p)) (by rw [List.map_map]; exact B.nd) (i := i) (by rw [List.getElem?_map, hi]; rfl)
section
variable {P : Program} {w : World} {K : PySem.W.Frag} {mg : Str → Option Value} {base : Heap}
theorem segb_two (T : Txt K mg) (T2 : Txt2 K mg) {f : Addr} {cdv : Value} {A : Around} {outer : List Env} {s : Shared} {H0 : Hp} {xk : XK} (hr : Room 9 (A.deeper (envOfC "_law_are_boxes_due" (defScope s__law_are_boxes_due) s.heap.objs.size f cdv)))
    {G H : Hp} {vd v1 v3 v4 : V} {ks : List Str} {l : BX} (nk : NmL ks) (hb : BxL17 ks l) (g : Ex G H) (h1 : Dp K G v1 (.list (ks.map PyData.str))) (h3 : Dp K G v3 (bx l)) {Z : Ends}
    (q : ∀ (k : Nat) (p : Str × Rat × Rat) (v6 v7 v9 : V) (o5 o8 : Option V) G' H', Nx G H G' H' → l[k]? = some p → widest l = some p → Dp K G' v6 (rd (q_wbox l)) → Dp K G' v7 (rd (q_room l)) → Dp K G' v9 (bxF l midF) →
      wB (XB P w K mg base f cdv A outer s H0 xk) (defBody s__law_are_boxes_due |>.drop 7) Z
      [some vd, some v1, some (.str p.1), some v3, some v4, o5, some v6, some v7, o8, some v9, Option.none, Option.none, Option.none, Option.none, Option.none, Option.none, Option.none, Option.none, Option.none, Option.none] H') :
    wB (XB P w K mg base f cdv A outer s H0 xk) (defBody s__law_are_boxes_due |>.drop 2) Z
      [some vd, some v1, Option.none, some v3, some v4, Option.none, Option.none, Option.none, Option.none, Option.none, Option.none, Option.none, Option.none, Option.none, Option.none, Option.none, Option.none, Option.none, Option.none, Option.none] H := by
  have B := hb.to.ok nk
  have hne := hb.to.ne nk
  have hks : ks.map PyData.str = l.map fun p => PyData.str p.1 := by rw [← hb.1, List.map_map]; rfl
  have hlen := B.len
  have zw : ∀ r ∈ l, Sz 36 (wid r) := fun r hr' => sz_sub (hb.2 r hr').2.2 (hb.2 r hr').2.1 (by decide)
  rw [hks] at h1
  refine s_setC 5 (d := .list ((l.map wid).map rd)) (ec_is (ec_lcO (scope := _) (x := "name") (j := 2) (n := l.length) (tt := tYes) (c := fun _ => true) (f := fun i => ((l.map wid).map rd).getD i .none) rfl sc__law_are_boxes_due.nd (ov_list (e_var 1 h1)) (by simp) (by omega) (blkOk_by (N := N__law_are_boxes_due) (sc := defScope s__law_are_boxes_due) (by decide +kernel)) (fun _ _ _ _ _ => pg_name (i := 2) sc__law_are_boxes_due.nd rfl (Or.inl rfl)) (fun _ _ _ _ _ => pts_nil)
    (fun i v d G' hd gg hv G1 H1 _ gh Q q => q G1 H1 (Nx.refl gh)) fun i v d G' hd gg hv _ s H0 C cl fp => ?_) (congrArg PyData.list (kept_getD _ (by simp)))) g (fun v5 G1 H1 n1 h5 => ?_)
  · rw [List.getElem?_map] at hd
    obtain ⟨r, hr1, hr2⟩ := Option.map_eq_some_iff.mp hd
    subst hr2
    obtain ⟨hle, z1, z2⟩ := hb.2 r (List.mem_of_getElem? hr1)
    refine e_is (e_call (ok__law_sub T) (hr.mono (by decide)) (a_cons (e_ixT (e_dget (k := Sum.inr r.1) (roomU hr) (e_var 3 (Dp.mono gg h3)) (e_var 2 hv) (bx_get B hr1)) e_int rfl) (a_cons (e_ixT (e_dget (k := Sum.inr r.1) (roomU hr) (e_var 3 (Dp.mono gg h3)) (e_var 2 hv) (bx_get B hr1)) e_int rfl) a_nil)) ⟨r.2.2, r.2.1, rfl, z2.mono (by decide), z1.mono (by decide), rfl⟩) ?_
    rw [List.getD_eq_getElem?_getD, List.getElem?_map, List.getElem?_map, hr1]; rfl
  have h1' := Dp.mono n1.g h1
  have h3' := Dp.mono n1.g h3
  obtain ⟨w0, wr, hw⟩ : ∃ w0 wr, l.map wid = w0 :: wr := by
    cases hl : l.map wid with
    | nil => exact absurd (by simpa using hl) hne
    | cons a b => exact ⟨a, b, rfl⟩
  have zws : ∀ q ∈ l.map wid, Sz 3000 q := fun q hq => by
    obtain ⟨r, hr', rfl⟩ := List.mem_map.mp hq
    exact (zw r hr').mono (by decide)
  refine s_par 6 7 rfl sc__law_are_boxes_due.nd (d1 := rd (q_wbox l)) (d2 := rd 1) (a_cons (e_ixT (ds := [rd (loL (l.map wid)), rd (hiL (l.map wid))]) (e_call (ok__law_hull T) (hr.mono (by decide)) (a_cons (e_var 5 h5) a_nil) ⟨w0, wr, by rw [hw], by rw [← hw]; exact zws, by rw [← hw]; rfl⟩) e_int (by rw [wbox_eq hne fun p hp => (hb.2 p hp).1]; rfl)) (a_cons (e_is (e_tup (a_cons e_int (a_cons e_int a_nil))) rfl) a_nil)) n1.gh fun v6 v7 G2 H2 n2 h6 h7 => ?_
  have h5' := Dp.mono n2.g h5
  refine s_forO 8 .never rfl sc__law_are_boxes_due.nd (ov_list (e_var 5 h5')) n2.gh (fun G3 H3 vx n3 hvx => ⟨fun k σ' H' => k ≤ l.length ∧ ∃ v e2 G', σ' = [some vd, some v1, Option.none, some v3, some v4, some v5, some v6, some v, e2, Option.none, Option.none, Option.none, Option.none, Option.none, Option.none, Option.none, Option.none, Option.none, Option.none, Option.none] ∧ Nx G3 H3 G' H' ∧ Dp K G' v (rd (((l.take k).map wid).foldl (· * ·) 1)), ⟨Nat.zero_le _, v7, Option.none, G3, rfl, Nx.refl n3.gh, Dp.mono n3.g h7⟩, fun k σ' H' ⟨_, _, _, G', _, n, _⟩ => n.g.trans n.gh, fun k v d σ' H' hd hv ⟨hk, v3', e2, G', eσ, n, d3⟩ => ?_, fun σ' H' ⟨hk, v7', e2, G', eσ, n, d3⟩ => ?_⟩) <;> (subst eσ)
  · rw [List.getElem?_map, List.getElem?_map] at hd
    obtain ⟨z, hz1, hz2⟩ := Option.map_eq_some_iff.mp hd
    obtain ⟨r, hr1, hr2⟩ := Option.map_eq_some_iff.mp hz1
    subst hz2 hr2
    have hkl := (List.getElem?_eq_some_iff.mp hr1).1
    have e1 : ((l.take (k + 1)).map wid).foldl (· * ·) 1 = (((l.take k).map wid).foldl (· * ·) 1) * (wid r) := by
      rw [List.map_take, List.map_take, take_succ_foldl _ _ _ _ (wid r) (by rw [List.getElem?_map, hr1]; rfl)]
    refine s_set 7 (d := rd ((((l.take k).map wid).foldl (· * ·) 1) * wid r)) (e_call (ok__law_mul T) (hr.mono (by decide)) (a_cons (e_var 7 d3) (a_cons (e_var 8 (Dp.mono n.g hv)) a_nil)) ⟨_, _, rfl, (sz_room B k).mono (by omega), (zw r (List.mem_of_getElem? hr1)).mono (by decide), rfl⟩) n.gh sc__law_are_boxes_due.nd fun v4' G4 H4 n4 h4 => s_nil ?_
    exact ⟨hkl, v4', some v, G4, rfl, n.trans n4, by rw [e1]; exact h4⟩
  · rw [List.length_map, List.length_map, List.take_length] at d3
    have N3 := n1.trans (n2.trans (n3.trans n))
    have h1 := Dp.mono N3.g h1
    have h3 := Dp.mono N3.g h3
    have h5 := Dp.mono (n3.trans n).g h5'
    have h6 := Dp.mono (n3.trans n).g h6
    obtain ⟨k, p, hk, hp, hw1, hw2⟩ := widest_spec hne
    have e6 : q_wbox l = hiL (l.map wid) := wbox_eq hne fun p hp => (hb.2 p hp).1
    have shl : SeqAt.shaped (.list ((l.map wid).map rd)) = true := sh_list fun d hd => by
      obtain ⟨q, _, rfl⟩ := List.mem_map.mp hd
      exact lay_rd q
    have ndl : noDc (.list ((l.map wid).map rd)) = true := nd_list fun d hd => by
      obtain ⟨q, _, rfl⟩ := List.mem_map.mp hd
      rfl
    refine s_set 2 (d := .str p.1) (e_ixL (e_var 1 h1) (e_index (k := k) (z := rd (wid p)) (roomU' hr) (e_var 5 h5) (e_var 6 h6) shl rfl ndl rfl (by rw [List.getElem?_map, List.getElem?_map, hk]; rfl) (by rw [eqv_rd, e6, hw1]; exact decide_eq_true rfl) (fun m z' hm hz' => ?_)) (atN (by rw [List.getElem?_map, hk]; rfl))) n.gh sc__law_are_boxes_due.nd fun v2 G5 H5 n5 h2 => ?_
    · rw [List.getElem?_map, List.getElem?_map] at hz'
      obtain ⟨z, hz1, rfl⟩ := Option.map_eq_some_iff.mp hz'
      obtain ⟨r, hr1, rfl⟩ := Option.map_eq_some_iff.mp hz1
      rw [eqv_rd, e6]
      exact decide_eq_false (hw2 m r hm hr1)
    cases h2
    have h1 := Dp.mono n5.g h1
    have h3 := Dp.mono n5.g h3
    refine s_set 9 (d := bxF l midF) (e_dictP (l := (l.map fun p => (p.1, midF p)).map fun p => ((Sum.inr p.1 : Key), p.2)) rfl T.b_dict ?_ (e_is (e_ofC (ec_lcO (scope := _) (x := "own") (j := 18) (n := l.length) (tt := tYes) (c := fun _ => true) (f := fun i => ((l.map fun p => PyData.tuple [.str p.1, midF p])).getD i .none) rfl sc__law_are_boxes_due.nd (ov_list (e_var 1 h1)) (by simp) (by omega) (blkOk_by (N := N__law_are_boxes_due) (sc := defScope s__law_are_boxes_due) (by decide +kernel)) (fun _ _ _ _ _ => pg_name (i := 18) sc__law_are_boxes_due.nd rfl (Or.inl rfl)) (fun _ _ _ _ _ => pts_nil)
      (fun i v d G' hd gg hv G1 H1 _ gh Q q => q G1 H1 (Nx.refl gh)) fun i v d G' hd gg hv _ s H0 C cl fp => ?_)) ?_)) n5.gh sc__law_are_boxes_due.nd fun v9 G6 H6 n6 h9 => ?_
    · rw [List.map_map, List.map_map]
      have := kvB_nd (l := l) hb.1 nk
      unfold kvB bxL at this
      rw [List.map_map, List.map_map] at this
      exact this
    · rw [List.getElem?_map] at hd
      obtain ⟨r, hr1, hr2⟩ := Option.map_eq_some_iff.mp hd
      subst hr2
      obtain ⟨hle, z1, z2⟩ := hb.2 r (List.mem_of_getElem? hr1)
      have zs : Sz 36 (r.2.1 + r.2.2) := sz_add z1 z2 (by decide)
      refine e_is (e_tup (a_cons (e_var 18 hv) (a_cons (e_call (ok__law_mul T) (hr.mono (by decide)) (a_cons (e_call (ok__law_add T) (hr.mono (by decide)) (a_cons (e_ixT (e_dget (k := Sum.inr r.1) (roomU hr) (e_var 3 (Dp.mono gg h3)) (e_var 18 hv) (bx_get B hr1)) e_int rfl) (a_cons (e_ixT (e_dget (k := Sum.inr r.1) (roomU hr) (e_var 3 (Dp.mono gg h3)) (e_var 18 hv) (bx_get B hr1)) e_int rfl) a_nil)) ⟨r.2.1, r.2.2, rfl, z1.mono (by decide), z2.mono (by decide), rfl⟩) (a_cons (e_is (e_tup (a_cons e_int (a_cons e_int a_nil))) half_rd) a_nil)) ⟨r.2.1 + r.2.2, half, rfl, zs.mono (by decide), sz_half (by decide), rfl⟩) a_nil))) ?_
      rw [List.getD_eq_getElem?_getD, List.getElem?_map, hr1]; rfl
    · rw [kept_getD _ (by simp), List.map_map, List.map_map]; rfl
    · exact q k p v6 v7' v9 (some v5) e2 G6 H6 (N3.trans (n5.trans n6)) hk hp (Dp.mono (n5.trans n6).g h6) (Dp.mono (n5.trans n6).g d3) h9
end
end K01

/-! L16: halves; what is told of one box. -/
namespace K01
open PySem PySem.Spec PyProof.Rows DL SX
open L2 hiding Dp DpAll
def loB (l : BX) (p : Str × Rat × Rat) : BX := putB l p.1 (p.2.1, mid p.2.1 p.2.2)
def hiB (l : BX) (p : Str × Rat × Rat) : BX := putB l p.1 (mid p.2.1 p.2.2, p.2.2)
theorem loB_bxL {ks : List Str} {l : BX} (h : BxL17 ks l) {p : Str × Rat × Rat} (hp : p ∈ l) : BxL ks (loB l p) := by
  obtain ⟨a, b, c⟩ := h.2 p hp
  exact putB_bxL h.to _ ⟨(mid_le a).1, b.mono (by decide), sz_mid b c⟩
theorem hiB_bxL {ks : List Str} {l : BX} (h : BxL17 ks l) {p : Str × Rat × Rat} (hp : p ∈ l) : BxL ks (hiB l p) := by
  obtain ⟨a, b, c⟩ := h.2 p hp
  exact putB_bxL h.to _ ⟨(mid_le a).2, sz_mid b c, c.mono (by decide)⟩
def dueC (l : BX) (p : Str × Rat × Rat) : List D := [rd (q_wbox l), .tuple [bx (loB l p), bx (hiB l p)], bxF l midF, rd (q_room l)]
theorem fl_dueC {ks : List Str} {l : BX} (nk : NmL ks) (h : BxL17 ks l) {p : Str × Rat × Rat} (hp : p ∈ l) : Fl 5 (.list (dueC l p)) := .lst 4 _ (by simp [dueC]) fun x hx => by
  simp [dueC] at hx
  rcases hx with rfl | rfl | rfl | rfl
  · exact fl_rd _
  · exact .tup 3 _ (by simp) fun y hy => by
      simp at hy
      rcases hy with rfl | rfl
      · exact fl_bx (loB_bxL h hp) nk
      · exact fl_bx (hiB_bxL h hp) nk
  · unfold bxF bxD
    refine .dic 3 _ ?_ ?_ ?_
    · have := kvB_nd (l := l) h.1 nk
      unfold kvB bxL at this
      rw [List.map_map, List.map_map] at this
      rw [List.map_map, List.map_map]
      exact this
    · rw [List.length_map, List.length_map]; have := (h.to.ok nk).len; omega
    · intro z hz
      obtain ⟨y, hy, rfl⟩ := List.mem_map.mp hz
      obtain ⟨r, hr, rfl⟩ := List.mem_map.mp hy
      exact fl_rd _
  · exact fl_rd _
theorem rtC {ks : List Str} {l : BX} (nk : NmL ks) (h : BxL17 ks l) {p : Str × Rat × Rat} (hp : widest l = some p) : ∀ i, i < 4 → R_told [.int ((7 + i : Nat) : Int), .tuple [bx l]] ((dueC l p).getD i .none) := fun i hi => by
  have hb := h.to.isb nk
  have B := h.to.ok nk
  rcases (show i = 0 ∨ i = 1 ∨ i = 2 ∨ i = 3 by omega) with e | e | e | e <;> subst e
  · exact told1 (by decide) ⟨bx l, rfl, .inr ⟨l, rfl, B, hb, rfl⟩⟩
  · refine told1 (by decide) ⟨bx l, rfl, .inr ⟨l, rfl, B, hb, ?_⟩⟩
    show _ = if l.length = 0 then _ else _
    rw [if_neg (by have := h.to.ne nk; cases l; exact absurd rfl this; simp), halveB_eq hp]; rfl
  · exact told1 (by decide) ⟨bx l, rfl, .inr ⟨l, rfl, B, hb, rfl⟩⟩
  · exact told1 (by decide) ⟨bx l, rfl, .inr ⟨l, rfl, B, hb, rfl⟩⟩
section
variable {P : Program} {w : World} {K : PySem.W.Frag} {mg : Str → Option Value} {base : Heap}
theorem segb_three (T : Txt K mg) (T2 : Txt2 K mg) {f : Addr} {cdv : Value} {A : Around} {outer : List Env} {s : Shared} {H0 : Hp} {xk : XK} (hr : Room 9 (A.deeper (envOfC "_law_are_boxes_due" (defScope s__law_are_boxes_due) s.heap.objs.size f cdv)))
    {G H : Hp} {vd v1 v3 v4 v6 v7 v9 : V} {o5 o8 : Option V} {ks : List Str} {l : BX} {k : Nat} {p : Str × Rat × Rat} (nk : NmL ks) (hb : BxL17 ks l) (hk : l[k]? = some p) (hp : widest l = some p) (g : Ex G H) (h3 : Dp K G v3 (bx l)) (h6 : Dp K G v6 (rd (q_wbox l))) (h7 : Dp K G v7 (rd (q_room l))) (h9 : Dp K G v9 (bxF l midF)) {Z : Ends}
    (q : ∀ (v10 v11 : V) G' H', Nx G H G' H' → Dp K G' v10 (bx (loB l p)) → wB (XB P w K mg base f cdv A outer s H0 xk) (defBody s__law_are_boxes_due |>.drop 10) Z
      [some vd, some v1, some (.str p.1), some v3, some v4, o5, some v6, some v7, o8, some v9, some v10, some v11, Option.none, Option.none, Option.none, Option.none, Option.none, Option.none, Option.none, Option.none] H') :
    wB (XB P w K mg base f cdv A outer s H0 xk) (defBody s__law_are_boxes_due |>.drop 7) Z
      [some vd, some v1, some (.str p.1), some v3, some v4, o5, some v6, some v7, o8, some v9, Option.none, Option.none, Option.none, Option.none, Option.none, Option.none, Option.none, Option.none, Option.none, Option.none] H := by
  have B := hb.to.ok nk
  have hpm := List.mem_of_getElem? hk
  have hlen := B.len
  refine s_twoD 10 11 (kvs := kvB l) (key := Sum.inr p.1) (d1 := sp2 p.2.1 (mid p.2.1 p.2.2)) (d2 := sp2 (mid p.2.1 p.2.2) p.2.2) rfl sc__law_are_boxes_due.nd (roomU hr) T.b_dict (e_var 3 h3) (e_var 3 h3) g ?_ (by unfold kvB bxL; simp; omega) (fun p1 p2 => e_var 2 (.str _)) (fun p1 p2 => e_var 2 (.str _))
    (fun p1 p2 => a_cons (e_tup (a_cons (e_ixT (e_dget (k := Sum.inr p.1) (roomU hr) (e_var 3 h3) (e_var 2 (.str _)) (bx_get B hk)) e_int rfl) (a_cons (e_dget (k := Sum.inr p.1) (roomU hr) (e_var 9 h9) (e_var 2 (.str _)) (mid_get B hk)) a_nil))) (a_cons (e_tup (a_cons (e_dget (k := Sum.inr p.1) (roomU hr) (e_var 9 h9) (e_var 2 (.str _)) (mid_get B hk)) (a_cons (e_ixT (e_dget (k := Sum.inr p.1) (roomU hr) (e_var 3 h3) (e_var 2 (.str _)) (bx_get B hk)) e_int rfl) a_nil))) a_nil)) (fun _ _ => rfl) (fun _ _ => rfl) fun p1 p2 G1 H1 n1 h10 h11 => ?_
  · unfold kvB bxL
    exact List.mem_map.mpr ⟨((Sum.inr p.1 : Key), sp2 p.2.1 p.2.2), List.mem_map.mpr ⟨(p.1, sp2 p.2.1 p.2.2), List.mem_map.mpr ⟨p, hpm, rfl⟩, rfl⟩, rfl⟩
  have h10 : Dp K G1 (.ref p1) (bx (loB l p)) := by
    have := setK_eq l p.1 (p.2.1, mid p.2.1 p.2.2)
    unfold loB
    rw [← this]; exact h10
  have h11 : Dp K G1 (.ref p2) (bx (hiB l p)) := by
    have := setK_eq l p.1 (mid p.2.1 p.2.2, p.2.2)
    unfold hiB
    rw [← this]; exact h11
  have h3 := Dp.mono n1.g h3
  have h6 := Dp.mono n1.g h6
  have h7 := Dp.mono n1.g h7
  have h9 := Dp.mono n1.g h9
  refine s_when (k := false) (t_is (t_or (t_not (t_val (e_call (ok__law_same T 5) (hr.mono (by decide)) (a_cons (e_is (e_ofC (ec_lcO (scope := _) (x := "which") (j := 19) (n := 4) (tt := tYes) (c := fun _ => true) (f := fun i => (dueC l p).getD i .none) rfl sc__law_are_boxes_due.nd (ov_list (e_lst (a_cons e_int (a_cons e_int (a_cons e_int (a_cons e_int a_nil)))))) rfl (by decide) (blkOk_by (N := N__law_are_boxes_due) (sc := defScope s__law_are_boxes_due) (by decide +kernel)) (fun _ _ _ _ _ => pg_name (i := 19) sc__law_are_boxes_due.nd rfl (Or.inl rfl)) (fun _ _ _ _ _ => pts_nil)
      (fun i v d G' hd gg hv G1 H1 _ gh Q q => q G1 H1 (Nx.refl gh)) fun i v d G' hd gg hv _ s H0 C cl fp => ?_)) (congrArg PyData.list (kept_getD (dueC l p) (n := 4) rfl))) (a_cons (e_is (e_lst (a_cons (e_var 6 h6) (a_cons (e_tup (a_cons (e_var 10 h10) (a_cons (e_var 11 h11) a_nil))) (a_cons (e_var 9 h9) (a_cons (e_var 7 h7) a_nil))))) rfl) a_nil)) ⟨.list (dueC l p), rfl, fl_dueC nk hb hpm, rfl⟩)))
    fun _ => t_notB (e_call (ok_is_box T) (hr.mono (by decide)) (a_cons (e_var 3 h3) a_nil) (hb.to.isb nk)) e_bl) rfl) n1.gh (fun z => nomatch z) fun _ G2 H2 n2 => ?_
  · have ei : i < 4 ∧ d = .int ((7 + i : Nat) : Int) := by
      rcases (show i = 0 ∨ i = 1 ∨ i = 2 ∨ i = 3 ∨ 4 ≤ i by omega) with e | e | e | e | e
      · subst e; injection hd with hd; exact ⟨by decide, hd.symm⟩
      · subst e; injection hd with hd; exact ⟨by decide, hd.symm⟩
      · subst e; injection hd with hd; exact ⟨by decide, hd.symm⟩
      · subst e; injection hd with hd; exact ⟨by decide, hd.symm⟩
      · rw [List.getElem?_eq_none (by simpa using e)] at hd; cases hd
    obtain ⟨hi, rfl⟩ := ei
    exact e_call (ok__law_told T T2) (hr.mono (by decide)) (a_cons (e_var 19 hv) (a_cons (e_tup (a_cons (e_var 3 (Dp.mono gg h3)) a_nil)) a_nil)) (rtC nk hb hp i hi)
  · exact q (.ref p1) (.ref p2) G2 H2 (n1.trans n2) (Dp.mono n2.g h10)
end
end K01

/-! L17: what is told of two boxes. -/
namespace K01
open PySem PySem.Spec PyProof.Rows DL SX
open L2 hiding Dp DpAll
theorem alike {ks : List Str} {l l' : BX} (nk : NmL ks) (h : BxL ks l) (h' : BxL ks l') (g : BX → BX → Except Str D) : RBX2 g [bx l, bx l'] (g l l') := by
  have e1 := keysL_of ((bxL_nm l).trans h.nm)
  have e2 := keysL_of ((bxL_nm l').trans h'.nm)
  refine ⟨bx l, bx l', rfl, .inr (.inr ⟨l, l', rfl, rfl, h.isb nk, h'.isb nk, ?_, ?_, ?_, ?_, .inr ⟨?_, h.ok nk, h'.ok nk, h.al h', rfl⟩⟩)⟩
  · rw [e1]; exact nk.ok.sh
  · rw [e2]; exact nk.ok.sh
  · rw [e1]; exact nk.ok.nz
  · rw [e2]; exact nk.ok.nz
  · rw [e1, e2]; exact nk.eqv
def dueE (l l' : BX) : List D := [q_comB l l', .bool (((l.zip l').map w_within).all id), .bool (((l.zip l').map w_inside).all id), .bool true]
theorem fl_dueE {ks : List Str} {l l' : BX} (nk : NmL ks) (h : BxL17 ks l) (h' : BxL17 ks l') : Fl 5 (.list (dueE l l')) := .lst 4 _ (by simp [dueE]) fun x hx => by
  simp [dueE] at hx
  rcases hx with rfl | rfl | rfl | rfl
  · unfold q_comB
    split
    · exact .sc _ _ rfl
    · unfold bxD
      have al := h.to.al h'.to
      refine .dic 3 _ ?_ ?_ ?_
      · have : ((comD l l').map fun p => ((Sum.inr p.1 : Key), p.2)).map (·.1) = ((comD l l').map (·.1)).map Sum.inr := by rw [List.map_map, List.map_map]; rfl
        rw [this, comD_keys al, h.1]
        rcases nk with rfl | rfl | rfl <;> decide
      · rw [List.length_map, comD_len al]; have := (h.to.ok nk).len; omega
      · intro z hz
        obtain ⟨y, hy, rfl⟩ := List.mem_map.mp hz
        unfold comD at hy
        obtain ⟨r, hr, rfl⟩ := List.mem_map.mp hy
        exact fl_common _ _ _ _
  · exact .sc _ _ rfl
  · exact .sc _ _ rfl
  · exact .sc _ _ rfl
section
variable {P : Program} {w : World} {K : PySem.W.Frag} {mg : Str → Option Value} {base : Heap}
theorem segb_four (T : Txt K mg) (T2 : Txt2 K mg) {f : Addr} {cdv : Value} {A : Around} {outer : List Env} {s : Shared} {H0 : Hp} {xk : XK} (hr : Room 9 (A.deeper (envOfC "_law_are_boxes_due" (defScope s__law_are_boxes_due) s.heap.objs.size f cdv)))
    {G H : Hp} {vd v1 v2 v3 v4 v10 : V} {o5 o6 o7 o8 o9 o11 : Option V} {ks : List Str} {l l' : BX} {p : Str × Rat × Rat} (nk : NmL ks) (hb : BxL17 ks l) (hb' : BxL17 ks l') (hpm : p ∈ l) (g : Ex G H) (h1 : Dp K G v1 (.list (ks.map PyData.str))) (h3 : Dp K G v3 (bx l)) (h4 : Dp K G v4 (bx l')) (h10 : Dp K G v10 (bx (loB l p))) {Z : Ends}
    (q : ∀ (o12 o13 o14 o15 : Option V) G' H', Nx G H G' H' → wB (XB P w K mg base f cdv A outer s H0 xk) (defBody s__law_are_boxes_due |>.drop 15) Z
      [some vd, some v1, some v2, some v3, some v4, o5, o6, o7, o8, o9, some v10, o11, o12, o13, o14, o15, Option.none, Option.none, Option.none, Option.none] H') :
    wB (XB P w K mg base f cdv A outer s H0 xk) (defBody s__law_are_boxes_due |>.drop 10) Z
      [some vd, some v1, some v2, some v3, some v4, o5, o6, o7, o8, o9, some v10, o11, Option.none, Option.none, Option.none, Option.none, Option.none, Option.none, Option.none, Option.none] H := by
  have B := hb.to.ok nk
  have B' := hb'.to.ok nk
  have al := hb.to.al hb'.to
  have hlen := B.len
  have hL := al.len
  have hks : ks.map PyData.str = l.map fun p => PyData.str p.1 := by rw [← hb.1, List.map_map]; rfl
  have shk : ∀ (n : Nat) (c : Nat → Bool), SeqAt.shaped (.list (kept n c fun i => (ks.map PyData.str).getD i .none)) = true ∧ noDc (.list (kept n c fun i => (ks.map PyData.str).getD i .none)) = true := fun n c => by
    have key : ∀ d ∈ kept n c fun i => (ks.map PyData.str).getD i .none, (d.canLay0 = true ∧ d.depth ≤ 20) ∧ noDc d = true := fun d hd => by
      obtain ⟨i, hi, rfl⟩ := kept_mem hd
      by_cases hi' : i < ks.length
      · have e : (ks.map PyData.str).getD i .none = .str ks[i] := by simp [List.getD_eq_getElem?_getD, hi']
        rw [e]
        refine ⟨⟨?_, by show (0 : Nat) ≤ 20; decide⟩, rfl⟩
        have hm := List.getElem_mem hi'
        generalize ks[i] = k at hm
        have : ∀ k ∈ ks, (PyData.str k).canLay0 = true := by rcases nk with rfl | rfl | rfl <;> decide +kernel
        exact this k hm
      · have e : (ks.map PyData.str).getD i .none = .none := by simp [List.getD_eq_getElem?_getD, hi']
        rw [e]
        exact ⟨⟨rfl, by show (0 : Nat) ≤ 20; decide⟩, rfl⟩
    exact ⟨sh_list fun d hd => (key d hd).1, nd_list fun d hd => (key d hd).2⟩
  have row : ∀ (i : Nat) (d : D), (l.map fun p => PyData.str p.1)[i]? = some d → ∃ r r', l[i]? = some r ∧ l'[i]? = some r' ∧ d = .str r.1 ∧ (r.2.1 ≤ r.2.2 ∧ Sz 1000 r.2.1 ∧ Sz 1000 r.2.2) ∧ (r'.2.1 ≤ r'.2.2 ∧ Sz 1000 r'.2.1 ∧ Sz 1000 r'.2.2) ∧ getK (kvB l') (Sum.inr r.1) = some (sp2 r'.2.1 r'.2.2) := fun i d hd => by
    rw [List.getElem?_map] at hd
    obtain ⟨r, hr1, hr2⟩ := Option.map_eq_some_iff.mp hd
    obtain ⟨r', hr1', er⟩ := al.at hr1
    obtain ⟨a1, a2, a3⟩ := hb.2 r (List.mem_of_getElem? hr1)
    obtain ⟨c1, c2, c3⟩ := hb'.2 r' (List.mem_of_getElem? hr1')
    have hg := bx_get B' hr1'
    rw [er] at hg
    exact ⟨r, r', hr1, hr1', hr2.symm, ⟨a1, a2.mono (by decide), a3.mono (by decide)⟩, ⟨c1, c2.mono (by decide), c3.mono (by decide)⟩, hg⟩
  rw [hks] at h1
  have hnd : ((comD l l').map (·.1)).Nodup := by rw [comD_keys al]; exact B.nd
  refine s_set 12 (d := bxD (comD l l')) (e_dictP (l := (comD l l').map fun p => ((Sum.inr p.1 : Key), p.2)) rfl T.b_dict ?_ (e_is (e_ofC (ec_lcO (scope := _) (x := "own") (j := 18) (n := l.length) (tt := tYes) (c := fun _ => true) (f := fun i => ((comD l l').map fun p => PyData.tuple [.str p.1, p.2]).getD i .none) rfl sc__law_are_boxes_due.nd (ov_list (e_var 1 h1)) (by simp) (by omega) (blkOk_by (N := N__law_are_boxes_due) (sc := defScope s__law_are_boxes_due) (by decide +kernel)) (fun _ _ _ _ _ => pg_name (i := 18) sc__law_are_boxes_due.nd rfl (Or.inl rfl)) (fun _ _ _ _ _ => pts_nil)
      (fun i v d G' hd gg hv G1 H1 _ gh Q q => q G1 H1 (Nx.refl gh)) fun i v d G' hd gg hv _ s H0 C cl fp => ?_)) ?_)) g sc__law_are_boxes_due.nd fun v12 G1 H1 n1 h12 => ?_
  · have : ((comD l l').map fun p => ((Sum.inr p.1 : Key), p.2)).map (·.1) = ((comD l l').map (·.1)).map Sum.inr := by rw [List.map_map, List.map_map]; rfl
    rw [this, comD_keys al, hb.1]
    rcases nk with rfl | rfl | rfl <;> decide
  · obtain ⟨r, r', e1, e2, rfl, ⟨a1, a2, a3⟩, ⟨c1, c2, c3⟩, hg⟩ := row i d hd
    refine e_is (e_tup (a_cons (e_var 18 hv) (a_cons (e_call (ok__law_told T T2) (hr.mono (by decide)) (a_cons e_int (a_cons (e_tup (a_cons (e_dget (k := Sum.inr r.1) (roomU hr) (e_var 3 (Dp.mono gg h3)) (e_var 18 hv) (bx_get B e1)) (a_cons (e_dget (k := Sum.inr r.1) (roomU hr) (e_var 4 (Dp.mono gg h4)) (e_var 18 hv) hg) a_nil))) a_nil)) (told2 (i := 19) (r := .ok (q_common r.2.1 r.2.2 r'.2.1 r'.2.2)) (by decide) (by decide) (rt2 (fun a b x y => .ok (q_common a b x y)) a1 c1 a2 a3 c2 c3) (okErr_ok _))) a_nil))) ?_
    rw [List.getD_eq_getElem?_getD, List.getElem?_map, comD_at e1 e2]; rfl
  · rw [kept_getD _ (by rw [List.length_map, comD_len al]), List.map_map]; rfl
  have h1 := Dp.mono n1.g h1
  have h3 := Dp.mono n1.g h3
  have h4 := Dp.mono n1.g h4
  have sh2 : SeqAt.shaped (.list (((comD l l').map fun p => ((Sum.inr p.1 : Key), p.2)).map (·.2))) = true := sh_list fun d hd => by
    rw [List.map_map] at hd
    obtain ⟨y, hy, rfl⟩ := List.mem_map.mp hd
    unfold comD at hy
    obtain ⟨r, hr, rfl⟩ := List.mem_map.mp hy
    exact lay_common _ _ _ _
  have nd2 : noDc (.list (((comD l l').map fun p => ((Sum.inr p.1 : Key), p.2)).map (·.2))) = true := nd_list fun d hd => by
    rw [List.map_map] at hd
    obtain ⟨y, hy, rfl⟩ := List.mem_map.mp hd
    unfold comD at hy
    obtain ⟨r, hr, rfl⟩ := List.mem_map.mp hy
    exact nd_common _ _ _ _
  have eany : ((((comD l l').map fun p => ((Sum.inr p.1 : Key), p.2)).map (·.2)).any fun z => PyData.eqv z .none) = (comD l l').any fun p => isN p.2 := by
    rw [List.map_map, List.any_map]
    congr 1
    funext p
    exact eqv_none p.2
  refine s_set 13 (d := q_comB l l') (e_if (k := (comD l l').any fun p => isN p.2) (t_is (t_inD (roomU' hr) e_non (e_listV rfl T.b_list (e_var 12 h12)) rfl sh2 rfl nd2) eany) (fun h => e_is e_non (by unfold q_comB; rw [if_pos h])) fun h => e_is (e_var 12 h12) (by unfold q_comB; rw [if_neg (by rw [h]; decide)])) n1.gh sc__law_are_boxes_due.nd fun v13 G2 H2 n2 h13 => ?_
  have h1 := Dp.mono n2.g h1
  have h3 := Dp.mono n2.g h3
  have h4 := Dp.mono n2.g h4
  have lw : ((l.zip l').map w_within).length = l.length := by simp [hL]
  have lv : ((l.zip l').map w_inside).length = l.length := by simp [hL]
  rw [hks] at shk
  refine s_set 14 (d := .bool (((l.zip l').map w_within).all id)) (e_is (e_eqD (da := .list (kept l.length (fun i => !(((l.zip l').map w_within).getD i false)) fun i => (l.map fun p => PyData.str p.1).getD i .none)) (db := .list []) (roomU hr) (e_ofC (ec_lcO (scope := _) (x := "own") (j := 18) (n := l.length) (tt := wBT _ _ _) (c := fun i => !(((l.zip l').map w_within).getD i false)) (f := fun i => (l.map fun p => PyData.str p.1).getD i .none) rfl sc__law_are_boxes_due.nd (ov_list (e_var 1 h1)) (by simp) (by omega) (blkOk_by (N := N__law_are_boxes_due) (sc := defScope s__law_are_boxes_due) (by decide +kernel)) (fun _ _ _ _ _ => pg_name (i := 18) sc__law_are_boxes_due.nd rfl (Or.inl rfl)) (fun _ _ _ _ _ => pts_one (pt_wBT _ _ _ _ _))
      (fun i v d G' hd gg hv G5 H5 g5 gh5 Q q => fun s H0 C cl fp => ?_) fun i v d G' hd gg hv _ s H0 C cl fp => ?_)) (e_lst a_nil) (shk _ _).1 rfl (shk _ _).2 rfl) (by rw [eqv_nil, kept_bs lw])) n2.gh sc__law_are_boxes_due.nd fun v14 G3 H3 n3 h14 => ?_
  · refine wT_of (k := !(((l.zip l').map w_within).getD i false)) (G := G') ?_ g5 gh5 q
    obtain ⟨r, r', e1, e2, rfl, ⟨a1, a2, a3⟩, ⟨c1, c2, c3⟩, hg⟩ := row i d hd
    refine t_is (t_not (t_val (e_call (ok__law_told T T2) (hr.mono (by decide)) (a_cons e_int (a_cons (e_tup (a_cons (e_dget (k := Sum.inr r.1) (roomU hr) (e_var 3 (Dp.mono gg h3)) (e_var 18 hv) (bx_get B e1)) (a_cons (e_dget (k := Sum.inr r.1) (roomU hr) (e_var 4 (Dp.mono gg h4)) (e_var 18 hv) hg) a_nil))) a_nil)) (told2 (i := 23) (r := .ok (q_within r.2.1 r.2.2 r'.2.1 r'.2.2)) (by decide) (by decide) (rt2 (fun a b x y => .ok (q_within a b x y)) a1 c1 a2 a3 c2 c3) (okErr_ok _))))) ?_
    rw [List.getD_eq_getElem?_getD, List.getElem?_map, zip_at e1 e2]; rfl
  · refine e_is (e_var 18 hv) ?_
    rw [List.getD_eq_getElem?_getD, hd]; rfl
  have h1 := Dp.mono n3.g h1
  have h3 := Dp.mono n3.g h3
  have h4 := Dp.mono n3.g h4
  refine s_set 15 (d := .bool (((l.zip l').map w_inside).all id)) (e_is (e_eqD (da := .list (kept l.length (fun i => !(((l.zip l').map w_inside).getD i false)) fun i => (l.map fun p => PyData.str p.1).getD i .none)) (db := .list []) (roomU hr) (e_ofC (ec_lcO (scope := _) (x := "own") (j := 18) (n := l.length) (tt := wBT _ _ _) (c := fun i => !(((l.zip l').map w_inside).getD i false)) (f := fun i => (l.map fun p => PyData.str p.1).getD i .none) rfl sc__law_are_boxes_due.nd (ov_list (e_var 1 h1)) (by simp) (by omega) (blkOk_by (N := N__law_are_boxes_due) (sc := defScope s__law_are_boxes_due) (by decide +kernel)) (fun _ _ _ _ _ => pg_name (i := 18) sc__law_are_boxes_due.nd rfl (Or.inl rfl)) (fun _ _ _ _ _ => pts_one (pt_wBT _ _ _ _ _))
      (fun i v d G' hd gg hv G5 H5 g5 gh5 Q q => fun s H0 C cl fp => ?_) fun i v d G' hd gg hv _ s H0 C cl fp => ?_)) (e_lst a_nil) (shk _ _).1 rfl (shk _ _).2 rfl) (by rw [eqv_nil, kept_bs lv])) n3.gh sc__law_are_boxes_due.nd fun v15 G4 H4 n4 h15 => ?_
  · refine wT_of (k := !(((l.zip l').map w_inside).getD i false)) (G := G') ?_ g5 gh5 q
    obtain ⟨r, r', e1, e2, rfl, ⟨a1, a2, a3⟩, ⟨c1, c2, c3⟩, hg⟩ := row i d hd
    refine t_is (t_not (t_val (e_call (ok__law_told T T2) (hr.mono (by decide)) (a_cons e_int (a_cons (e_tup (a_cons (e_dget (k := Sum.inr r.1) (roomU hr) (e_var 3 (Dp.mono gg h3)) (e_var 18 hv) (bx_get B e1)) (a_cons (e_dget (k := Sum.inr r.1) (roomU hr) (e_var 4 (Dp.mono gg h4)) (e_var 18 hv) hg) a_nil))) a_nil)) (told2 (i := 24) (r := .ok (q_inside r.2.1 r.2.2 r'.2.1 r'.2.2)) (by decide) (by decide) (rt2 (fun a b x y => .ok (q_inside a b x y)) a1 c1 a2 a3 c2 c3) (okErr_ok _))))) ?_
    rw [List.getD_eq_getElem?_getD, List.getElem?_map, zip_at e1 e2]; rfl
  · refine e_is (e_var 18 hv) ?_
    rw [List.getD_eq_getElem?_getD, hd]; rfl
  have N4 := n1.trans (n2.trans (n3.trans n4))
  have h3 := Dp.mono n4.g h3
  have h4 := Dp.mono n4.g h4
  have h10 := Dp.mono N4.g h10
  have h13 := Dp.mono (n3.trans n4).g h13
  have h14 := Dp.mono n4.g h14
  refine s_when (k := false) (t_is (t_not (t_val (e_call (ok__law_same T 5) (hr.mono (by decide)) (a_cons (e_is (e_lst (a_cons (e_call (ok__law_told T T2) (hr.mono (by decide)) (a_cons e_int (a_cons (e_tup (a_cons (e_var 3 h3) (a_cons (e_var 4 h4) a_nil))) a_nil)) (told2 (i := 25) (r := .ok (q_comB l l')) (by decide) (by decide) (alike nk hb.to hb'.to fun l l' => .ok (q_comB l l')) (okErr_ok _)))
    (a_cons (e_call (ok__law_told T T2) (hr.mono (by decide)) (a_cons e_int (a_cons (e_tup (a_cons (e_var 3 h3) (a_cons (e_var 4 h4) a_nil))) a_nil)) (told2 (i := 26) (r := .ok (.bool (((l.zip l').map w_within).all id))) (by decide) (by decide) (alike nk hb.to hb'.to fun l l' => .ok (.bool (((l.zip l').map w_within).all id))) (okErr_ok _)))
    (a_cons (e_call (ok__law_told T T2) (hr.mono (by decide)) (a_cons e_int (a_cons (e_tup (a_cons (e_var 3 h3) (a_cons (e_var 4 h4) a_nil))) a_nil)) (told2 (i := 27) (r := .ok (.bool (((l.zip l').map w_inside).all id))) (by decide) (by decide) (alike nk hb.to hb'.to fun l l' => .ok (.bool (((l.zip l').map w_inside).all id))) (okErr_ok _)))
    (a_cons (e_is (e_call (ok__law_told T T2) (hr.mono (by decide)) (a_cons e_int (a_cons (e_tup (a_cons (e_var 10 h10) (a_cons (e_var 3 h3) a_nil))) a_nil)) (told2 (i := 26) (r := .ok (.bool ((((loB l p).zip l).map w_within).all id))) (by decide) (by decide) (alike nk (loB_bxL hb hpm) hb.to fun l l' => .ok (.bool (((l.zip l').map w_within).all id))) (okErr_ok _))) (by unfold loB; rw [low_in B.nd hpm (hb.2 p hpm).1]; rfl)) a_nil))))) rfl)
    (a_cons (e_is (e_lst (a_cons (e_var 13 h13) (a_cons (e_var 14 h14) (a_cons (e_var 15 h15) (a_cons e_bl a_nil))))) rfl) a_nil)) ⟨.list (dueE l l'), rfl, fl_dueE nk hb hb', rfl⟩))) rfl) n4.gh (fun z => nomatch z) fun _ G5 H5 n5 => ?_
  exact q (some v12) (some v13) (some v14) (some v15) G5 H5 (N4.trans n5)
end
end K01

/-! L18: what is no box; boxes are due. -/
namespace K01
open PySem PySem.Spec PyProof.Rows DL SX
open L2 hiding Dp DpAll
/-- 'refused 1' -/
def ref1 : D := .str (S [114, 101, 102, 117, 115, 101, 100, 32, 49])
theorem ref1_eq : outD NR = ref1 := (ref_eq 1 (by decide)).symm
def oddL (s : D) : List D := [.none, mkD [(Sum.inr "A", s)], mkD [(Sum.inr "b", s), (Sum.inr "a", s)], mkD [(Sum.inr "a", .tuple [.tuple [.int 1, .int 1], .tuple [.int 0, .int 1]])], mkD [(Sum.inr "a", .tuple [.int 1, .int 1])], .list [.tuple [.str "a", s]]]
theorem spz_11 : SpZ 1000 (.tuple [.tuple [.int 1, .int 1], .tuple [.int 0, .int 1]]) := SpZ.sp (a := 1) (b := 0) ⟨by decide, by decide⟩ ⟨by decide, by decide⟩
theorem isSpan_no1 : isSpan (.tuple [.tuple [.int 1, .int 1], .tuple [.int 0, .int 1]]) = false := by
  show isSpan (sp2 1 0) = false
  show (isRatio (rd 1) && isRatio (rd 0) && !decide (qOf (rd 0) < qOf (rd 1))) = false
  rw [isRatio_rd, isRatio_rd, qOf_rd, qOf_rd, decide_eq_true (by decide +kernel)]; rfl
theorem spz_t : SpZ 1000 (.tuple [.int 1, .int 1]) := And.intro (fun h => absurd h (by decide)) (fun h => absurd h (by decide))
theorem isSpan_no2 : isSpan (.tuple [.int 1, .int 1]) = false := rfl
theorem odd_no {a b : Rat} (h : a ≤ b) (za : Sz 1000 a) (zb : Sz 1000 b) {d : D} (hd : d ∈ oddL (sp2 a b)) : R_is_box [d] (.bool false) := by
  simp [oddL] at hd
  have zs := SpZ.sp za zb
  rcases hd with rfl | rfl | rfl | rfl | rfl | rfl
  · exact isBox_n rfl
  · refine isBox_f (l := [("A", sp2 a b)]) nmA' rfl (fun p hp => by simp at hp; subst hp; exact zs) ?_
    unfold boxOk
    have e : nameOk "A" = false := by decide +kernel
    show ((nameOk "A" && isSpan (sp2 a b)) && true && _) = false
    rw [e]; rfl
  · refine isBox_f (l := [("b", sp2 a b), ("a", sp2 a b)]) nmBA rfl (fun p hp => by simp at hp; rcases hp with rfl | rfl <;> exact zs) ?_
    unfold boxOk
    have e : PyData.eqv (keysL [("b", sp2 a b), ("a", sp2 a b)]) (.list ((["a", "b"] : List Str).map PyData.str)) = false := by
      show PyData.eqv (.list [.str "b", .str "a"]) (.list [.str "a", .str "b"]) = false
      decide +kernel
    rw [e, Bool.and_false]
  · refine isBox_f (l := [("a", .tuple [.tuple [.int 1, .int 1], .tuple [.int 0, .int 1]])]) nmA rfl (fun p hp => by simp at hp; subst hp; exact spz_11) ?_
    unfold boxOk
    show ((nameOk "a" && isSpan (.tuple [.tuple [.int 1, .int 1], .tuple [.int 0, .int 1]])) && true && _) = false
    rw [isSpan_no1, Bool.and_false]; rfl
  · refine isBox_f (l := [("a", .tuple [.int 1, .int 1])]) nmA rfl (fun p hp => by simp at hp; subst hp; exact spz_t) ?_
    unfold boxOk
    show ((nameOk "a" && isSpan (.tuple [.int 1, .int 1])) && true && _) = false
    rw [isSpan_no2, Bool.and_false]; rfl
  · exact isBox_n rfl
theorem told1N {i : Nat} {a : D} (hi : i < 11) (h : RT i [a] NR) : R_told [.int (i : Nat), .tuple [a]] ref1 := .inl ⟨i, a, NR, hi, rfl, h, okErr_NR, ref1_eq.symm⟩
theorem told2N {i : Nat} {a b : D} (hi : 11 ≤ i) (hi2 : i < 28) (h : RT i [a, b] NR) : R_told [.int (i : Nat), .tuple [a, b]] ref1 := .inr ⟨i, a, b, NR, hi, hi2, rfl, h, okErr_NR, ref1_eq.symm⟩
theorem rtO {d : D} (h : R_is_box [d] (.bool false)) : ∀ i, i < 4 → R_told [.int ((7 + i : Nat) : Int), .tuple [d]] ref1 := fun i hi => by
  rcases (show i = 0 ∨ i = 1 ∨ i = 2 ∨ i = 3 by omega) with e | e | e | e <;> subst e
  · exact told1N (by decide) ⟨d, rfl, .inl ⟨h, rfl⟩⟩
  · exact told1N (by decide) ⟨d, rfl, .inl ⟨h, rfl⟩⟩
  · exact told1N (by decide) ⟨d, rfl, .inl ⟨h, rfl⟩⟩
  · exact told1N (by decide) ⟨d, rfl, .inl ⟨h, rfl⟩⟩
theorem zz_bxL {a b : Rat} (h : a ≤ b) (za : Sz 40 a) (zb : Sz 40 b) : BxL (["zz"] : List Str) [("zz", a, b)] := ⟨rfl, fun p hp => by simp at hp; subst hp; exact ⟨h, za, zb⟩⟩
theorem zz_isb {a b : Rat} (h : a ≤ b) (za : Sz 40 a) (zb : Sz 40 b) : R_is_box [bx [("zz", a, b)]] (.bool true) :=
  isBox_t (ks := (["zz"] : List Str)) nmZ rfl (fun p hp => by
    simp [bxL] at hp
    subst hp
    exact SpZ.sp (za.mono (by decide)) (zb.mono (by decide))) (by decide +kernel) (fun p hp => by
    simp [bxL] at hp
    subst hp
    exact isSpan_sp h) (by decide +kernel)
theorem unlike {ks : List Str} {l : BX} (nk : NmL ks) (hb : BxL ks l) {a b : Rat} (h : a ≤ b) (za : Sz 40 a) (zb : Sz 40 b) (g : BX → BX → Except Str D) : RBX2 g [bx l, bx [("zz", a, b)]] NR := by
  have e1 := keysL_of ((bxL_nm l).trans hb.nm)
  have e2 : keysL (bxL [("zz", a, b)]) = .list ((["zz"] : List Str).map PyData.str) := rfl
  refine ⟨bx l, _, rfl, .inr (.inr ⟨l, [("zz", a, b)], rfl, rfl, hb.isb nk, zz_isb h za zb, ?_, ?_, ?_, ?_, .inl ⟨?_, rfl⟩⟩)⟩
  · rw [e1]; exact nk.ok.sh
  · rw [e2]; exact nmZ.sh
  · rw [e1]; exact nk.ok.nz
  · rw [e2]; exact nmZ.nz
  · rw [e1, e2]; exact nk.zz
def refs7 : List D := [ref1, ref1, ref1, ref1, ref1, ref1, ref1]
section
variable {P : Program} {w : World} {K : PySem.W.Frag} {mg : Str → Option Value} {base : Heap}
theorem segb_five (T : Txt K mg) (T2 : Txt2 K mg) {f : Addr} {cdv : Value} {A : Around} {outer : List Env} {s : Shared} {H0 : Hp} {xk : XK} (hr : Room 9 (A.deeper (envOfC "_law_are_boxes_due" (defScope s__law_are_boxes_due) s.heap.objs.size f cdv)))
    {G H : Hp} {la : Addr} {v1 v2 v3 v4 v10 : V} {o5 o6 o7 o8 o9 o11 o12 o13 o14 o15 : Option V} {ks : List Str} {l : BX} (nk : NmL ks) (hb : BxL17 ks l) (m : MO G H la) (h1 : Dp K G v1 (.list (ks.map PyData.str))) (h3 : Dp K G v3 (bx l)) {Z : Ends}
    (q : ∀ v G' H', Ex G G' → MO G' H' la → Dp K G' v (.bool true) → Z.rt v H') :
    wB (XB P w K mg base f cdv A outer s H0 xk) (defBody s__law_are_boxes_due |>.drop 15) Z
      [some (.ref la), some v1, some v2, some v3, some v4, o5, o6, o7, o8, o9, some v10, o11, o12, o13, o14, o15, Option.none, Option.none, Option.none, Option.none] H := by
  have B := hb.to.ok nk
  have hne := hb.to.ne nk
  have hks : ks.map PyData.str = l.map fun p => PyData.str p.1 := by rw [← hb.1, List.map_map]; rfl
  rw [hks] at h1
  obtain ⟨r, hr0⟩ : ∃ r, l[0]? = some r := by
    cases l with
    | nil => exact absurd rfl hne
    | cons r l => exact ⟨r, rfl⟩
  obtain ⟨hle, z1, z2⟩ := hb.2 r (List.mem_of_getElem? hr0)
  have hat : atI (l.map fun p => PyData.str p.1) 0 = some (.str r.1) := atN (k := 0) (by rw [List.getElem?_map, hr0]; rfl)
  refine sm_set 16 (R := fun d => d ∈ oddL (sp2 r.2.1 r.2.2)) (em_call 0 (ok__law_pick T) (hr.mono (by decide)) (am_of (a_cons (e_is (e_lst (a_cons e_non (a_cons (e_disp1 (ky := Sum.inr "A") e_str (e_dget (k := Sum.inr r.1) (roomU hr) (e_var 3 h3) (e_ixL (e_var 1 h1) e_int hat) (bx_get B hr0)))
    (a_cons (e_disp2 (ky := Sum.inr "b") (ky2 := Sum.inr "a") (by decide) e_str (e_dget (k := Sum.inr r.1) (roomU hr) (e_var 3 h3) (e_ixL (e_var 1 h1) e_int hat) (bx_get B hr0)) e_str (e_dget (k := Sum.inr r.1) (roomU hr) (e_var 3 h3) (e_ixL (e_var 1 h1) e_int hat) (bx_get B hr0)))
    (a_cons (e_disp1 (ky := Sum.inr "a") e_str (e_tup (a_cons (e_tup (a_cons e_int (a_cons e_int a_nil))) (a_cons (e_tup (a_cons e_int (a_cons e_int a_nil))) a_nil))))
    (a_cons (e_disp1 (ky := Sum.inr "a") e_str (e_tup (a_cons e_int (a_cons e_int a_nil))))
    (a_cons (e_lst (a_cons (e_tup (a_cons e_str (a_cons (e_dget (k := Sum.inr r.1) (roomU hr) (e_var 3 h3) (e_ixL (e_var 1 h1) e_int hat) (bx_get B hr0)) a_nil))) a_nil)) a_nil))))))) (d' := .list (oddL (sp2 r.2.1 r.2.2))) rfl) a_nil)) (fun ds e => ⟨_, e, by simp [oddL]⟩) (fun ds d e ⟨xs, e1, hx⟩ => ?_)) m sc__law_are_boxes_due.nd fun v16 d16 G1 H1 hodd g1 m1 h16 => ?_
  · subst e
    injection e1 with e1
    injection e1 with e1
    rw [e1]; exact hx
  have hno := odd_no hle (z1.mono (by decide)) (z2.mono (by decide)) hodd
  have h1 := Dp.mono g1 h1
  have h3 := Dp.mono g1 h3
  refine s_set 17 (d := .list refs7) (e_is (e_catL (ds := [ref1, ref1, ref1, ref1]) (es := [ref1, ref1, ref1]) (e_is (e_ofC (ec_lcO (scope := _) (x := "which") (j := 19) (n := 4) (tt := tYes) (c := fun _ => true) (f := fun i => ref1) rfl sc__law_are_boxes_due.nd (ov_list (e_lst (a_cons e_int (a_cons e_int (a_cons e_int (a_cons e_int a_nil)))))) rfl (by decide) (blkOk_by (N := N__law_are_boxes_due) (sc := defScope s__law_are_boxes_due) (by decide +kernel)) (fun _ _ _ _ _ => pg_name (i := 19) sc__law_are_boxes_due.nd rfl (Or.inl rfl)) (fun _ _ _ _ _ => pts_nil)
      (fun i v d G' hd gg hv G1 H1 _ gh Q q => q G1 H1 (Nx.refl gh)) fun i v d G' hd gg hv _ s H0 C cl fp => ?_)) (by rw [kept_all]; rfl))
    (e_lst (a_cons (e_call (ok__law_told T T2) (hr.mono (by decide)) (a_cons e_int (a_cons (e_tup (a_cons (e_var 3 h3) (a_cons (e_is (e_disp1 (ky := Sum.inr "zz") e_str (e_dget (k := Sum.inr r.1) (roomU hr) (e_var 3 h3) (e_ixL (e_var 1 h1) e_int hat) (bx_get B hr0))) (d' := bx [("zz", r.2.1, r.2.2)]) rfl) a_nil))) a_nil)) (told2N (i := 25) (by decide) (by decide) (unlike nk hb.to hle (z1.mono (by decide)) (z2.mono (by decide)) _)))
    (a_cons (e_call (ok__law_told T T2) (hr.mono (by decide)) (a_cons e_int (a_cons (e_tup (a_cons (e_var 16 h16) (a_cons (e_var 3 h3) a_nil))) a_nil)) (told2N (i := 25) (by decide) (by decide) ⟨_, _, rfl, .inl ⟨hno, rfl⟩⟩))
    (a_cons (e_call (ok__law_told T T2) (hr.mono (by decide)) (a_cons e_int (a_cons (e_tup (a_cons (e_var 3 h3) (a_cons (e_var 16 h16) a_nil))) a_nil)) (told2N (i := 26) (by decide) (by decide) ⟨_, _, rfl, .inr (.inl ⟨hb.to.isb nk, hno, rfl⟩)⟩)) a_nil)))) (by simp)) rfl) m1.gh sc__law_are_boxes_due.nd fun v17 G2 H2 n2 h17 => ?_
  · have ei : i < 4 ∧ d = .int ((7 + i : Nat) : Int) := by
      rcases (show i = 0 ∨ i = 1 ∨ i = 2 ∨ i = 3 ∨ 4 ≤ i by omega) with e | e | e | e | e
      · subst e; injection hd with hd; exact ⟨by decide, hd.symm⟩
      · subst e; injection hd with hd; exact ⟨by decide, hd.symm⟩
      · subst e; injection hd with hd; exact ⟨by decide, hd.symm⟩
      · subst e; injection hd with hd; exact ⟨by decide, hd.symm⟩
      · rw [List.getElem?_eq_none (by simpa using e)] at hd; cases hd
    obtain ⟨hi, rfl⟩ := ei
    exact e_call (ok__law_told T T2) (hr.mono (by decide)) (a_cons (e_var 19 hv) (a_cons (e_tup (a_cons (e_var 16 (Dp.mono gg h16)) a_nil)) a_nil)) (rtO hno i hi)
  · have m2 := m1.step n2
    have h16 := Dp.mono n2.g h16
    refine sm_ret (R := (· = .bool true)) (em_of (e_is (e_and2 (e_eqD (da := .list refs7) (db := .list refs7) (roomU hr) (e_var 17 h17) (e_is (e_repL (a_cons (e_strC [114, 101, 102, 117, 115, 101, 100, 32, 49]) a_nil) e_int (by decide) (by decide) (by decide)) rfl) (by decide +kernel) (by decide +kernel) (by decide +kernel) (by decide +kernel)) fun _ => e_isB (e_call (ok_is_box T) (hr.mono (by decide)) (a_cons (e_var 16 h16) a_nil) hno) e_bl) (by
      have e : PyData.eqv (.list refs7) (.list refs7) = true := by decide +kernel
      rw [e]; rfl))) m2 fun v d G3 H3 er g3 m3 hv => ?_
    subst er
    exact q v G3 H3 ((g1.trans n2.g).trans g3) m3 hv
theorem ok__law_are_boxes_due (T : Txt K mg) (T2 : Txt2 K mg) : MFn P w K mg base 10 "_law_are_boxes_due" (· = []) TrueD :=
  mfn_of T.h__law_are_boxes_due sc__law_are_boxes_due (fun ds e => by rw [e]; rfl) fun cdv A outer s f H Q xk hr l ds G vs e m hv q => by
    subst e
    cases hv
    refine segb_one T T2 hr m fun ks b1 b2 v1 v3 v4 G1 H1 nk hb1 hb2 g1 m1 h1 h3 h4 => ?_
    refine segb_two T T2 hr nk hb1 m1.gh h1 h3 fun k p v6 v7 v9 o5 o8 G2 H2 n2 hk hp h6 h7 h9 => ?_
    refine segb_three T T2 hr nk hb1 hk hp n2.gh (Dp.mono n2.g h3) h6 h7 h9 fun v10 v11 G3 H3 n3 h10 => ?_
    have n23 := n2.trans n3
    refine segb_four T T2 hr nk hb1 hb2 (List.mem_of_getElem? hk) n3.gh (Dp.mono n23.g h1) (Dp.mono n23.g h3) (Dp.mono n23.g h4) h10 fun o12 o13 o14 o15 G4 H4 n4 => ?_
    have n24 := n23.trans n4
    exact segb_five T T2 hr nk hb1 (m1.step n24) (Dp.mono n24.g h1) (Dp.mono n24.g h3) fun v G5 H5 g5 m5 hv => q v (.bool true) G5 H5 rfl ((g1.trans n24.g).trans g5) m5 hv
end
end K01

/-! D30: three names at once, drawn; calls that can't raise here; != of data. -/
namespace DL
open PySem PySem.Spec PyProof.Rows SX
open L2 hiding Dp DpAll
section
variable {X : Cx} {σ : L2.St} {G H : Hp} {l : Addr} {es : List Expr} {a b e : Expr} {pos p : Pos} {rest : List Stmt} {Z : Ends} {d da db : D} {ds : List D} {x : Str} {k : Nat}
theorem sm_tup3 (i1 i2 i3 : Nat) {x1 x2 x3 : Str} {p1 p2 p3 pt pt2 : Pos} {kt k2 : Nat} {Rs : List D → Prop} (hcalm : X.calm = true) (hN : X.N.Nodup) (ha : AM X es σ G l Rs) (mo : MO G H l) (hl : ∀ ds, Rs ds → ∃ a b c, ds = [a, b, c])
    (q : ∀ u v w a b c G' H', Rs [a, b, c] → Ex G G' → MO G' H' l → Dp X.K G' u a → Dp X.K G' v b → Dp X.K G' w c → wB X rest Z (((σ.set i1 (some u)).set i2 (some v)).set i3 (some w)) H')
    (h1 : X.N[i1]? = some x1 := by rfl) (h2 : X.N[i2]? = some x2 := by rfl) (h3 : X.N[i3]? = some x3 := by rfl)
    (l1 : L2.Loc X.env.scope x1 := by first | exact Or.inl rfl | exact Or.inr rfl) (f1 : X.fn x1 = true ∨ X.env.scope.names.lookup x1 = some .local := by first | exact .inl rfl | exact .inr rfl)
    (l2 : L2.Loc X.env.scope x2 := by first | exact Or.inl rfl | exact Or.inr rfl) (f2 : X.fn x2 = true ∨ X.env.scope.names.lookup x2 = some .local := by first | exact .inl rfl | exact .inr rfl)
    (l3 : L2.Loc X.env.scope x3 := by first | exact Or.inl rfl | exact Or.inr rfl) (f3 : X.fn x3 = true ∨ X.env.scope.names.lookup x3 = some .local := by first | exact .inl rfl | exact .inr rfl)
    (a3 : (assignEach [.Name x1 p1, .Name x2 p2, .Name x3 p3] X.env).map (·.2) = assign (.Name x1 p1) X.env :: (assignEach [.Name x2 p2, .Name x3 p3] X.env).map (·.2) := by rfl)
    (a2 : (assignEach [.Name x2 p2, .Name x3 p3] X.env).map (·.2) = assign (.Name x2 p2) X.env :: (assignEach [.Name x3 p3] X.env).map (·.2) := by rfl)
    (a1 : (assignEach [.Name x3 p3] X.env).map (·.2) = assign (.Name x3 p3) X.env :: (assignEach [] X.env).map (·.2) := by rfl)
    (hn : (assignEach [.Name x1 p1, .Name x2 p2, .Name x3 p3] X.env).length = 3 := by rfl) (hst : (assignEach [.Name x1 p1, .Name x2 p2, .Name x3 p3] X.env).findIdx? (·.1) = Option.none := by rfl)
    (hs : swapsWithSole [.Tuple [.Name x1 p1, .Name x2 p2, .Name x3 p3] kt pt] (.Tuple es k2 pt2) pos.line X.env = pure false := by rfl)
    (hw : swappedStores [.Tuple [.Name x1 p1, .Name x2 p2, .Name x3 p3] kt pt] (.Tuple es k2 pt2) X.env = pure Option.none := by rfl)
    (ht : (assignEach [.Tuple [.Name x1 p1, .Name x2 p2, .Name x3 p3] kt pt] X.env).map (·.2) = [assign (.Tuple [.Name x1 p1, .Name x2 p2, .Name x3 p3] kt pt) X.env] := by rfl) :
    wB X (.Assign [.Tuple [.Name x1 p1, .Name x2 p2, .Name x3 p3] kt pt] (.Tuple es k2 pt2) pos :: rest) Z σ H :=
  s_cons ⟨_, ps_asg pe_w (pg_tup hcalm (pgs_cons (pg_name hN h1 l1 f1) (pgs_cons (pg_name hN h2 l2 f2) (pgs_cons (pg_name hN h3 l3 f3) pgs_nil a1) a2) a3) hn hst) hs hw ht,
    em_tup ha (fun ds r => by obtain ⟨a, b, c, rfl⟩ := hl ds r; simp) G H (Evl.Ex.refl _) mo _ fun v d G' H' ⟨ds, e, r⟩ g' m' hv => by
      subst e
      obtain ⟨a, b, c, rfl⟩ := hl ds r
      obtain ⟨p, xs, rfl, ht', hx⟩ := Dp.tup_inv hv
      obtain ⟨u1, u2, u3, rfl, d1, d2, d3⟩ := all3 hx
      exact ⟨p, _, rfl, Evl.ex_t m'.gh ht', rfl, _, _, rfl, _, _, rfl, _, _, rfl, rfl, q u1 u2 u3 a b c G' H' r g' m' d1 d2 d3⟩⟩
theorem e_disp0 : E X (.Dict [] [] pos) σ G (mkD []) := fun G1 H1 g gh Q q =>
  ⟨_, pe_frz pe_dnewK, fun p hp => ⟨p, [], upd_same, fun o => by
    have L := (Own.start (u := .dK []) gh hp).put (w := .frz o (.dK []))
    exact q _ _ _ L.done (.dic (o := o) (kvs := []) upd_same .nil)⟩⟩
/-- a def that may raise, called so that it does not -/
theorem e_callX {R : List D → Except Str D → Prop} (F : XFn X.prog X.w X.K X.mg X.base k x R) (hr : Room k X.A) (ha : A X (e :: es) σ G ds) (hR : R ds (.ok d)) (hg : Gl X x := by rfl) (hdb : (x == ("__debug__" : Str)) = false := by decide)
    (he : starEach (e :: es) X.env = (false, eval e X.env) :: starEach es X.env := by rfl) (hpl : (backTo pos (starEach es X.env)).any (·.1) = false := by rfl) : E X (.Call (.Name x p) (e :: es) [] pos) σ G d := fun G1 H1 g gh Q q =>
  (ex_call (W := fun _ _ _ _ => False) F hr takes0N (ax_of ha) (fun ds' e => by injection e with e; rw [← e]; exact hR) (fun n e => by cases e) hg hdb he hpl) G1 H1 g gh Q (fun d' e v G2 H2 n hv => by injection e with e; subst e; exact q v G2 H2 n hv) fun n c e => by cases e
/-- [elt for x in range(n)], that a name gets -/
theorem ec_lcR {elt na : Expr} {tpos : Pos} {j : Nat} {scope : Scope} {n : Nat} {f : Nat → D} (hcalm : X.calm = true) (hN : X.N.Nodup) (hm : X.mg "range" = Option.none) (ha : A X [na] σ G [.int (n : Int)]) (hn : n ≤ 100000) (ok : BlkOk X.N X.env.scope scope [(x, j)])
    (hg : ∀ s H C cl fp, PG (blkX X scope s H C cl fp) (.Name x tpos) (gName j))
    (he : ∀ i, i < n → ∀ s H0 C cl fp, E (blkX X scope s H0 C cl fp) elt (σ.set j (some (.int (i : Int)))) G (f i)) (hgr : Gl X "range" := by rfl) (hse : starEach [na] X.env = [(false, eval na X.env)] := by rfl)
    (hs : ∀ y, foldedSetIterable (.Call (.Name "range" p) [na] [] pos) X.env y = pure y := by intro _; rfl) {lpos : Pos} : EC X (.ListComp elt [⟨.Name x tpos, .Call (.Name "range" p) [na] [] pos, [], 0⟩] scope lpos) σ G (.list ((List.range n).map f)) :=
  ⟨_, ⟨pe_lc (own := [(x, j)]) (te := wBE X scope elt) (tt := tYes) hcalm hN (pi_range1 hgr hm pa_w hse) ok hg (fun _ _ _ _ _ => pts_nil) pe_wBE hs, fun i z py spos hi hy hw => ps_setLc (own := [(x, j)]) (te := wBE X scope elt) (tt := tYes) hcalm hN hi hy hw (pi_range1 hgr hm pa_w hse) ok hg (fun _ _ _ _ _ => pts_nil) pe_wBE hs⟩, fun G1 H1 g gh Q q =>
    ha G1 H1 g gh _ fun vs G2 H2 n2 hv => by
      obtain ⟨u, rfl, hu⟩ := all1 hv
      cases hu
      refine ⟨(n : Int), rfl, by omega, by omega, fun Dl hD => ?_⟩
      rw [Int.toNat_natCast]
      refine lc_range (lo := 0) (n := n) (fun i H' => ∃ G' vs, Lcl G2 H2 Dl G' H' vs ∧ DpAll X.K G' vs (kept i (fun _ => true) f)) ⟨G2, [], Lcl.start n2.gh hD, .nil⟩ (fun i H' hi Pi => ?_) fun H' ⟨G', vs, L, dv⟩ => ?_
      · have e0 : (0 : Int) + (i : Int) = (i : Int) := Int.zero_add _
        rw [e0]
        refine ⟨wipe1 σ j _, ?_⟩
        exact lc_turn (σ := σ) (j := j) (G := G) (ifs := []) hi hn (g.trans n2.g) Pi (fun _ _ => trivial) (fun G1 H1 _ gh Q q => q G1 H1 (Nx.refl gh)) (fun _ => he i hi)
      · rw [kept_all] at dv
        exact q _ _ _ (n2.trans L.done) (.lst (Evl.sq_of upd_same) (DpAll.mono (Evl.Ex.new L.gl) dv))⟩
end
end DL

/-! L19: a turn of the law: spans and boxes are due; points. -/
namespace K01
open PySem PySem.Spec PyProof.Rows DL SX
open L2 hiding Dp DpAll
abbrev turnBody : List Stmt := match ((defBody s_law)[1]? : Option Stmt) with | some (Stmt.For _ _ b _ _) => b | _ => []
abbrev lawX (P : Program) (w : World) (K : PySem.W.Frag) (mg : Str → Option Value) (base : Heap) (f : Addr) (cdv : Value) (A : Around) (outer : List Env) (s : Shared) (H : Hp) (xk : XK) : Cx := (cxOf CX0 P w K mg base N_law "law" (defScope s_law) f cdv A outer s H xk).nox
abbrev st (u : V) (l : Addr) (t a b s bad told : Option V) : L2.St := [some u, some (.ref l), t, a, b, s, bad, told, Option.none]
section
variable {P : Program} {w : World} {K : PySem.W.Frag} {mg : Str → Option Value} {base : Heap} {f : Addr} {cdv : Value} {A : Around} {outer : List Env} {s : Shared} {H0 : Hp} {xk : XK}
theorem seg_first (T : Txt K mg) (T2 : Txt2 K mg) (hr : Room 10 (lawX P w K mg base f cdv A outer s H0 xk).A) {G H : Hp} {l : Addr} {Z : Ends} {u : V} {t a b s' bad told : Option V} (m : MO G H l)
    (q : ∀ (va vs : V) (c x y : Rat) (b' : Option V) G' H', Ex G G' → MO G' H' l → Dp K G' va (rd c) → Dp K G' vs (sp2 x y) → Sz 17 c → x ≤ y → Sz 17 x → Sz 17 y →
      wB (lawX P w K mg base f cdv A outer s H0 xk) (turnBody.drop 3) Z (st u l t (some va) b' (some vs) bad told) H') :
    wB (lawX P w K mg base f cdv A outer s H0 xk) turnBody Z (st u l t a b s' bad told) H := by
  refine sm_when (R := (· = false)) (tm_orF (tm_imp (tm_not (tm_val (R := (· = true)) (em_call 1 (ok__law_are_spans_due T T2) hr am_nil (fun ds e => e) (fun ds d e h => ⟨true, h, rfl⟩)))) fun k ⟨j, hj, hk⟩ => by rw [hk, hj]; rfl) (tm_imp (tm_not (tm_val (R := (· = true)) (em_call 1 (ok__law_are_boxes_due T T2) hr am_nil (fun ds e => e) (fun ds d e h => ⟨true, h, rfl⟩)))) fun k ⟨j, hj, hk⟩ => by rw [hk, hj]; rfl)) m (fun z => nomatch z) fun _ G1 H1 g1 m1 => ?_
  refine sm_tup3 3 4 5 (Rs := fun ds => ∃ (qa qb x y : Rat), ds = [rd qa, rd qb, sp2 x y] ∧ Sz 17 qa ∧ Sz 17 qb ∧ x ≤ y ∧ Sz 17 x ∧ Sz 17 y) rfl sc_law.nd (am_imp (am_cons (em_call 1 (ok__law_any T) (hr.mono (by decide)) am_nil (fun ds e => e) (fun ds d e h => h)) (am_cons (em_call 1 (ok__law_any T) (hr.mono (by decide)) am_nil (fun ds e => e) (fun ds d e h => h)) (am_cons (em_call 1 (ok__law_span T) (hr.mono (by decide)) am_nil (fun ds e => e) (fun ds d e h => h)) am_nil)))
      fun ds ⟨d1, _, e1, ⟨qa, ea, za⟩, d2, _, e2, ⟨qb, eb, zb⟩, d3, _, e3, ⟨x, y, es, hxy, zx, zy⟩, e4⟩ => ⟨qa, qb, x, y, by rw [e1, e2, e3, e4, ea, eb, es], za, zb, hxy, zx, zy⟩) m1 (fun ds ⟨qa, qb, x, y, e, _⟩ => ⟨_, _, _, e⟩)
    fun va vb vs d1 d2 d3 G2 H2 ⟨qa, qb, x, y, e, za, zb, hxy, zx, zy⟩ g2 m2 ha hb hs => ?_
  injection e with e1 e
  injection e with e2 e
  injection e with e3 _
  subst e1 e2 e3
  have zz : ∀ r ∈ [qa, qb], Sz 3000 r := fun r hr' => by
    simp at hr'
    rcases hr' with rfl | rfl
    · exact za.mono (by decide)
    · exact zb.mono (by decide)
  have za3 := za.mono (show 17 ≤ 3000 by decide)
  have zb3 := zb.mono (show 17 ≤ 3000 by decide)
  have fl : Fl 3 (.list [.tuple [rd qa, rd qa], hull [qa, qb], hull [qa, qb], .bool true]) := .lst 2 _ (by simp) fun x hx => by
    simp at hx
    rcases hx with rfl | rfl | rfl
    · exact fl_sp _ _
    · exact fl_sp _ _
    · exact .sc _ _ rfl
  refine s_when (k := false) (t_is (t_not (t_val (e_call (ok__law_same T 3) (hr.mono (by decide)) (a_cons (e_lst (a_cons (e_callX (ok_point T) (hr.mono (by decide)) (a_cons (e_var 3 ha) a_nil) ⟨rd qa, rfl, by rw [isRatio_rd, if_pos rfl]⟩)
    (a_cons (e_is (e_callX (ok_span_of T) (hr.mono (by decide)) (a_cons (e_var 3 ha) (a_cons (e_var 4 hb) a_nil)) ⟨rd qa, rd qb, rfl, SzD.rd za3, SzD.rd zb3, by rw [isRatio_rd, isRatio_rd, Bool.and_self, if_pos rfl, qOf_rd, qOf_rd]⟩) (spq_hull qa qb))
    (a_cons (e_is (e_callX (ok_span_of T) (hr.mono (by decide)) (a_cons (e_var 4 hb) (a_cons (e_var 3 ha) a_nil)) ⟨rd qb, rd qa, rfl, SzD.rd zb3, SzD.rd za3, by rw [isRatio_rd, isRatio_rd, Bool.and_self, if_pos rfl, qOf_rd, qOf_rd]⟩) (d' := hull [qa, qb]) (by rw [spq_hull]; exact hull_same (by simp) (fun q hq => by simp at hq ⊢; exact hq.symm) (fun q hq => by simp at hq ⊢; exact hq.symm)))
    (a_cons (e_is (e_call (ok_is_span T) (hr.mono (by decide)) (a_cons (e_var 5 hs) a_nil) ⟨_, rfl, SpZ.sp (zx.mono (by decide)) (zy.mono (by decide)), rfl⟩) (d' := .bool true) (by rw [isSpan_sp hxy])) a_nil)))))
    (a_cons (e_lst (a_cons (e_tup (a_cons (e_var 3 ha) (a_cons (e_var 3 ha) a_nil))) (a_cons (e_call (ok__law_hull T) (hr.mono (by decide)) (a_cons (e_lst (a_cons (e_var 3 ha) (a_cons (e_var 4 hb) a_nil))) a_nil) ⟨qa, [qb], rfl, zz, rfl⟩) (a_cons (e_call (ok__law_hull T) (hr.mono (by decide)) (a_cons (e_lst (a_cons (e_var 3 ha) (a_cons (e_var 4 hb) a_nil))) a_nil) ⟨qa, [qb], rfl, zz, rfl⟩) (a_cons e_bl a_nil))))) a_nil)) ⟨_, rfl, fl, rfl⟩))) rfl) m2.gh (fun z => nomatch z) fun _ G3 H3 n3 => ?_
  exact q va vs qa x y (some vb) G3 H3 ((g1.trans g2).trans n3.g) (m2.step n3) (Dp.mono n3.g ha) (Dp.mono n3.g hs) za hxy zx zy
end
end K01

/-! L20: what is no span; the law. -/
namespace K01
open PySem PySem.Spec PyProof.Rows DL SX
open L2 hiding Dp DpAll
def badL (c : Rat) : List D := [.none, .tuple [rd c], rd c, .tuple [.tuple [.int 1, .int 1], .tuple [.int 0, .int 1]], .tuple [.tuple [.int 2, .int 4], .tuple [.int 1, .int 1]], .list [rd c, rd c], .tuple [rd c, rd c, rd c], .tuple [.int 1, .int 2]]
theorem spzV {x y : D} (h1 : isRatio x = false) (h2 : isRatio y = false) : SpZ 1000 (.tuple [x, y]) := And.intro (fun h => by rw [h1] at h; cases h) (fun h => by rw [h2] at h; cases h)
theorem no24 : isRatio (.tuple [.int 2, .int 4]) = false := by decide +kernel
theorem bad_no {c : Rat} {d : D} (h : d ∈ badL c) : isSpan d = false ∧ SpZ 1000 d := by
  simp [badL] at h
  rcases h with rfl | rfl | rfl | rfl | rfl | rfl | rfl | rfl
  · exact ⟨rfl, trivial⟩
  · exact ⟨isSpan_short (by simp), trivial⟩
  · exact ⟨rfl, spzV rfl rfl⟩
  · exact ⟨isSpan_no1, spz_11⟩
  · refine ⟨?_, And.intro (fun h => by rw [no24] at h; cases h) (SzD.rd (q := 1) ⟨by decide, by decide⟩)⟩
    show (isRatio (.tuple [.int 2, .int 4]) && isRatio (.tuple [.int 1, .int 1]) && !decide (qOf (.tuple [.int 1, .int 1]) < qOf (.tuple [.int 2, .int 4]))) = false
    rw [no24]; rfl
  · exact ⟨rfl, trivial⟩
  · exact ⟨isSpan_short (by simp), trivial⟩
  · exact ⟨rfl, spzV rfl rfl⟩
theorem rx1N {g : Rat → Rat → D} {d : D} (h : isSpan d = false) (z : SpZ 1000 d) : RX1 g [d] NR := ⟨d, rfl, z, by rw [h]; rfl⟩
theorem rx2N {g : Rat → Rat → Rat → Rat → Except Str D} {d e : D} (h : (isSpan d && isSpan e) = false) (z : SpZ 1000 d) (z2 : SpZ 1000 e) : RX2 g [d, e] NR := ⟨d, e, rfl, z, z2, by rw [h]; rfl⟩
theorem rtB1 {d : D} (h : isSpan d = false) (z : SpZ 1000 d) : ∀ i, i < 7 → R_told [.int (i : Nat), .tuple [d]] ref1 := fun i hi => by
  rcases (show i = 0 ∨ i = 1 ∨ i = 2 ∨ i = 3 ∨ i = 4 ∨ i = 5 ∨ i = 6 by omega) with e | e | e | e | e | e | e <;> subst e
  · exact told1N (by decide) (rx1N (g := q_width) h z)
  · exact told1N (by decide) (rx1N (g := q_middle) h z)
  · exact told1N (by decide) (rx1N (g := q_size) h z)
  · exact told1N (by decide) (rx1N (g := q_turn) h z)
  · exact told1N (by decide) (rx1N (g := q_sized) h z)
  · exact told1N (by decide) (rx1N (g := q_halves) h z)
  · exact told1N (by decide) (rx1N (g := q_sign) h z)
def nineL : List D := [.int 11, .int 12, .int 14, .int 16, .int 17, .int 19, .int 20, .int 23, .int 24]
def nineN : List Nat := [11, 12, 14, 16, 17, 19, 20, 23, 24]
theorem nine_eq : nineL = nineN.map fun n => PyData.int ((n : Nat) : Int) := rfl
theorem rtB2 {d e : D} (h : (isSpan d && isSpan e) = false) (z : SpZ 1000 d) (z2 : SpZ 1000 e) : ∀ n ∈ nineN, R_told [.int (n : Nat), .tuple [d, e]] ref1 := fun n hn => by
  simp [nineN] at hn
  rcases hn with rfl | rfl | rfl | rfl | rfl | rfl | rfl | rfl | rfl
  · exact told2N (by decide) (by decide) (rx2N (g := fun a b x y => .ok (q_add a b x y)) h z z2)
  · exact told2N (by decide) (by decide) (rx2N (g := fun a b x y => .ok (q_sub a b x y)) h z z2)
  · exact told2N (by decide) (by decide) (rx2N (g := q_part) h z z2)
  · exact told2N (by decide) (by decide) (rx2N (g := fun a b x y => .ok (q_least a b x y)) h z z2)
  · exact told2N (by decide) (by decide) (rx2N (g := fun a b x y => .ok (q_greatest a b x y)) h z z2)
  · exact told2N (by decide) (by decide) (rx2N (g := fun a b x y => .ok (q_common a b x y)) h z z2)
  · exact told2N (by decide) (by decide) (rx2N (g := fun a b x y => .ok (q_around a b x y)) h z z2)
  · exact told2N (by decide) (by decide) (rx2N (g := fun a b x y => .ok (q_within a b x y)) h z z2)
  · exact told2N (by decide) (by decide) (rx2N (g := fun a b x y => .ok (q_inside a b x y)) h z z2)
theorem nine_at {i : Nat} {d : D} (h : nineL[i]? = some d) : i < 9 ∧ ∃ n ∈ nineN, d = .int ((n : Nat) : Int) := by
  rw [nine_eq, List.getElem?_map] at h
  obtain ⟨n, hn, rfl⟩ := Option.map_eq_some_iff.mp h
  exact ⟨(List.getElem?_eq_some_iff.mp hn).1, n, List.mem_of_getElem? hn, rfl⟩
def refsN (n : Nat) : List D := List.replicate n ref1
theorem szM12 : SzD 1000 (.tuple [.int (-1), .int 2]) := SzD.rd (q := mkRat (-1) 2) ⟨by decide, by decide⟩
theorem nn12 : nnR (.tuple [.int (-1), .int 2]) = false := by
  show nnR (rd (mkRat (-1) 2)) = false
  unfold nnR
  rw [isRatio_rd, qOf_rd]; decide +kernel
theorem law_0 : R_told [.int ((7 : Nat) : Int), .tuple [mkD []]] (rd 0) := told1 (by decide) ⟨mkD [], rfl, .inr ⟨[], rfl, ⟨by simp, by simp, fun p h => nomatch h⟩, isBox_t (l := []) nmE rfl (fun p h => nomatch h) (fun k h => nomatch h) (fun p h => nomatch h) rfl, rfl⟩⟩
theorem law_1 : R_told [.int ((8 : Nat) : Int), .tuple [mkD []]] (.str (S (refT 3))) := .inl ⟨8, mkD [], .error "NoAnswer", by decide, rfl, ⟨mkD [], rfl, .inr ⟨[], rfl, ⟨by simp, by simp, fun p h => nomatch h⟩, isBox_t (l := []) nmE rfl (fun p h => nomatch h) (fun k h => nomatch h) (fun p h => nomatch h) rfl, rfl⟩⟩, fun n e => .inr (.inl (Except.error.inj e).symm), rfl⟩
theorem law_2 : R_told [.int ((10 : Nat) : Int), .tuple [mkD []]] (rd 1) := told1 (by decide) ⟨mkD [], rfl, .inr ⟨[], rfl, ⟨by simp, by simp, fun p h => nomatch h⟩, isBox_t (l := []) nmE rfl (fun p h => nomatch h) (fun k h => nomatch h) (fun p h => nomatch h) rfl, rfl⟩⟩
theorem law_3 : R_told [.int ((14 : Nat) : Int), .tuple [sp2 1 2, sp2 0 0]] (.str (S (refT 4))) := by
  have h : RX2 q_part [sp2 1 2, sp2 0 0] (q_part 1 2 0 0) := rt2 q_part (by decide) Rat.le_refl ⟨by decide, by decide⟩ ⟨by decide, by decide⟩ ⟨by decide, by decide⟩ ⟨by decide, by decide⟩
  have e : q_part 1 2 0 0 = .error "Undefined" := by unfold q_part; rw [if_pos ⟨rfl, rfl⟩]
  have := told2 (i := 14) (by decide) (by decide) h (okErr_part _ _ _ _)
  rw [e] at this
  exact this
section
variable {P : Program} {w : World} {K : PySem.W.Frag} {mg : Str → Option Value} {base : Heap} {f : Addr} {cdv : Value} {A : Around} {outer : List Env} {s : Shared} {H0 : Hp} {xk : XK}
theorem seg_bad (T : Txt K mg) (T2 : Txt2 K mg) (hr : Room 10 (lawX P w K mg base f cdv A outer s H0 xk).A) {G H : Hp} {l : Addr} {Z : Ends} {u va vs : V} {t b' bad told : Option V} {c x y : Rat} (m : MO G H l) (ha : Dp K G va (rd c)) (hs : Dp K G vs (sp2 x y)) (zc : Sz 17 c) (hxy : x ≤ y) (zx : Sz 17 x) (zy : Sz 17 y)
    (q : ∀ (bad told : Option V) G' H', Ex G G' → MO G' H' l → Z.nx (st u l t (some va) b' (some vs) bad told) H') :
    wB (lawX P w K mg base f cdv A outer s H0 xk) (turnBody.drop 3) Z (st u l t (some va) b' (some vs) bad told) H := by
  have zs : SpZ 1000 (sp2 x y) := SpZ.sp (zx.mono (by decide)) (zy.mono (by decide))
  have is := isSpan_sp hxy
  refine sm_set 6 (R := fun d => d ∈ badL c) (em_call 1 (ok__law_pick T) (hr.mono (by decide)) (am_of (a_cons (e_is (e_lst (a_cons e_non (a_cons (e_tup (a_cons (e_var 3 ha) a_nil)) (a_cons (e_var 3 ha) (a_cons (e_tup (a_cons (e_tup (a_cons e_int (a_cons e_int a_nil))) (a_cons (e_tup (a_cons e_int (a_cons e_int a_nil))) a_nil)))
    (a_cons (e_tup (a_cons (e_tup (a_cons e_int (a_cons e_int a_nil))) (a_cons (e_tup (a_cons e_int (a_cons e_int a_nil))) a_nil))) (a_cons (e_lst (a_cons (e_var 3 ha) (a_cons (e_var 3 ha) a_nil))) (a_cons (e_tup (a_cons (e_var 3 ha) (a_cons (e_var 3 ha) (a_cons (e_var 3 ha) a_nil)))) (a_cons (e_tup (a_cons e_int (a_cons e_int a_nil))) a_nil))))))))) (d' := .list (badL c)) rfl) a_nil)) (fun ds e => ⟨_, e, by simp [badL]⟩) (fun ds d e ⟨xs, e1, hx⟩ => ?_)) m sc_law.nd fun v6 d6 G1 H1 hbad g1 m1 h6 => ?_
  · subst e
    injection e1 with e1
    injection e1 with e1
    rw [e1]; exact hx
  obtain ⟨hno, zb⟩ := bad_no hbad
  have hs := Dp.mono g1 hs
  refine s_setC 7 (d := .list (refsN 7)) (ec_is (ec_lcR (x := "which") (j := 8) (n := 7) (f := fun i => ref1) rfl sc_law.nd T.b_range (a_cons e_int a_nil) (by decide) (blkOk_by (N := N_law) (sc := defScope s_law) (by decide +kernel)) (fun _ _ _ _ _ => pg_name (i := 8) sc_law.nd rfl (Or.inl rfl)) fun i hi _ _ _ _ _ => ?_) rfl) m1.gh (fun v7 G2 H2 n2 h7 => ?_)
  · exact e_call (ok__law_told T T2) (hr.mono (by decide)) (a_cons (e_var 8 (.int _)) (a_cons (e_tup (a_cons (e_var 6 h6) a_nil)) a_nil)) (rtB1 hno zb i hi)
  have hs := Dp.mono n2.g hs
  have h6 := Dp.mono n2.g h6
  refine s_set 7 (d := .list (refsN 25)) (e_is (e_catL (ds := refsN 16) (es := refsN 9) (e_is (e_catL (ds := refsN 7) (es := refsN 9) (e_var 7 h7) (e_is (e_ofC (ec_lcO (scope := _) (x := "which") (j := 8) (n := 9) (tt := tYes) (c := fun _ => true) (f := fun i => ref1) rfl sc_law.nd (ov_list (e_is (e_lst (a_cons e_int (a_cons e_int (a_cons e_int (a_cons e_int (a_cons e_int (a_cons e_int (a_cons e_int (a_cons e_int (a_cons e_int a_nil)))))))))) (d' := .list nineL) rfl)) rfl (by decide) (blkOk_by (N := N_law) (sc := defScope s_law) (by decide +kernel)) (fun _ _ _ _ _ => pg_name (i := 8) sc_law.nd rfl (Or.inl rfl)) (fun _ _ _ _ _ => pts_nil)
      (fun i v d G' hd gg hv G1 H1 _ gh Q q => q G1 H1 (Nx.refl gh)) fun i v d G' hd gg hv _ s H0 C cl fp => ?_)) (by rw [kept_all]; rfl)) (by simp [refsN])) rfl)
    (e_is (e_ofC (ec_lcO (scope := _) (x := "which") (j := 8) (n := 9) (tt := tYes) (c := fun _ => true) (f := fun i => ref1) rfl sc_law.nd (ov_list (e_is (e_lst (a_cons e_int (a_cons e_int (a_cons e_int (a_cons e_int (a_cons e_int (a_cons e_int (a_cons e_int (a_cons e_int (a_cons e_int a_nil)))))))))) (d' := .list nineL) rfl)) rfl (by decide) (blkOk_by (N := N_law) (sc := defScope s_law) (by decide +kernel)) (fun _ _ _ _ _ => pg_name (i := 8) sc_law.nd rfl (Or.inl rfl)) (fun _ _ _ _ _ => pts_nil)
      (fun i v d G' hd gg hv G1 H1 _ gh Q q => q G1 H1 (Nx.refl gh)) fun i v d G' hd gg hv _ s H0 C cl fp => ?_)) (by rw [kept_all]; rfl)) (by simp [refsN])) rfl) n2.gh sc_law.nd fun v7' G3 H3 n3 h7' => ?_
  · obtain ⟨hi, n, hn, rfl⟩ := nine_at hd
    exact e_call (ok__law_told T T2) (hr.mono (by decide)) (a_cons (e_var 8 hv) (a_cons (e_tup (a_cons (e_var 6 (Dp.mono gg h6)) (a_cons (e_var 5 (Dp.mono gg hs)) a_nil))) a_nil)) (rtB2 (by rw [hno]; rfl) zb zs n hn)
  · obtain ⟨hi, n, hn, rfl⟩ := nine_at hd
    exact e_call (ok__law_told T T2) (hr.mono (by decide)) (a_cons (e_var 8 hv) (a_cons (e_tup (a_cons (e_var 5 (Dp.mono gg hs)) (a_cons (e_var 6 (Dp.mono gg h6)) a_nil))) a_nil)) (rtB2 (by rw [hno, Bool.and_false]) zs zb n hn)
  have hs := Dp.mono n3.g hs
  have h6 := Dp.mono n3.g h6
  refine s_set 7 (d := .list (refsN 30)) (e_is (e_catL (ds := refsN 25) (es := refsN 5) (e_var 7 h7') (e_is (e_lst (a_cons (e_call (ok__law_told T T2) (hr.mono (by decide)) (a_cons e_int (a_cons (e_tup (a_cons (e_var 5 hs) (a_cons e_non a_nil))) a_nil)) (told2N (i := 13) (by decide) (by decide) ⟨sp2 x y, .none, rfl, zs, (fun h => absurd h (by decide)), by rw [is]; rfl⟩))
    (a_cons (e_call (ok__law_told T T2) (hr.mono (by decide)) (a_cons e_int (a_cons (e_tup (a_cons (e_var 5 hs) (a_cons e_int a_nil))) a_nil)) (told2N (i := 15) (by decide) (by decide) ⟨sp2 x y, .int 65, 17, rfl, by decide, by decide, SpZ.sp zx zy, fun h => absurd h (by decide), by rw [is]; rfl⟩))
    (a_cons (e_call (ok__law_told T T2) (hr.mono (by decide)) (a_cons e_int (a_cons (e_tup (a_cons (e_var 5 hs) (a_cons (e_neg e_int) a_nil))) a_nil)) (told2N (i := 18) (by decide) (by decide) ⟨sp2 x y, .int (-1), rfl, zs, trivial, by rw [is]; rfl⟩))
    (a_cons (e_call (ok__law_told T T2) (hr.mono (by decide)) (a_cons e_int (a_cons (e_tup (a_cons (e_var 5 hs) (a_cons (e_tup (a_cons (e_neg e_int) (a_cons e_int a_nil))) a_nil))) a_nil)) (told2N (i := 21) (by decide) (by decide) ⟨sp2 x y, .tuple [.int (-1), .int 2], rfl, zs, szM12, by rw [is, nn12]; rfl⟩))
    (a_cons (e_call (ok__law_told T T2) (hr.mono (by decide)) (a_cons e_int (a_cons (e_tup (a_cons (e_var 5 hs) (a_cons e_int a_nil))) a_nil)) (told2N (i := 22) (by decide) (by decide) ⟨sp2 x y, .int 1, rfl, zs, fun h => absurd h (by decide), by rw [is]; rfl⟩)) a_nil)))))) rfl) (by simp [refsN])) rfl) n3.gh sc_law.nd fun v7d G4 H4 n4 h7d => ?_
  have h6 := Dp.mono n4.g h6
  refine s_when (k := false) (t_is (t_or (t_neD (da := .list (refsN 30)) (db := .list (refsN 30)) (roomU hr) (e_var 7 h7d) (e_is (e_repL (a_cons (e_strC [114, 101, 102, 117, 115, 101, 100, 32, 49]) a_nil) (e_is (e_len T.b_len (e_var 7 h7d) (.inr rfl)) (d' := .int 30) rfl) (by decide) (by decide) (by decide)) rfl) (by decide +kernel) (by decide +kernel) (by decide +kernel) (by decide +kernel)) fun _ => t_notB (e_call (ok_is_span T) (hr.mono (by decide)) (a_cons (e_var 6 h6) a_nil) ⟨_, rfl, zb.up (by decide), rfl⟩) e_bl) (by
      have e : PyData.eqv (.list (refsN 30)) (.list (refsN 30)) = true := by decide +kernel
      rw [e, hno]; rfl)) n4.gh (fun z => nomatch z) fun _ G5 H5 n5 => ?_
  have nn := n2.trans (n3.trans (n4.trans n5))
  exact s_nil (q (some v6) (some v7d) G5 H5 (g1.trans nn.g) (m1.step nn))
end
def spLaw (K : PySem.W.Frag) : Sp := fun us H Q _ => ∃ (a : Addr) (ns : List Int), us = [.ref a] ∧ SqL K H a (ns.map V.int) ∧ ns.length ≤ 63 ∧ ∀ H', Q (.bl true) H'
section
variable {P : Program} {w : World} {K : PySem.W.Frag} {mg : Str → Option Value} {base : Heap}
theorem ok_law (T : Txt K mg) (T2 : Txt2 K mg) {f : Addr} {fd : FuncData} (F : Fun K "law" "law" s_law f fd) : FnOk P w K mg base CX0 11 f fd ["script"] (spLaw K) := by
  refine F.ok sc_law (fun vs H Q E ⟨a, ns, e, _⟩ => by rw [e]; rfl) fun cdv A outer s H vs Q xk hr ⟨a, ns, e, hl, hn, q⟩ => ?_
  subst e
  refine ⟨_, pss_w, ?_⟩
  show wB (lawX P w K mg base f cdv A outer s H xk) (defBody s_law) _ [some (.ref a), Option.none, Option.none, Option.none, Option.none, Option.none, Option.none, Option.none, Option.none] H
  have hr : Room 10 (lawX P w K mg base f cdv A outer s H xk).A := hr
  obtain ⟨fd1, m1, k1, F1⟩ := ok__law_draws (P := P) (w := w) (base := base) T
  refine s_cons ⟨_, ps_set sc_law.nd (i := 1) rfl (Or.inl rfl) (pe_callR (Er := fun _ => E0) F1 (hr.mono (by decide)) rfl m1 k1 passAt0 (pa_cons (pe_var (i := 0) rfl (Or.inl rfl)) pa_nil)) rfl, .ref a, rfl, .ref a, ns, H, rfl, by omega, Evl.Ex.refl _, .lst hl DpAll.ints, fun l G1 H1 g1 mo => ?_⟩
  refine s_forR 2 (n := 8) .never rfl sc_law.nd T.b_range (a_cons e_int a_nil) mo.gh (by decide) (fun i σ H' => ∃ (t a0 b0 s0 bad0 told0 : Option V) (G' : Hp), σ = st (.ref a) l t a0 b0 s0 bad0 told0 ∧ MO G' H' l)
    (fun G2 H2 n2 => ⟨_, _, _, _, _, _, G2, rfl, mo.step n2⟩) (fun i σ H2 hi ⟨t, a0, b0, s0, bad0, told0, G2, eσ, m2⟩ => ?_) fun σ H2 ⟨t, a0, b0, s0, bad0, told0, G2, eσ, m2⟩ => ?_
  · subst eσ
    show wB (lawX P w K mg base f cdv A outer s H xk) turnBody _ (st (.ref a) l (some (.int (i : Int))) a0 b0 s0 bad0 told0) H2
    refine seg_first T T2 hr m2 fun va vs c x y b' G3 H3 g3 m3 ha hs zc hxy zx zy => ?_
    refine seg_bad T T2 hr m3 ha hs zc hxy zx zy fun bad told G4 H4 g4 m4 => ?_
    exact ⟨_, _, _, _, _, _, G4, rfl, m4⟩
  · subst eσ
    refine s_ret (d := .bool true) (e_is (e_and (k := true) (e_is (e_eqD (da := rd 0) (db := rd 0) (roomU hr) (e_call (ok__law_told T T2) (hr.mono (by decide)) (a_cons e_int (a_cons (e_tup (a_cons e_disp0 a_nil)) a_nil)) law_0) (e_is (e_tup (a_cons e_int (a_cons e_int a_nil))) rfl) rfl rfl) (by rw [eqv_rd]; rfl)) fun _ =>
      e_and (k := true) (e_is (e_eqS (l := refT 3) (m := refT 3) (e_call (ok__law_told T T2) (hr.mono (by decide)) (a_cons e_int (a_cons (e_tup (a_cons e_disp0 a_nil)) a_nil)) law_1) (e_is (e_strC [114, 101, 102, 117, 115, 101, 100, 32, 51]) (ref_eq 3 (by decide)))) (by rw [decide_eq_true rfl])) fun _ =>
      e_and (k := true) (e_is (e_eqD (da := rd 1) (db := rd 1) (roomU hr) (e_call (ok__law_told T T2) (hr.mono (by decide)) (a_cons e_int (a_cons (e_tup (a_cons e_disp0 a_nil)) a_nil)) law_2) (e_is (e_tup (a_cons e_int (a_cons e_int a_nil))) rfl) rfl rfl) (by rw [eqv_rd]; rfl)) fun _ =>
      e_one (e_is (e_eqS (l := refT 4) (m := refT 4) (e_call (ok__law_told T T2) (hr.mono (by decide)) (a_cons e_int (a_cons (e_tup (a_cons (e_is (e_tup (a_cons (e_tup (a_cons e_int (a_cons e_int a_nil))) (a_cons (e_tup (a_cons e_int (a_cons e_int a_nil))) a_nil))) (d' := sp2 1 2) rfl) (a_cons (e_is (e_tup (a_cons (e_tup (a_cons e_int (a_cons e_int a_nil))) (a_cons (e_tup (a_cons e_int (a_cons e_int a_nil))) a_nil))) (d' := sp2 0 0) rfl) a_nil))) a_nil)) law_3) (e_is (e_strC [114, 101, 102, 117, 115, 101, 100, 32, 52]) (ref_eq 4 (by decide)))) (d' := .bool true) (by rw [decide_eq_true rfl]))) rfl) m2.gh fun v G3 H3 n3 hv => by
        cases hv
        exact q H3
end
end K01

/-! L21: the end. -/
namespace K01
open PySem PySem.Spec PyProof.Rows DL
open L2 hiding Dp DpAll
theorem kit_self {K : PySem.W.Frag} {D : Addr} : PySem.W.kitOne K (.ref D) (.ref D) = some true := by
  unfold PySem.W.kitOne
  rw [if_pos (beq_self_eq_true _)]
theorem kit_ref {K : PySem.W.Frag} {D C : Addr} {b : Bool} (hd : PySem.W.hasDictIn K C = true) (ht : PySem.W.typeIn K (.ref C) = some (.type "type")) (hs : PySem.W.subIn K (.ref D) (.ref C) = some b) (hn : (Value.ref D == Value.ref C) = false) : PySem.W.kitOne K (.ref D) (.ref C) = some b := by
  obtain ⟨cd, hc, _⟩ := PySem.W.any_some hd
  unfold PySem.W.kitOne
  rw [if_neg (by rw [hn]; decide)]
  have e2 : ((PySem.W.clsIn K C).isSome && PySem.W.typeIn K (.ref C) == some (.type "type")) = true := by rw [hc, ht] <;> rfl
  show (if ((PySem.W.clsIn K C).isSome && PySem.W.typeIn K (.ref C) == some (.type "type")) = true then PySem.W.subIn K (.ref D) (.ref C) else Option.none) = some b
  rw [if_pos e2]
  exact hs
theorem all_mk {l : PySem.W.OpenLaw} {w : World} {K : PySem.W.Frag} {h : Heap} {mg : Str → Option Value} {fa : Addr} (X : K.In h) (G : h.Ns mainGlobals mg) (hfa : mg "law" = some (.ref fa))
    {fn0 : Addr} {od0 an0 : Option Addr} {sl0 : Array (Option Value)} {oc0 kV0 dc0 pm0 cd0 ct0 : Value}
    {fn1 : Addr} {od1 an1 : Option Addr} {sl1 : Array (Option Value)} {oc1 kV1 dc1 pm1 cd1 ct1 : Value}
    {fn2 : Addr} {od2 an2 : Option Addr} {sl2 : Array (Option Value)} {oc2 kV2 dc2 pm2 cd2 ct2 : Value}
    {fn3 : Addr} {od3 an3 : Option Addr} {sl3 : Array (Option Value)} {oc3 kV3 dc3 pm3 cd3 ct3 : Value}
    {fn4 : Addr} {od4 an4 : Option Addr} {sl4 : Array (Option Value)} {oc4 kV4 dc4 pm4 cd4 ct4 : Value}
    {fn5 : Addr} {od5 an5 : Option Addr} {sl5 : Array (Option Value)} {oc5 kV5 dc5 pm5 cd5 ct5 : Value}
    {fn6 : Addr} {od6 an6 : Option Addr} {sl6 : Array (Option Value)} {oc6 kV6 dc6 pm6 cd6 ct6 : Value}
    {fn7 : Addr} {od7 an7 : Option Addr} {sl7 : Array (Option Value)} {oc7 kV7 dc7 pm7 cd7 ct7 : Value}
    {fn8 : Addr} {od8 an8 : Option Addr} {sl8 : Array (Option Value)} {oc8 kV8 dc8 pm8 cd8 ct8 : Value}
    {fn9 : Addr} {od9 an9 : Option Addr} {sl9 : Array (Option Value)} {oc9 kV9 dc9 pm9 cd9 ct9 : Value}
    {fn10 : Addr} {od10 an10 : Option Addr} {sl10 : Array (Option Value)} {oc10 kV10 dc10 pm10 cd10 ct10 : Value}
    {fn11 : Addr} {od11 an11 : Option Addr} {sl11 : Array (Option Value)} {oc11 kV11 dc11 pm11 cd11 ct11 : Value}
    {fn12 : Addr} {od12 an12 : Option Addr} {sl12 : Array (Option Value)} {oc12 kV12 dc12 pm12 cd12 ct12 : Value}
    {fn13 : Addr} {od13 an13 : Option Addr} {sl13 : Array (Option Value)} {oc13 kV13 dc13 pm13 cd13 ct13 : Value}
    {fn14 : Addr} {od14 an14 : Option Addr} {sl14 : Array (Option Value)} {oc14 kV14 dc14 pm14 cd14 ct14 : Value}
    {fn15 : Addr} {od15 an15 : Option Addr} {sl15 : Array (Option Value)} {oc15 kV15 dc15 pm15 cd15 ct15 : Value}
    {fn16 : Addr} {od16 an16 : Option Addr} {sl16 : Array (Option Value)} {oc16 kV16 dc16 pm16 cd16 ct16 : Value}
    {fn17 : Addr} {od17 an17 : Option Addr} {sl17 : Array (Option Value)} {oc17 kV17 dc17 pm17 cd17 ct17 : Value}
    {fn18 : Addr} {od18 an18 : Option Addr} {sl18 : Array (Option Value)} {oc18 kV18 dc18 pm18 cd18 ct18 : Value}
    {fn19 : Addr} {od19 an19 : Option Addr} {sl19 : Array (Option Value)} {oc19 kV19 dc19 pm19 cd19 ct19 : Value}
    {fn20 : Addr} {od20 an20 : Option Addr} {sl20 : Array (Option Value)} {oc20 kV20 dc20 pm20 cd20 ct20 : Value}
    {fn21 : Addr} {od21 an21 : Option Addr} {sl21 : Array (Option Value)} {oc21 kV21 dc21 pm21 cd21 ct21 : Value}
    {fn22 : Addr} {od22 an22 : Option Addr} {sl22 : Array (Option Value)} {oc22 kV22 dc22 pm22 cd22 ct22 : Value}
    {fn23 : Addr} {od23 an23 : Option Addr} {sl23 : Array (Option Value)} {oc23 kV23 dc23 pm23 cd23 ct23 : Value}
    {fn24 : Addr} {od24 an24 : Option Addr} {sl24 : Array (Option Value)} {oc24 kV24 dc24 pm24 cd24 ct24 : Value}
    {fn25 : Addr} {od25 an25 : Option Addr} {sl25 : Array (Option Value)} {oc25 kV25 dc25 pm25 cd25 ct25 : Value}
    {fn26 : Addr} {od26 an26 : Option Addr} {sl26 : Array (Option Value)} {oc26 kV26 dc26 pm26 cd26 ct26 : Value}
    {fn27 : Addr} {od27 an27 : Option Addr} {sl27 : Array (Option Value)} {oc27 kV27 dc27 pm27 cd27 ct27 : Value}
    {fn28 : Addr} {od28 an28 : Option Addr} {sl28 : Array (Option Value)} {oc28 kV28 dc28 pm28 cd28 ct28 : Value}
    {fn29 : Addr} {od29 an29 : Option Addr} {sl29 : Array (Option Value)} {oc29 kV29 dc29 pm29 cd29 ct29 : Value}
    {fn30 : Addr} {od30 an30 : Option Addr} {sl30 : Array (Option Value)} {oc30 kV30 dc30 pm30 cd30 ct30 : Value}
    {fn31 : Addr} {od31 an31 : Option Addr} {sl31 : Array (Option Value)} {oc31 kV31 dc31 pm31 cd31 ct31 : Value}
    {fn32 : Addr} {od32 an32 : Option Addr} {sl32 : Array (Option Value)} {oc32 kV32 dc32 pm32 cd32 ct32 : Value}
    {fn33 : Addr} {od33 an33 : Option Addr} {sl33 : Array (Option Value)} {oc33 kV33 dc33 pm33 cd33 ct33 : Value}
    {fn34 : Addr} {od34 an34 : Option Addr} {sl34 : Array (Option Value)} {oc34 kV34 dc34 pm34 cd34 ct34 : Value}
    {fn35 : Addr} {od35 an35 : Option Addr} {sl35 : Array (Option Value)} {oc35 kV35 dc35 pm35 cd35 ct35 : Value}
    {fn36 : Addr} {od36 an36 : Option Addr} {sl36 : Array (Option Value)} {oc36 kV36 dc36 pm36 cd36 ct36 : Value}
    {fn37 : Addr} {od37 an37 : Option Addr} {sl37 : Array (Option Value)} {oc37 kV37 dc37 pm37 cd37 ct37 : Value}
    {fn38 : Addr} {od38 an38 : Option Addr} {sl38 : Array (Option Value)} {oc38 kV38 dc38 pm38 cd38 ct38 : Value}
    {fn39 : Addr} {od39 an39 : Option Addr} {sl39 : Array (Option Value)} {oc39 kV39 dc39 pm39 cd39 ct39 : Value}
    {fn40 : Addr} {od40 an40 : Option Addr} {sl40 : Array (Option Value)} {oc40 kV40 dc40 pm40 cd40 ct40 : Value}
    {fn41 : Addr} {od41 an41 : Option Addr} {sl41 : Array (Option Value)} {oc41 kV41 dc41 pm41 cd41 ct41 : Value}
    {fn42 : Addr} {od42 an42 : Option Addr} {sl42 : Array (Option Value)} {oc42 kV42 dc42 pm42 cd42 ct42 : Value}
    {fn43 : Addr} {od43 an43 : Option Addr} {sl43 : Array (Option Value)} {oc43 kV43 dc43 pm43 cd43 ct43 : Value}
    {fn44 : Addr} {od44 an44 : Option Addr} {sl44 : Array (Option Value)} {oc44 kV44 dc44 pm44 cd44 ct44 : Value}
    {fn45 : Addr} {od45 an45 : Option Addr} {sl45 : Array (Option Value)} {oc45 kV45 dc45 pm45 cd45 ct45 : Value}
    {fn46 : Addr} {od46 an46 : Option Addr} {sl46 : Array (Option Value)} {oc46 kV46 dc46 pm46 cd46 ct46 : Value}
    {fn47 : Addr} {od47 an47 : Option Addr} {sl47 : Array (Option Value)} {oc47 kV47 dc47 pm47 cd47 ct47 : Value}
    {fn48 : Addr} {od48 an48 : Option Addr} {sl48 : Array (Option Value)} {oc48 kV48 dc48 pm48 cd48 ct48 : Value}
    {fn49 : Addr} {od49 an49 : Option Addr} {sl49 : Array (Option Value)} {oc49 kV49 dc49 pm49 cd49 ct49 : Value}
    {fn50 : Addr} {od50 an50 : Option Addr} {sl50 : Array (Option Value)} {oc50 kV50 dc50 pm50 cd50 ct50 : Value}
    {fn51 : Addr} {od51 an51 : Option Addr} {sl51 : Array (Option Value)} {oc51 kV51 dc51 pm51 cd51 ct51 : Value}
    {fn52 : Addr} {od52 an52 : Option Addr} {sl52 : Array (Option Value)} {oc52 kV52 dc52 pm52 cd52 ct52 : Value}
    {fn53 : Addr} {od53 an53 : Option Addr} {sl53 : Array (Option Value)} {oc53 kV53 dc53 pm53 cd53 ct53 : Value}
    {fn54 : Addr} {od54 an54 : Option Addr} {sl54 : Array (Option Value)} {oc54 kV54 dc54 pm54 cd54 ct54 : Value}
    {fn55 : Addr} {od55 an55 : Option Addr} {sl55 : Array (Option Value)} {oc55 kV55 dc55 pm55 cd55 ct55 : Value}
    {fn56 : Addr} {od56 an56 : Option Addr} {sl56 : Array (Option Value)} {oc56 kV56 dc56 pm56 cd56 ct56 : Value}
    {fn57 : Addr} {od57 an57 : Option Addr} {sl57 : Array (Option Value)} {oc57 kV57 dc57 pm57 cd57 ct57 : Value}
    {fn58 : Addr} {od58 an58 : Option Addr} {sl58 : Array (Option Value)} {oc58 kV58 dc58 pm58 cd58 ct58 : Value}
    {fn59 : Addr} {od59 an59 : Option Addr} {sl59 : Array (Option Value)} {oc59 kV59 dc59 pm59 cd59 ct59 : Value}
    {fn60 : Addr} {od60 an60 : Option Addr} {sl60 : Array (Option Value)} {oc60 kV60 dc60 pm60 cd60 ct60 : Value}
    {fn61 : Addr} {od61 an61 : Option Addr} {sl61 : Array (Option Value)} {oc61 kV61 dc61 pm61 cd61 ct61 : Value}
    {fn62 : Addr} {od62 an62 : Option Addr} {sl62 : Array (Option Value)} {oc62 kV62 dc62 pm62 cd62 ct62 : Value}
    {fn63 : Addr} {od63 an63 : Option Addr} {sl63 : Array (Option Value)} {oc63 kV63 dc63 pm63 cd63 ct63 : Value}
    {fn64 : Addr} {od64 an64 : Option Addr} {sl64 : Array (Option Value)} {oc64 kV64 dc64 pm64 cd64 ct64 : Value}
    {fn65 : Addr} {od65 an65 : Option Addr} {sl65 : Array (Option Value)} {oc65 kV65 dc65 pm65 cd65 ct65 : Value}
    {fn66 : Addr} {od66 an66 : Option Addr} {sl66 : Array (Option Value)} {oc66 kV66 dc66 pm66 cd66 ct66 : Value}
    {fn67 : Addr} {od67 an67 : Option Addr} {sl67 : Array (Option Value)} {oc67 kV67 dc67 pm67 cd67 ct67 : Value}
    {fn68 : Addr} {od68 an68 : Option Addr} {sl68 : Array (Option Value)} {oc68 kV68 dc68 pm68 cd68 ct68 : Value}
    {fn69 : Addr} {od69 an69 : Option Addr} {sl69 : Array (Option Value)} {oc69 kV69 dc69 pm69 cd69 ct69 : Value}
    {fn70 : Addr} {od70 an70 : Option Addr} {sl70 : Array (Option Value)} {oc70 kV70 dc70 pm70 cd70 ct70 : Value}
    {fn71 : Addr} {od71 an71 : Option Addr} {sl71 : Array (Option Value)} {oc71 kV71 dc71 pm71 cd71 ct71 : Value}
    {fn72 : Addr} {od72 an72 : Option Addr} {sl72 : Array (Option Value)} {oc72 kV72 dc72 pm72 cd72 ct72 : Value}
    {fn73 : Addr} {od73 an73 : Option Addr} {sl73 : Array (Option Value)} {oc73 kV73 dc73 pm73 cd73 ct73 : Value}
    {fn74 : Addr} {od74 an74 : Option Addr} {sl74 : Array (Option Value)} {oc74 kV74 dc74 pm74 cd74 ct74 : Value}
    {fn75 : Addr} {od75 an75 : Option Addr} {sl75 : Array (Option Value)} {oc75 kV75 dc75 pm75 cd75 ct75 : Value}
    {fn76 : Addr} {od76 an76 : Option Addr} {sl76 : Array (Option Value)} {oc76 kV76 dc76 pm76 cd76 ct76 : Value}
    {fn77 : Addr} {od77 an77 : Option Addr} {sl77 : Array (Option Value)} {oc77 kV77 dc77 pm77 cd77 ct77 : Value}
    {fn78 : Addr} {od78 an78 : Option Addr} {sl78 : Array (Option Value)} {oc78 kV78 dc78 pm78 cd78 ct78 : Value}
    {fn79 : Addr} {od79 an79 : Option Addr} {sl79 : Array (Option Value)} {oc79 kV79 dc79 pm79 cd79 ct79 : Value}
    {fn80 : Addr} {od80 an80 : Option Addr} {sl80 : Array (Option Value)} {oc80 kV80 dc80 pm80 cd80 ct80 : Value}
    {fn81 : Addr} {od81 an81 : Option Addr} {sl81 : Array (Option Value)} {oc81 kV81 dc81 pm81 cd81 ct81 : Value}
    {fn82 : Addr} {od82 an82 : Option Addr} {sl82 : Array (Option Value)} {oc82 kV82 dc82 pm82 cd82 ct82 : Value}
    {fn83 : Addr} {od83 an83 : Option Addr} {sl83 : Array (Option Value)} {oc83 kV83 dc83 pm83 cd83 ct83 : Value}
    {fn84 : Addr} {od84 an84 : Option Addr} {sl84 : Array (Option Value)} {oc84 kV84 dc84 pm84 cd84 ct84 : Value}
    {fn85 : Addr} {od85 an85 : Option Addr} {sl85 : Array (Option Value)} {oc85 kV85 dc85 pm85 cd85 ct85 : Value}
    {fn86 : Addr} {od86 an86 : Option Addr} {sl86 : Array (Option Value)} {oc86 kV86 dc86 pm86 cd86 ct86 : Value}
    {fn87 : Addr} {od87 an87 : Option Addr} {sl87 : Array (Option Value)} {oc87 kV87 dc87 pm87 cd87 ct87 : Value}
    {fn88 : Addr} {od88 an88 : Option Addr} {sl88 : Array (Option Value)} {oc88 kV88 dc88 pm88 cd88 ct88 : Value}
    {fn89 : Addr} {od89 an89 : Option Addr} {sl89 : Array (Option Value)} {oc89 kV89 dc89 pm89 cd89 ct89 : Value}
    {fn90 : Addr} {od90 an90 : Option Addr} {sl90 : Array (Option Value)} {oc90 kV90 dc90 pm90 cd90 ct90 : Value}
    {fn91 : Addr} {od91 an91 : Option Addr} {sl91 : Array (Option Value)} {oc91 kV91 dc91 pm91 cd91 ct91 : Value}
    {fn92 : Addr} {od92 an92 : Option Addr} {sl92 : Array (Option Value)} {oc92 kV92 dc92 pm92 cd92 ct92 : Value}
    {fn93 : Addr} {od93 an93 : Option Addr} {sl93 : Array (Option Value)} {oc93 kV93 dc93 pm93 cd93 ct93 : Value}
    {fn94 : Addr} {od94 an94 : Option Addr} {sl94 : Array (Option Value)} {oc94 kV94 dc94 pm94 cd94 ct94 : Value}
    {fn95 : Addr} {od95 an95 : Option Addr} {sl95 : Array (Option Value)} {oc95 kV95 dc95 pm95 cd95 ct95 : Value}
    {fn96 : Addr} {od96 an96 : Option Addr} {sl96 : Array (Option Value)} {oc96 kV96 dc96 pm96 cd96 ct96 : Value}
    {fn97 : Addr} {od97 an97 : Option Addr} {sl97 : Array (Option Value)} {oc97 kV97 dc97 pm97 cd97 ct97 : Value}
    {fn98 : Addr} {od98 an98 : Option Addr} {sl98 : Array (Option Value)} {oc98 kV98 dc98 pm98 cd98 ct98 : Value}
    {fn99 : Addr} {od99 an99 : Option Addr} {sl99 : Array (Option Value)} {oc99 kV99 dc99 pm99 cd99 ct99 : Value}
    {fn100 : Addr} {od100 an100 : Option Addr} {sl100 : Array (Option Value)} {oc100 kV100 dc100 pm100 cd100 ct100 : Value}
    {fn101 : Addr} {od101 an101 : Option Addr} {sl101 : Array (Option Value)} {oc101 kV101 dc101 pm101 cd101 ct101 : Value}
    {fn102 : Addr} {od102 an102 : Option Addr} {sl102 : Array (Option Value)} {oc102 kV102 dc102 pm102 cd102 ct102 : Value}
    {fn103 : Addr} {od103 an103 : Option Addr} {sl103 : Array (Option Value)} {oc103 kV103 dc103 pm103 cd103 ct103 : Value}
    {fn104 : Addr} {od104 an104 : Option Addr} {sl104 : Array (Option Value)} {oc104 kV104 dc104 pm104 cd104 ct104 : Value}
    {fn105 : Addr} {od105 an105 : Option Addr} {sl105 : Array (Option Value)} {oc105 kV105 dc105 pm105 cd105 ct105 : Value}
    {fn106 : Addr} {od106 an106 : Option Addr} {sl106 : Array (Option Value)} {oc106 kV106 dc106 pm106 cd106 ct106 : Value}
    {fn107 : Addr} {od107 an107 : Option Addr} {sl107 : Array (Option Value)} {oc107 kV107 dc107 pm107 cd107 ct107 : Value}
    {fn108 : Addr} {od108 an108 : Option Addr} {sl108 : Array (Option Value)} {oc108 kV108 dc108 pm108 cd108 ct108 : Value}
    {fn109 : Addr} {od109 an109 : Option Addr} {sl109 : Array (Option Value)} {oc109 kV109 dc109 pm109 cd109 ct109 : Value}
    {fn110 : Addr} {od110 an110 : Option Addr} {sl110 : Array (Option Value)} {oc110 kV110 dc110 pm110 cd110 ct110 : Value}
    {fn111 : Addr} {od111 an111 : Option Addr} {sl111 : Array (Option Value)} {oc111 kV111 dc111 pm111 cd111 ct111 : Value}
    {tk0 : Tok}
    {tk1 : Tok}
    {tk2 : Tok}
    {tp0 : Addr} {tpd0 : Option Addr} {tps0 : Array (Option Value)} {tpn0 : Nat} {tq0_0 tq0_1 : Tok}
    {tp1 : Addr} {tpd1 : Option Addr} {tps1 : Array (Option Value)} {tpn1 : Nat} {tq1_0 tq1_1 : Tok}
    {tp2 : Addr} {tpd2 : Option Addr} {tps2 : Array (Option Value)} {tpn2 : Nat} {tq2_0 tq2_1 : Tok}
    {C0 : Addr}
    {C1 : Addr}
    {C2 : Addr}
    {C3 : Addr}
    {C4 : Addr}
    {C5 : Addr}
    {C6 : Addr}
    (a0 : PySem.W.nsIn K mainGlobals "is_integer" = some (some (.ref fn0)))
    (l0 : K.lookup fn0 = some ⟨oc0, od0, .func (PySem.W.fnOf "is_integer" "is_integer" (defArgs s_is_integer) (defBody s_is_integer) (defScope s_is_integer) .none kV0 dc0 pm0 an0 cd0 ct0), sl0⟩)
    (c0 : PySem.W.codeIn K cd0 "is_integer" = true)
    (k0 : PySem.W.keepIn K (.ref fn0) = true)
    (a1 : PySem.W.nsIn K mainGlobals "is_within" = some (some (.ref fn1)))
    (l1 : K.lookup fn1 = some ⟨oc1, od1, .func (PySem.W.fnOf "is_within" "is_within" (defArgs s_is_within) (defBody s_is_within) (defScope s_is_within) .none kV1 dc1 pm1 an1 cd1 ct1), sl1⟩)
    (c1 : PySem.W.codeIn K cd1 "is_within" = true)
    (k1 : PySem.W.keepIn K (.ref fn1) = true)
    (a2 : PySem.W.nsIn K mainGlobals "is_small" = some (some (.ref fn2)))
    (l2 : K.lookup fn2 = some ⟨oc2, od2, .func (PySem.W.fnOf "is_small" "is_small" (defArgs s_is_small) (defBody s_is_small) (defScope s_is_small) .none kV2 dc2 pm2 an2 cd2 ct2), sl2⟩)
    (c2 : PySem.W.codeIn K cd2 "is_small" = true)
    (k2 : PySem.W.keepIn K (.ref fn2) = true)
    (a3 : PySem.W.nsIn K mainGlobals "is_name" = some (some (.ref fn3)))
    (l3 : K.lookup fn3 = some ⟨oc3, od3, .func (PySem.W.fnOf "is_name" "is_name" (defArgs s_is_name) (defBody s_is_name) (defScope s_is_name) .none kV3 dc3 pm3 an3 cd3 ct3), sl3⟩)
    (c3 : PySem.W.codeIn K cd3 "is_name" = true)
    (k3 : PySem.W.keepIn K (.ref fn3) = true)
    (a4 : PySem.W.nsIn K mainGlobals "check" = some (some (.ref fn4)))
    (l4 : K.lookup fn4 = some ⟨oc4, od4, .func (PySem.W.fnOf "check" "check" (defArgs s_check) (defBody s_check) (defScope s_check) .none kV4 dc4 pm4 an4 cd4 ct4), sl4⟩)
    (c4 : PySem.W.codeIn K cd4 "check" = true)
    (k4 : PySem.W.keepIn K (.ref fn4) = true)
    (a5 : PySem.W.nsIn K mainGlobals "shared" = some (some (.ref fn5)))
    (l5 : K.lookup fn5 = some ⟨oc5, od5, .func (PySem.W.fnOf "shared" "shared" (defArgs s_shared) (defBody s_shared) (defScope s_shared) .none kV5 dc5 pm5 an5 cd5 ct5), sl5⟩)
    (c5 : PySem.W.codeIn K cd5 "shared" = true)
    (k5 : PySem.W.keepIn K (.ref fn5) = true)
    (a6 : PySem.W.nsIn K mainGlobals "made" = some (some (.ref fn6)))
    (l6 : K.lookup fn6 = some ⟨oc6, od6, .func (PySem.W.fnOf "made" "made" (defArgs s_made) (defBody s_made) (defScope s_made) .none kV6 dc6 pm6 an6 cd6 ct6), sl6⟩)
    (c6 : PySem.W.codeIn K cd6 "made" = true)
    (k6 : PySem.W.keepIn K (.ref fn6) = true)
    (a7 : PySem.W.nsIn K mainGlobals "is_ratio" = some (some (.ref fn7)))
    (l7 : K.lookup fn7 = some ⟨oc7, od7, .func (PySem.W.fnOf "is_ratio" "is_ratio" (defArgs s_is_ratio) (defBody s_is_ratio) (defScope s_is_ratio) .none kV7 dc7 pm7 an7 cd7 ct7), sl7⟩)
    (c7 : PySem.W.codeIn K cd7 "is_ratio" = true)
    (k7 : PySem.W.keepIn K (.ref fn7) = true)
    (a8 : PySem.W.nsIn K mainGlobals "add" = some (some (.ref fn8)))
    (l8 : K.lookup fn8 = some ⟨oc8, od8, .func (PySem.W.fnOf "add" "add" (defArgs s_add) (defBody s_add) (defScope s_add) .none kV8 dc8 pm8 an8 cd8 ct8), sl8⟩)
    (c8 : PySem.W.codeIn K cd8 "add" = true)
    (k8 : PySem.W.keepIn K (.ref fn8) = true)
    (a9 : PySem.W.nsIn K mainGlobals "opposite" = some (some (.ref fn9)))
    (l9 : K.lookup fn9 = some ⟨oc9, od9, .func (PySem.W.fnOf "opposite" "opposite" (defArgs s_opposite) (defBody s_opposite) (defScope s_opposite) .none kV9 dc9 pm9 an9 cd9 ct9), sl9⟩)
    (c9 : PySem.W.codeIn K cd9 "opposite" = true)
    (k9 : PySem.W.keepIn K (.ref fn9) = true)
    (a10 : PySem.W.nsIn K mainGlobals "less" = some (some (.ref fn10)))
    (l10 : K.lookup fn10 = some ⟨oc10, od10, .func (PySem.W.fnOf "less" "less" (defArgs s_less) (defBody s_less) (defScope s_less) .none kV10 dc10 pm10 an10 cd10 ct10), sl10⟩)
    (c10 : PySem.W.codeIn K cd10 "less" = true)
    (k10 : PySem.W.keepIn K (.ref fn10) = true)
    (a11 : PySem.W.nsIn K mainGlobals "product" = some (some (.ref fn11)))
    (l11 : K.lookup fn11 = some ⟨oc11, od11, .func (PySem.W.fnOf "product" "product" (defArgs s_product) (defBody s_product) (defScope s_product) .none kV11 dc11 pm11 an11 cd11 ct11), sl11⟩)
    (c11 : PySem.W.codeIn K cd11 "product" = true)
    (k11 : PySem.W.keepIn K (.ref fn11) = true)
    (a12 : PySem.W.nsIn K mainGlobals "share" = some (some (.ref fn12)))
    (l12 : K.lookup fn12 = some ⟨oc12, od12, .func (PySem.W.fnOf "share" "share" (defArgs s_share) (defBody s_share) (defScope s_share) .none kV12 dc12 pm12 an12 cd12 ct12), sl12⟩)
    (c12 : PySem.W.codeIn K cd12 "share" = true)
    (k12 : PySem.W.keepIn K (.ref fn12) = true)
    (a13 : PySem.W.nsIn K mainGlobals "is_below" = some (some (.ref fn13)))
    (l13 : K.lookup fn13 = some ⟨oc13, od13, .func (PySem.W.fnOf "is_below" "is_below" (defArgs s_is_below) (defBody s_is_below) (defScope s_is_below) .none kV13 dc13 pm13 an13 cd13 ct13), sl13⟩)
    (c13 : PySem.W.codeIn K cd13 "is_below" = true)
    (k13 : PySem.W.keepIn K (.ref fn13) = true)
    (a14 : PySem.W.nsIn K mainGlobals "lesser" = some (some (.ref fn14)))
    (l14 : K.lookup fn14 = some ⟨oc14, od14, .func (PySem.W.fnOf "lesser" "lesser" (defArgs s_lesser) (defBody s_lesser) (defScope s_lesser) .none kV14 dc14 pm14 an14 cd14 ct14), sl14⟩)
    (c14 : PySem.W.codeIn K cd14 "lesser" = true)
    (k14 : PySem.W.keepIn K (.ref fn14) = true)
    (a15 : PySem.W.nsIn K mainGlobals "greater" = some (some (.ref fn15)))
    (l15 : K.lookup fn15 = some ⟨oc15, od15, .func (PySem.W.fnOf "greater" "greater" (defArgs s_greater) (defBody s_greater) (defScope s_greater) .none kV15 dc15 pm15 an15 cd15 ct15), sl15⟩)
    (c15 : PySem.W.codeIn K cd15 "greater" = true)
    (k15 : PySem.W.keepIn K (.ref fn15) = true)
    (a16 : PySem.W.nsIn K mainGlobals "size_by" = some (some (.ref fn16)))
    (l16 : K.lookup fn16 = some ⟨oc16, od16, .func (PySem.W.fnOf "size_by" "size_by" (defArgs s_size_by) (defBody s_size_by) (defScope s_size_by) .none kV16 dc16 pm16 an16 cd16 ct16), sl16⟩)
    (c16 : PySem.W.codeIn K cd16 "size_by" = true)
    (k16 : PySem.W.keepIn K (.ref fn16) = true)
    (a17 : PySem.W.nsIn K mainGlobals "raised" = some (some (.ref fn17)))
    (l17 : K.lookup fn17 = some ⟨oc17, od17, .func (PySem.W.fnOf "raised" "raised" (defArgs s_raised) (defBody s_raised) (defScope s_raised) .none kV17 dc17 pm17 an17 cd17 ct17), sl17⟩)
    (c17 : PySem.W.codeIn K cd17 "raised" = true)
    (k17 : PySem.W.keepIn K (.ref fn17) = true)
    (a18 : PySem.W.nsIn K mainGlobals "power_by" = some (some (.ref fn18)))
    (l18 : K.lookup fn18 = some ⟨oc18, od18, .func (PySem.W.fnOf "power_by" "power_by" (defArgs s_power_by) (defBody s_power_by) (defScope s_power_by) .none kV18 dc18 pm18 an18 cd18 ct18), sl18⟩)
    (c18 : PySem.W.codeIn K cd18 "power_by" = true)
    (k18 : PySem.W.keepIn K (.ref fn18) = true)
    (a19 : PySem.W.nsIn K mainGlobals "of_bits" = some (some (.ref fn19)))
    (l19 : K.lookup fn19 = some ⟨oc19, od19, .func (PySem.W.fnOf "of_bits" "of_bits" (defArgs s_of_bits) (defBody s_of_bits) (defScope s_of_bits) .none kV19 dc19 pm19 an19 cd19 ct19), sl19⟩)
    (c19 : PySem.W.codeIn K cd19 "of_bits" = true)
    (k19 : PySem.W.keepIn K (.ref fn19) = true)
    (a20 : PySem.W.nsIn K mainGlobals "down_by" = some (some (.ref fn20)))
    (l20 : K.lookup fn20 = some ⟨oc20, od20, .func (PySem.W.fnOf "down_by" "down_by" (defArgs s_down_by) (defBody s_down_by) (defScope s_down_by) .none kV20 dc20 pm20 an20 cd20 ct20), sl20⟩)
    (c20 : PySem.W.codeIn K cd20 "down_by" = true)
    (k20 : PySem.W.keepIn K (.ref fn20) = true)
    (a21 : PySem.W.nsIn K mainGlobals "up_by" = some (some (.ref fn21)))
    (l21 : K.lookup fn21 = some ⟨oc21, od21, .func (PySem.W.fnOf "up_by" "up_by" (defArgs s_up_by) (defBody s_up_by) (defScope s_up_by) .none kV21 dc21 pm21 an21 cd21 ct21), sl21⟩)
    (c21 : PySem.W.codeIn K cd21 "up_by" = true)
    (k21 : PySem.W.keepIn K (.ref fn21) = true)
    (a22 : PySem.W.nsIn K mainGlobals "is_span" = some (some (.ref fn22)))
    (l22 : K.lookup fn22 = some ⟨oc22, od22, .func (PySem.W.fnOf "is_span" "is_span" (defArgs s_is_span) (defBody s_is_span) (defScope s_is_span) .none kV22 dc22 pm22 an22 cd22 ct22), sl22⟩)
    (c22 : PySem.W.codeIn K cd22 "is_span" = true)
    (k22 : PySem.W.keepIn K (.ref fn22) = true)
    (a23 : PySem.W.nsIn K mainGlobals "check_spans" = some (some (.ref fn23)))
    (l23 : K.lookup fn23 = some ⟨oc23, od23, .func (PySem.W.fnOf "check_spans" "check_spans" (defArgs s_check_spans) (defBody s_check_spans) (defScope s_check_spans) .none kV23 dc23 pm23 an23 cd23 ct23), sl23⟩)
    (c23 : PySem.W.codeIn K cd23 "check_spans" = true)
    (k23 : PySem.W.keepIn K (.ref fn23) = true)
    (a24 : PySem.W.nsIn K mainGlobals "check_ratio" = some (some (.ref fn24)))
    (l24 : K.lookup fn24 = some ⟨oc24, od24, .func (PySem.W.fnOf "check_ratio" "check_ratio" (defArgs s_check_ratio) (defBody s_check_ratio) (defScope s_check_ratio) .none kV24 dc24 pm24 an24 cd24 ct24), sl24⟩)
    (c24 : PySem.W.codeIn K cd24 "check_ratio" = true)
    (k24 : PySem.W.keepIn K (.ref fn24) = true)
    (a25 : PySem.W.nsIn K mainGlobals "point" = some (some (.ref fn25)))
    (l25 : K.lookup fn25 = some ⟨oc25, od25, .func (PySem.W.fnOf "point" "point" (defArgs s_point) (defBody s_point) (defScope s_point) .none kV25 dc25 pm25 an25 cd25 ct25), sl25⟩)
    (c25 : PySem.W.codeIn K cd25 "point" = true)
    (k25 : PySem.W.keepIn K (.ref fn25) = true)
    (a26 : PySem.W.nsIn K mainGlobals "span_by" = some (some (.ref fn26)))
    (l26 : K.lookup fn26 = some ⟨oc26, od26, .func (PySem.W.fnOf "span_by" "span_by" (defArgs s_span_by) (defBody s_span_by) (defScope s_span_by) .none kV26 dc26 pm26 an26 cd26 ct26), sl26⟩)
    (c26 : PySem.W.codeIn K cd26 "span_by" = true)
    (k26 : PySem.W.keepIn K (.ref fn26) = true)
    (a27 : PySem.W.nsIn K mainGlobals "span_of" = some (some (.ref fn27)))
    (l27 : K.lookup fn27 = some ⟨oc27, od27, .func (PySem.W.fnOf "span_of" "span_of" (defArgs s_span_of) (defBody s_span_of) (defScope s_span_of) .none kV27 dc27 pm27 an27 cd27 ct27), sl27⟩)
    (c27 : PySem.W.codeIn K cd27 "span_of" = true)
    (k27 : PySem.W.keepIn K (.ref fn27) = true)
    (a28 : PySem.W.nsIn K mainGlobals "width_by" = some (some (.ref fn28)))
    (l28 : K.lookup fn28 = some ⟨oc28, od28, .func (PySem.W.fnOf "width_by" "width_by" (defArgs s_width_by) (defBody s_width_by) (defScope s_width_by) .none kV28 dc28 pm28 an28 cd28 ct28), sl28⟩)
    (c28 : PySem.W.codeIn K cd28 "width_by" = true)
    (k28 : PySem.W.keepIn K (.ref fn28) = true)
    (a29 : PySem.W.nsIn K mainGlobals "width_of" = some (some (.ref fn29)))
    (l29 : K.lookup fn29 = some ⟨oc29, od29, .func (PySem.W.fnOf "width_of" "width_of" (defArgs s_width_of) (defBody s_width_of) (defScope s_width_of) .none kV29 dc29 pm29 an29 cd29 ct29), sl29⟩)
    (c29 : PySem.W.codeIn K cd29 "width_of" = true)
    (k29 : PySem.W.keepIn K (.ref fn29) = true)
    (a30 : PySem.W.nsIn K mainGlobals "middle_by" = some (some (.ref fn30)))
    (l30 : K.lookup fn30 = some ⟨oc30, od30, .func (PySem.W.fnOf "middle_by" "middle_by" (defArgs s_middle_by) (defBody s_middle_by) (defScope s_middle_by) .none kV30 dc30 pm30 an30 cd30 ct30), sl30⟩)
    (c30 : PySem.W.codeIn K cd30 "middle_by" = true)
    (k30 : PySem.W.keepIn K (.ref fn30) = true)
    (a31 : PySem.W.nsIn K mainGlobals "middle_of" = some (some (.ref fn31)))
    (l31 : K.lookup fn31 = some ⟨oc31, od31, .func (PySem.W.fnOf "middle_of" "middle_of" (defArgs s_middle_of) (defBody s_middle_of) (defScope s_middle_of) .none kV31 dc31 pm31 an31 cd31 ct31), sl31⟩)
    (c31 : PySem.W.codeIn K cd31 "middle_of" = true)
    (k31 : PySem.W.keepIn K (.ref fn31) = true)
    (a32 : PySem.W.nsIn K mainGlobals "size_of_span" = some (some (.ref fn32)))
    (l32 : K.lookup fn32 = some ⟨oc32, od32, .func (PySem.W.fnOf "size_of_span" "size_of_span" (defArgs s_size_of_span) (defBody s_size_of_span) (defScope s_size_of_span) .none kV32 dc32 pm32 an32 cd32 ct32), sl32⟩)
    (c32 : PySem.W.codeIn K cd32 "size_of_span" = true)
    (k32 : PySem.W.keepIn K (.ref fn32) = true)
    (a33 : PySem.W.nsIn K mainGlobals "size_of" = some (some (.ref fn33)))
    (l33 : K.lookup fn33 = some ⟨oc33, od33, .func (PySem.W.fnOf "size_of" "size_of" (defArgs s_size_of) (defBody s_size_of) (defScope s_size_of) .none kV33 dc33 pm33 an33 cd33 ct33), sl33⟩)
    (c33 : PySem.W.codeIn K cd33 "size_of" = true)
    (k33 : PySem.W.keepIn K (.ref fn33) = true)
    (a34 : PySem.W.nsIn K mainGlobals "has_by" = some (some (.ref fn34)))
    (l34 : K.lookup fn34 = some ⟨oc34, od34, .func (PySem.W.fnOf "has_by" "has_by" (defArgs s_has_by) (defBody s_has_by) (defScope s_has_by) .none kV34 dc34 pm34 an34 cd34 ct34), sl34⟩)
    (c34 : PySem.W.codeIn K cd34 "has_by" = true)
    (k34 : PySem.W.keepIn K (.ref fn34) = true)
    (a35 : PySem.W.nsIn K mainGlobals "has" = some (some (.ref fn35)))
    (l35 : K.lookup fn35 = some ⟨oc35, od35, .func (PySem.W.fnOf "has" "has" (defArgs s_has) (defBody s_has) (defScope s_has) .none kV35 dc35 pm35 an35 cd35 ct35), sl35⟩)
    (c35 : PySem.W.codeIn K cd35 "has" = true)
    (k35 : PySem.W.keepIn K (.ref fn35) = true)
    (a36 : PySem.W.nsIn K mainGlobals "within_by" = some (some (.ref fn36)))
    (l36 : K.lookup fn36 = some ⟨oc36, od36, .func (PySem.W.fnOf "within_by" "within_by" (defArgs s_within_by) (defBody s_within_by) (defScope s_within_by) .none kV36 dc36 pm36 an36 cd36 ct36), sl36⟩)
    (c36 : PySem.W.codeIn K cd36 "within_by" = true)
    (k36 : PySem.W.keepIn K (.ref fn36) = true)
    (a37 : PySem.W.nsIn K mainGlobals "is_within_span" = some (some (.ref fn37)))
    (l37 : K.lookup fn37 = some ⟨oc37, od37, .func (PySem.W.fnOf "is_within_span" "is_within_span" (defArgs s_is_within_span) (defBody s_is_within_span) (defScope s_is_within_span) .none kV37 dc37 pm37 an37 cd37 ct37), sl37⟩)
    (c37 : PySem.W.codeIn K cd37 "is_within_span" = true)
    (k37 : PySem.W.keepIn K (.ref fn37) = true)
    (a38 : PySem.W.nsIn K mainGlobals "inside_by" = some (some (.ref fn38)))
    (l38 : K.lookup fn38 = some ⟨oc38, od38, .func (PySem.W.fnOf "inside_by" "inside_by" (defArgs s_inside_by) (defBody s_inside_by) (defScope s_inside_by) .none kV38 dc38 pm38 an38 cd38 ct38), sl38⟩)
    (c38 : PySem.W.codeIn K cd38 "inside_by" = true)
    (k38 : PySem.W.keepIn K (.ref fn38) = true)
    (a39 : PySem.W.nsIn K mainGlobals "is_inside" = some (some (.ref fn39)))
    (l39 : K.lookup fn39 = some ⟨oc39, od39, .func (PySem.W.fnOf "is_inside" "is_inside" (defArgs s_is_inside) (defBody s_is_inside) (defScope s_is_inside) .none kV39 dc39 pm39 an39 cd39 ct39), sl39⟩)
    (c39 : PySem.W.codeIn K cd39 "is_inside" = true)
    (k39 : PySem.W.keepIn K (.ref fn39) = true)
    (a40 : PySem.W.nsIn K mainGlobals "add_spans" = some (some (.ref fn40)))
    (l40 : K.lookup fn40 = some ⟨oc40, od40, .func (PySem.W.fnOf "add_spans" "add_spans" (defArgs s_add_spans) (defBody s_add_spans) (defScope s_add_spans) .none kV40 dc40 pm40 an40 cd40 ct40), sl40⟩)
    (c40 : PySem.W.codeIn K cd40 "add_spans" = true)
    (k40 : PySem.W.keepIn K (.ref fn40) = true)
    (a41 : PySem.W.nsIn K mainGlobals "added" = some (some (.ref fn41)))
    (l41 : K.lookup fn41 = some ⟨oc41, od41, .func (PySem.W.fnOf "added" "added" (defArgs s_added) (defBody s_added) (defScope s_added) .none kV41 dc41 pm41 an41 cd41 ct41), sl41⟩)
    (c41 : PySem.W.codeIn K cd41 "added" = true)
    (k41 : PySem.W.keepIn K (.ref fn41) = true)
    (a42 : PySem.W.nsIn K mainGlobals "turn_span" = some (some (.ref fn42)))
    (l42 : K.lookup fn42 = some ⟨oc42, od42, .func (PySem.W.fnOf "turn_span" "turn_span" (defArgs s_turn_span) (defBody s_turn_span) (defScope s_turn_span) .none kV42 dc42 pm42 an42 cd42 ct42), sl42⟩)
    (c42 : PySem.W.codeIn K cd42 "turn_span" = true)
    (k42 : PySem.W.keepIn K (.ref fn42) = true)
    (a43 : PySem.W.nsIn K mainGlobals "turned" = some (some (.ref fn43)))
    (l43 : K.lookup fn43 = some ⟨oc43, od43, .func (PySem.W.fnOf "turned" "turned" (defArgs s_turned) (defBody s_turned) (defScope s_turned) .none kV43 dc43 pm43 an43 cd43 ct43), sl43⟩)
    (c43 : PySem.W.codeIn K cd43 "turned" = true)
    (k43 : PySem.W.keepIn K (.ref fn43) = true)
    (a44 : PySem.W.nsIn K mainGlobals "less_spans" = some (some (.ref fn44)))
    (l44 : K.lookup fn44 = some ⟨oc44, od44, .func (PySem.W.fnOf "less_spans" "less_spans" (defArgs s_less_spans) (defBody s_less_spans) (defScope s_less_spans) .none kV44 dc44 pm44 an44 cd44 ct44), sl44⟩)
    (c44 : PySem.W.codeIn K cd44 "less_spans" = true)
    (k44 : PySem.W.keepIn K (.ref fn44) = true)
    (a45 : PySem.W.nsIn K mainGlobals "subtracted" = some (some (.ref fn45)))
    (l45 : K.lookup fn45 = some ⟨oc45, od45, .func (PySem.W.fnOf "subtracted" "subtracted" (defArgs s_subtracted) (defBody s_subtracted) (defScope s_subtracted) .none kV45 dc45 pm45 an45 cd45 ct45), sl45⟩)
    (c45 : PySem.W.codeIn K cd45 "subtracted" = true)
    (k45 : PySem.W.keepIn K (.ref fn45) = true)
    (a46 : PySem.W.nsIn K mainGlobals "product_by" = some (some (.ref fn46)))
    (l46 : K.lookup fn46 = some ⟨oc46, od46, .func (PySem.W.fnOf "product_by" "product_by" (defArgs s_product_by) (defBody s_product_by) (defScope s_product_by) .none kV46 dc46 pm46 an46 cd46 ct46), sl46⟩)
    (c46 : PySem.W.codeIn K cd46 "product_by" = true)
    (k46 : PySem.W.keepIn K (.ref fn46) = true)
    (a47 : PySem.W.nsIn K mainGlobals "scale_span" = some (some (.ref fn47)))
    (l47 : K.lookup fn47 = some ⟨oc47, od47, .func (PySem.W.fnOf "scale_span" "scale_span" (defArgs s_scale_span) (defBody s_scale_span) (defScope s_scale_span) .none kV47 dc47 pm47 an47 cd47 ct47), sl47⟩)
    (c47 : PySem.W.codeIn K cd47 "scale_span" = true)
    (k47 : PySem.W.keepIn K (.ref fn47) = true)
    (a48 : PySem.W.nsIn K mainGlobals "scaled" = some (some (.ref fn48)))
    (l48 : K.lookup fn48 = some ⟨oc48, od48, .func (PySem.W.fnOf "scaled" "scaled" (defArgs s_scaled) (defBody s_scaled) (defScope s_scaled) .none kV48 dc48 pm48 an48 cd48 ct48), sl48⟩)
    (c48 : PySem.W.codeIn K cd48 "scaled" = true)
    (k48 : PySem.W.keepIn K (.ref fn48) = true)
    (a49 : PySem.W.nsIn K mainGlobals "inverse_by" = some (some (.ref fn49)))
    (l49 : K.lookup fn49 = some ⟨oc49, od49, .func (PySem.W.fnOf "inverse_by" "inverse_by" (defArgs s_inverse_by) (defBody s_inverse_by) (defScope s_inverse_by) .none kV49 dc49 pm49 an49 cd49 ct49), sl49⟩)
    (c49 : PySem.W.codeIn K cd49 "inverse_by" = true)
    (k49 : PySem.W.keepIn K (.ref fn49) = true)
    (a50 : PySem.W.nsIn K mainGlobals "part_spans" = some (some (.ref fn50)))
    (l50 : K.lookup fn50 = some ⟨oc50, od50, .func (PySem.W.fnOf "part_spans" "part_spans" (defArgs s_part_spans) (defBody s_part_spans) (defScope s_part_spans) .none kV50 dc50 pm50 an50 cd50 ct50), sl50⟩)
    (c50 : PySem.W.codeIn K cd50 "part_spans" = true)
    (k50 : PySem.W.keepIn K (.ref fn50) = true)
    (a51 : PySem.W.nsIn K mainGlobals "parted" = some (some (.ref fn51)))
    (l51 : K.lookup fn51 = some ⟨oc51, od51, .func (PySem.W.fnOf "parted" "parted" (defArgs s_parted) (defBody s_parted) (defScope s_parted) .none kV51 dc51 pm51 an51 cd51 ct51), sl51⟩)
    (c51 : PySem.W.codeIn K cd51 "parted" = true)
    (k51 : PySem.W.keepIn K (.ref fn51) = true)
    (a52 : PySem.W.nsIn K mainGlobals "power_span" = some (some (.ref fn52)))
    (l52 : K.lookup fn52 = some ⟨oc52, od52, .func (PySem.W.fnOf "power_span" "power_span" (defArgs s_power_span) (defBody s_power_span) (defScope s_power_span) .none kV52 dc52 pm52 an52 cd52 ct52), sl52⟩)
    (c52 : PySem.W.codeIn K cd52 "power_span" = true)
    (k52 : PySem.W.keepIn K (.ref fn52) = true)
    (a53 : PySem.W.nsIn K mainGlobals "powered" = some (some (.ref fn53)))
    (l53 : K.lookup fn53 = some ⟨oc53, od53, .func (PySem.W.fnOf "powered" "powered" (defArgs s_powered) (defBody s_powered) (defScope s_powered) .none kV53 dc53 pm53 an53 cd53 ct53), sl53⟩)
    (c53 : PySem.W.codeIn K cd53 "powered" = true)
    (k53 : PySem.W.keepIn K (.ref fn53) = true)
    (a54 : PySem.W.nsIn K mainGlobals "size_span" = some (some (.ref fn54)))
    (l54 : K.lookup fn54 = some ⟨oc54, od54, .func (PySem.W.fnOf "size_span" "size_span" (defArgs s_size_span) (defBody s_size_span) (defScope s_size_span) .none kV54 dc54 pm54 an54 cd54 ct54), sl54⟩)
    (c54 : PySem.W.codeIn K cd54 "size_span" = true)
    (k54 : PySem.W.keepIn K (.ref fn54) = true)
    (a55 : PySem.W.nsIn K mainGlobals "sized" = some (some (.ref fn55)))
    (l55 : K.lookup fn55 = some ⟨oc55, od55, .func (PySem.W.fnOf "sized" "sized" (defArgs s_sized) (defBody s_sized) (defScope s_sized) .none kV55 dc55 pm55 an55 cd55 ct55), sl55⟩)
    (c55 : PySem.W.codeIn K cd55 "sized" = true)
    (k55 : PySem.W.keepIn K (.ref fn55) = true)
    (a56 : PySem.W.nsIn K mainGlobals "least_by" = some (some (.ref fn56)))
    (l56 : K.lookup fn56 = some ⟨oc56, od56, .func (PySem.W.fnOf "least_by" "least_by" (defArgs s_least_by) (defBody s_least_by) (defScope s_least_by) .none kV56 dc56 pm56 an56 cd56 ct56), sl56⟩)
    (c56 : PySem.W.codeIn K cd56 "least_by" = true)
    (k56 : PySem.W.keepIn K (.ref fn56) = true)
    (a57 : PySem.W.nsIn K mainGlobals "least_two" = some (some (.ref fn57)))
    (l57 : K.lookup fn57 = some ⟨oc57, od57, .func (PySem.W.fnOf "least_two" "least_two" (defArgs s_least_two) (defBody s_least_two) (defScope s_least_two) .none kV57 dc57 pm57 an57 cd57 ct57), sl57⟩)
    (c57 : PySem.W.codeIn K cd57 "least_two" = true)
    (k57 : PySem.W.keepIn K (.ref fn57) = true)
    (a58 : PySem.W.nsIn K mainGlobals "greatest_by" = some (some (.ref fn58)))
    (l58 : K.lookup fn58 = some ⟨oc58, od58, .func (PySem.W.fnOf "greatest_by" "greatest_by" (defArgs s_greatest_by) (defBody s_greatest_by) (defScope s_greatest_by) .none kV58 dc58 pm58 an58 cd58 ct58), sl58⟩)
    (c58 : PySem.W.codeIn K cd58 "greatest_by" = true)
    (k58 : PySem.W.keepIn K (.ref fn58) = true)
    (a59 : PySem.W.nsIn K mainGlobals "greatest_two" = some (some (.ref fn59)))
    (l59 : K.lookup fn59 = some ⟨oc59, od59, .func (PySem.W.fnOf "greatest_two" "greatest_two" (defArgs s_greatest_two) (defBody s_greatest_two) (defScope s_greatest_two) .none kV59 dc59 pm59 an59 cd59 ct59), sl59⟩)
    (c59 : PySem.W.codeIn K cd59 "greatest_two" = true)
    (k59 : PySem.W.keepIn K (.ref fn59) = true)
    (a60 : PySem.W.nsIn K mainGlobals "round_span" = some (some (.ref fn60)))
    (l60 : K.lookup fn60 = some ⟨oc60, od60, .func (PySem.W.fnOf "round_span" "round_span" (defArgs s_round_span) (defBody s_round_span) (defScope s_round_span) .none kV60 dc60 pm60 an60 cd60 ct60), sl60⟩)
    (c60 : PySem.W.codeIn K cd60 "round_span" = true)
    (k60 : PySem.W.keepIn K (.ref fn60) = true)
    (a61 : PySem.W.nsIn K mainGlobals "rounded_out" = some (some (.ref fn61)))
    (l61 : K.lookup fn61 = some ⟨oc61, od61, .func (PySem.W.fnOf "rounded_out" "rounded_out" (defArgs s_rounded_out) (defBody s_rounded_out) (defScope s_rounded_out) .none kV61 dc61 pm61 an61 cd61 ct61), sl61⟩)
    (c61 : PySem.W.codeIn K cd61 "rounded_out" = true)
    (k61 : PySem.W.keepIn K (.ref fn61) = true)
    (a62 : PySem.W.nsIn K mainGlobals "common_by" = some (some (.ref fn62)))
    (l62 : K.lookup fn62 = some ⟨oc62, od62, .func (PySem.W.fnOf "common_by" "common_by" (defArgs s_common_by) (defBody s_common_by) (defScope s_common_by) .none kV62 dc62 pm62 an62 cd62 ct62), sl62⟩)
    (c62 : PySem.W.codeIn K cd62 "common_by" = true)
    (k62 : PySem.W.keepIn K (.ref fn62) = true)
    (a63 : PySem.W.nsIn K mainGlobals "common" = some (some (.ref fn63)))
    (l63 : K.lookup fn63 = some ⟨oc63, od63, .func (PySem.W.fnOf "common" "common" (defArgs s_common) (defBody s_common) (defScope s_common) .none kV63 dc63 pm63 an63 cd63 ct63), sl63⟩)
    (c63 : PySem.W.codeIn K cd63 "common" = true)
    (k63 : PySem.W.keepIn K (.ref fn63) = true)
    (a64 : PySem.W.nsIn K mainGlobals "around_by" = some (some (.ref fn64)))
    (l64 : K.lookup fn64 = some ⟨oc64, od64, .func (PySem.W.fnOf "around_by" "around_by" (defArgs s_around_by) (defBody s_around_by) (defScope s_around_by) .none kV64 dc64 pm64 an64 cd64 ct64), sl64⟩)
    (c64 : PySem.W.codeIn K cd64 "around_by" = true)
    (k64 : PySem.W.keepIn K (.ref fn64) = true)
    (a65 : PySem.W.nsIn K mainGlobals "around" = some (some (.ref fn65)))
    (l65 : K.lookup fn65 = some ⟨oc65, od65, .func (PySem.W.fnOf "around" "around" (defArgs s_around) (defBody s_around) (defScope s_around) .none kV65 dc65 pm65 an65 cd65 ct65), sl65⟩)
    (c65 : PySem.W.codeIn K cd65 "around" = true)
    (k65 : PySem.W.keepIn K (.ref fn65) = true)
    (a66 : PySem.W.nsIn K mainGlobals "halve_span" = some (some (.ref fn66)))
    (l66 : K.lookup fn66 = some ⟨oc66, od66, .func (PySem.W.fnOf "halve_span" "halve_span" (defArgs s_halve_span) (defBody s_halve_span) (defScope s_halve_span) .none kV66 dc66 pm66 an66 cd66 ct66), sl66⟩)
    (c66 : PySem.W.codeIn K cd66 "halve_span" = true)
    (k66 : PySem.W.keepIn K (.ref fn66) = true)
    (a67 : PySem.W.nsIn K mainGlobals "halves_of" = some (some (.ref fn67)))
    (l67 : K.lookup fn67 = some ⟨oc67, od67, .func (PySem.W.fnOf "halves_of" "halves_of" (defArgs s_halves_of) (defBody s_halves_of) (defScope s_halves_of) .none kV67 dc67 pm67 an67 cd67 ct67), sl67⟩)
    (c67 : PySem.W.codeIn K cd67 "halves_of" = true)
    (k67 : PySem.W.keepIn K (.ref fn67) = true)
    (a68 : PySem.W.nsIn K mainGlobals "grow_span" = some (some (.ref fn68)))
    (l68 : K.lookup fn68 = some ⟨oc68, od68, .func (PySem.W.fnOf "grow_span" "grow_span" (defArgs s_grow_span) (defBody s_grow_span) (defScope s_grow_span) .none kV68 dc68 pm68 an68 cd68 ct68), sl68⟩)
    (c68 : PySem.W.codeIn K cd68 "grow_span" = true)
    (k68 : PySem.W.keepIn K (.ref fn68) = true)
    (a69 : PySem.W.nsIn K mainGlobals "grown" = some (some (.ref fn69)))
    (l69 : K.lookup fn69 = some ⟨oc69, od69, .func (PySem.W.fnOf "grown" "grown" (defArgs s_grown) (defBody s_grown) (defScope s_grown) .none kV69 dc69 pm69 an69 cd69 ct69), sl69⟩)
    (c69 : PySem.W.codeIn K cd69 "grown" = true)
    (k69 : PySem.W.keepIn K (.ref fn69) = true)
    (a70 : PySem.W.nsIn K mainGlobals "sign_by" = some (some (.ref fn70)))
    (l70 : K.lookup fn70 = some ⟨oc70, od70, .func (PySem.W.fnOf "sign_by" "sign_by" (defArgs s_sign_by) (defBody s_sign_by) (defScope s_sign_by) .none kV70 dc70 pm70 an70 cd70 ct70), sl70⟩)
    (c70 : PySem.W.codeIn K cd70 "sign_by" = true)
    (k70 : PySem.W.keepIn K (.ref fn70) = true)
    (a71 : PySem.W.nsIn K mainGlobals "sign_of" = some (some (.ref fn71)))
    (l71 : K.lookup fn71 = some ⟨oc71, od71, .func (PySem.W.fnOf "sign_of" "sign_of" (defArgs s_sign_of) (defBody s_sign_of) (defScope s_sign_of) .none kV71 dc71 pm71 an71 cd71 ct71), sl71⟩)
    (c71 : PySem.W.codeIn K cd71 "sign_of" = true)
    (k71 : PySem.W.keepIn K (.ref fn71) = true)
    (a72 : PySem.W.nsIn K mainGlobals "is_box" = some (some (.ref fn72)))
    (l72 : K.lookup fn72 = some ⟨oc72, od72, .func (PySem.W.fnOf "is_box" "is_box" (defArgs s_is_box) (defBody s_is_box) (defScope s_is_box) .none kV72 dc72 pm72 an72 cd72 ct72), sl72⟩)
    (c72 : PySem.W.codeIn K cd72 "is_box" = true)
    (k72 : PySem.W.keepIn K (.ref fn72) = true)
    (a73 : PySem.W.nsIn K mainGlobals "check_box" = some (some (.ref fn73)))
    (l73 : K.lookup fn73 = some ⟨oc73, od73, .func (PySem.W.fnOf "check_box" "check_box" (defArgs s_check_box) (defBody s_check_box) (defScope s_check_box) .none kV73 dc73 pm73 an73 cd73 ct73), sl73⟩)
    (c73 : PySem.W.codeIn K cd73 "check_box" = true)
    (k73 : PySem.W.keepIn K (.ref fn73) = true)
    (a74 : PySem.W.nsIn K mainGlobals "check_alike" = some (some (.ref fn74)))
    (l74 : K.lookup fn74 = some ⟨oc74, od74, .func (PySem.W.fnOf "check_alike" "check_alike" (defArgs s_check_alike) (defBody s_check_alike) (defScope s_check_alike) .none kV74 dc74 pm74 an74 cd74 ct74), sl74⟩)
    (c74 : PySem.W.codeIn K cd74 "check_alike" = true)
    (k74 : PySem.W.keepIn K (.ref fn74) = true)
    (a75 : PySem.W.nsIn K mainGlobals "width_by_box" = some (some (.ref fn75)))
    (l75 : K.lookup fn75 = some ⟨oc75, od75, .func (PySem.W.fnOf "width_by_box" "width_by_box" (defArgs s_width_by_box) (defBody s_width_by_box) (defScope s_width_by_box) .none kV75 dc75 pm75 an75 cd75 ct75), sl75⟩)
    (c75 : PySem.W.codeIn K cd75 "width_by_box" = true)
    (k75 : PySem.W.keepIn K (.ref fn75) = true)
    (a76 : PySem.W.nsIn K mainGlobals "width_of_box" = some (some (.ref fn76)))
    (l76 : K.lookup fn76 = some ⟨oc76, od76, .func (PySem.W.fnOf "width_of_box" "width_of_box" (defArgs s_width_of_box) (defBody s_width_of_box) (defScope s_width_of_box) .none kV76 dc76 pm76 an76 cd76 ct76), sl76⟩)
    (c76 : PySem.W.codeIn K cd76 "width_of_box" = true)
    (k76 : PySem.W.keepIn K (.ref fn76) = true)
    (a77 : PySem.W.nsIn K mainGlobals "widest_name" = some (some (.ref fn77)))
    (l77 : K.lookup fn77 = some ⟨oc77, od77, .func (PySem.W.fnOf "widest_name" "widest_name" (defArgs s_widest_name) (defBody s_widest_name) (defScope s_widest_name) .none kV77 dc77 pm77 an77 cd77 ct77), sl77⟩)
    (c77 : PySem.W.codeIn K cd77 "widest_name" = true)
    (k77 : PySem.W.keepIn K (.ref fn77) = true)
    (a78 : PySem.W.nsIn K mainGlobals "put_span" = some (some (.ref fn78)))
    (l78 : K.lookup fn78 = some ⟨oc78, od78, .func (PySem.W.fnOf "put_span" "put_span" (defArgs s_put_span) (defBody s_put_span) (defScope s_put_span) .none kV78 dc78 pm78 an78 cd78 ct78), sl78⟩)
    (c78 : PySem.W.codeIn K cd78 "put_span" = true)
    (k78 : PySem.W.keepIn K (.ref fn78) = true)
    (a79 : PySem.W.nsIn K mainGlobals "halve_box" = some (some (.ref fn79)))
    (l79 : K.lookup fn79 = some ⟨oc79, od79, .func (PySem.W.fnOf "halve_box" "halve_box" (defArgs s_halve_box) (defBody s_halve_box) (defScope s_halve_box) .none kV79 dc79 pm79 an79 cd79 ct79), sl79⟩)
    (c79 : PySem.W.codeIn K cd79 "halve_box" = true)
    (k79 : PySem.W.keepIn K (.ref fn79) = true)
    (a80 : PySem.W.nsIn K mainGlobals "halves_of_box" = some (some (.ref fn80)))
    (l80 : K.lookup fn80 = some ⟨oc80, od80, .func (PySem.W.fnOf "halves_of_box" "halves_of_box" (defArgs s_halves_of_box) (defBody s_halves_of_box) (defScope s_halves_of_box) .none kV80 dc80 pm80 an80 cd80 ct80), sl80⟩)
    (c80 : PySem.W.codeIn K cd80 "halves_of_box" = true)
    (k80 : PySem.W.keepIn K (.ref fn80) = true)
    (a81 : PySem.W.nsIn K mainGlobals "middle_by_box" = some (some (.ref fn81)))
    (l81 : K.lookup fn81 = some ⟨oc81, od81, .func (PySem.W.fnOf "middle_by_box" "middle_by_box" (defArgs s_middle_by_box) (defBody s_middle_by_box) (defScope s_middle_by_box) .none kV81 dc81 pm81 an81 cd81 ct81), sl81⟩)
    (c81 : PySem.W.codeIn K cd81 "middle_by_box" = true)
    (k81 : PySem.W.keepIn K (.ref fn81) = true)
    (a82 : PySem.W.nsIn K mainGlobals "middle_of_box" = some (some (.ref fn82)))
    (l82 : K.lookup fn82 = some ⟨oc82, od82, .func (PySem.W.fnOf "middle_of_box" "middle_of_box" (defArgs s_middle_of_box) (defBody s_middle_of_box) (defScope s_middle_of_box) .none kV82 dc82 pm82 an82 cd82 ct82), sl82⟩)
    (c82 : PySem.W.codeIn K cd82 "middle_of_box" = true)
    (k82 : PySem.W.keepIn K (.ref fn82) = true)
    (a83 : PySem.W.nsIn K mainGlobals "common_by_box" = some (some (.ref fn83)))
    (l83 : K.lookup fn83 = some ⟨oc83, od83, .func (PySem.W.fnOf "common_by_box" "common_by_box" (defArgs s_common_by_box) (defBody s_common_by_box) (defScope s_common_by_box) .none kV83 dc83 pm83 an83 cd83 ct83), sl83⟩)
    (c83 : PySem.W.codeIn K cd83 "common_by_box" = true)
    (k83 : PySem.W.keepIn K (.ref fn83) = true)
    (a84 : PySem.W.nsIn K mainGlobals "common_box" = some (some (.ref fn84)))
    (l84 : K.lookup fn84 = some ⟨oc84, od84, .func (PySem.W.fnOf "common_box" "common_box" (defArgs s_common_box) (defBody s_common_box) (defScope s_common_box) .none kV84 dc84 pm84 an84 cd84 ct84), sl84⟩)
    (c84 : PySem.W.codeIn K cd84 "common_box" = true)
    (k84 : PySem.W.keepIn K (.ref fn84) = true)
    (a85 : PySem.W.nsIn K mainGlobals "within_by_box" = some (some (.ref fn85)))
    (l85 : K.lookup fn85 = some ⟨oc85, od85, .func (PySem.W.fnOf "within_by_box" "within_by_box" (defArgs s_within_by_box) (defBody s_within_by_box) (defScope s_within_by_box) .none kV85 dc85 pm85 an85 cd85 ct85), sl85⟩)
    (c85 : PySem.W.codeIn K cd85 "within_by_box" = true)
    (k85 : PySem.W.keepIn K (.ref fn85) = true)
    (a86 : PySem.W.nsIn K mainGlobals "is_within_box" = some (some (.ref fn86)))
    (l86 : K.lookup fn86 = some ⟨oc86, od86, .func (PySem.W.fnOf "is_within_box" "is_within_box" (defArgs s_is_within_box) (defBody s_is_within_box) (defScope s_is_within_box) .none kV86 dc86 pm86 an86 cd86 ct86), sl86⟩)
    (c86 : PySem.W.codeIn K cd86 "is_within_box" = true)
    (k86 : PySem.W.keepIn K (.ref fn86) = true)
    (a87 : PySem.W.nsIn K mainGlobals "inside_by_box" = some (some (.ref fn87)))
    (l87 : K.lookup fn87 = some ⟨oc87, od87, .func (PySem.W.fnOf "inside_by_box" "inside_by_box" (defArgs s_inside_by_box) (defBody s_inside_by_box) (defScope s_inside_by_box) .none kV87 dc87 pm87 an87 cd87 ct87), sl87⟩)
    (c87 : PySem.W.codeIn K cd87 "inside_by_box" = true)
    (k87 : PySem.W.keepIn K (.ref fn87) = true)
    (a88 : PySem.W.nsIn K mainGlobals "is_inside_box" = some (some (.ref fn88)))
    (l88 : K.lookup fn88 = some ⟨oc88, od88, .func (PySem.W.fnOf "is_inside_box" "is_inside_box" (defArgs s_is_inside_box) (defBody s_is_inside_box) (defScope s_is_inside_box) .none kV88 dc88 pm88 an88 cd88 ct88), sl88⟩)
    (c88 : PySem.W.codeIn K cd88 "is_inside_box" = true)
    (k88 : PySem.W.keepIn K (.ref fn88) = true)
    (a89 : PySem.W.nsIn K mainGlobals "room_of" = some (some (.ref fn89)))
    (l89 : K.lookup fn89 = some ⟨oc89, od89, .func (PySem.W.fnOf "room_of" "room_of" (defArgs s_room_of) (defBody s_room_of) (defScope s_room_of) .none kV89 dc89 pm89 an89 cd89 ct89), sl89⟩)
    (c89 : PySem.W.codeIn K cd89 "room_of" = true)
    (k89 : PySem.W.keepIn K (.ref fn89) = true)
    (a90 : PySem.W.nsIn K mainGlobals "_law_draws" = some (some (.ref fn90)))
    (l90 : K.lookup fn90 = some ⟨oc90, od90, .func (PySem.W.fnOf "_law_draws" "_law_draws" (defArgs s__law_draws) (defBody s__law_draws) (defScope s__law_draws) .none kV90 dc90 pm90 an90 cd90 ct90), sl90⟩)
    (c90 : PySem.W.codeIn K cd90 "_law_draws" = true)
    (k90 : PySem.W.keepIn K (.ref fn90) = true)
    (a91 : PySem.W.nsIn K mainGlobals "_law_same" = some (some (.ref fn91)))
    (l91 : K.lookup fn91 = some ⟨oc91, od91, .func (PySem.W.fnOf "_law_same" "_law_same" (defArgs s__law_same) (defBody s__law_same) (defScope s__law_same) .none kV91 dc91 pm91 an91 cd91 ct91), sl91⟩)
    (c91 : PySem.W.codeIn K cd91 "_law_same" = true)
    (k91 : PySem.W.keepIn K (.ref fn91) = true)
    (a92 : PySem.W.nsIn K mainGlobals "_law_take" = some (some (.ref fn92)))
    (l92 : K.lookup fn92 = some ⟨oc92, od92, .func (PySem.W.fnOf "_law_take" "_law_take" (defArgs s__law_take) (defBody s__law_take) (defScope s__law_take) .none kV92 dc92 pm92 an92 cd92 ct92), sl92⟩)
    (c92 : PySem.W.codeIn K cd92 "_law_take" = true)
    (k92 : PySem.W.keepIn K (.ref fn92) = true)
    (a93 : PySem.W.nsIn K mainGlobals "_law_pick" = some (some (.ref fn93)))
    (l93 : K.lookup fn93 = some ⟨oc93, od93, .func (PySem.W.fnOf "_law_pick" "_law_pick" (defArgs s__law_pick) (defBody s__law_pick) (defScope s__law_pick) .none kV93 dc93 pm93 an93 cd93 ct93), sl93⟩)
    (c93 : PySem.W.codeIn K cd93 "_law_pick" = true)
    (k93 : PySem.W.keepIn K (.ref fn93) = true)
    (a94 : PySem.W.nsIn K mainGlobals "_law_flag" = some (some (.ref fn94)))
    (l94 : K.lookup fn94 = some ⟨oc94, od94, .func (PySem.W.fnOf "_law_flag" "_law_flag" (defArgs s__law_flag) (defBody s__law_flag) (defScope s__law_flag) .none kV94 dc94 pm94 an94 cd94 ct94), sl94⟩)
    (c94 : PySem.W.codeIn K cd94 "_law_flag" = true)
    (k94 : PySem.W.keepIn K (.ref fn94) = true)
    (a95 : PySem.W.nsIn K mainGlobals "_law_r" = some (some (.ref fn95)))
    (l95 : K.lookup fn95 = some ⟨oc95, od95, .func (PySem.W.fnOf "_law_r" "_law_r" (defArgs s__law_r) (defBody s__law_r) (defScope s__law_r) .none kV95 dc95 pm95 an95 cd95 ct95), sl95⟩)
    (c95 : PySem.W.codeIn K cd95 "_law_r" = true)
    (k95 : PySem.W.keepIn K (.ref fn95) = true)
    (a96 : PySem.W.nsIn K mainGlobals "_law_add" = some (some (.ref fn96)))
    (l96 : K.lookup fn96 = some ⟨oc96, od96, .func (PySem.W.fnOf "_law_add" "_law_add" (defArgs s__law_add) (defBody s__law_add) (defScope s__law_add) .none kV96 dc96 pm96 an96 cd96 ct96), sl96⟩)
    (c96 : PySem.W.codeIn K cd96 "_law_add" = true)
    (k96 : PySem.W.keepIn K (.ref fn96) = true)
    (a97 : PySem.W.nsIn K mainGlobals "_law_sub" = some (some (.ref fn97)))
    (l97 : K.lookup fn97 = some ⟨oc97, od97, .func (PySem.W.fnOf "_law_sub" "_law_sub" (defArgs s__law_sub) (defBody s__law_sub) (defScope s__law_sub) .none kV97 dc97 pm97 an97 cd97 ct97), sl97⟩)
    (c97 : PySem.W.codeIn K cd97 "_law_sub" = true)
    (k97 : PySem.W.keepIn K (.ref fn97) = true)
    (a98 : PySem.W.nsIn K mainGlobals "_law_mul" = some (some (.ref fn98)))
    (l98 : K.lookup fn98 = some ⟨oc98, od98, .func (PySem.W.fnOf "_law_mul" "_law_mul" (defArgs s__law_mul) (defBody s__law_mul) (defScope s__law_mul) .none kV98 dc98 pm98 an98 cd98 ct98), sl98⟩)
    (c98 : PySem.W.codeIn K cd98 "_law_mul" = true)
    (k98 : PySem.W.keepIn K (.ref fn98) = true)
    (a99 : PySem.W.nsIn K mainGlobals "_law_less" = some (some (.ref fn99)))
    (l99 : K.lookup fn99 = some ⟨oc99, od99, .func (PySem.W.fnOf "_law_less" "_law_less" (defArgs s__law_less) (defBody s__law_less) (defScope s__law_less) .none kV99 dc99 pm99 an99 cd99 ct99), sl99⟩)
    (c99 : PySem.W.codeIn K cd99 "_law_less" = true)
    (k99 : PySem.W.keepIn K (.ref fn99) = true)
    (a100 : PySem.W.nsIn K mainGlobals "_law_twos" = some (some (.ref fn100)))
    (l100 : K.lookup fn100 = some ⟨oc100, od100, .func (PySem.W.fnOf "_law_twos" "_law_twos" (defArgs s__law_twos) (defBody s__law_twos) (defScope s__law_twos) .none kV100 dc100 pm100 an100 cd100 ct100), sl100⟩)
    (c100 : PySem.W.codeIn K cd100 "_law_twos" = true)
    (k100 : PySem.W.keepIn K (.ref fn100) = true)
    (a101 : PySem.W.nsIn K mainGlobals "_law_any" = some (some (.ref fn101)))
    (l101 : K.lookup fn101 = some ⟨oc101, od101, .func (PySem.W.fnOf "_law_any" "_law_any" (defArgs s__law_any) (defBody s__law_any) (defScope s__law_any) .none kV101 dc101 pm101 an101 cd101 ct101), sl101⟩)
    (c101 : PySem.W.codeIn K cd101 "_law_any" = true)
    (k101 : PySem.W.keepIn K (.ref fn101) = true)
    (a102 : PySem.W.nsIn K mainGlobals "_law_between" = some (some (.ref fn102)))
    (l102 : K.lookup fn102 = some ⟨oc102, od102, .func (PySem.W.fnOf "_law_between" "_law_between" (defArgs s__law_between) (defBody s__law_between) (defScope s__law_between) .none kV102 dc102 pm102 an102 cd102 ct102), sl102⟩)
    (c102 : PySem.W.codeIn K cd102 "_law_between" = true)
    (k102 : PySem.W.keepIn K (.ref fn102) = true)
    (a103 : PySem.W.nsIn K mainGlobals "_law_span" = some (some (.ref fn103)))
    (l103 : K.lookup fn103 = some ⟨oc103, od103, .func (PySem.W.fnOf "_law_span" "_law_span" (defArgs s__law_span) (defBody s__law_span) (defScope s__law_span) .none kV103 dc103 pm103 an103 cd103 ct103), sl103⟩)
    (c103 : PySem.W.codeIn K cd103 "_law_span" = true)
    (k103 : PySem.W.keepIn K (.ref fn103) = true)
    (a104 : PySem.W.nsIn K mainGlobals "_law_hull" = some (some (.ref fn104)))
    (l104 : K.lookup fn104 = some ⟨oc104, od104, .func (PySem.W.fnOf "_law_hull" "_law_hull" (defArgs s__law_hull) (defBody s__law_hull) (defScope s__law_hull) .none kV104 dc104 pm104 an104 cd104 ct104), sl104⟩)
    (c104 : PySem.W.codeIn K cd104 "_law_hull" = true)
    (k104 : PySem.W.keepIn K (.ref fn104) = true)
    (a105 : PySem.W.nsIn K mainGlobals "_law_in" = some (some (.ref fn105)))
    (l105 : K.lookup fn105 = some ⟨oc105, od105, .func (PySem.W.fnOf "_law_in" "_law_in" (defArgs s__law_in) (defBody s__law_in) (defScope s__law_in) .none kV105 dc105 pm105 an105 cd105 ct105), sl105⟩)
    (c105 : PySem.W.codeIn K cd105 "_law_in" = true)
    (k105 : PySem.W.keepIn K (.ref fn105) = true)
    (a106 : PySem.W.nsIn K mainGlobals "_law_power" = some (some (.ref fn106)))
    (l106 : K.lookup fn106 = some ⟨oc106, od106, .func (PySem.W.fnOf "_law_power" "_law_power" (defArgs s__law_power) (defBody s__law_power) (defScope s__law_power) .none kV106 dc106 pm106 an106 cd106 ct106), sl106⟩)
    (c106 : PySem.W.codeIn K cd106 "_law_power" = true)
    (k106 : PySem.W.keepIn K (.ref fn106) = true)
    (a107 : PySem.W.nsIn K mainGlobals "_law_told" = some (some (.ref fn107)))
    (l107 : K.lookup fn107 = some ⟨oc107, od107, .func (PySem.W.fnOf "_law_told" "_law_told" (defArgs s__law_told) (defBody s__law_told) (defScope s__law_told) .none kV107 dc107 pm107 an107 cd107 ct107), sl107⟩)
    (c107 : PySem.W.codeIn K cd107 "_law_told" = true)
    (k107 : PySem.W.keepIn K (.ref fn107) = true)
    (a108 : PySem.W.nsIn K mainGlobals "_law_powers" = some (some (.ref fn108)))
    (l108 : K.lookup fn108 = some ⟨oc108, od108, .func (PySem.W.fnOf "_law_powers" "_law_powers" (defArgs s__law_powers) (defBody s__law_powers) (defScope s__law_powers) .none kV108 dc108 pm108 an108 cd108 ct108), sl108⟩)
    (c108 : PySem.W.codeIn K cd108 "_law_powers" = true)
    (k108 : PySem.W.keepIn K (.ref fn108) = true)
    (a109 : PySem.W.nsIn K mainGlobals "_law_are_spans_due" = some (some (.ref fn109)))
    (l109 : K.lookup fn109 = some ⟨oc109, od109, .func (PySem.W.fnOf "_law_are_spans_due" "_law_are_spans_due" (defArgs s__law_are_spans_due) (defBody s__law_are_spans_due) (defScope s__law_are_spans_due) .none kV109 dc109 pm109 an109 cd109 ct109), sl109⟩)
    (c109 : PySem.W.codeIn K cd109 "_law_are_spans_due" = true)
    (k109 : PySem.W.keepIn K (.ref fn109) = true)
    (a110 : PySem.W.nsIn K mainGlobals "_law_are_boxes_due" = some (some (.ref fn110)))
    (l110 : K.lookup fn110 = some ⟨oc110, od110, .func (PySem.W.fnOf "_law_are_boxes_due" "_law_are_boxes_due" (defArgs s__law_are_boxes_due) (defBody s__law_are_boxes_due) (defScope s__law_are_boxes_due) .none kV110 dc110 pm110 an110 cd110 ct110), sl110⟩)
    (c110 : PySem.W.codeIn K cd110 "_law_are_boxes_due" = true)
    (k110 : PySem.W.keepIn K (.ref fn110) = true)
    (a111 : PySem.W.nsIn K mainGlobals "law" = some (some (.ref fn111)))
    (l111 : K.lookup fn111 = some ⟨oc111, od111, .func (PySem.W.fnOf "law" "law" (defArgs s_law) (defBody s_law) (defScope s_law) .none kV111 dc111 pm111 an111 cd111 ct111), sl111⟩)
    (c111 : PySem.W.codeIn K cd111 "law" = true)
    (k111 : PySem.W.keepIn K (.ref fn111) = true)
    (b0 : PySem.W.nsIn K mainGlobals "abs" = some none)
    (b1 : PySem.W.nsIn K mainGlobals "all" = some none)
    (b2 : PySem.W.nsIn K mainGlobals "any" = some none)
    (b3 : PySem.W.nsIn K mainGlobals "bool" = some none)
    (b4 : PySem.W.nsIn K mainGlobals "dict" = some none)
    (b5 : PySem.W.nsIn K mainGlobals "int" = some none)
    (b6 : PySem.W.nsIn K mainGlobals "isinstance" = some none)
    (b7 : PySem.W.nsIn K mainGlobals "len" = some none)
    (b8 : PySem.W.nsIn K mainGlobals "list" = some none)
    (b9 : PySem.W.nsIn K mainGlobals "range" = some none)
    (b10 : PySem.W.nsIn K mainGlobals "reversed" = some none)
    (b11 : PySem.W.nsIn K mainGlobals "sorted" = some none)
    (b12 : PySem.W.nsIn K mainGlobals "str" = some none)
    (b13 : PySem.W.nsIn K mainGlobals "sum" = some none)
    (b14 : PySem.W.nsIn K mainGlobals "tuple" = some none)
    (n0 : PySem.W.nsIn K mainGlobals "MOST_SIGNS" = some (some (.int (12) tk0)))
    (n1 : PySem.W.nsIn K mainGlobals "MOST_BITS" = some (some (.int (20000) tk1)))
    (n2 : PySem.W.nsIn K mainGlobals "MOST_DEGREE" = some (some (.int (64) tk2)))
    (zt0 : PySem.W.nsIn K mainGlobals "ZERO" = some (some (.ref tp0)))
    (zl0 : K.lookup tp0 = some ⟨.type "tuple", tpd0, .seq #[.int (0) tq0_0, .int (1) tq0_1] tpn0, tps0⟩)
    (zt1 : PySem.W.nsIn K mainGlobals "ONE" = some (some (.ref tp1)))
    (zl1 : K.lookup tp1 = some ⟨.type "tuple", tpd1, .seq #[.int (1) tq1_0, .int (1) tq1_1] tpn1, tps1⟩)
    (zt2 : PySem.W.nsIn K mainGlobals "HALF" = some (some (.ref tp2)))
    (zl2 : K.lookup tp2 = some ⟨.type "tuple", tpd2, .seq #[.int (1) tq2_0, .int (2) tq2_1] tpn2, tps2⟩)
    (x0 : PySem.W.nsIn K mainGlobals "NoAnswer" = some (some (.ref C0)))
    (x1 : PySem.W.nsIn K mainGlobals "NotRight" = some (some (.ref C1)))
    (x2 : PySem.W.nsIn K mainGlobals "NotThere" = some (some (.ref C2)))
    (x3 : PySem.W.nsIn K mainGlobals "TooHard" = some (some (.ref C3)))
    (x4 : PySem.W.nsIn K mainGlobals "Unclear" = some (some (.ref C4)))
    (x5 : PySem.W.nsIn K mainGlobals "Undefined" = some (some (.ref C5)))
    (x6 : PySem.W.nsIn K mainGlobals "WidthError" = some (some (.ref C6)))
    (hd0 : PySem.W.hasDictIn K C0 = true)
    (te0 : PySem.W.typeIn K (.ref C0) = some (.type "type"))
    (hd1 : PySem.W.hasDictIn K C1 = true)
    (te1 : PySem.W.typeIn K (.ref C1) = some (.type "type"))
    (hd2 : PySem.W.hasDictIn K C2 = true)
    (te2 : PySem.W.typeIn K (.ref C2) = some (.type "type"))
    (hd3 : PySem.W.hasDictIn K C3 = true)
    (te3 : PySem.W.typeIn K (.ref C3) = some (.type "type"))
    (hd4 : PySem.W.hasDictIn K C4 = true)
    (te4 : PySem.W.typeIn K (.ref C4) = some (.type "type"))
    (hd5 : PySem.W.hasDictIn K C5 = true)
    (te5 : PySem.W.typeIn K (.ref C5) = some (.type "type"))
    (hd6 : PySem.W.hasDictIn K C6 = true)
    (te6 : PySem.W.typeIn K (.ref C6) = some (.type "type"))
    (be1 : PySem.W.subIn K (.ref C1) (.type "BaseException") = some true)
    (be0 : PySem.W.subIn K (.ref C0) (.type "BaseException") = some true)
    (be5 : PySem.W.subIn K (.ref C5) (.type "BaseException") = some true)
    (be4 : PySem.W.subIn K (.ref C4) (.type "BaseException") = some true)
    (be6 : PySem.W.subIn K (.ref C6) (.type "BaseException") = some true)
    (e1 : PySem.W.excIn K C1 [.type "ValueError", .type "Exception", .type "BaseException", .type "object"] "ValueError.__new__" = true)
    (ke1 : PySem.W.keepIn K (.ref C1) = true)
    (ga1 : PySem.W.findIn K (.ref C1) "__getattribute__" = some (some (.builtin "BaseException.__getattribute__")))
    (gg1 : PySem.W.findIn K (.ref C1) "__getattr__" = some none)
    (cl1 : PySem.W.findIn K (.ref C1) "__class__" = some (some (.builtin "object.__class__")))
    (mr1 : PySem.W.mroIn K C1 (.type "object") = some true)
    (s1_b : PySem.W.subIn K (.ref C1) (.ref C6) = some true)
    (s1_1 : PySem.W.subIn K (.ref C1) (.ref C2) = some false)
    (n1_1 : (Value.ref C1 == Value.ref C2) = false)
    (s1_2 : PySem.W.subIn K (.ref C1) (.ref C0) = some false)
    (n1_2 : (Value.ref C1 == Value.ref C0) = false)
    (s1_3 : PySem.W.subIn K (.ref C1) (.ref C5) = some false)
    (n1_3 : (Value.ref C1 == Value.ref C5) = false)
    (s1_4 : PySem.W.subIn K (.ref C1) (.ref C4) = some false)
    (n1_4 : (Value.ref C1 == Value.ref C4) = false)
    (s1_5 : PySem.W.subIn K (.ref C1) (.ref C3) = some false)
    (n1_5 : (Value.ref C1 == Value.ref C3) = false)
    (e0 : PySem.W.excIn K C0 [.type "ValueError", .type "Exception", .type "BaseException", .type "object"] "ValueError.__new__" = true)
    (ke0 : PySem.W.keepIn K (.ref C0) = true)
    (ga0 : PySem.W.findIn K (.ref C0) "__getattribute__" = some (some (.builtin "BaseException.__getattribute__")))
    (gg0 : PySem.W.findIn K (.ref C0) "__getattr__" = some none)
    (cl0 : PySem.W.findIn K (.ref C0) "__class__" = some (some (.builtin "object.__class__")))
    (mr0 : PySem.W.mroIn K C0 (.type "object") = some true)
    (s0_b : PySem.W.subIn K (.ref C0) (.ref C6) = some true)
    (s0_0 : PySem.W.subIn K (.ref C0) (.ref C1) = some false)
    (n0_0 : (Value.ref C0 == Value.ref C1) = false)
    (s0_1 : PySem.W.subIn K (.ref C0) (.ref C2) = some false)
    (n0_1 : (Value.ref C0 == Value.ref C2) = false)
    (s0_3 : PySem.W.subIn K (.ref C0) (.ref C5) = some false)
    (n0_3 : (Value.ref C0 == Value.ref C5) = false)
    (s0_4 : PySem.W.subIn K (.ref C0) (.ref C4) = some false)
    (n0_4 : (Value.ref C0 == Value.ref C4) = false)
    (s0_5 : PySem.W.subIn K (.ref C0) (.ref C3) = some false)
    (n0_5 : (Value.ref C0 == Value.ref C3) = false)
    (e5 : PySem.W.excIn K C5 [.type "ValueError", .type "Exception", .type "BaseException", .type "object"] "ValueError.__new__" = true)
    (ke5 : PySem.W.keepIn K (.ref C5) = true)
    (ga5 : PySem.W.findIn K (.ref C5) "__getattribute__" = some (some (.builtin "BaseException.__getattribute__")))
    (gg5 : PySem.W.findIn K (.ref C5) "__getattr__" = some none)
    (cl5 : PySem.W.findIn K (.ref C5) "__class__" = some (some (.builtin "object.__class__")))
    (mr5 : PySem.W.mroIn K C5 (.type "object") = some true)
    (s5_b : PySem.W.subIn K (.ref C5) (.ref C6) = some true)
    (s5_0 : PySem.W.subIn K (.ref C5) (.ref C1) = some false)
    (n5_0 : (Value.ref C5 == Value.ref C1) = false)
    (s5_1 : PySem.W.subIn K (.ref C5) (.ref C2) = some false)
    (n5_1 : (Value.ref C5 == Value.ref C2) = false)
    (s5_2 : PySem.W.subIn K (.ref C5) (.ref C0) = some false)
    (n5_2 : (Value.ref C5 == Value.ref C0) = false)
    (s5_4 : PySem.W.subIn K (.ref C5) (.ref C4) = some false)
    (n5_4 : (Value.ref C5 == Value.ref C4) = false)
    (s5_5 : PySem.W.subIn K (.ref C5) (.ref C3) = some false)
    (n5_5 : (Value.ref C5 == Value.ref C3) = false)
    (e4 : PySem.W.excIn K C4 [.type "ValueError", .type "Exception", .type "BaseException", .type "object"] "ValueError.__new__" = true)
    (ke4 : PySem.W.keepIn K (.ref C4) = true)
    (ga4 : PySem.W.findIn K (.ref C4) "__getattribute__" = some (some (.builtin "BaseException.__getattribute__")))
    (gg4 : PySem.W.findIn K (.ref C4) "__getattr__" = some none)
    (cl4 : PySem.W.findIn K (.ref C4) "__class__" = some (some (.builtin "object.__class__")))
    (mr4 : PySem.W.mroIn K C4 (.type "object") = some true)
    (s4_b : PySem.W.subIn K (.ref C4) (.ref C6) = some true)
    (s4_0 : PySem.W.subIn K (.ref C4) (.ref C1) = some false)
    (n4_0 : (Value.ref C4 == Value.ref C1) = false)
    (s4_1 : PySem.W.subIn K (.ref C4) (.ref C2) = some false)
    (n4_1 : (Value.ref C4 == Value.ref C2) = false)
    (s4_2 : PySem.W.subIn K (.ref C4) (.ref C0) = some false)
    (n4_2 : (Value.ref C4 == Value.ref C0) = false)
    (s4_3 : PySem.W.subIn K (.ref C4) (.ref C5) = some false)
    (n4_3 : (Value.ref C4 == Value.ref C5) = false)
    (s4_5 : PySem.W.subIn K (.ref C4) (.ref C3) = some false)
    (n4_5 : (Value.ref C4 == Value.ref C3) = false)
    (sg : PySem.W.specialIn K (.builtin "object.__class__") "__get__" = some (some (.builtin "getset_descriptor.__get__")))
    (tg : PySem.W.takesIn K (.builtin "object.__class__") = some true) :
    ∃ fd : FuncData, (∀ (s : Shared) (v : Value), BindsTo s fd ⟨[v], []⟩ [("script", v)]) ∧ ∀ base : Heap, K.In base → base.Ns mainGlobals mg → FnOk l.prog w K mg base CX0 11 fa fd ["script"] (spLaw K) := by
  have e := hfa.symm.trans (PySem.W.mg_of X G a111)
  cases e
  have T : Txt K mg := {
    h_is_integer := ⟨_, _, PySem.W.mg_of X G a0, fun_mk (st := s_is_integer) l0 c0 k0, (fun_mk (st := s_is_integer) l0 c0 k0).binds (ps := ["value"]) fun _ _ _ _ _ _ us hl => match us, hl with | [_], _ => rfl⟩,
    h_is_within := ⟨_, _, PySem.W.mg_of X G a1, fun_mk (st := s_is_within) l1 c1 k1, (fun_mk (st := s_is_within) l1 c1 k1).binds (ps := ["value", "low", "high"]) fun _ _ _ _ _ _ us hl => match us, hl with | [_, _, _], _ => rfl⟩,
    h_is_small := ⟨_, _, PySem.W.mg_of X G a2, fun_mk (st := s_is_small) l2 c2 k2, (fun_mk (st := s_is_small) l2 c2 k2).binds (ps := ["sign"]) fun _ _ _ _ _ _ us hl => match us, hl with | [_], _ => rfl⟩,
    h_is_name := ⟨_, _, PySem.W.mg_of X G a3, fun_mk (st := s_is_name) l3 c3 k3, (fun_mk (st := s_is_name) l3 c3 k3).binds (ps := ["value"]) fun _ _ _ _ _ _ us hl => match us, hl with | [_], _ => rfl⟩,
    h_check := ⟨_, _, PySem.W.mg_of X G a4, fun_mk (st := s_check) l4 c4 k4, (fun_mk (st := s_check) l4 c4 k4).binds (ps := ["is_right"]) fun _ _ _ _ _ _ us hl => match us, hl with | [_], _ => rfl⟩,
    h_shared := ⟨_, _, PySem.W.mg_of X G a5, fun_mk (st := s_shared) l5 c5 k5, (fun_mk (st := s_shared) l5 c5 k5).binds (ps := ["a", "b"]) fun _ _ _ _ _ _ us hl => match us, hl with | [_, _], _ => rfl⟩,
    h_made := ⟨_, _, PySem.W.mg_of X G a6, fun_mk (st := s_made) l6 c6 k6, (fun_mk (st := s_made) l6 c6 k6).binds (ps := ["n", "d"]) fun _ _ _ _ _ _ us hl => match us, hl with | [_, _], _ => rfl⟩,
    h_is_ratio := ⟨_, _, PySem.W.mg_of X G a7, fun_mk (st := s_is_ratio) l7 c7 k7, (fun_mk (st := s_is_ratio) l7 c7 k7).binds (ps := ["value"]) fun _ _ _ _ _ _ us hl => match us, hl with | [_], _ => rfl⟩,
    h_add := ⟨_, _, PySem.W.mg_of X G a8, fun_mk (st := s_add) l8 c8 k8, (fun_mk (st := s_add) l8 c8 k8).binds (ps := ["a", "b"]) fun _ _ _ _ _ _ us hl => match us, hl with | [_, _], _ => rfl⟩,
    h_opposite := ⟨_, _, PySem.W.mg_of X G a9, fun_mk (st := s_opposite) l9 c9 k9, (fun_mk (st := s_opposite) l9 c9 k9).binds (ps := ["a"]) fun _ _ _ _ _ _ us hl => match us, hl with | [_], _ => rfl⟩,
    h_less := ⟨_, _, PySem.W.mg_of X G a10, fun_mk (st := s_less) l10 c10 k10, (fun_mk (st := s_less) l10 c10 k10).binds (ps := ["a", "b"]) fun _ _ _ _ _ _ us hl => match us, hl with | [_, _], _ => rfl⟩,
    h_product := ⟨_, _, PySem.W.mg_of X G a11, fun_mk (st := s_product) l11 c11 k11, (fun_mk (st := s_product) l11 c11 k11).binds (ps := ["a", "b"]) fun _ _ _ _ _ _ us hl => match us, hl with | [_, _], _ => rfl⟩,
    h_share := ⟨_, _, PySem.W.mg_of X G a12, fun_mk (st := s_share) l12 c12 k12, (fun_mk (st := s_share) l12 c12 k12).binds (ps := ["a", "b"]) fun _ _ _ _ _ _ us hl => match us, hl with | [_, _], _ => rfl⟩,
    h_is_below := ⟨_, _, PySem.W.mg_of X G a13, fun_mk (st := s_is_below) l13 c13 k13, (fun_mk (st := s_is_below) l13 c13 k13).binds (ps := ["a", "b"]) fun _ _ _ _ _ _ us hl => match us, hl with | [_, _], _ => rfl⟩,
    h_lesser := ⟨_, _, PySem.W.mg_of X G a14, fun_mk (st := s_lesser) l14 c14 k14, (fun_mk (st := s_lesser) l14 c14 k14).binds (ps := ["a", "b"]) fun _ _ _ _ _ _ us hl => match us, hl with | [_, _], _ => rfl⟩,
    h_greater := ⟨_, _, PySem.W.mg_of X G a15, fun_mk (st := s_greater) l15 c15 k15, (fun_mk (st := s_greater) l15 c15 k15).binds (ps := ["a", "b"]) fun _ _ _ _ _ _ us hl => match us, hl with | [_, _], _ => rfl⟩,
    h_size_by := ⟨_, _, PySem.W.mg_of X G a16, fun_mk (st := s_size_by) l16 c16 k16, (fun_mk (st := s_size_by) l16 c16 k16).binds (ps := ["a"]) fun _ _ _ _ _ _ us hl => match us, hl with | [_], _ => rfl⟩,
    h_raised := ⟨_, _, PySem.W.mg_of X G a17, fun_mk (st := s_raised) l17 c17 k17, (fun_mk (st := s_raised) l17 c17 k17).binds (ps := ["a", "n"]) fun _ _ _ _ _ _ us hl => match us, hl with | [_, _], _ => rfl⟩,
    h_power_by := ⟨_, _, PySem.W.mg_of X G a18, fun_mk (st := s_power_by) l18 c18 k18, (fun_mk (st := s_power_by) l18 c18 k18).binds (ps := ["a", "n"]) fun _ _ _ _ _ _ us hl => match us, hl with | [_, _], _ => rfl⟩,
    h_of_bits := ⟨_, _, PySem.W.mg_of X G a19, fun_mk (st := s_of_bits) l19 c19 k19, (fun_mk (st := s_of_bits) l19 c19 k19).binds (ps := ["n", "k"]) fun _ _ _ _ _ _ us hl => match us, hl with | [_, _], _ => rfl⟩,
    h_down_by := ⟨_, _, PySem.W.mg_of X G a20, fun_mk (st := s_down_by) l20 c20 k20, (fun_mk (st := s_down_by) l20 c20 k20).binds (ps := ["a", "k"]) fun _ _ _ _ _ _ us hl => match us, hl with | [_, _], _ => rfl⟩,
    h_up_by := ⟨_, _, PySem.W.mg_of X G a21, fun_mk (st := s_up_by) l21 c21 k21, (fun_mk (st := s_up_by) l21 c21 k21).binds (ps := ["a", "k"]) fun _ _ _ _ _ _ us hl => match us, hl with | [_, _], _ => rfl⟩,
    h_is_span := ⟨_, _, PySem.W.mg_of X G a22, fun_mk (st := s_is_span) l22 c22 k22, (fun_mk (st := s_is_span) l22 c22 k22).binds (ps := ["value"]) fun _ _ _ _ _ _ us hl => match us, hl with | [_], _ => rfl⟩,
    h_check_spans := ⟨_, _, PySem.W.mg_of X G a23, fun_mk (st := s_check_spans) l23 c23 k23⟩,
    h_check_ratio := ⟨_, _, PySem.W.mg_of X G a24, fun_mk (st := s_check_ratio) l24 c24 k24, (fun_mk (st := s_check_ratio) l24 c24 k24).binds (ps := ["value"]) fun _ _ _ _ _ _ us hl => match us, hl with | [_], _ => rfl⟩,
    h_point := ⟨_, _, PySem.W.mg_of X G a25, fun_mk (st := s_point) l25 c25 k25, (fun_mk (st := s_point) l25 c25 k25).binds (ps := ["a"]) fun _ _ _ _ _ _ us hl => match us, hl with | [_], _ => rfl⟩,
    h_span_by := ⟨_, _, PySem.W.mg_of X G a26, fun_mk (st := s_span_by) l26 c26 k26, (fun_mk (st := s_span_by) l26 c26 k26).binds (ps := ["a", "b"]) fun _ _ _ _ _ _ us hl => match us, hl with | [_, _], _ => rfl⟩,
    h_span_of := ⟨_, _, PySem.W.mg_of X G a27, fun_mk (st := s_span_of) l27 c27 k27, (fun_mk (st := s_span_of) l27 c27 k27).binds (ps := ["a", "b"]) fun _ _ _ _ _ _ us hl => match us, hl with | [_, _], _ => rfl⟩,
    h_width_by := ⟨_, _, PySem.W.mg_of X G a28, fun_mk (st := s_width_by) l28 c28 k28, (fun_mk (st := s_width_by) l28 c28 k28).binds (ps := ["s"]) fun _ _ _ _ _ _ us hl => match us, hl with | [_], _ => rfl⟩,
    h_width_of := ⟨_, _, PySem.W.mg_of X G a29, fun_mk (st := s_width_of) l29 c29 k29, (fun_mk (st := s_width_of) l29 c29 k29).binds (ps := ["s"]) fun _ _ _ _ _ _ us hl => match us, hl with | [_], _ => rfl⟩,
    h_middle_by := ⟨_, _, PySem.W.mg_of X G a30, fun_mk (st := s_middle_by) l30 c30 k30, (fun_mk (st := s_middle_by) l30 c30 k30).binds (ps := ["s"]) fun _ _ _ _ _ _ us hl => match us, hl with | [_], _ => rfl⟩,
    h_middle_of := ⟨_, _, PySem.W.mg_of X G a31, fun_mk (st := s_middle_of) l31 c31 k31, (fun_mk (st := s_middle_of) l31 c31 k31).binds (ps := ["s"]) fun _ _ _ _ _ _ us hl => match us, hl with | [_], _ => rfl⟩,
    h_size_of_span := ⟨_, _, PySem.W.mg_of X G a32, fun_mk (st := s_size_of_span) l32 c32 k32, (fun_mk (st := s_size_of_span) l32 c32 k32).binds (ps := ["s"]) fun _ _ _ _ _ _ us hl => match us, hl with | [_], _ => rfl⟩,
    h_size_of := ⟨_, _, PySem.W.mg_of X G a33, fun_mk (st := s_size_of) l33 c33 k33, (fun_mk (st := s_size_of) l33 c33 k33).binds (ps := ["s"]) fun _ _ _ _ _ _ us hl => match us, hl with | [_], _ => rfl⟩,
    h_has_by := ⟨_, _, PySem.W.mg_of X G a34, fun_mk (st := s_has_by) l34 c34 k34, (fun_mk (st := s_has_by) l34 c34 k34).binds (ps := ["s", "a"]) fun _ _ _ _ _ _ us hl => match us, hl with | [_, _], _ => rfl⟩,
    h_has := ⟨_, _, PySem.W.mg_of X G a35, fun_mk (st := s_has) l35 c35 k35, (fun_mk (st := s_has) l35 c35 k35).binds (ps := ["s", "a"]) fun _ _ _ _ _ _ us hl => match us, hl with | [_, _], _ => rfl⟩,
    h_within_by := ⟨_, _, PySem.W.mg_of X G a36, fun_mk (st := s_within_by) l36 c36 k36, (fun_mk (st := s_within_by) l36 c36 k36).binds (ps := ["s", "t"]) fun _ _ _ _ _ _ us hl => match us, hl with | [_, _], _ => rfl⟩,
    h_is_within_span := ⟨_, _, PySem.W.mg_of X G a37, fun_mk (st := s_is_within_span) l37 c37 k37, (fun_mk (st := s_is_within_span) l37 c37 k37).binds (ps := ["s", "t"]) fun _ _ _ _ _ _ us hl => match us, hl with | [_, _], _ => rfl⟩,
    h_inside_by := ⟨_, _, PySem.W.mg_of X G a38, fun_mk (st := s_inside_by) l38 c38 k38, (fun_mk (st := s_inside_by) l38 c38 k38).binds (ps := ["s", "t"]) fun _ _ _ _ _ _ us hl => match us, hl with | [_, _], _ => rfl⟩,
    h_is_inside := ⟨_, _, PySem.W.mg_of X G a39, fun_mk (st := s_is_inside) l39 c39 k39, (fun_mk (st := s_is_inside) l39 c39 k39).binds (ps := ["s", "t"]) fun _ _ _ _ _ _ us hl => match us, hl with | [_, _], _ => rfl⟩,
    h_add_spans := ⟨_, _, PySem.W.mg_of X G a40, fun_mk (st := s_add_spans) l40 c40 k40, (fun_mk (st := s_add_spans) l40 c40 k40).binds (ps := ["s", "t"]) fun _ _ _ _ _ _ us hl => match us, hl with | [_, _], _ => rfl⟩,
    h_added := ⟨_, _, PySem.W.mg_of X G a41, fun_mk (st := s_added) l41 c41 k41, (fun_mk (st := s_added) l41 c41 k41).binds (ps := ["s", "t"]) fun _ _ _ _ _ _ us hl => match us, hl with | [_, _], _ => rfl⟩,
    h_turn_span := ⟨_, _, PySem.W.mg_of X G a42, fun_mk (st := s_turn_span) l42 c42 k42, (fun_mk (st := s_turn_span) l42 c42 k42).binds (ps := ["s"]) fun _ _ _ _ _ _ us hl => match us, hl with | [_], _ => rfl⟩,
    h_turned := ⟨_, _, PySem.W.mg_of X G a43, fun_mk (st := s_turned) l43 c43 k43, (fun_mk (st := s_turned) l43 c43 k43).binds (ps := ["s"]) fun _ _ _ _ _ _ us hl => match us, hl with | [_], _ => rfl⟩,
    h_less_spans := ⟨_, _, PySem.W.mg_of X G a44, fun_mk (st := s_less_spans) l44 c44 k44, (fun_mk (st := s_less_spans) l44 c44 k44).binds (ps := ["s", "t"]) fun _ _ _ _ _ _ us hl => match us, hl with | [_, _], _ => rfl⟩,
    h_subtracted := ⟨_, _, PySem.W.mg_of X G a45, fun_mk (st := s_subtracted) l45 c45 k45, (fun_mk (st := s_subtracted) l45 c45 k45).binds (ps := ["s", "t"]) fun _ _ _ _ _ _ us hl => match us, hl with | [_, _], _ => rfl⟩,
    h_product_by := ⟨_, _, PySem.W.mg_of X G a46, fun_mk (st := s_product_by) l46 c46 k46, (fun_mk (st := s_product_by) l46 c46 k46).binds (ps := ["s", "t"]) fun _ _ _ _ _ _ us hl => match us, hl with | [_, _], _ => rfl⟩,
    h_scale_span := ⟨_, _, PySem.W.mg_of X G a47, fun_mk (st := s_scale_span) l47 c47 k47, (fun_mk (st := s_scale_span) l47 c47 k47).binds (ps := ["s", "a"]) fun _ _ _ _ _ _ us hl => match us, hl with | [_, _], _ => rfl⟩,
    h_scaled := ⟨_, _, PySem.W.mg_of X G a48, fun_mk (st := s_scaled) l48 c48 k48, (fun_mk (st := s_scaled) l48 c48 k48).binds (ps := ["s", "a"]) fun _ _ _ _ _ _ us hl => match us, hl with | [_, _], _ => rfl⟩,
    h_inverse_by := ⟨_, _, PySem.W.mg_of X G a49, fun_mk (st := s_inverse_by) l49 c49 k49, (fun_mk (st := s_inverse_by) l49 c49 k49).binds (ps := ["s"]) fun _ _ _ _ _ _ us hl => match us, hl with | [_], _ => rfl⟩,
    h_part_spans := ⟨_, _, PySem.W.mg_of X G a50, fun_mk (st := s_part_spans) l50 c50 k50, (fun_mk (st := s_part_spans) l50 c50 k50).binds (ps := ["s", "t"]) fun _ _ _ _ _ _ us hl => match us, hl with | [_, _], _ => rfl⟩,
    h_parted := ⟨_, _, PySem.W.mg_of X G a51, fun_mk (st := s_parted) l51 c51 k51, (fun_mk (st := s_parted) l51 c51 k51).binds (ps := ["s", "t"]) fun _ _ _ _ _ _ us hl => match us, hl with | [_, _], _ => rfl⟩,
    h_power_span := ⟨_, _, PySem.W.mg_of X G a52, fun_mk (st := s_power_span) l52 c52 k52, (fun_mk (st := s_power_span) l52 c52 k52).binds (ps := ["s", "n"]) fun _ _ _ _ _ _ us hl => match us, hl with | [_, _], _ => rfl⟩,
    h_powered := ⟨_, _, PySem.W.mg_of X G a53, fun_mk (st := s_powered) l53 c53 k53, (fun_mk (st := s_powered) l53 c53 k53).binds (ps := ["s", "n"]) fun _ _ _ _ _ _ us hl => match us, hl with | [_, _], _ => rfl⟩,
    h_size_span := ⟨_, _, PySem.W.mg_of X G a54, fun_mk (st := s_size_span) l54 c54 k54, (fun_mk (st := s_size_span) l54 c54 k54).binds (ps := ["s"]) fun _ _ _ _ _ _ us hl => match us, hl with | [_], _ => rfl⟩,
    h_sized := ⟨_, _, PySem.W.mg_of X G a55, fun_mk (st := s_sized) l55 c55 k55, (fun_mk (st := s_sized) l55 c55 k55).binds (ps := ["s"]) fun _ _ _ _ _ _ us hl => match us, hl with | [_], _ => rfl⟩,
    h_least_by := ⟨_, _, PySem.W.mg_of X G a56, fun_mk (st := s_least_by) l56 c56 k56, (fun_mk (st := s_least_by) l56 c56 k56).binds (ps := ["s", "t"]) fun _ _ _ _ _ _ us hl => match us, hl with | [_, _], _ => rfl⟩,
    h_least_two := ⟨_, _, PySem.W.mg_of X G a57, fun_mk (st := s_least_two) l57 c57 k57, (fun_mk (st := s_least_two) l57 c57 k57).binds (ps := ["s", "t"]) fun _ _ _ _ _ _ us hl => match us, hl with | [_, _], _ => rfl⟩,
    h_greatest_by := ⟨_, _, PySem.W.mg_of X G a58, fun_mk (st := s_greatest_by) l58 c58 k58, (fun_mk (st := s_greatest_by) l58 c58 k58).binds (ps := ["s", "t"]) fun _ _ _ _ _ _ us hl => match us, hl with | [_, _], _ => rfl⟩,
    h_greatest_two := ⟨_, _, PySem.W.mg_of X G a59, fun_mk (st := s_greatest_two) l59 c59 k59, (fun_mk (st := s_greatest_two) l59 c59 k59).binds (ps := ["s", "t"]) fun _ _ _ _ _ _ us hl => match us, hl with | [_, _], _ => rfl⟩,
    h_round_span := ⟨_, _, PySem.W.mg_of X G a60, fun_mk (st := s_round_span) l60 c60 k60, (fun_mk (st := s_round_span) l60 c60 k60).binds (ps := ["s", "k"]) fun _ _ _ _ _ _ us hl => match us, hl with | [_, _], _ => rfl⟩,
    h_rounded_out := ⟨_, _, PySem.W.mg_of X G a61, fun_mk (st := s_rounded_out) l61 c61 k61, (fun_mk (st := s_rounded_out) l61 c61 k61).binds (ps := ["s", "k"]) fun _ _ _ _ _ _ us hl => match us, hl with | [_, _], _ => rfl⟩,
    h_common_by := ⟨_, _, PySem.W.mg_of X G a62, fun_mk (st := s_common_by) l62 c62 k62, (fun_mk (st := s_common_by) l62 c62 k62).binds (ps := ["s", "t"]) fun _ _ _ _ _ _ us hl => match us, hl with | [_, _], _ => rfl⟩,
    h_common := ⟨_, _, PySem.W.mg_of X G a63, fun_mk (st := s_common) l63 c63 k63, (fun_mk (st := s_common) l63 c63 k63).binds (ps := ["s", "t"]) fun _ _ _ _ _ _ us hl => match us, hl with | [_, _], _ => rfl⟩,
    h_around_by := ⟨_, _, PySem.W.mg_of X G a64, fun_mk (st := s_around_by) l64 c64 k64, (fun_mk (st := s_around_by) l64 c64 k64).binds (ps := ["s", "t"]) fun _ _ _ _ _ _ us hl => match us, hl with | [_, _], _ => rfl⟩,
    h_around := ⟨_, _, PySem.W.mg_of X G a65, fun_mk (st := s_around) l65 c65 k65, (fun_mk (st := s_around) l65 c65 k65).binds (ps := ["s", "t"]) fun _ _ _ _ _ _ us hl => match us, hl with | [_, _], _ => rfl⟩,
    h_halve_span := ⟨_, _, PySem.W.mg_of X G a66, fun_mk (st := s_halve_span) l66 c66 k66, (fun_mk (st := s_halve_span) l66 c66 k66).binds (ps := ["s"]) fun _ _ _ _ _ _ us hl => match us, hl with | [_], _ => rfl⟩,
    h_halves_of := ⟨_, _, PySem.W.mg_of X G a67, fun_mk (st := s_halves_of) l67 c67 k67, (fun_mk (st := s_halves_of) l67 c67 k67).binds (ps := ["s"]) fun _ _ _ _ _ _ us hl => match us, hl with | [_], _ => rfl⟩,
    h_grow_span := ⟨_, _, PySem.W.mg_of X G a68, fun_mk (st := s_grow_span) l68 c68 k68, (fun_mk (st := s_grow_span) l68 c68 k68).binds (ps := ["s", "a"]) fun _ _ _ _ _ _ us hl => match us, hl with | [_, _], _ => rfl⟩,
    h_grown := ⟨_, _, PySem.W.mg_of X G a69, fun_mk (st := s_grown) l69 c69 k69, (fun_mk (st := s_grown) l69 c69 k69).binds (ps := ["s", "a"]) fun _ _ _ _ _ _ us hl => match us, hl with | [_, _], _ => rfl⟩,
    h_sign_by := ⟨_, _, PySem.W.mg_of X G a70, fun_mk (st := s_sign_by) l70 c70 k70, (fun_mk (st := s_sign_by) l70 c70 k70).binds (ps := ["s"]) fun _ _ _ _ _ _ us hl => match us, hl with | [_], _ => rfl⟩,
    h_sign_of := ⟨_, _, PySem.W.mg_of X G a71, fun_mk (st := s_sign_of) l71 c71 k71, (fun_mk (st := s_sign_of) l71 c71 k71).binds (ps := ["s"]) fun _ _ _ _ _ _ us hl => match us, hl with | [_], _ => rfl⟩,
    h_is_box := ⟨_, _, PySem.W.mg_of X G a72, fun_mk (st := s_is_box) l72 c72 k72, (fun_mk (st := s_is_box) l72 c72 k72).binds (ps := ["value"]) fun _ _ _ _ _ _ us hl => match us, hl with | [_], _ => rfl⟩,
    h_check_box := ⟨_, _, PySem.W.mg_of X G a73, fun_mk (st := s_check_box) l73 c73 k73, (fun_mk (st := s_check_box) l73 c73 k73).binds (ps := ["value"]) fun _ _ _ _ _ _ us hl => match us, hl with | [_], _ => rfl⟩,
    h_check_alike := ⟨_, _, PySem.W.mg_of X G a74, fun_mk (st := s_check_alike) l74 c74 k74, (fun_mk (st := s_check_alike) l74 c74 k74).binds (ps := ["b", "c"]) fun _ _ _ _ _ _ us hl => match us, hl with | [_, _], _ => rfl⟩,
    h_width_by_box := ⟨_, _, PySem.W.mg_of X G a75, fun_mk (st := s_width_by_box) l75 c75 k75, (fun_mk (st := s_width_by_box) l75 c75 k75).binds (ps := ["b"]) fun _ _ _ _ _ _ us hl => match us, hl with | [_], _ => rfl⟩,
    h_width_of_box := ⟨_, _, PySem.W.mg_of X G a76, fun_mk (st := s_width_of_box) l76 c76 k76, (fun_mk (st := s_width_of_box) l76 c76 k76).binds (ps := ["b"]) fun _ _ _ _ _ _ us hl => match us, hl with | [_], _ => rfl⟩,
    h_widest_name := ⟨_, _, PySem.W.mg_of X G a77, fun_mk (st := s_widest_name) l77 c77 k77, (fun_mk (st := s_widest_name) l77 c77 k77).binds (ps := ["b"]) fun _ _ _ _ _ _ us hl => match us, hl with | [_], _ => rfl⟩,
    h_put_span := ⟨_, _, PySem.W.mg_of X G a78, fun_mk (st := s_put_span) l78 c78 k78, (fun_mk (st := s_put_span) l78 c78 k78).binds (ps := ["b", "name", "s"]) fun _ _ _ _ _ _ us hl => match us, hl with | [_, _, _], _ => rfl⟩,
    h_halve_box := ⟨_, _, PySem.W.mg_of X G a79, fun_mk (st := s_halve_box) l79 c79 k79, (fun_mk (st := s_halve_box) l79 c79 k79).binds (ps := ["b"]) fun _ _ _ _ _ _ us hl => match us, hl with | [_], _ => rfl⟩,
    h_halves_of_box := ⟨_, _, PySem.W.mg_of X G a80, fun_mk (st := s_halves_of_box) l80 c80 k80, (fun_mk (st := s_halves_of_box) l80 c80 k80).binds (ps := ["b"]) fun _ _ _ _ _ _ us hl => match us, hl with | [_], _ => rfl⟩,
    h_middle_by_box := ⟨_, _, PySem.W.mg_of X G a81, fun_mk (st := s_middle_by_box) l81 c81 k81, (fun_mk (st := s_middle_by_box) l81 c81 k81).binds (ps := ["b"]) fun _ _ _ _ _ _ us hl => match us, hl with | [_], _ => rfl⟩,
    h_middle_of_box := ⟨_, _, PySem.W.mg_of X G a82, fun_mk (st := s_middle_of_box) l82 c82 k82, (fun_mk (st := s_middle_of_box) l82 c82 k82).binds (ps := ["b"]) fun _ _ _ _ _ _ us hl => match us, hl with | [_], _ => rfl⟩,
    h_common_by_box := ⟨_, _, PySem.W.mg_of X G a83, fun_mk (st := s_common_by_box) l83 c83 k83, (fun_mk (st := s_common_by_box) l83 c83 k83).binds (ps := ["b", "c"]) fun _ _ _ _ _ _ us hl => match us, hl with | [_, _], _ => rfl⟩,
    h_common_box := ⟨_, _, PySem.W.mg_of X G a84, fun_mk (st := s_common_box) l84 c84 k84, (fun_mk (st := s_common_box) l84 c84 k84).binds (ps := ["b", "c"]) fun _ _ _ _ _ _ us hl => match us, hl with | [_, _], _ => rfl⟩,
    h_within_by_box := ⟨_, _, PySem.W.mg_of X G a85, fun_mk (st := s_within_by_box) l85 c85 k85, (fun_mk (st := s_within_by_box) l85 c85 k85).binds (ps := ["b", "c"]) fun _ _ _ _ _ _ us hl => match us, hl with | [_, _], _ => rfl⟩,
    h_is_within_box := ⟨_, _, PySem.W.mg_of X G a86, fun_mk (st := s_is_within_box) l86 c86 k86, (fun_mk (st := s_is_within_box) l86 c86 k86).binds (ps := ["b", "c"]) fun _ _ _ _ _ _ us hl => match us, hl with | [_, _], _ => rfl⟩,
    h_inside_by_box := ⟨_, _, PySem.W.mg_of X G a87, fun_mk (st := s_inside_by_box) l87 c87 k87, (fun_mk (st := s_inside_by_box) l87 c87 k87).binds (ps := ["b", "c"]) fun _ _ _ _ _ _ us hl => match us, hl with | [_, _], _ => rfl⟩,
    h_is_inside_box := ⟨_, _, PySem.W.mg_of X G a88, fun_mk (st := s_is_inside_box) l88 c88 k88, (fun_mk (st := s_is_inside_box) l88 c88 k88).binds (ps := ["b", "c"]) fun _ _ _ _ _ _ us hl => match us, hl with | [_, _], _ => rfl⟩,
    h_room_of := ⟨_, _, PySem.W.mg_of X G a89, fun_mk (st := s_room_of) l89 c89 k89, (fun_mk (st := s_room_of) l89 c89 k89).binds (ps := ["b"]) fun _ _ _ _ _ _ us hl => match us, hl with | [_], _ => rfl⟩,
    h__law_draws := ⟨_, _, PySem.W.mg_of X G a90, fun_mk (st := s__law_draws) l90 c90 k90, (fun_mk (st := s__law_draws) l90 c90 k90).binds (ps := ["script"]) fun _ _ _ _ _ _ us hl => match us, hl with | [_], _ => rfl⟩,
    h__law_same := ⟨_, _, PySem.W.mg_of X G a91, fun_mk (st := s__law_same) l91 c91 k91, (fun_mk (st := s__law_same) l91 c91 k91).binds (ps := ["actual", "due"]) fun _ _ _ _ _ _ us hl => match us, hl with | [_, _], _ => rfl⟩,
    h__law_take := ⟨_, _, PySem.W.mg_of X G a92, fun_mk (st := s__law_take) l92 c92 k92, (fun_mk (st := s__law_take) l92 c92 k92).binds (ps := ["draws", "bound"]) fun _ _ _ _ _ _ us hl => match us, hl with | [_, _], _ => rfl⟩,
    h__law_pick := ⟨_, _, PySem.W.mg_of X G a93, fun_mk (st := s__law_pick) l93 c93 k93, (fun_mk (st := s__law_pick) l93 c93 k93).binds (ps := ["draws", "some"]) fun _ _ _ _ _ _ us hl => match us, hl with | [_, _], _ => rfl⟩,
    h__law_flag := ⟨_, _, PySem.W.mg_of X G a94, fun_mk (st := s__law_flag) l94 c94 k94, (fun_mk (st := s__law_flag) l94 c94 k94).binds (ps := ["error"]) fun _ _ _ _ _ _ us hl => match us, hl with | [_], _ => rfl⟩,
    h__law_r := ⟨_, _, PySem.W.mg_of X G a95, fun_mk (st := s__law_r) l95 c95 k95, (fun_mk (st := s__law_r) l95 c95 k95).binds (ps := ["n", "d"]) fun _ _ _ _ _ _ us hl => match us, hl with | [_, _], _ => rfl⟩,
    h__law_add := ⟨_, _, PySem.W.mg_of X G a96, fun_mk (st := s__law_add) l96 c96 k96, (fun_mk (st := s__law_add) l96 c96 k96).binds (ps := ["a", "b"]) fun _ _ _ _ _ _ us hl => match us, hl with | [_, _], _ => rfl⟩,
    h__law_sub := ⟨_, _, PySem.W.mg_of X G a97, fun_mk (st := s__law_sub) l97 c97 k97, (fun_mk (st := s__law_sub) l97 c97 k97).binds (ps := ["a", "b"]) fun _ _ _ _ _ _ us hl => match us, hl with | [_, _], _ => rfl⟩,
    h__law_mul := ⟨_, _, PySem.W.mg_of X G a98, fun_mk (st := s__law_mul) l98 c98 k98, (fun_mk (st := s__law_mul) l98 c98 k98).binds (ps := ["a", "b"]) fun _ _ _ _ _ _ us hl => match us, hl with | [_, _], _ => rfl⟩,
    h__law_less := ⟨_, _, PySem.W.mg_of X G a99, fun_mk (st := s__law_less) l99 c99 k99, (fun_mk (st := s__law_less) l99 c99 k99).binds (ps := ["a", "b"]) fun _ _ _ _ _ _ us hl => match us, hl with | [_, _], _ => rfl⟩,
    h__law_twos := ⟨_, _, PySem.W.mg_of X G a100, fun_mk (st := s__law_twos) l100 c100 k100, (fun_mk (st := s__law_twos) l100 c100 k100).binds (ps := ["many"]) fun _ _ _ _ _ _ us hl => match us, hl with | [_], _ => rfl⟩,
    h__law_any := ⟨_, _, PySem.W.mg_of X G a101, fun_mk (st := s__law_any) l101 c101 k101, (fun_mk (st := s__law_any) l101 c101 k101).binds (ps := ["draws"]) fun _ _ _ _ _ _ us hl => match us, hl with | [_], _ => rfl⟩,
    h__law_between := ⟨_, _, PySem.W.mg_of X G a102, fun_mk (st := s__law_between) l102 c102 k102, (fun_mk (st := s__law_between) l102 c102 k102).binds (ps := ["draws", "low", "high"]) fun _ _ _ _ _ _ us hl => match us, hl with | [_, _, _], _ => rfl⟩,
    h__law_span := ⟨_, _, PySem.W.mg_of X G a103, fun_mk (st := s__law_span) l103 c103 k103, (fun_mk (st := s__law_span) l103 c103 k103).binds (ps := ["draws"]) fun _ _ _ _ _ _ us hl => match us, hl with | [_], _ => rfl⟩,
    h__law_hull := ⟨_, _, PySem.W.mg_of X G a104, fun_mk (st := s__law_hull) l104 c104 k104, (fun_mk (st := s__law_hull) l104 c104 k104).binds (ps := ["numbers"]) fun _ _ _ _ _ _ us hl => match us, hl with | [_], _ => rfl⟩,
    h__law_in := ⟨_, _, PySem.W.mg_of X G a105, fun_mk (st := s__law_in) l105 c105 k105, (fun_mk (st := s__law_in) l105 c105 k105).binds (ps := ["s", "a"]) fun _ _ _ _ _ _ us hl => match us, hl with | [_, _], _ => rfl⟩,
    h__law_power := ⟨_, _, PySem.W.mg_of X G a106, fun_mk (st := s__law_power) l106 c106 k106, (fun_mk (st := s__law_power) l106 c106 k106).binds (ps := ["a", "n"]) fun _ _ _ _ _ _ us hl => match us, hl with | [_, _], _ => rfl⟩,
    h__law_told := ⟨_, _, PySem.W.mg_of X G a107, fun_mk (st := s__law_told) l107 c107 k107, (fun_mk (st := s__law_told) l107 c107 k107).binds (ps := ["which", "args"]) fun _ _ _ _ _ _ us hl => match us, hl with | [_, _], _ => rfl⟩,
    h__law_powers := ⟨_, _, PySem.W.mg_of X G a108, fun_mk (st := s__law_powers) l108 c108 k108, (fun_mk (st := s__law_powers) l108 c108 k108).binds (ps := ["s", "n"]) fun _ _ _ _ _ _ us hl => match us, hl with | [_, _], _ => rfl⟩,
    h__law_are_spans_due := ⟨_, _, PySem.W.mg_of X G a109, fun_mk (st := s__law_are_spans_due) l109 c109 k109, (fun_mk (st := s__law_are_spans_due) l109 c109 k109).binds (ps := ["draws"]) fun _ _ _ _ _ _ us hl => match us, hl with | [_], _ => rfl⟩,
    h__law_are_boxes_due := ⟨_, _, PySem.W.mg_of X G a110, fun_mk (st := s__law_are_boxes_due) l110 c110 k110, (fun_mk (st := s__law_are_boxes_due) l110 c110 k110).binds (ps := ["draws"]) fun _ _ _ _ _ _ us hl => match us, hl with | [_], _ => rfl⟩,
    h_law := ⟨_, _, PySem.W.mg_of X G a111, fun_mk (st := s_law) l111 c111 k111, (fun_mk (st := s_law) l111 c111 k111).binds (ps := ["script"]) fun _ _ _ _ _ _ us hl => match us, hl with | [_], _ => rfl⟩,
    b_abs := PySem.W.mg_none_of X G b0,
    b_all := PySem.W.mg_none_of X G b1,
    b_any := PySem.W.mg_none_of X G b2,
    b_bool := PySem.W.mg_none_of X G b3,
    b_dict := PySem.W.mg_none_of X G b4,
    b_int := PySem.W.mg_none_of X G b5,
    b_isinstance := PySem.W.mg_none_of X G b6,
    b_len := PySem.W.mg_none_of X G b7,
    b_list := PySem.W.mg_none_of X G b8,
    b_range := PySem.W.mg_none_of X G b9,
    b_reversed := PySem.W.mg_none_of X G b10,
    b_sorted := PySem.W.mg_none_of X G b11,
    b_str := PySem.W.mg_none_of X G b12,
    b_sum := PySem.W.mg_none_of X G b13,
    b_tuple := PySem.W.mg_none_of X G b14,
    c_MOST_SIGNS := ⟨_, PySem.W.mg_of X G n0⟩,
    c_MOST_BITS := ⟨_, PySem.W.mg_of X G n1⟩,
    c_MOST_DEGREE := ⟨_, PySem.W.mg_of X G n2⟩,
    g_ZERO := ⟨⟨_, _, _, _, PySem.W.mg_of X G zt0, zl0, rfl, rfl, by show 2 ≤ sizeLine; decide, (.cons ⟨_, rfl⟩ (.cons ⟨_, rfl⟩ .nil))⟩⟩,
    g_ONE := ⟨⟨_, _, _, _, PySem.W.mg_of X G zt1, zl1, rfl, rfl, by show 2 ≤ sizeLine; decide, (.cons ⟨_, rfl⟩ (.cons ⟨_, rfl⟩ .nil))⟩⟩,
    g_HALF := ⟨⟨_, _, _, _, PySem.W.mg_of X G zt2, zl2, rfl, rfl, by show 2 ≤ sizeLine; decide, (.cons ⟨_, rfl⟩ (.cons ⟨_, rfl⟩ .nil))⟩⟩,
    x_NotRight := ⟨⟨_, PySem.W.mg_of X G x1, e1, ke1, be1, te1⟩⟩,
    x_NoAnswer := ⟨⟨_, PySem.W.mg_of X G x0, e0, ke0, be0, te0⟩⟩,
    x_Undefined := ⟨⟨_, PySem.W.mg_of X G x5, e5, ke5, be5, te5⟩⟩,
    x_Unclear := ⟨⟨_, PySem.W.mg_of X G x4, e4, ke4, be4, te4⟩⟩ }
  have T2 : Txt2 K mg := {
    e0 := ⟨⟨_, PySem.W.mg_of X G x1, ⟨⟨ga1, gg1, be1, hd1, cl1, sg, tg, mr1⟩, by decide, fun j hj => match j, hj with | 0, _ => ⟨_, PySem.W.mg_of X G x1, kit_self⟩ | 1, _ => ⟨_, PySem.W.mg_of X G x2, kit_ref hd2 te2 s1_1 n1_1⟩ | 2, _ => ⟨_, PySem.W.mg_of X G x0, kit_ref hd0 te0 s1_2 n1_2⟩ | 3, _ => ⟨_, PySem.W.mg_of X G x5, kit_ref hd5 te5 s1_3 n1_3⟩ | 4, _ => ⟨_, PySem.W.mg_of X G x4, kit_ref hd4 te4 s1_4 n1_4⟩ | 5, _ => ⟨_, PySem.W.mg_of X G x3, kit_ref hd3 te3 s1_5 n1_5⟩⟩, _, PySem.W.mg_of X G x6, PySem.W.exm_ref be6 hd6 te6 s1_b⟩⟩,
    e2 := ⟨⟨_, PySem.W.mg_of X G x0, ⟨⟨ga0, gg0, be0, hd0, cl0, sg, tg, mr0⟩, by decide, fun j hj => match j, hj with | 0, _ => ⟨_, PySem.W.mg_of X G x1, kit_ref hd1 te1 s0_0 n0_0⟩ | 1, _ => ⟨_, PySem.W.mg_of X G x2, kit_ref hd2 te2 s0_1 n0_1⟩ | 2, _ => ⟨_, PySem.W.mg_of X G x0, kit_self⟩ | 3, _ => ⟨_, PySem.W.mg_of X G x5, kit_ref hd5 te5 s0_3 n0_3⟩ | 4, _ => ⟨_, PySem.W.mg_of X G x4, kit_ref hd4 te4 s0_4 n0_4⟩ | 5, _ => ⟨_, PySem.W.mg_of X G x3, kit_ref hd3 te3 s0_5 n0_5⟩⟩, _, PySem.W.mg_of X G x6, PySem.W.exm_ref be6 hd6 te6 s0_b⟩⟩,
    e3 := ⟨⟨_, PySem.W.mg_of X G x5, ⟨⟨ga5, gg5, be5, hd5, cl5, sg, tg, mr5⟩, by decide, fun j hj => match j, hj with | 0, _ => ⟨_, PySem.W.mg_of X G x1, kit_ref hd1 te1 s5_0 n5_0⟩ | 1, _ => ⟨_, PySem.W.mg_of X G x2, kit_ref hd2 te2 s5_1 n5_1⟩ | 2, _ => ⟨_, PySem.W.mg_of X G x0, kit_ref hd0 te0 s5_2 n5_2⟩ | 3, _ => ⟨_, PySem.W.mg_of X G x5, kit_self⟩ | 4, _ => ⟨_, PySem.W.mg_of X G x4, kit_ref hd4 te4 s5_4 n5_4⟩ | 5, _ => ⟨_, PySem.W.mg_of X G x3, kit_ref hd3 te3 s5_5 n5_5⟩⟩, _, PySem.W.mg_of X G x6, PySem.W.exm_ref be6 hd6 te6 s5_b⟩⟩,
    e4 := ⟨⟨_, PySem.W.mg_of X G x4, ⟨⟨ga4, gg4, be4, hd4, cl4, sg, tg, mr4⟩, by decide, fun j hj => match j, hj with | 0, _ => ⟨_, PySem.W.mg_of X G x1, kit_ref hd1 te1 s4_0 n4_0⟩ | 1, _ => ⟨_, PySem.W.mg_of X G x2, kit_ref hd2 te2 s4_1 n4_1⟩ | 2, _ => ⟨_, PySem.W.mg_of X G x0, kit_ref hd0 te0 s4_2 n4_2⟩ | 3, _ => ⟨_, PySem.W.mg_of X G x5, kit_ref hd5 te5 s4_3 n4_3⟩ | 4, _ => ⟨_, PySem.W.mg_of X G x4, kit_self⟩ | 5, _ => ⟨_, PySem.W.mg_of X G x3, kit_ref hd3 te3 s4_5 n4_5⟩⟩, _, PySem.W.mg_of X G x6, PySem.W.exm_ref be6 hd6 te6 s4_b⟩⟩ }
  exact ⟨_, fun s v => .of_eq rfl, fun base _ _ => ok_law T T2 (fun_mk (st := s_law) l111 c111 k111)⟩
theorem walk {l : PySem.W.OpenLaw} {q : Program} {loose : List Str} {XP : (Str → Option Value) → Heap → Prop} {YP : World → Heap → Prop} {d : DefRec} {K : Params → PySem.W.Frag} (hn : l.most = some 63) (hdf : d.params.defaults = [])
    (hY : ∀ (w : World) (h : Heap), YP w h → (K w.params).In h)
    (F : ∀ (w : World) (mg : Str → Option Value) (fa : Addr) (h : Heap), (K w.params).In h → h.Ns mainGlobals mg → mg d.name = some (.ref fa) →
      ∃ fd : FuncData, (∀ (s : Shared) (u : Value), BindsTo s fd ⟨[u], []⟩ [("script", u)]) ∧ ∀ base : Heap, (K w.params).In base → base.Ns mainGlobals mg → FnOk l.prog w (K w.params) mg base CX0 11 fa fd ["script"] (spLaw (K w.params))) :
    PySem.W.WalkO q loose XP YP l.row.toRowW d [] (fun f vs => PySem.call f vs) :=
  L2.walk_of (n := 63) (k := 11) (x := "script") (CX := fun _ => CX0) (sp := fun w => spLaw (K w.params)) hn (by decide) hdf ⟨rfl, by decide, by decide⟩ hY F (fun _ _ a ns hl _ hS => ⟨a, ns, rfl, hS, hl, fun _ => rfl⟩) fun _ _ _ _ _ z => z
end K01

open PySem PySem.W PyProof.Rows in
set_option maxRecDepth 100000 in
set_option maxHeartbeats 0 in
theorem PySem.Challenge.cw_withinwidth_k01_whole_spans_and_boxes_holds : PySem.Challenge.rw_withinwidth_k01_whole_spans_and_boxes.Holds := by
  w_on; o_law; k_head; (case hw => w_witness2)
  k_fill
  refine K01.walk (l := PySem.Challenge.rw_withinwidth_k01_whole_spans_and_boxes) rfl rfl (fun w h Y => PySem.W.kIn_of Y) ?F
  case F =>
    intro w mg fa h KX G hmg
    refine' K01.all_mk KX G hmg ?a0 ?l0 ?c0 ?k0 ?a1 ?l1 ?c1 ?k1 ?a2 ?l2 ?c2 ?k2 ?a3 ?l3 ?c3 ?k3 ?a4 ?l4 ?c4 ?k4 ?a5 ?l5 ?c5 ?k5 ?a6 ?l6 ?c6 ?k6 ?a7 ?l7 ?c7 ?k7 ?a8 ?l8 ?c8 ?k8 ?a9 ?l9 ?c9 ?k9 ?a10 ?l10 ?c10 ?k10 ?a11 ?l11 ?c11 ?k11 ?a12 ?l12 ?c12 ?k12 ?a13 ?l13 ?c13 ?k13 ?a14 ?l14 ?c14 ?k14 ?a15 ?l15 ?c15 ?k15 ?a16 ?l16 ?c16 ?k16 ?a17 ?l17 ?c17 ?k17 ?a18 ?l18 ?c18 ?k18 ?a19 ?l19 ?c19 ?k19 ?a20 ?l20 ?c20 ?k20 ?a21 ?l21 ?c21 ?k21 ?a22 ?l22 ?c22 ?k22 ?a23 ?l23 ?c23 ?k23 ?a24 ?l24 ?c24 ?k24 ?a25 ?l25 ?c25 ?k25 ?a26 ?l26 ?c26 ?k26 ?a27 ?l27 ?c27 ?k27 ?a28 ?l28 ?c28 ?k28 ?a29 ?l29 ?c29 ?k29 ?a30 ?l30 ?c30 ?k30 ?a31 ?l31 ?c31 ?k31 ?a32 ?l32 ?c32 ?k32 ?a33 ?l33 ?c33 ?k33 ?a34 ?l34 ?c34 ?k34 ?a35 ?l35 ?c35 ?k35 ?a36 ?l36 ?c36 ?k36 ?a37 ?l37 ?c37 ?k37 ?a38 ?l38 ?c38 ?k38 ?a39 ?l39 ?c39 ?k39 ?a40 ?l40 ?c40 ?k40 ?a41 ?l41 ?c41 ?k41 ?a42 ?l42 ?c42 ?k42 ?a43 ?l43 ?c43 ?k43 ?a44 ?l44 ?c44 ?k44 ?a45 ?l45 ?c45 ?k45 ?a46 ?l46 ?c46 ?k46 ?a47 ?l47 ?c47 ?k47 ?a48 ?l48 ?c48 ?k48 ?a49 ?l49 ?c49 ?k49 ?a50 ?l50 ?c50 ?k50 ?a51 ?l51 ?c51 ?k51 ?a52 ?l52 ?c52 ?k52 ?a53 ?l53 ?c53 ?k53 ?a54 ?l54 ?c54 ?k54 ?a55 ?l55 ?c55 ?k55 ?a56 ?l56 ?c56 ?k56 ?a57 ?l57 ?c57 ?k57 ?a58 ?l58 ?c58 ?k58 ?a59 ?l59 ?c59 ?k59 ?a60 ?l60 ?c60 ?k60 ?a61 ?l61 ?c61 ?k61 ?a62 ?l62 ?c62 ?k62 ?a63 ?l63 ?c63 ?k63 ?a64 ?l64 ?c64 ?k64 ?a65 ?l65 ?c65 ?k65 ?a66 ?l66 ?c66 ?k66 ?a67 ?l67 ?c67 ?k67 ?a68 ?l68 ?c68 ?k68 ?a69 ?l69 ?c69 ?k69 ?a70 ?l70 ?c70 ?k70 ?a71 ?l71 ?c71 ?k71 ?a72 ?l72 ?c72 ?k72 ?a73 ?l73 ?c73 ?k73 ?a74 ?l74 ?c74 ?k74 ?a75 ?l75 ?c75 ?k75 ?a76 ?l76 ?c76 ?k76 ?a77 ?l77 ?c77 ?k77 ?a78 ?l78 ?c78 ?k78 ?a79 ?l79 ?c79 ?k79 ?a80 ?l80 ?c80 ?k80 ?a81 ?l81 ?c81 ?k81 ?a82 ?l82 ?c82 ?k82 ?a83 ?l83 ?c83 ?k83 ?a84 ?l84 ?c84 ?k84 ?a85 ?l85 ?c85 ?k85 ?a86 ?l86 ?c86 ?k86 ?a87 ?l87 ?c87 ?k87 ?a88 ?l88 ?c88 ?k88 ?a89 ?l89 ?c89 ?k89 ?a90 ?l90 ?c90 ?k90 ?a91 ?l91 ?c91 ?k91 ?a92 ?l92 ?c92 ?k92 ?a93 ?l93 ?c93 ?k93 ?a94 ?l94 ?c94 ?k94 ?a95 ?l95 ?c95 ?k95 ?a96 ?l96 ?c96 ?k96 ?a97 ?l97 ?c97 ?k97 ?a98 ?l98 ?c98 ?k98 ?a99 ?l99 ?c99 ?k99 ?a100 ?l100 ?c100 ?k100 ?a101 ?l101 ?c101 ?k101 ?a102 ?l102 ?c102 ?k102 ?a103 ?l103 ?c103 ?k103 ?a104 ?l104 ?c104 ?k104 ?a105 ?l105 ?c105 ?k105 ?a106 ?l106 ?c106 ?k106 ?a107 ?l107 ?c107 ?k107 ?a108 ?l108 ?c108 ?k108 ?a109 ?l109 ?c109 ?k109 ?a110 ?l110 ?c110 ?k110 ?a111 ?l111 ?c111 ?k111 ?b0 ?b1 ?b2 ?b3 ?b4 ?b5 ?b6 ?b7 ?b8 ?b9 ?b10 ?b11 ?b12 ?b13 ?b14 ?n0 ?n1 ?n2 ?zt0 ?zl0 ?zt1 ?zl1 ?zt2 ?zl2 ?x0 ?x1 ?x2 ?x3 ?x4 ?x5 ?x6 ?hd0 ?te0 ?hd1 ?te1 ?hd2 ?te2 ?hd3 ?te3 ?hd4 ?te4 ?hd5 ?te5 ?hd6 ?te6 ?be1 ?be0 ?be5 ?be4 ?be6 ?e1 ?ke1 ?ga1 ?gg1 ?cl1 ?mr1 ?s1_b ?s1_1 ?n1_1 ?s1_2 ?n1_2 ?s1_3 ?n1_3 ?s1_4 ?n1_4 ?s1_5 ?n1_5 ?e0 ?ke0 ?ga0 ?gg0 ?cl0 ?mr0 ?s0_b ?s0_0 ?n0_0 ?s0_1 ?n0_1 ?s0_3 ?n0_3 ?s0_4 ?n0_4 ?s0_5 ?n0_5 ?e5 ?ke5 ?ga5 ?gg5 ?cl5 ?mr5 ?s5_b ?s5_0 ?n5_0 ?s5_1 ?n5_1 ?s5_2 ?n5_2 ?s5_4 ?n5_4 ?s5_5 ?n5_5 ?e4 ?ke4 ?ga4 ?gg4 ?cl4 ?mr4 ?s4_b ?s4_0 ?n4_0 ?s4_1 ?n4_1 ?s4_2 ?n4_2 ?s4_3 ?n4_3 ?s4_5 ?n4_5 ?sg ?tg
    (case a0 => k_is)
    (case l0 => k_is)
    (case c0 => k_is)
    (case k0 => k_is)
    (case a1 => k_is)
    (case l1 => k_is)
    (case c1 => k_is)
    (case k1 => k_is)
    (case a2 => k_is)
    (case l2 => k_is)
    (case c2 => k_is)
    (case k2 => k_is)
    (case a3 => k_is)
    (case l3 => k_is)
    (case c3 => k_is)
    (case k3 => k_is)
    (case a4 => k_is)
    (case l4 => k_is)
    (case c4 => k_is)
    (case k4 => k_is)
    (case a5 => k_is)
    (case l5 => k_is)
    (case c5 => k_is)
    (case k5 => k_is)
    (case a6 => k_is)
    (case l6 => k_is)
    (case c6 => k_is)
    (case k6 => k_is)
    (case a7 => k_is)
    (case l7 => k_is)
    (case c7 => k_is)
    (case k7 => k_is)
    (case a8 => k_is)
    (case l8 => k_is)
    (case c8 => k_is)
    (case k8 => k_is)
    (case a9 => k_is)
    (case l9 => k_is)
    (case c9 => k_is)
    (case k9 => k_is)
    (case a10 => k_is)
    (case l10 => k_is)
    (case c10 => k_is)
    (case k10 => k_is)
    (case a11 => k_is)
    (case l11 => k_is)
    (case c11 => k_is)
    (case k11 => k_is)
    (case a12 => k_is)
    (case l12 => k_is)
    (case c12 => k_is)
    (case k12 => k_is)
    (case a13 => k_is)
    (case l13 => k_is)
    (case c13 => k_is)
    (case k13 => k_is)
    (case a14 => k_is)
    (case l14 => k_is)
    (case c14 => k_is)
    (case k14 => k_is)
    (case a15 => k_is)
    (case l15 => k_is)
    (case c15 => k_is)
    (case k15 => k_is)
    (case a16 => k_is)
    (case l16 => k_is)
    (case c16 => k_is)
    (case k16 => k_is)
    (case a17 => k_is)
    (case l17 => k_is)
    (case c17 => k_is)
    (case k17 => k_is)
    (case a18 => k_is)
    (case l18 => k_is)
    (case c18 => k_is)
    (case k18 => k_is)
    (case a19 => k_is)
    (case l19 => k_is)
    (case c19 => k_is)
    (case k19 => k_is)
    (case a20 => k_is)
    (case l20 => k_is)
    (case c20 => k_is)
    (case k20 => k_is)
    (case a21 => k_is)
    (case l21 => k_is)
    (case c21 => k_is)
    (case k21 => k_is)
    (case a22 => k_is)
    (case l22 => k_is)
    (case c22 => k_is)
    (case k22 => k_is)
    (case a23 => k_is)
    (case l23 => k_is)
    (case c23 => k_is)
    (case k23 => k_is)
    (case a24 => k_is)
    (case l24 => k_is)
    (case c24 => k_is)
    (case k24 => k_is)
    (case a25 => k_is)
    (case l25 => k_is)
    (case c25 => k_is)
    (case k25 => k_is)
    (case a26 => k_is)
    (case l26 => k_is)
    (case c26 => k_is)
    (case k26 => k_is)
    (case a27 => k_is)
    (case l27 => k_is)
    (case c27 => k_is)
    (case k27 => k_is)
    (case a28 => k_is)
    (case l28 => k_is)
    (case c28 => k_is)
    (case k28 => k_is)
    (case a29 => k_is)
    (case l29 => k_is)
    (case c29 => k_is)
    (case k29 => k_is)
    (case a30 => k_is)
    (case l30 => k_is)
    (case c30 => k_is)
    (case k30 => k_is)
    (case a31 => k_is)
    (case l31 => k_is)
    (case c31 => k_is)
    (case k31 => k_is)
    (case a32 => k_is)
    (case l32 => k_is)
    (case c32 => k_is)
    (case k32 => k_is)
    (case a33 => k_is)
    (case l33 => k_is)
    (case c33 => k_is)
    (case k33 => k_is)
    (case a34 => k_is)
    (case l34 => k_is)
    (case c34 => k_is)
    (case k34 => k_is)
    (case a35 => k_is)
    (case l35 => k_is)
    (case c35 => k_is)
    (case k35 => k_is)
    (case a36 => k_is)
    (case l36 => k_is)
    (case c36 => k_is)
    (case k36 => k_is)
    (case a37 => k_is)
    (case l37 => k_is)
    (case c37 => k_is)
    (case k37 => k_is)
    (case a38 => k_is)
    (case l38 => k_is)
    (case c38 => k_is)
    (case k38 => k_is)
    (case a39 => k_is)
    (case l39 => k_is)
    (case c39 => k_is)
    (case k39 => k_is)
    (case a40 => k_is)
    (case l40 => k_is)
    (case c40 => k_is)
    (case k40 => k_is)
    (case a41 => k_is)
    (case l41 => k_is)
    (case c41 => k_is)
    (case k41 => k_is)
    (case a42 => k_is)
    (case l42 => k_is)
    (case c42 => k_is)
    (case k42 => k_is)
    (case a43 => k_is)
    (case l43 => k_is)
    (case c43 => k_is)
    (case k43 => k_is)
    (case a44 => k_is)
    (case l44 => k_is)
    (case c44 => k_is)
    (case k44 => k_is)
    (case a45 => k_is)
    (case l45 => k_is)
    (case c45 => k_is)
    (case k45 => k_is)
    (case a46 => k_is)
    (case l46 => k_is)
    (case c46 => k_is)
    (case k46 => k_is)
    (case a47 => k_is)
    (case l47 => k_is)
    (case c47 => k_is)
    (case k47 => k_is)
    (case a48 => k_is)
    (case l48 => k_is)
    (case c48 => k_is)
    (case k48 => k_is)
    (case a49 => k_is)
    (case l49 => k_is)
    (case c49 => k_is)
    (case k49 => k_is)
    (case a50 => k_is)
    (case l50 => k_is)
    (case c50 => k_is)
    (case k50 => k_is)
    (case a51 => k_is)
    (case l51 => k_is)
    (case c51 => k_is)
    (case k51 => k_is)
    (case a52 => k_is)
    (case l52 => k_is)
    (case c52 => k_is)
    (case k52 => k_is)
    (case a53 => k_is)
    (case l53 => k_is)
    (case c53 => k_is)
    (case k53 => k_is)
    (case a54 => k_is)
    (case l54 => k_is)
    (case c54 => k_is)
    (case k54 => k_is)
    (case a55 => k_is)
    (case l55 => k_is)
    (case c55 => k_is)
    (case k55 => k_is)
    (case a56 => k_is)
    (case l56 => k_is)
    (case c56 => k_is)
    (case k56 => k_is)
    (case a57 => k_is)
    (case l57 => k_is)
    (case c57 => k_is)
    (case k57 => k_is)
    (case a58 => k_is)
    (case l58 => k_is)
    (case c58 => k_is)
    (case k58 => k_is)
    (case a59 => k_is)
    (case l59 => k_is)
    (case c59 => k_is)
    (case k59 => k_is)
    (case a60 => k_is)
    (case l60 => k_is)
    (case c60 => k_is)
    (case k60 => k_is)
    (case a61 => k_is)
    (case l61 => k_is)
    (case c61 => k_is)
    (case k61 => k_is)
    (case a62 => k_is)
    (case l62 => k_is)
    (case c62 => k_is)
    (case k62 => k_is)
    (case a63 => k_is)
    (case l63 => k_is)
    (case c63 => k_is)
    (case k63 => k_is)
    (case a64 => k_is)
    (case l64 => k_is)
    (case c64 => k_is)
    (case k64 => k_is)
    (case a65 => k_is)
    (case l65 => k_is)
    (case c65 => k_is)
    (case k65 => k_is)
    (case a66 => k_is)
    (case l66 => k_is)
    (case c66 => k_is)
    (case k66 => k_is)
    (case a67 => k_is)
    (case l67 => k_is)
    (case c67 => k_is)
    (case k67 => k_is)
    (case a68 => k_is)
    (case l68 => k_is)
    (case c68 => k_is)
    (case k68 => k_is)
    (case a69 => k_is)
    (case l69 => k_is)
    (case c69 => k_is)
    (case k69 => k_is)
    (case a70 => k_is)
    (case l70 => k_is)
    (case c70 => k_is)
    (case k70 => k_is)
    (case a71 => k_is)
    (case l71 => k_is)
    (case c71 => k_is)
    (case k71 => k_is)
    (case a72 => k_is)
    (case l72 => k_is)
    (case c72 => k_is)
    (case k72 => k_is)
    (case a73 => k_is)
    (case l73 => k_is)
    (case c73 => k_is)
    (case k73 => k_is)
    (case a74 => k_is)
    (case l74 => k_is)
    (case c74 => k_is)
    (case k74 => k_is)
    (case a75 => k_is)
    (case l75 => k_is)
    (case c75 => k_is)
    (case k75 => k_is)
    (case a76 => k_is)
    (case l76 => k_is)
    (case c76 => k_is)
    (case k76 => k_is)
    (case a77 => k_is)
    (case l77 => k_is)
    (case c77 => k_is)
    (case k77 => k_is)
    (case a78 => k_is)
    (case l78 => k_is)
    (case c78 => k_is)
    (case k78 => k_is)
    (case a79 => k_is)
    (case l79 => k_is)
    (case c79 => k_is)
    (case k79 => k_is)
    (case a80 => k_is)
    (case l80 => k_is)
    (case c80 => k_is)
    (case k80 => k_is)
    (case a81 => k_is)
    (case l81 => k_is)
    (case c81 => k_is)
    (case k81 => k_is)
    (case a82 => k_is)
    (case l82 => k_is)
    (case c82 => k_is)
    (case k82 => k_is)
    (case a83 => k_is)
    (case l83 => k_is)
    (case c83 => k_is)
    (case k83 => k_is)
    (case a84 => k_is)
    (case l84 => k_is)
    (case c84 => k_is)
    (case k84 => k_is)
    (case a85 => k_is)
    (case l85 => k_is)
    (case c85 => k_is)
    (case k85 => k_is)
    (case a86 => k_is)
    (case l86 => k_is)
    (case c86 => k_is)
    (case k86 => k_is)
    (case a87 => k_is)
    (case l87 => k_is)
    (case c87 => k_is)
    (case k87 => k_is)
    (case a88 => k_is)
    (case l88 => k_is)
    (case c88 => k_is)
    (case k88 => k_is)
    (case a89 => k_is)
    (case l89 => k_is)
    (case c89 => k_is)
    (case k89 => k_is)
    (case a90 => k_is)
    (case l90 => k_is)
    (case c90 => k_is)
    (case k90 => k_is)
    (case a91 => k_is)
    (case l91 => k_is)
    (case c91 => k_is)
    (case k91 => k_is)
    (case a92 => k_is)
    (case l92 => k_is)
    (case c92 => k_is)
    (case k92 => k_is)
    (case a93 => k_is)
    (case l93 => k_is)
    (case c93 => k_is)
    (case k93 => k_is)
    (case a94 => k_is)
    (case l94 => k_is)
    (case c94 => k_is)
    (case k94 => k_is)
    (case a95 => k_is)
    (case l95 => k_is)
    (case c95 => k_is)
    (case k95 => k_is)
    (case a96 => k_is)
    (case l96 => k_is)
    (case c96 => k_is)
    (case k96 => k_is)
    (case a97 => k_is)
    (case l97 => k_is)
    (case c97 => k_is)
    (case k97 => k_is)
    (case a98 => k_is)
    (case l98 => k_is)
    (case c98 => k_is)
    (case k98 => k_is)
    (case a99 => k_is)
    (case l99 => k_is)
    (case c99 => k_is)
    (case k99 => k_is)
    (case a100 => k_is)
    (case l100 => k_is)
    (case c100 => k_is)
    (case k100 => k_is)
    (case a101 => k_is)
    (case l101 => k_is)
    (case c101 => k_is)
    (case k101 => k_is)
    (case a102 => k_is)
    (case l102 => k_is)
    (case c102 => k_is)
    (case k102 => k_is)
    (case a103 => k_is)
    (case l103 => k_is)
    (case c103 => k_is)
    (case k103 => k_is)
    (case a104 => k_is)
    (case l104 => k_is)
    (case c104 => k_is)
    (case k104 => k_is)
    (case a105 => k_is)
    (case l105 => k_is)
    (case c105 => k_is)
    (case k105 => k_is)
    (case a106 => k_is)
    (case l106 => k_is)
    (case c106 => k_is)
    (case k106 => k_is)
    (case a107 => k_is)
    (case l107 => k_is)
    (case c107 => k_is)
    (case k107 => k_is)
    (case a108 => k_is)
    (case l108 => k_is)
    (case c108 => k_is)
    (case k108 => k_is)
    (case a109 => k_is)
    (case l109 => k_is)
    (case c109 => k_is)
    (case k109 => k_is)
    (case a110 => k_is)
    (case l110 => k_is)
    (case c110 => k_is)
    (case k110 => k_is)
    (case a111 => k_is)
    (case l111 => k_is)
    (case c111 => k_is)
    (case k111 => k_is)
    (case b0 => k_is)
    (case b1 => k_is)
    (case b2 => k_is)
    (case b3 => k_is)
    (case b4 => k_is)
    (case b5 => k_is)
    (case b6 => k_is)
    (case b7 => k_is)
    (case b8 => k_is)
    (case b9 => k_is)
    (case b10 => k_is)
    (case b11 => k_is)
    (case b12 => k_is)
    (case b13 => k_is)
    (case b14 => k_is)
    (case n0 => k_is)
    (case n1 => k_is)
    (case n2 => k_is)
    (case zt0 => k_is)
    (case zl0 => k_is)
    (case zt1 => k_is)
    (case zl1 => k_is)
    (case zt2 => k_is)
    (case zl2 => k_is)
    (case x0 => k_is)
    (case x1 => k_is)
    (case x2 => k_is)
    (case x3 => k_is)
    (case x4 => k_is)
    (case x5 => k_is)
    (case x6 => k_is)
    (case hd0 => k_is)
    (case te0 => k_is)
    (case hd1 => k_is)
    (case te1 => k_is)
    (case hd2 => k_is)
    (case te2 => k_is)
    (case hd3 => k_is)
    (case te3 => k_is)
    (case hd4 => k_is)
    (case te4 => k_is)
    (case hd5 => k_is)
    (case te5 => k_is)
    (case hd6 => k_is)
    (case te6 => k_is)
    (case be1 => k_is)
    (case be0 => k_is)
    (case be5 => k_is)
    (case be4 => k_is)
    (case be6 => k_is)
    (case e1 => k_exc)
    (case ke1 => k_is)
    (case ga1 => k_is)
    (case gg1 => k_is)
    (case cl1 => k_is)
    (case mr1 => k_is)
    (case s1_b => k_is)
    (case s1_1 => k_is)
    (case n1_1 => rfl)
    (case s1_2 => k_is)
    (case n1_2 => rfl)
    (case s1_3 => k_is)
    (case n1_3 => rfl)
    (case s1_4 => k_is)
    (case n1_4 => rfl)
    (case s1_5 => k_is)
    (case n1_5 => rfl)
    (case e0 => k_exc)
    (case ke0 => k_is)
    (case ga0 => k_is)
    (case gg0 => k_is)
    (case cl0 => k_is)
    (case mr0 => k_is)
    (case s0_b => k_is)
    (case s0_0 => k_is)
    (case n0_0 => rfl)
    (case s0_1 => k_is)
    (case n0_1 => rfl)
    (case s0_3 => k_is)
    (case n0_3 => rfl)
    (case s0_4 => k_is)
    (case n0_4 => rfl)
    (case s0_5 => k_is)
    (case n0_5 => rfl)
    (case e5 => k_exc)
    (case ke5 => k_is)
    (case ga5 => k_is)
    (case gg5 => k_is)
    (case cl5 => k_is)
    (case mr5 => k_is)
    (case s5_b => k_is)
    (case s5_0 => k_is)
    (case n5_0 => rfl)
    (case s5_1 => k_is)
    (case n5_1 => rfl)
    (case s5_2 => k_is)
    (case n5_2 => rfl)
    (case s5_4 => k_is)
    (case n5_4 => rfl)
    (case s5_5 => k_is)
    (case n5_5 => rfl)
    (case e4 => k_exc)
    (case ke4 => k_is)
    (case ga4 => k_is)
    (case gg4 => k_is)
    (case cl4 => k_is)
    (case mr4 => k_is)
    (case s4_b => k_is)
    (case s4_0 => k_is)
    (case n4_0 => rfl)
    (case s4_1 => k_is)
    (case n4_1 => rfl)
    (case s4_2 => k_is)
    (case n4_2 => rfl)
    (case s4_3 => k_is)
    (case n4_3 => rfl)
    (case s4_5 => k_is)
    (case n4_5 => rfl)
    (case sg => k_is)
    (case tg => k_is)
